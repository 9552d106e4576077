import PyProof.Rows.All
import Wide.All
import OpenK.AllK
import Wide.FinOn
import KE.KStateDown
import Lean
import HandS.Head0
import HandS.Head1
import HandS.Head2
import HandS.HeadEnd
import HandS.ForMost
import HandS.Star
import KE.SortData
import KE.KeyNested
import HandS.TupAny
import HandS.Deep
import HandS.Zip
import HandS.Conv
import HandS.Walk
import HandS.IsInst
import HandS.RaiseMore
import HandS.More
import HandS.Text
import HandS.Iter
import KE.GoesMore
import KE.GoesEnum
import HandS.Comp
import HandS.Property
import HandS.ClsMeth
import PyProof.DictRoadsH
import KE.KDictSum
import KE.KDictCopyH
import KE.SortKeyHeap
import HandS.SortKw
import HandS.Exc
import HandS.Dict
import HandS.Style
import HandS.Small
import HandS.Defaults
import HandS.HeadHook2
import KE.KSuper
import KE.KStar
import KE.OsArith
import PySem.Challenge.RW_coarseviews_k26_coarse_runs_of_basic_ste
set_option Elab.async false
set_option linter.all false
set_option maxRecDepth 100000
set_option maxHeartbeats 0
/-! MiCore: a small interpreter of the part of Python that the program and its laws use. Data are values; a list, dict or instance that is still changed is owned by a slot, or stands in the heap. -/
namespace Mi
open PySem

inductive D where
  | non | bl (b : Bool) | int (i : Int) | str (s : Str)
  | tup (xs : List D) | lst (xs : List D)
  | dct (kvs : List (D × D)) | ndc (kvs : List (D × D))
  | obj (c : Nat) (fs : List (Nat × D))
  | ref (n : Nat)
  | cls (c : Nat)
  deriving Inhabited

inductive MO where
  | lst (xs : List D)
  | dct (kvs : List (D × D)) | ndc (kvs : List (D × D))
  | ins (c : Nat) (fs : List (Nat × D))
  deriving Inhabited

abbrev MH := List MO
inductive SV where
  | val (d : D) | own (o : MO)
abbrev Env := List (Option SV)

inductive Out (α : Type) where
  | ok (a : α) (h : MH) | err (c : Nat) (fs : List (Nat × D)) (h : MH) | no

def Out.bd {α β : Type} : Out α → (α → MH → Out β) → Out β
  | .ok a h, f => f a h
  | .err c fs h, _ => .err c fs h
  | .no, _ => .no
@[simp] theorem bd_ok {α β : Type} (a : α) (h : MH) (f : α → MH → Out β) : (Out.ok a h).bd f = f a h := rfl
@[simp] theorem bd_err {α β : Type} (c : Nat) (fs : List (Nat × D)) (h : MH) (f : α → MH → Out β) : (Out.err c fs h).bd f = .err c fs h := rfl
@[simp] theorem bd_no {α β : Type} (f : α → MH → Out β) : (Out.no : Out α).bd f = .no := rfl

def ofO {α : Type} (o : Option α) (h : MH) : Out α := match o with
  | some a => .ok a h
  | none => .no
@[simp] theorem ofO_some {α : Type} (a : α) (h : MH) : ofO (some a) h = .ok a h := rfl
@[simp] theorem ofO_none {α : Type} (h : MH) : ofO (none : Option α) h = .no := rfl

/-! ### the small syntax -/
inductive Bop where
  | add | sub | mul | fdiv | mod | pow | shl | shr | band | bor
  deriving DecidableEq
inductive Cop where
  | eq | ne | lt | le | gt | ge | isin | notin
  deriving DecidableEq
inductive Ty where
  | int | bool | str | tuple | list | cls (c : Nat)
  deriving DecidableEq
inductive Blt where
  | len | sum | all | tuple | list | sorted | max | min | str | int | repr
  deriving DecidableEq
inductive Sm where
  | split | join | endswith | startswith | index | count
  deriving DecidableEq
inductive Tg where
  | one (i : Nat) | many (is : List Nat)

mutual
inductive ME where
  | var (i : Nat)
  | glo (x : Str) (i : Int)
  | con (d : D)
  | bin (o : Bop) (a b : ME)
  | neg (a : ME) | inv (a : ME)
  | cmp (o : Cop) (a b : ME)
  | cmp2 (o o' : Cop) (a b c : ME)
  | isn (a : ME) | notn (a : ME)
  | and (a b : ME) | or (a b : ME) | not (a : ME)
  | ite (t a b : ME)
  | tup (es : MA) | lst (es : MA)
  | idx (a i : ME)
  | sl (a : ME) (lo hi : MO1) | rev (a : ME)
  | call (f : Nat) (es : MA)
  | make (c : Nat) (es : MA) | makeV (i : Nat) (es : MA)
  | blt (b : Blt) (es : MA)
  | sortK (f : Nat) (a : ME)
  | isi (a : ME) (t : Ty)
  | meth (a : ME) (m : Nat) (es : MA)
  | smeth (o : Sm) (a : ME) (es : MA)
  | attr (a : ME) (f : Nat)
  | cm (c : Nat) (m : Nat) (es : MA)
  | lc (it : MI) (tg : Tg) (wp : List Nat) (ts : MA) (e : ME)
  | lcK (i : Nat) (tg : Tg) (wp : List Nat) (ts : MA) (e : ME)
  | lc2 (it : MI) (tg : Tg) (ts : MA) (it2 : MI) (tg2 : Tg) (wp2 : List Nat) (ts2 : MA) (wp : List Nat) (e : ME)
  | col (t : Bool) (it : MI)
  | dnew
  | alloc (e : ME)
inductive MO1 where
  | none | some (e : ME)
inductive MA where
  | nil | cons (e : ME) (r : MA) | star (e : ME) (r : MA)
inductive MI where
  | seq (e : ME) | rng (a : ME) | rng2 (a b : ME) | enm (e : ME) | zip (a b : ME)
end

mutual
inductive MS where
  | set (i : Nat) (e : ME)
  | setO (i : Nat) (e : ME)
  | par (ts : List (Nat × Bool)) (es : MA)
  | unp (is : List Nat) (e : ME)
  | sattr (o : ME) (f : Nat) (e : ME)
  | pattr (o : ME) (f g : Nat) (a b : ME)
  | sidx (o i e : ME)
  | oidx (s : Nat) (i e : ME)
  | app (s : Nat) (e : ME) | ext (s : Nat) (e : ME)
  | popS (i s : Nat) | popD (s : Nat) (e : ME)
  | ex (e : ME)
  | ifs (t : ME) (a b : MSs)
  | for (tg : Tg) (it : MI) (b : MSs)
  | while (t : ME) (b : MSs)
  | ret (e : ME) | retO (s : Nat) | retN
  | pass | brk | cont
  | sini (c : Nat) (es : MA)
  | frz (s : Nat)
  | raise (c : Nat) (es : MA)
inductive MSs where
  | nil | cons (s : MS) (r : MSs)
end

/-! ### operations on data -/
def lim : Nat := 1000000
def MO.top : MO → D
  | .lst xs => .lst xs
  | .dct kvs => .dct kvs
  | .ndc kvs => .ndc kvs
  | .ins c fs => .obj c fs

/-- data that == and repr take: no instance, no dict, not too deep -/
def okN : Nat → D → Bool
  | 0, _ => false
  | n + 1, d => match d with
    | .non | .bl _ | .int _ => true
    | .str x => PyData.strOk x
    | .tup xs => xs.all (okN n)
    | .lst xs => xs.all (okN n)
    | _ => false
abbrev ok (d : D) : Bool := okN 40 d

mutual
/-- == of data -/
def eqd : D → D → Bool
  | .non, .non => true
  | .bl a, .bl b => a == b
  | .bl a, .int j => (if a then 1 else 0) == j
  | .int i, .bl b => i == (if b then 1 else 0)
  | .int i, .int j => i == j
  | .str x, .str y => x == y
  | .lst xs, .lst ys => eqds xs ys
  | .tup xs, .tup ys => eqds xs ys
  | _, _ => false
def eqds : List D → List D → Bool
  | [], [] => true
  | x :: xs, y :: ys => eqd x y && eqds xs ys
  | _, _ => false
end

def isNonD : D → Bool
  | .non => true
  | _ => false
def truD : D → Option Bool
  | .non => some false
  | .bl b => some b
  | .int i => some (i != 0)
  | .str x => if x.length ≤ lim then some ((x.length : Int) != 0) else none
  | .tup xs => some !xs.isEmpty
  | .lst xs => some !xs.isEmpty
  | _ => none

def binD (o : Bop) (x y : D) : Option D := match o, x, y with
  | .add, .int i, .int j => some (.int (i + j))
  | .add, .str a, .str b => if a.length + b.length ≤ lim then some (.str (a ++ b)) else none
  | .add, .tup a, .tup b => if a.length + b.length ≤ lim then some (.tup (a ++ b)) else none
  | .add, .lst a, .lst b => if a.length + b.length ≤ lim then some (.lst (a ++ b)) else none
  | .sub, .int i, .int j => some (.int (i - j))
  | .mul, .int i, .int j => if i.natAbs < 2 ^ 64 ∨ j.natAbs < 2 ^ 64 then some (.int (i * j)) else none
  | .fdiv, .int i, .int j => if 0 < j ∧ j < 1073741824 then some (.int (i / j)) else none
  | .mod, .int i, .int j => if 0 < j then some (.int (i % j)) else none
  | .pow, .int i, .int j => if 0 ≤ j ∧ j ≤ 1000 ∧ i.natAbs < 2 ^ 64 then some (.int (i ^ j.toNat)) else none
  | .shl, .int i, .int j => if 0 ≤ j ∧ j ≤ 1000 ∧ i.natAbs < 2 ^ 64 then some (.int (i * 2 ^ j.toNat)) else none
  | .shr, .int i, .int j => if 0 ≤ j then some (.int (i / 2 ^ j.toNat)) else none
  | .band, .int i, .int j => some (.int (Builtin.bitAnd i j))
  | .bor, .int i, .int j => some (.int (Builtin.bitOr i j))
  | _, _, _ => none
def inStr (i j : Str) : Bool := !(Builtin.Str.occurrences j i 0 j.length 1).isEmpty
def inD (x y : D) : Option Bool := match y with
  | .tup ys => if ok x && ok y then some (ys.any fun z => eqd z x) else none
  | .lst ys => if ok x && ok y then some (ys.any fun z => eqd z x) else none
  | .dct kvs => (match x with
    | .int _ | .str _ => some (kvs.any fun z => eqd z.1 x)
    | _ => none)
  | .str j => (match x with
    | .str i => some (inStr i j)
    | _ => none)
  | _ => none
def cmpD (o : Cop) (x y : D) : Option Bool := match o with
  | .eq => (match x, y with
    | .str i, .str j => some (decide (i = j))
    | _, _ => if ok x && ok y then some (eqd x y) else none)
  | .ne => (match x, y with
    | .str i, .str j => some (!decide (i = j))
    | _, _ => if ok x && ok y then some (!eqd x y) else none)
  | .isin => inD x y
  | .notin => (inD x y).map (!·)
  | .lt => (match x, y with | .int i, .int j => some (decide (i < j)) | _, _ => none)
  | .le => (match x, y with | .int i, .int j => some (decide (i ≤ j)) | _, _ => none)
  | .gt => (match x, y with | .int i, .int j => some (decide (j < i)) | _, _ => none)
  | .ge => (match x, y with | .int i, .int j => some (decide (j ≤ i)) | _, _ => none)

def idxD (x y : D) (h : MH) : Option D := match x, y with
  | .tup xs, .int i => L2.atI xs i
  | .lst xs, .int i => L2.atI xs i
  | .str s, .int i => if s.length ≤ lim then (L2.atI s.cps.toList i).map fun c => .str ⟨#[c]⟩ else none
  | .ref n, .int i => (match h[n]? with
    | some (.lst xs) => L2.atI xs i
    | _ => none)
  | _, _ => none
/-- the part from lo to hi -/
def cutL {α : Type} (xs : List α) (lo hi : Option Int) : List α := (xs.drop (HT.sIx xs.length 0 lo)).take (HT.sIx xs.length xs.length hi - HT.sIx xs.length 0 lo)
def slPart : Option D → Option (Option Int)
  | none => some none
  | some (.int i) => some (some i)
  | _ => none
def cutD (x : D) (a b : Option Int) : Option D := match x with
  | .tup xs => some (.tup (cutL xs a b))
  | .lst xs => some (.lst (cutL xs a b))
  | .str s => if s.length ≤ lim then some (.str (L2.cutS s a b)) else none
  | _ => none
def slD (x : D) (lo hi : Option D) : Option D := match slPart lo, slPart hi with
  | some a, some b => cutD x a b
  | _, _ => none

/-! ### built-ins on data -/
def seqD : D → Option (List D)
  | .tup xs => some xs
  | .lst xs => some xs
  | _ => none
def items : D → Option (List D)
  | .tup xs => some xs
  | .lst xs => some xs
  | .dct kvs => some (kvs.map (·.1))
  | _ => none
/-- what sorted takes, too -/
def itemsS : D → Option (List D)
  | .ndc kvs => some (kvs.map (·.1))
  | x => items x
def intL : List D → Option (List Int)
  | [] => some []
  | .int i :: r => (intL r).map (i :: ·)
  | _ :: _ => none
def blL : List D → Option (List Bool)
  | [] => some []
  | .bl i :: r => (blL r).map (i :: ·)
  | _ :: _ => none
def strL : List D → Option (List Str)
  | [] => some []
  | .str i :: r => (strL r).map (i :: ·)
  | _ :: _ => none
mutual
def D.py : D → PyData
  | .non => .none
  | .bl b => .bool b
  | .int i => .int i
  | .str s => .str s
  | .tup xs => .tuple (pys xs)
  | .lst xs => .list (pys xs)
  | _ => .none
def pys : List D → List PyData
  | [] => []
  | x :: r => x.py :: pys r
end
/-- all can be put in order -/
def isTup1 : D → Bool
  | .tup (_ :: _) => true
  | _ => false
def notTN : D → Bool
  | .non => false
  | .tup _ => false
  | _ => true
def cmpb (xs : List D) : Bool := xs.all (okN 30) && ((xs.all fun a => xs.all fun b => PySem.W.alike a.py b.py) && ((xs.all isTup1 || xs.all notTN) && decide (xs.length ≤ lim)))
def sortd (xs : List D) : List D := xs.mergeSort (PySem.W.dataLe false D.py)
def sortk (xs : List (D × D)) : List (D × D) := xs.mergeSort (PySem.W.dataLe false fun p => p.2.py)
def reprD (d : D) : Option Str := if ok d && d.py.showable && decide (d.py.shown.length ≤ 16000000) then some d.py.shown else none
def bltD (b : Blt) (as : List D) : Option D := match b, as with
  | .len, [.str s] => if s.length ≤ lim then some (.int s.length) else none
  | .len, [.tup xs] => some (.int xs.length)
  | .len, [.lst xs] => some (.int xs.length)
  | .sum, [.lst xs] => (intL xs).map fun l => .int l.sum
  | .all, [.lst xs] => (blL xs).map fun l => .bl (l.all id)
  | .tuple, [x] => (seqD x).map .tup
  | .list, [x] => (items x).map .lst
  | .sorted, [x] => (itemsS x).bind fun xs => if cmpb xs then some (.lst (sortd xs)) else none
  | .max, [.int i, .int j] => some (.int (if j > i then j else i))
  | .min, [.int i, .int j] => some (.int (if j < i then j else i))
  | .str, [.int i] => if i.natAbs.log2 < 1920 then some (.str (toString i)) else none
  | .int, [.str s] => if s.length ≤ 640 then (PySem.intText? s).map .int else none
  | .repr, [x] => (reprD x).map .str
  | _, _ => none
/-- a value's kind: a built-in one, a class of the program -/
inductive Kd where
  | b (n : Nat) | c (k : Nat)
def kdOf (h : MH) : D → Option Kd
  | .non => some (.b 0)
  | .bl _ => some (.b 1)
  | .int _ => some (.b 2)
  | .str _ => some (.b 3)
  | .tup _ => some (.b 4)
  | .lst _ => some (.b 5)
  | .obj k _ => some (.c k)
  | .ref n => (match h[n]? with
    | some (.ins k _) => some (.c k)
    | some (.lst _) => some (.b 5)
    | _ => none)
  | _ => none
def tyD (cls : Nat → Bool) (sub : Nat → Nat → Bool) (k : Kd) (t : Ty) : Option Bool := match k, t with
  | .b n, .int => some (decide (n = 1 ∨ n = 2))
  | .b n, .bool => some (decide (n = 1))
  | .b n, .str => some (decide (n = 3))
  | .b n, .tuple => some (decide (n = 4))
  | .b n, .list => some (decide (n = 5))
  | .b _, .cls _ => some false
  | .c k, .cls d => if cls k && cls d then some (sub k d) else none
  | .c k, _ => if cls k then some false else none
def smD (o : Sm) (x : D) (as : List D) : Option D := match o, x, as with
  | .split, .str a, [.str b] => if b.length ≠ 0 ∧ a.length ≤ lim then some (.lst ((Txt.split a b).map .str)) else none
  | .join, .str a, [y] => (seqD y).bind fun ys => (strL ys).bind fun l => if (l.map (·.length)).sum + l.length * a.length ≤ lim then some (.str (Txt.join a l)) else none
  | .endswith, .str a, [.str b] => some (.bl (Txt.endswith a b))
  | .startswith, .str a, [.str b] => some (.bl (Txt.startswith a b))
  | _, _, _ => none
/-- a value's class -/
def clsOf (h : MH) : D → Option Nat
  | .obj c _ => some c
  | .ref n => (match h[n]? with
    | some (.ins c _) => some c
    | _ => none)
  | _ => none
def fldsOf (h : MH) : D → Option (List (Nat × D))
  | .obj _ fs => some fs
  | .ref n => (match h[n]? with
    | some (.ins _ fs) => some fs
    | _ => none)
  | _ => none
def putF (f : Nat) (v : D) : List (Nat × D) → List (Nat × D)
  | [] => [(f, v)]
  | (g, u) :: r => if g = f then (g, v) :: r else (g, u) :: putF f v r
def putD (k v : D) (kvs : List (D × D)) : List (D × D) := if kvs.any (fun z => eqd z.1 k) then kvs.map (fun z => if eqd z.1 k then (z.1, v) else z) else kvs ++ [(k, v)]
/-- ints, texts, tuples of them -/
def keyN : Nat → D → Bool
  | 0, _ => false
  | n + 1, d => match d with
    | .int _ | .str _ => true
    | .tup xs => xs.all (keyN n)
    | _ => false
def isTupD : D → Bool
  | .tup _ => true
  | _ => false
/-- a dict whose keys are ints and texts -/
def key1 : D → Bool
  | .int _ | .str _ => true
  | _ => false
/-- o[x] = v, o a dict of one's own; the empty one takes keys of either kind -/
def setK (o : MO) (x v : D) : Option MO := match o with
  | .dct kvs => if key1 x && decide (kvs.length < lim) then some (.dct (putD x v kvs)) else if isTupD x && keyN 8 x && kvs.isEmpty then some (.ndc [(x, v)]) else none
  | .ndc kvs => if isTupD x && keyN 8 x && decide (kvs.length < lim) then some (.ndc (putD x v kvs)) else none
  | _ => none

/-! ### running -/
/-- above all numbers of attributes: what super() finds in class c, for an instance of class c0, stands at (c0, supK + c) -/
def supK : Nat := 100000
structure CT where
  meth : Nat → Nat → Option Nat
  prop : Nat → Nat → Option Nat
  fld : Nat → Nat → Bool
  cls : Nat → Bool
  sub : Nat → Nat → Bool
  cmeth : Nat → Nat → Option (Nat × Bool)
  mkc : Nat → Bool
structure Cl where
  fn : Nat → List D → MH → Out D
  mke : Nat → List D → MH → Out (List (Nat × D))
  ini : Nat → Nat → List (Nat × D) → List D → MH → Out (List (Nat × D))

def bor (env : Env) (a : ME) (h : MH) (r : Out D) : Out D := match a with
  | .var i => (match env[i]? with
    | some (some (.own o)) => .ok o.top h
    | _ => r)
  | _ => r
def ownVar (env : Env) (a : ME) : Bool := match a with
  | .var i => (match env[i]? with
    | some (some (.own _)) => true
    | _ => false)
  | _ => false
def tru (o : Out D) : Out Bool := o.bd fun x h => ofO (truD x) h
def wipeE (env : Env) : List Nat → Env
  | [] => env
  | v :: vs => (wipeE env vs).set v none
def bindMany : List Nat → List D → Env → Option Env
  | [], [], env => some env
  | i :: is, x :: xs, env => bindMany is xs (env.set i (some (.val x)))
  | _, _, _ => none
def bindT (t : Tg) (x : D) (env : Env) : Option Env := match t with
  | .one i => some (env.set i (some (.val x)))
  | .many is => (match x with
    | .tup xs => bindMany is xs env
    | _ => none)
def loopC (f : D → MH → Out (Option D)) : List D → MH → Out (List D)
  | [], h => .ok [] h
  | x :: xs, h => (f x h).bd fun o h => (loopC f xs h).bd fun ys h => .ok (o.toList ++ ys) h
def loopC2 (f : D → MH → Out (List D)) : List D → MH → Out (List D)
  | [], h => .ok [] h
  | x :: xs, h => (f x h).bd fun o h => (loopC2 f xs h).bd fun ys h => .ok (o ++ ys) h
def enumD (k : Nat) : List D → List D
  | [] => []
  | x :: r => .tup [.int (k : Int), x] :: enumD (k + 1) r
def zipD (xs ys : List D) : List D := (xs.zip ys).map fun p => .tup [p.1, p.2]
/-- what can be counted along -/
def enmD : D → Option (List D)
  | .lst xs => some xs
  | .tup xs => some xs
  | _ => none
def zipO (x y : D) : Option (List D) := match x, y with
  | .lst xs, .lst ys => some (zipD xs ys)
  | .tup xs, .tup ys => some (zipD xs ys)
  | _, _ => none
def rngD (lo hi : Int) : List D := (List.range (hi - lo).toNat).map fun (i : Nat) => .int (lo + i)
def keysOfs (C : Cl) (f : Nat) : List D → MH → Out (List D)
  | [], h => .ok [] h
  | x :: xs, h => (C.fn f [x] h).bd fun k h => (keysOfs C f xs h).bd fun ks h => .ok (k :: ks) h

inductive Fl where
  | nx (e : Env) | rt (d : D) | bk (e : Env) | ct (e : Env)
def loopF (f : D → Env → MH → Out Fl) : List D → Env → MH → Out Fl
  | [], env, h => .ok (.nx env) h
  | x :: xs, env, h => (f x env h).bd fun fl h => match fl with
    | .nx e => loopF f xs e h
    | .ct e => loopF f xs e h
    | .bk e => .ok (.nx e) h
    | .rt d => .ok (.rt d) h
def loopW (t : Env → MH → Out Bool) (b : Env → MH → Out Fl) : Nat → Env → MH → Out Fl
  | 0, _, _ => .no
  | n + 1, env, h => (t env h).bd fun c h => if c then (b env h).bd fun fl h => match fl with
      | .nx e => loopW t b n e h
      | .ct e => loopW t b n e h
      | .bk e => .ok (.nx e) h
      | .rt d => .ok (.rt d) h
    else .ok (.nx env) h

section
variable (T : CT) (C : Cl)
mutual
def evE : ME → Env → MH → Out D
  | .var i, env, h => (match env[i]? with
    | some (some (.val d)) => .ok d h
    | _ => .no)
  | .glo _ i, _, h => .ok (.int i) h
  | .con d, _, h => .ok d h
  | .bin o a b, env, h => (bor env a h (evE a env h)).bd fun x h => (bor env b h (evE b env h)).bd fun y h => ofO (binD o x y) h
  | .neg a, env, h => (evE a env h).bd fun x h => (match x with | .int i => .ok (.int (-i)) h | _ => .no)
  | .inv a, env, h => (evE a env h).bd fun x h => (match x with | .int i => .ok (.int (Builtin.bitNot i)) h | _ => .no)
  | .cmp o a b, env, h => (bor env a h (evE a env h)).bd fun x h => (bor env b h (evE b env h)).bd fun y h => ofO ((cmpD o x y).map .bl) h
  | .cmp2 o p a b c, env, h => (evE a env h).bd fun x h => (evE b env h).bd fun y h => (ofO (cmpD o x y) h).bd fun k h => if k then (evE c env h).bd fun z h => ofO ((cmpD p y z).map .bl) h else .ok (.bl false) h
  | .isn a, env, h => (evE a env h).bd fun x h => .ok (.bl (isNonD x)) h
  | .notn a, env, h => (evE a env h).bd fun x h => .ok (.bl (!isNonD x)) h
  | .and a b, env, h => (evE a env h).bd fun x h => (match x with | .bl true => evE b env h | .bl false => .ok (.bl false) h | _ => .no)
  | .or a b, env, h => (evE a env h).bd fun x h => (match x with | .bl true => .ok (.bl true) h | .bl false => evE b env h | _ => .no)
  | .not a, env, h => (evE a env h).bd fun x h => (match x with | .bl k => .ok (.bl (!k)) h | _ => .no)
  | .ite t a b, env, h => (tru (bor env t h (evE t env h))).bd fun k h => if k then evE a env h else evE b env h
  | .tup es, env, h => (evA es env h).bd fun xs h => if xs.length ≤ lim then .ok (.tup xs) h else .no
  | .lst es, env, h => (evA es env h).bd fun xs h => if xs.length ≤ lim then .ok (.lst xs) h else .no
  | .idx a i, env, h => (bor env a h (evE a env h)).bd fun x h => (evE i env h).bd fun y h => ofO (idxD x y h) h
  | .sl a lo hi, env, h => (bor env a h (evE a env h)).bd fun x h => (evO lo env h).bd fun y h => (evO hi env h).bd fun z h => ofO (slD x y z) h
  | .rev a, env, h => (evE a env h).bd fun x h => (match x with | .tup xs => .ok (.tup xs.reverse) h | .lst xs => .ok (.lst xs.reverse) h | _ => .no)
  | .call f es, env, h => (evA es env h).bd fun xs h => C.fn f xs h
  | .make c es, env, h => (evA es env h).bd fun xs h => (C.mke c xs h).bd fun fs h => .ok (.obj c fs) h
  | .makeV i es, env, h => (match env[i]? with
    | some (some (.val (.cls c))) => if T.mkc c then (evA es env h).bd fun xs h => (C.mke c xs h).bd fun fs h => .ok (.obj c fs) h else .no
    | _ => .no)
  | .blt b es, env, h => (evB es env h).bd fun xs h => ofO (bltD b xs) h
  | .sortK f a, env, h => (bor env a h (evE a env h)).bd fun x h => (ofO (items x) h).bd fun xs h => (keysOfs C f xs h).bd fun ks h => if cmpb ks then .ok (.lst ((sortk (xs.zip ks)).map (·.1))) h else .no
  | .isi a t, env, h => (evE a env h).bd fun x h => ofO ((kdOf h x).bind fun k => (tyD T.cls T.sub k t).map .bl) h
  | .meth a m es, env, h => (evE a env h).bd fun x h => (match (clsOf h x).bind fun c => T.meth c m with
    | some f => (evA es env h).bd fun xs h => C.fn f (x :: xs) h
    | none => .no)
  | .smeth o a es, env, h => (evE a env h).bd fun x h => (evB es env h).bd fun xs h => ofO (smD o x xs) h
  | .attr a f, env, h => (bor env a h (evE a env h)).bd fun x h => (match clsOf h x with
    | some c => (match T.prop c f with
      | some g => if ownVar env a then .no else C.fn g [x] h
      | none => if T.fld c f then ofO ((fldsOf h x).bind fun fs => fs.lookup f) h else .no)
    | none => .no)
  | .cm c m es, env, h => (evA es env h).bd fun xs h => (match T.cmeth c m with
    | some (f, true) => C.fn f (.cls c :: xs) h
    | some (f, false) => C.fn f xs h
    | none => .no)
  | .lcK i tg wp ts e, env, h => (match env[i]? with
    | some (some (.own (.dct kvs))) => (loopC (fun x h => match bindT tg x (wipeE (env.set i none) wp) with
      | some en => (evTs ts en h).bd fun k h => if k then (evE e en h).bd fun y h => .ok (some y) h else .ok none h
      | none => .no) (kvs.map (·.1)) h).bd fun ys h => if ys.length ≤ lim then .ok (.lst ys) h else .no
    | _ => .no)
  | .lc it tg wp ts e, env, h => (evI true it env h).bd fun xs h => (loopC (fun x h => match bindT tg x (wipeE env wp) with
    | some en => (evTs ts en h).bd fun k h => if k then (evE e en h).bd fun y h => .ok (some y) h else .ok none h
    | none => .no) xs h).bd fun ys h => if ys.length ≤ lim then .ok (.lst ys) h else .no
  | .lc2 it tg ts it2 tg2 wp2 ts2 wp e, env, h => (evI true it env h).bd fun xs h => (loopC2 (fun x h => match bindT tg x (wipeE env wp) with
    | some en => (evTs ts en h).bd fun k h => if k then (evI true it2 en h).bd fun xs2 h => loopC (fun x2 h => match bindT tg2 x2 (wipeE en wp2) with
        | some en2 => (evTs ts2 en2 h).bd fun k h => if k then (evE e en2 h).bd fun y h => .ok (some y) h else .ok none h
        | none => .no) xs2 h else .ok [] h
    | none => .no) xs h).bd fun ys h => if ys.length ≤ lim then .ok (.lst ys) h else .no
  | .col t it, env, h => (evI true it env h).bd fun xs h => .ok (if t then .tup xs else .lst xs) h
  | .dnew, _, h => .ok (.dct []) h
  | .alloc e, env, h => (evE e env h).bd fun x h => (match x with
    | .lst xs => .ok (.ref h.length) (h ++ [.lst xs])
    | .obj c fs => .ok (.ref h.length) (h ++ [.ins c fs])
    | _ => .no)
def evO : MO1 → Env → MH → Out (Option D)
  | .none, _, h => .ok none h
  | .some e, env, h => (evE e env h).bd fun x h => .ok (some x) h
def evA : MA → Env → MH → Out (List D)
  | .nil, _, h => .ok [] h
  | .cons e r, env, h => (evE e env h).bd fun x h => (evA r env h).bd fun xs h => .ok (x :: xs) h
  | .star e r, env, h => (bor env e h (evE e env h)).bd fun x h => (ofO (seqD x) h).bd fun xs h => (evA r env h).bd fun ys h => .ok (xs ++ ys) h
/-- the arguments of a built-in: what a slot owns may be looked at -/
def evB : MA → Env → MH → Out (List D)
  | .nil, _, h => .ok [] h
  | .cons e r, env, h => (bor env e h (evE e env h)).bd fun x h => (evB r env h).bd fun xs h => .ok (x :: xs) h
  | .star _ _, _, _ => .no
def evTs : MA → Env → MH → Out Bool
  | .nil, _, h => .ok true h
  | .cons e r, env, h => (tru (bor env e h (evE e env h))).bd fun k h => if k then evTs r env h else .ok false h
  | .star _ _, _, _ => .no
/-- what is walked; b: what a slot owns may be walked -/
def evI (b : Bool) : MI → Env → MH → Out (List D)
  | .seq e, env, h => (if b then bor env e h (evE e env h) else evE e env h).bd fun x h => ofO (seqD x) h
  | .rng a, env, h => (evE a env h).bd fun x h => (match x with | .int i => if -lim ≤ i ∧ i ≤ lim then .ok (rngD 0 i) h else .no | _ => .no)
  | .rng2 a c, env, h => (evE a env h).bd fun x h => (evE c env h).bd fun y h => (match x, y with | .int i, .int j => if -lim ≤ i ∧ i ≤ lim ∧ -lim ≤ j ∧ j ≤ lim then .ok (rngD i j) h else .no | _, _ => .no)
  | .enm e, env, h => (if b then bor env e h (evE e env h) else evE e env h).bd fun x h => (ofO (enmD x) h).bd fun xs h => .ok (enumD 0 xs) h
  | .zip a c, env, h => (evE a env h).bd fun x h => (evE c env h).bd fun y h => ofO (zipO x y) h
end
/-- as a test -/
def evT (m : ME) (env : Env) (h : MH) : Out Bool := tru (bor env m h (evE T C m env h))
/-- what a slot is given: a value, or a new thing of its own -/
def asO (o : Bool) (x : D) : Option SV := if o then (match x with
  | .lst xs => some (.own (.lst xs))
  | .dct [] => some (.own (.dct []))
  | _ => none) else some (.val x)
def setAll : List (Nat × Bool) → List D → Env → Option Env
  | [], [], env => some env
  | (i, o) :: ts, x :: xs, env => (match asO o x with
    | some v => setAll ts xs (env.set i (some v))
    | none => none)
  | _, _, _ => none
def setAt (o x v : D) (h : MH) : Option MH := match o, x with
  | .ref n, .int i => (match h[n]? with
    | some (.lst xs) => (L2.ixN xs.length i).map fun k => h.set n (.lst (xs.set k v))
    | _ => none)
  | _, _ => none
mutual
def evS : MS → Env → MH → Out Fl
  | .set i e, env, h => (evE T C e env h).bd fun x h => .ok (.nx (env.set i (some (.val x)))) h
  | .setO i e, env, h => (evE T C e env h).bd fun x h => (match asO true x with
    | some v => .ok (.nx (env.set i (some v))) h
    | none => .no)
  | .par ts es, env, h => (evA T C es env h).bd fun xs h => (ofO (setAll ts xs env) h).bd fun en h => .ok (.nx en) h
  | .unp is e, env, h => (evE T C e env h).bd fun x h => (match x with
    | .tup xs => (ofO (bindMany is xs env) h).bd fun en h => .ok (.nx en) h
    | _ => .no)
  | .sattr o f e, env, h => (evE T C e env h).bd fun y h => (match o with
    | .var i => (match env[i]? with
      | some (some (.own (.ins c fs))) => if T.fld c f && decide (fs.length < 900) then .ok (.nx (env.set i (some (.own (.ins c (putF f y fs)))))) h else .no
      | some (some (.val (.ref n))) => (match h[n]? with
        | some (.ins c fs) => if T.fld c f && decide (fs.length < 900) then .ok (.nx env) (h.set n (.ins c (putF f y fs))) else .no
        | _ => .no)
      | _ => .no)
    | _ => .no)
  | .pattr o f g a b, env, h => (evE T C a env h).bd fun x h => (evE T C b env h).bd fun y h => (match o with
    | .var i => (match env[i]? with
      | some (some (.own (.ins c fs))) => if T.fld c f && T.fld c g && decide (fs.length < 900) then .ok (.nx (env.set i (some (.own (.ins c (putF g y (putF f x fs))))))) h else .no
      | _ => .no)
    | _ => .no)
  | .sidx o i e, env, h => (evE T C e env h).bd fun v h => (evE T C o env h).bd fun a h => (evE T C i env h).bd fun x h => (ofO (setAt a x v h) h).bd fun h' _ => .ok (.nx env) h'
  | .oidx s i e, env, h => (evE T C e env h).bd fun v h => (evE T C i env h).bd fun x h => (match env[s]? with
    | some (some (.own (.lst xs))) => (match x with
      | .int j => (match L2.ixN xs.length j with
        | some k => .ok (.nx (env.set s (some (.own (.lst (xs.set k v)))))) h
        | none => .no)
      | _ => .no)
    | some (some (.own o)) => (match setK o x v with
      | some o' => .ok (.nx (env.set s (some (.own o')))) h
      | none => .no)
    | _ => .no)
  | .app s e, env, h => (evE T C e env h).bd fun v h => (match env[s]? with
    | some (some (.own (.lst xs))) => if xs.length < lim then .ok (.nx (env.set s (some (.own (.lst (xs ++ [v])))))) h else .no
    | _ => .no)
  | .ext s e, env, h => (evE T C e env h).bd fun v h => (match v, env[s]? with
    | .lst ys, some (some (.own (.lst xs))) => if xs.length + ys.length ≤ lim then .ok (.nx (env.set s (some (.own (.lst (xs ++ ys)))))) h else .no
    | _, _ => .no)
  | .popS i s, env, h => (match env[s]? with
    | some (some (.own (.lst xs))) => (match xs.getLast? with
      | some y => .ok (.nx ((env.set s (some (.own (.lst xs.dropLast)))).set i (some (.val y)))) h
      | none => .no)
    | _ => .no)
  | .popD s e, env, h => (evE T C e env h).bd fun x h => (match env[s]? with
    | some (some (.own (.lst xs))) => (match x with
      | .int j => (match L2.ixN xs.length j with
        | some k => .ok (.nx (env.set s (some (.own (.lst (xs.eraseIdx k)))))) h
        | none => .no)
      | _ => .no)
    | _ => .no)
  | .ex e, env, h => (evE T C e env h).bd fun _ h => .ok (.nx env) h
  | .ifs t a b, env, h => (evT T C t env h).bd fun k h => if k then evSs a env h else evSs b env h
  | .for tg it b, env, h => (evI T C false it env h).bd fun xs h => loopF (fun x en h => match bindT tg x en with
    | some en => evSs b en h
    | none => .no) xs env h
  | .while t b, env, h => loopW (fun en h => evT T C t en h) (fun en h => evSs b en h) lim env h
  | .ret e, env, h => (evE T C e env h).bd fun x h => .ok (.rt x) h
  | .retO s, env, h => (match env[s]? with
    | some (some (.own (.lst xs))) => .ok (.rt (.lst xs)) h
    | _ => .no)
  | .retN, _, h => .ok (.rt .non) h
  | .pass, env, h => .ok (.nx env) h
  | .brk, env, h => .ok (.bk env) h
  | .cont, env, h => .ok (.ct env) h
  | .sini c es, env, h => (evA T C es env h).bd fun xs h => (match env[(0 : Nat)]? with
    | some (some (.own (.ins c0 fs))) => (match T.cmeth c0 (supK + c) with
      | some (b, false) => (C.ini b c0 fs xs h).bd fun fs' h => .ok (.nx (env.set 0 (some (.own (.ins c0 fs'))))) h
      | _ => .no)
    | _ => .no)
  | .frz s, env, h => (match env[s]? with
    | some (some (.own (.lst xs))) => .ok (.nx (env.set s (some (.val (.lst xs))))) h
    | some (some (.own (.ins c fs))) => .ok (.nx (env.set s (some (.val (.obj c fs))))) h
    | _ => .no)
  | .raise _ _, _, _ => .no
def evSs : MSs → Env → MH → Out Fl
  | .nil, env, h => .ok (.nx env) h
  | .cons s r, env, h => (evS s env h).bd fun fl h => match fl with
    | .nx e => evSs r e h
    | _ => .ok fl h
end
end

/-! ### defs -/
structure FD where
  np : Nat
  va : Bool
  ns : Nat
  body : MSs
def bindA (fd : FD) (xs : List D) : Option Env :=
  if fd.va then (if fd.np ≤ xs.length ∧ xs.length ≤ lim then some ((xs.take fd.np).map (fun x => some (SV.val x)) ++ some (.val (.tup (xs.drop fd.np))) :: List.replicate (fd.ns - (fd.np + 1)) none) else none)
  else if xs.length = fd.np then some (xs.map (fun x => some (SV.val x)) ++ List.replicate (fd.ns - fd.np) none) else none
def runF (T : CT) (C : Cl) (fd : FD) (xs : List D) (h : MH) : Out D := match bindA fd xs with
  | some env => (evSs T C fd.body env h).bd fun fl h => (match fl with
    | .nx _ => .ok .non h
    | .rt d => .ok d h
    | _ => .no)
  | none => .no
def selfOf (c0 : Nat) (env : Env) : Option (List (Nat × D)) := match env[(0 : Nat)]? with
  | some (some (.own (.ins c fs))) => if c = c0 then some fs else none
  | _ => none
/-- an __init__: the first slot owns the instance; np counts it -/
def runI (T : CT) (C : Cl) (fd : FD) (c0 : Nat) (fs : List (Nat × D)) (xs : List D) (h : MH) : Out (List (Nat × D)) := match bindA fd (.non :: xs) with
  | some env => (evSs T C fd.body (env.set 0 (some (.own (.ins c0 fs)))) h).bd fun fl h => (match fl with
    | .nx en => ofO (selfOf c0 en) h
    | _ => .no)
  | none => .no
/-- the table: defs by number, the __init__ of each class -/
structure Tb where
  ct : CT
  fn : Nat → Option FD
  ini : Nat → Option FD
def lv (B : Tb) : Nat → Cl
  | 0 => ⟨fun _ _ _ => .no, fun _ _ _ => .no, fun _ _ _ _ _ => .no⟩
  | k + 1 => ⟨fun f xs h => (match B.fn f with
      | some fd => runF B.ct (lv B k) fd xs h
      | none => .no),
    fun c xs h => (match B.ini c with
      | some fd => runI B.ct (lv B k) fd c [] xs h
      | none => .no),
    fun c c0 fs xs h => (match B.ini c with
      | some fd => runI B.ct (lv B k) fd c0 fs xs h
      | none => .no)⟩
end Mi
/-! MiRep: how the small interpreter's data lie in the abstract heap of the hand layer. -/
namespace Mi
open PySem L2

/-- names and addresses: of classes, of attributes -/
structure NA where
  P : Program
  w : World
  K : PySem.W.Frag
  ca : Nat → Addr
  an : Nat → Str
  fld : Nat → Nat → Bool

mutual
/-- F: the part of the heap that stands still; R: where the heap's things stand -/
inductive RD (Z : NA) (F : Hp) (R : List Addr) : D → V → Prop
  | non : RD Z F R .non .non
  | bl (b : Bool) : RD Z F R (.bl b) (.bl b)
  | int (i : Int) : RD Z F R (.int i) (.int i)
  | str (x : Str) : RD Z F R (.str x) (.str x)
  | tup {a : Addr} {xs : List D} {vs : List V} : F a = some (.tup vs) → RDs Z F R xs vs → RD Z F R (.tup xs) (.ref a)
  | lst {a : Addr} {xs : List D} {vs : List V} : Rd F a (.lst vs) → RDs Z F R xs vs → RD Z F R (.lst xs) (.ref a)
  | obj {a dx : Addr} {c : Nat} {fs : List (Nat × D)} {fv : List (Str × V)} : F a = some (.ins (Z.ca c) dx fv) → (∀ p ∈ fs, Z.fld c p.1 = true) → RFs Z F R fs fv → RD Z F R (.obj c fs) (.ref a)
  | ref {n : Nat} {a : Addr} : R[n]? = some a → RD Z F R (.ref n) (.ref a)
  | cls (c : Nat) : RD Z F R (.cls c) (.ref (Z.ca c))
inductive RDs (Z : NA) (F : Hp) (R : List Addr) : List D → List V → Prop
  | nil : RDs Z F R [] []
  | cons {x : D} {v : V} {xs : List D} {vs : List V} : RD Z F R x v → RDs Z F R xs vs → RDs Z F R (x :: xs) (v :: vs)
inductive RFs (Z : NA) (F : Hp) (R : List Addr) : List (Nat × D) → List (Str × V) → Prop
  | nil : RFs Z F R [] []
  | cons {f : Nat} {x : D} {v : V} {xs : List (Nat × D)} {vs : List (Str × V)} : RD Z F R x v → RFs Z F R xs vs → RFs Z F R ((f, x) :: xs) ((Z.an f, v) :: vs)
end
/-- the pairs of a dict whose keys are ints and texts | flat tuples of them -/
inductive KyK : D → Key → Prop
  | int (i : Int) : KyK (.int i) (.inl i)
  | str (x : Str) : KyK (.str x) (.inr x)
inductive RKs (Z : NA) (F : Hp) (R : List Addr) : List (D × D) → List (Key × V) → Prop
  | nil : RKs Z F R [] []
  | cons {k x : D} {q : Key} {v : V} {xs : List (D × D)} {vs : List (Key × V)} : KyK k q → RD Z F R x v → RKs Z F R xs vs → RKs Z F R ((k, x) :: xs) ((q, v) :: vs)
mutual
/-- a key of any depth -/
def nk : D → NestedKey
  | .int i => .num i
  | .str x => .text x
  | .tup xs => .tup (nks xs)
  | _ => .none
def nks : List D → List NestedKey
  | [] => []
  | x :: r => nk x :: nks r
end
inductive RNs (Z : NA) (F : Hp) (R : List Addr) : List (D × D) → List (NestedKey × Addr × Value) → Prop
  | nil : RNs Z F R [] []
  | cons {k x : D} {a : Addr} {v : V} {u : Value} {xs : List (D × D)} {vs : List (NestedKey × Addr × Value)} : isTupD k = true → keyN 8 k = true → RD Z F R k (.ref a) → RD Z F R x v → RelV v u → RNs Z F R xs vs → RNs Z F R ((k, x) :: xs) ((nk k, a, u) :: vs)
/-- the object of such a dict -/
def NDict (P : Program) (w : World) (a : Addr) (xs : List (NestedKey × Addr × Value)) : Heap → Prop := fun h => (a == sysModules) = false ∧ ∃ o es ep, h.get? a = some o ∧ o.ExactDict ∧ o.data = .dict es ep ∧ es.toList = xs.map (entryOfKey (nestedKind P w)) ∧ (xs.map (·.1)).Nodup
/-- a thing that may change, at a -/
def RO (Z : NA) (F : Hp) (R : List Addr) (H : Hp) (o : MO) (a : Addr) : Prop := match o with
  | .lst xs => ∃ vs, H a = some (.lst vs) ∧ RDs Z F R xs vs
  | .dct kvs => ∃ vs, H a = some (.dK vs) ∧ RKs Z F R kvs vs
  | .ndc kvs => ∃ vs, H a = some (.ext (NDict Z.P Z.w a vs)) ∧ RNs Z F R kvs vs
  | .ins c fs => ∃ dx fv, H a = some (.ins (Z.ca c) dx fv) ∧ (∀ p ∈ fs, Z.fld c p.1 = true) ∧ RFs Z F R fs fv
structure RH (Z : NA) (F : Hp) (R : List Addr) (H : Hp) (mh : MH) : Prop where
  sub : ∀ a o, F a = some o → H a = some o
  len : R.length = mh.length
  obj : ∀ (n : Nat) a o, R[n]? = some a → mh[n]? = some o → RO Z F R H o a
  inj : ∀ (n m : Nat) a, R[n]? = some a → R[m]? = some a → n = m
  dis : ∀ a ∈ R, F a = none
def Own (Z : NA) (F : Hp) (R : List Addr) (H : Hp) (o : MO) (a : Addr) : Prop := RO Z F R H o a ∧ F a = none ∧ a ∉ R
/-- the entry of the def that runs: what stood there; the instance that an __init__ fills -/
structure EN where
  F : Hp
  R : List Addr
  H : Hp
  sf : Option Addr
structure RE (Z : NA) (N : EN) (F : Hp) (R : List Addr) (H : Hp) (env : Env) (σ : St) : Prop where
  len : env.length = σ.length
  val : ∀ (i : Nat) d, env[i]? = some (some (.val d)) → ∃ v, σ[i]? = some (some v) ∧ RD Z F R d v
  own : ∀ (i : Nat) o, env[i]? = some (some (.own o)) → ∃ a, σ[i]? = some (some (.ref a)) ∧ Own Z F R H o a ∧ N.H a = none
  sep : ∀ (i j : Nat) o u a, env[i]? = some (some (.own o)) → env[j]? = some (some (.own u)) → σ[i]? = some (some (.ref a)) → σ[j]? = some (some (.ref a)) → i = j
  self : ∀ a c fs, N.sf = some a → env[(0 : Nat)]? = some (some (.own (.ins c fs))) → σ[(0 : Nat)]? = some (some (.ref a))
/-- how the heap grows -/
structure EX (F : Hp) (R : List Addr) (H : Hp) (F' : Hp) (R' : List Addr) (H' : Hp) : Prop where
  f : ∀ a o, F a = some o → F' a = some o
  nf : ∀ a o, H a = some o → F a = none → F' a = none
  r : R <+: R'
  nr : ∀ a ∈ R', a ∈ R ∨ H a = none
  keep : ∀ a o, H a = some o → a ∉ R → H' a = some o
  there : ∀ a o, H a = some o → ∃ u, H' a = some u

section
variable {Z : NA} {N : EN} {F F' F2 H H' H2 : Hp} {R R' R2 : List Addr} {mh mh' : MH} {env : Env} {σ : St}
theorem rd_mono {a : Addr} {u : HO} (e : ∀ a o, F a = some o → F' a = some o) (h : Rd F a u) : Rd F' a u := by
  rcases h with h | ⟨o, h⟩
  · exact .inl (e _ _ h)
  · exact .inr ⟨o, e _ _ h⟩
theorem pre_get {R R' : List Addr} {n : Nat} {a : Addr} (p : R <+: R') (h : R[n]? = some a) : R'[n]? = some a := by
  obtain ⟨t, rfl⟩ := p
  have hl := (List.getElem?_eq_some_iff.mp h).1
  rw [List.getElem?_append_left hl]
  exact h
mutual
theorem RD.mono (e : ∀ a o, F a = some o → F' a = some o) (p : R <+: R') : ∀ {d : D} {v : V}, RD Z F R d v → RD Z F' R' d v
  | _, _, .non => .non
  | _, _, .bl b => .bl b
  | _, _, .int i => .int i
  | _, _, .str x => .str x
  | _, _, .tup h r => .tup (e _ _ h) (RDs.mono e p r)
  | _, _, .lst h r => .lst (rd_mono e h) (RDs.mono e p r)
  | _, _, .obj h g r => .obj (e _ _ h) g (RFs.mono e p r)
  | _, _, .ref h => .ref (pre_get p h)
  | _, _, .cls c => .cls c
theorem RDs.mono (e : ∀ a o, F a = some o → F' a = some o) (p : R <+: R') : ∀ {d : List D} {v : List V}, RDs Z F R d v → RDs Z F' R' d v
  | _, _, .nil => .nil
  | _, _, .cons h r => .cons (RD.mono e p h) (RDs.mono e p r)
theorem RFs.mono (e : ∀ a o, F a = some o → F' a = some o) (p : R <+: R') : ∀ {d : List (Nat × D)} {v : List (Str × V)}, RFs Z F R d v → RFs Z F' R' d v
  | _, _, .nil => .nil
  | _, _, .cons h r => .cons (RD.mono e p h) (RFs.mono e p r)
end
theorem RKs.mono (e : ∀ a o, F a = some o → F' a = some o) (p : R <+: R') : ∀ {d : List (D × D)} {v : List (Key × V)}, RKs Z F R d v → RKs Z F' R' d v
  | _, _, .nil => .nil
  | _, _, .cons k h r => .cons k (RD.mono e p h) (RKs.mono e p r)
theorem RNs.mono (e : ∀ a o, F a = some o → F' a = some o) (p : R <+: R') : ∀ {d : List (D × D)} {v : List (NestedKey × Addr × Value)}, RNs Z F R d v → RNs Z F' R' d v
  | _, _, .nil => .nil
  | _, _, .cons k1 k2 h1 h2 q r => .cons k1 k2 (RD.mono e p h1) (RD.mono e p h2) q (RNs.mono e p r)
theorem EX.refl : EX F R H F R H := ⟨fun _ _ h => h, fun _ _ _ h => h, List.prefix_refl R, fun _ h => .inl h, fun _ _ h _ => h, fun _ o h => ⟨o, h⟩⟩
theorem EX.trans (x : EX F R H F' R' H') (y : EX F' R' H' F2 R2 H2) : EX F R H F2 R2 H2 where
  f := fun a o h => y.f a o (x.f a o h)
  nf := fun a o h n => by
    obtain ⟨u, hu⟩ := x.there a o h
    exact y.nf a u hu (x.nf a o h n)
  r := x.r.trans y.r
  nr := fun a h => by
    rcases y.nr a h with h | h
    · exact x.nr a h
    · refine .inr ?_
      cases e : H a with
      | none => rfl
      | some o =>
        obtain ⟨u, hu⟩ := x.there a o e
        rw [h] at hu
        cases hu
  keep := fun a o h n => by
    refine y.keep a o (x.keep a o h n) fun z => ?_
    rcases x.nr a z with q | q
    · exact n q
    · rw [h] at q
      cases q
  there := fun a o h => by
    obtain ⟨u, hu⟩ := x.there a o h
    exact y.there a u hu
theorem RO.lift {o : MO} {a : Addr} (x : EX F R H F' R' H') (e : H' a = H a) (h : RO Z F R H o a) : RO Z F' R' H' o a := by
  cases o with
  | lst xs =>
    obtain ⟨vs, h1, h2⟩ := h
    exact ⟨vs, e.trans h1, h2.mono x.f x.r⟩
  | dct kvs =>
    obtain ⟨vs, h1, h2⟩ := h
    exact ⟨vs, e.trans h1, h2.mono x.f x.r⟩
  | ndc kvs =>
    obtain ⟨vs, h1, h2⟩ := h
    exact ⟨vs, e.trans h1, h2.mono x.f x.r⟩
  | ins c fs =>
    obtain ⟨dx, fv, h1, hg, h2⟩ := h
    exact ⟨dx, fv, e.trans h1, hg, h2.mono x.f x.r⟩
theorem RO.there {o : MO} {a : Addr} (h : RO Z F R H o a) : ∃ u, H a = some u := by
  cases o with
  | lst xs =>
    obtain ⟨vs, h1, h2⟩ := h
    exact ⟨_, h1⟩
  | dct kvs =>
    obtain ⟨vs, h1, h2⟩ := h
    exact ⟨_, h1⟩
  | ndc kvs =>
    obtain ⟨vs, h1, h2⟩ := h
    exact ⟨_, h1⟩
  | ins c fs =>
    obtain ⟨dx, fv, h1, h2⟩ := h
    exact ⟨_, h1⟩
theorem Own.ext {o : MO} {a : Addr} (x : EX F R H F' R' H') (h : Own Z F R H o a) : Own Z F' R' H' o a := by
  obtain ⟨h1, h2, h3⟩ := h
  obtain ⟨u, hu⟩ := h1.there
  refine ⟨h1.lift x (by rw [hu]; exact x.keep a u hu h3), x.nf a u hu h2, fun z => ?_⟩
  rcases x.nr a z with q | q
  · exact h3 q
  · rw [hu] at q
    cases q
theorem RE.ext (x : EX F R H F' R' H') (h : RE Z N F R H env σ) : RE Z N F' R' H' env σ where
  len := h.len
  val := fun i d e => by
    obtain ⟨v, h1, h2⟩ := h.val i d e
    exact ⟨v, h1, h2.mono x.f x.r⟩
  own := fun i o e => by
    obtain ⟨a, h1, h2, h3⟩ := h.own i o e
    exact ⟨a, h1, h2.ext x, h3⟩
  sep := h.sep
  self := h.self

/-! ### a new thing -/
theorem EX.new {p : Addr} {o : HO} (hp : H p = none) (hF : ∀ a o, F a = some o → H a = some o) : EX F R H (upd F p o) R (upd H p o) where
  f := fun a u h => by
    rw [upd_ne (ne_of_none (hF a u h) hp)]
    exact h
  nf := fun a u h n => by
    rw [upd_ne (ne_of_none h hp)]
    exact n
  r := List.prefix_refl R
  nr := fun a h => .inl h
  keep := fun a u h _ => by
    rw [upd_ne (ne_of_none h hp)]
    exact h
  there := fun a u h => ⟨u, by
    rw [upd_ne (ne_of_none h hp)]
    exact h⟩
/-- tracked, but not frozen yet -/
theorem EX.own {p : Addr} {o : HO} (hp : H p = none) : EX F R H F R (upd H p o) where
  f := fun a u h => h
  nf := fun a u h n => n
  r := List.prefix_refl R
  nr := fun a h => .inl h
  keep := fun a u h _ => by
    rw [upd_ne (ne_of_none h hp)]
    exact h
  there := fun a u h => ⟨u, by
    rw [upd_ne (ne_of_none h hp)]
    exact h⟩
theorem RH.none_F {p : Addr} (r : RH Z F R H mh) (hp : H p = none) : F p = none := by
  cases e : F p with
  | none => rfl
  | some o =>
    rw [r.sub p o e] at hp
    cases hp
theorem RH.objs {n : Nat} {a : Addr} (r : RH Z F R H mh) (h : R[n]? = some a) : ∃ o, mh[n]? = some o ∧ RO Z F R H o a := by
  have hl := (List.getElem?_eq_some_iff.mp h).1
  rw [r.len] at hl
  exact ⟨mh[n], List.getElem?_eq_getElem hl, r.obj n a _ h (List.getElem?_eq_getElem hl)⟩
theorem RH.mem {a : Addr} (r : RH Z F R H mh) (h : a ∈ R) : ∃ u, H a = some u := by
  obtain ⟨n, hn⟩ := List.mem_iff_getElem?.mp h
  obtain ⟨o, h1, h2⟩ := r.objs hn
  exact h2.there
/-- the relation behind a step that leaves the heap's things -/
theorem RH.ext (r : RH Z F R H mh) (x : EX F R H F' R H') (sub : ∀ a o, F' a = some o → H' a = some o) (e : ∀ a ∈ R, H' a = H a) : RH Z F' R H' mh where
  sub := sub
  len := r.len
  obj := fun n a o h1 h2 => (r.obj n a o h1 h2).lift x (e a (List.mem_of_getElem? h1))
  inj := r.inj
  dis := fun a h => by
    obtain ⟨u, hu⟩ := r.mem h
    exact x.nf a u hu (r.dis a h)
theorem RH.new {p : Addr} {o : HO} (r : RH Z F R H mh) (hp : H p = none) : RH Z (upd F p o) R (upd H p o) mh := by
  refine r.ext (EX.new hp r.sub) (fun a u h => ?_) fun a h => ?_
  · by_cases e : a = p
    · subst e
      rw [upd_same] at h ⊢
      exact h
    · rw [upd_ne e] at h ⊢
      exact r.sub a u h
  · obtain ⟨u, hu⟩ := r.mem h
    rw [upd_ne (ne_of_none hu hp)]
theorem RH.own {p : Addr} {o : HO} (r : RH Z F R H mh) (hp : H p = none) : RH Z F R (upd H p o) mh := by
  refine r.ext (EX.own hp) (fun a u h => ?_) fun a h => ?_
  · rw [upd_ne (ne_of_none (r.sub a u h) hp)]
    exact r.sub a u h
  · obtain ⟨u, hu⟩ := r.mem h
    rw [upd_ne (ne_of_none hu hp)]
/-- what is at p, of nobody else, is frozen -/
theorem EX.frz {p : Addr} {o : HO} (x : EX N.F N.R N.H F R H) (hp : F p = none) (hN : N.H p = none) : EX N.F N.R N.H (upd F p o) R H where
  f := fun a u h => by
    have q := x.f a u h
    rw [upd_ne (ne_of_none q hp)]
    exact q
  nf := fun a u h n => by
    rw [upd_ne (ne_of_none h hN)]
    exact x.nf a u h n
  r := x.r
  nr := x.nr
  keep := x.keep
  there := x.there
theorem RH.frz {p : Addr} {o : HO} (r : RH Z F R H mh) (hp : H p = some o) (hF : F p = none) (hR : p ∉ R) : RH Z (upd F p o) R H mh where
  sub := fun a u h => by
    by_cases e : a = p
    · subst e
      rw [upd_same] at h
      rw [hp, ← h]
    · rw [upd_ne e] at h
      exact r.sub a u h
  len := r.len
  obj := fun n a u h1 h2 => by
    have q := r.obj n a u h1 h2
    have e : ∀ a u, F a = some u → upd F p o a = some u := fun a u h => by
      rw [upd_ne (ne_of_none h hF)]
      exact h
    cases u with
    | lst xs =>
      obtain ⟨vs, q1, q2⟩ := q
      exact ⟨vs, q1, q2.mono e (List.prefix_refl _)⟩
    | dct kvs =>
      obtain ⟨vs, q1, q2⟩ := q
      exact ⟨vs, q1, q2.mono e (List.prefix_refl _)⟩
    | ndc kvs =>
      obtain ⟨vs, q1, q2⟩ := q
      exact ⟨vs, q1, q2.mono e (List.prefix_refl _)⟩
    | ins c fs =>
      obtain ⟨dx, fv, q1, qg, q2⟩ := q
      exact ⟨dx, fv, q1, qg, q2.mono e (List.prefix_refl _)⟩
  inj := r.inj
  dis := fun a h => by
    rw [upd_ne (show a ≠ p from fun e => hR (by rw [← e]; exact h))]
    exact r.dis a h
end
end Mi
/-! MiOp: what the operators, the built-ins do on the small interpreter's data. -/
namespace Mi
open PySem PySem.Spec PyProof.Rows L2

theorem lim_line {n : Nat} (h : n ≤ lim) : n ≤ sizeLine := Nat.le_trans h (by decide)
theorem lim_lt {n : Nat} (h : n < lim) : n < sizeLine := Nat.lt_of_lt_of_le h (by decide)
/-- a value, or a thing of a slot's own that is looked at -/
def RT (Z : NA) (F : Hp) (R : List Addr) (H : Hp) (d : D) (v : V) : Prop := RD Z F R d v ∨ ∃ a o, v = .ref a ∧ d = o.top ∧ Own Z F R H o a
section
variable {Z : NA} {N : EN} {F F' F2 H H' H2 : Hp} {R R' R2 : List Addr} {mh mh' : MH} {env : Mi.Env} {σ : L2.St} {v u : V}
theorem RT.ext {d : D} (x : EX F R H F' R' H') (h : RT Z F R H d v) : RT Z F' R' H' d v := by
  rcases h with h | ⟨a, o, h1, h2, h3⟩
  · exact .inl (h.mono x.f x.r)
  · exact .inr ⟨a, o, h1, h2, h3.ext x⟩
theorem RT.of {d : D} (h : RD Z F R d v) : RT Z F R H d v := .inl h
theorem RT.int {i : Int} (h : RT Z F R H (.int i) v) : v = .int i := by
  rcases h with h | ⟨a, o, h1, h2, h3⟩
  · cases h
    rfl
  · cases o <;> cases h2
theorem RT.str {i : Str} (h : RT Z F R H (.str i) v) : v = .str i := by
  rcases h with h | ⟨a, o, h1, h2, h3⟩
  · cases h
    rfl
  · cases o <;> cases h2
theorem RT.bl {i : Bool} (h : RT Z F R H (.bl i) v) : v = .bl i := by
  rcases h with h | ⟨a, o, h1, h2, h3⟩
  · cases h
    rfl
  · cases o <;> cases h2
theorem RT.non (h : RT Z F R H .non v) : v = .non := by
  rcases h with h | ⟨a, o, h1, h2, h3⟩
  · cases h
    rfl
  · cases o <;> cases h2
theorem RT.tup {xs : List D} (h : RT Z F R H (.tup xs) v) : ∃ a vs, v = .ref a ∧ F a = some (.tup vs) ∧ RDs Z F R xs vs := by
  rcases h with h | ⟨a, o, h1, h2, h3⟩
  · cases h with
    | tup h1 h2 => exact ⟨_, _, rfl, h1, h2⟩
  · cases o <;> cases h2
theorem RT.lst {xs : List D} (r : RH Z F R H mh) (h : RT Z F R H (.lst xs) v) : ∃ a vs, v = .ref a ∧ Rd H a (.lst vs) ∧ RDs Z F R xs vs := by
  rcases h with h | ⟨a, o, h1, h2, h3⟩
  · cases h with
    | lst h1 h2 => exact ⟨_, _, rfl, rd_mono r.sub h1, h2⟩
  · cases o with
    | lst ys =>
      cases h2
      obtain ⟨⟨vs, e1, e2⟩, _⟩ := h3
      exact ⟨a, vs, h1, .inl e1, e2⟩
    | dct ys => cases h2
    | ndc ys => cases h2
    | ins c fs => cases h2
theorem RT.dct {xs : List (D × D)} (h : RT Z F R H (.dct xs) v) : ∃ a vs, v = .ref a ∧ H a = some (.dK vs) ∧ RKs Z F R xs vs := by
  rcases h with h | ⟨a, o, h1, h2, h3⟩
  · cases h
  · cases o with
    | lst ys => cases h2
    | dct ys =>
      cases h2
      obtain ⟨⟨vs, e1, e2⟩, _⟩ := h3
      exact ⟨a, vs, h1, e1, e2⟩
    | ndc ys => cases h2
    | ins c fs => cases h2
theorem RT.ndc {xs : List (D × D)} (h : RT Z F R H (.ndc xs) v) : ∃ a vs, v = .ref a ∧ H a = some (.ext (NDict Z.P Z.w a vs)) ∧ RNs Z F R xs vs := by
  rcases h with h | ⟨a, o, h1, h2, h3⟩
  · cases h
  · cases o with
    | lst ys => cases h2
    | ndc ys =>
      cases h2
      obtain ⟨⟨vs, e1, e2⟩, _⟩ := h3
      exact ⟨a, vs, h1, e1, e2⟩
    | dct ys => cases h2
    | ins c fs => cases h2
theorem RDs.length : ∀ {xs : List D} {vs : List V}, RDs Z F R xs vs → xs.length = vs.length
  | _, _, .nil => rfl
  | _, _, .cons _ r => by
    rw [List.length_cons, List.length_cons, RDs.length r]
theorem RDs.get : ∀ {xs : List D} {vs : List V} {i : Nat} {x : D}, RDs Z F R xs vs → xs[i]? = some x → ∃ v, vs[i]? = some v ∧ RD Z F R x v
  | _, _, _, _, .nil, e => by simp at e
  | _, _, 0, _, .cons r _, e => by
    simp at e
    subst e
    exact ⟨_, rfl, r⟩
  | _, _, i + 1, x, .cons _ t, e => by
    obtain ⟨v, h1, h2⟩ := RDs.get (i := i) (x := x) t (by simpa using e)
    exact ⟨v, by simpa using h1, h2⟩
theorem RDs.append : ∀ {xs ys : List D} {vs ws : List V}, RDs Z F R xs vs → RDs Z F R ys ws → RDs Z F R (xs ++ ys) (vs ++ ws)
  | _, _, _, _, .nil, h => h
  | _, _, _, _, .cons a r, h => .cons a (RDs.append r h)
theorem RDs.take : ∀ {xs : List D} {vs : List V} (n : Nat), RDs Z F R xs vs → RDs Z F R (xs.take n) (vs.take n)
  | _, _, 0, _ => .nil
  | _, _, _ + 1, .nil => .nil
  | _, _, n + 1, .cons a r => .cons a (RDs.take n r)
theorem RDs.drop : ∀ {xs : List D} {vs : List V} (n : Nat), RDs Z F R xs vs → RDs Z F R (xs.drop n) (vs.drop n)
  | _, _, 0, h => h
  | _, _, _ + 1, .nil => .nil
  | _, _, n + 1, .cons _ r => RDs.drop n r
theorem RDs.set : ∀ {xs : List D} {vs : List V} (n : Nat) {x : D} {v : V}, RD Z F R x v → RDs Z F R xs vs → RDs Z F R (xs.set n x) (vs.set n v)
  | _, _, _, _, _, _, .nil => .nil
  | _, _, 0, _, _, a, .cons _ r => .cons a r
  | _, _, n + 1, _, _, a, .cons b r => .cons b (RDs.set n a r)
theorem RDs.eraseIdx : ∀ {xs : List D} {vs : List V} (n : Nat), RDs Z F R xs vs → RDs Z F R (xs.eraseIdx n) (vs.eraseIdx n)
  | _, _, _, .nil => .nil
  | _, _, 0, .cons _ r => r
  | _, _, n + 1, .cons b r => .cons b (RDs.eraseIdx n r)
theorem RDs.dropLast : ∀ {xs : List D} {vs : List V}, RDs Z F R xs vs → RDs Z F R xs.dropLast vs.dropLast
  | _, _, .nil => .nil
  | _, _, .cons _ .nil => .nil
  | _, _, .cons a (.cons b r) => .cons a (RDs.dropLast (.cons b r))
theorem RDs.getLast : ∀ {xs : List D} {vs : List V} {x : D}, RDs Z F R xs vs → xs.getLast? = some x → ∃ v, vs.getLast? = some v ∧ RD Z F R x v := by
  intro xs vs x r h
  rw [List.getLast?_eq_getElem?] at h ⊢
  rw [← r.length]
  exact r.get h
theorem RDs.replicate (n : Nat) {xs : List D} {vs : List V} (r : RDs Z F R xs vs) : RDs Z F R (List.replicate n xs).flatten (List.replicate n vs).flatten := by
  induction n with
  | zero => exact .nil
  | succ n ih =>
    rw [List.replicate_succ, List.replicate_succ, List.flatten_cons, List.flatten_cons]
    exact r.append ih
theorem RDs.rev : ∀ {xs : List D} {vs : List V}, RDs Z F R xs vs → RDs Z F R xs.reverse vs.reverse
  | _, _, .nil => .nil
  | _, _, .cons a r => by
    rw [List.reverse_cons, List.reverse_cons]
    exact (RDs.rev r).append (.cons a .nil)
theorem RDs.ints : ∀ {xs : List D} {vs : List V} {l : List Int}, RDs Z F R xs vs → intL xs = some l → vs = l.map V.int
  | _, _, l, .nil, e => by
    cases e
    rfl
  | x :: xs, _, l, .cons a r, e => by
    cases x with
    | int i =>
      have e' : (intL xs).map (i :: ·) = some l := e
      cases q : intL xs with
      | none =>
        rw [q] at e'
        cases e'
      | some m =>
        rw [q] at e'
        cases e'
        cases a
        rw [RDs.ints r q]
        rfl
    | _ => cases e
theorem RDs.bools : ∀ {xs : List D} {vs : List V} {l : List Bool}, RDs Z F R xs vs → blL xs = some l → vs = l.map V.bl
  | _, _, l, .nil, e => by
    cases e
    rfl
  | x :: xs, _, l, .cons a r, e => by
    cases x with
    | bl i =>
      have e' : (blL xs).map (i :: ·) = some l := e
      cases q : blL xs with
      | none =>
        rw [q] at e'
        cases e'
      | some m =>
        rw [q] at e'
        cases e'
        cases a
        rw [RDs.bools r q]
        rfl
    | _ => cases e
theorem RDs.strs : ∀ {xs : List D} {vs : List V} {l : List Str}, RDs Z F R xs vs → strL xs = some l → vs = l.map V.str
  | _, _, l, .nil, e => by
    cases e
    rfl
  | x :: xs, _, l, .cons a r, e => by
    cases x with
    | str i =>
      have e' : (strL xs).map (i :: ·) = some l := e
      cases q : strL xs with
      | none =>
        rw [q] at e'
        cases e'
      | some m =>
        rw [q] at e'
        cases e'
        cases a
        rw [RDs.strs r q]
        rfl
    | _ => cases e

/-! ### what follows with a value: known, or a new thing -/
/-- the wish behind an operation that gives z -/
def KQ (Z : NA) (F : Hp) (R : List Addr) (H : Hp) (mh : MH) (z : D) (Q : VK) : Prop := ∀ F' R' H' w, EX F R H F' R' H' → RH Z F' R' H' mh → RD Z F' R' z w → Q w H'
theorem KQ.here {z : D} {Q : VK} (k : KQ Z F R H mh z Q) (r : RH Z F R H mh) (h : RD Z F R z v) : Q v H := k F R H v EX.refl r h
theorem KQ.tup {xs : List D} {vs : List V} {Q : VK} (k : KQ Z F R H mh (.tup xs) Q) (r : RH Z F R H mh) (h : RDs Z F R xs vs) : ∀ p, H p = none → Q (.ref p) (upd H p (.tup vs)) := fun p hp =>
  k _ R _ _ (EX.new hp r.sub) (r.new hp) (.tup upd_same (h.mono (EX.new (R := R) (o := .tup vs) hp r.sub).f (List.prefix_refl _)))
theorem KQ.lst {xs : List D} {vs : List V} {Q : VK} (k : KQ Z F R H mh (.lst xs) Q) (r : RH Z F R H mh) (h : RDs Z F R xs vs) : ∀ p, H p = none → Q (.ref p) (upd H p (.lst vs)) := fun p hp =>
  k _ R _ _ (EX.new hp r.sub) (r.new hp) (.lst (.inl upd_same) (h.mono (EX.new (R := R) (o := .lst vs) hp r.sub).f (List.prefix_refl _)))
end

/-! ### two operands -/
section
variable {X : Cx}
def bopOf : Bop → Operator
  | .add => .Add | .sub => .Sub | .mul => .Mult | .fdiv => .FloorDiv | .mod => .Mod | .pow => .Pow | .shl => .LShift | .shr => .RShift | .band => .BitAnd | .bor => .BitOr
def rD (Z : NA) (op : D → D → Option D) : R2 := fun v u H Q => ∃ F R mh x y z, RH Z F R H mh ∧ RT Z F R H x v ∧ RT Z F R H y u ∧ op x y = some z ∧ KQ Z F R H mh z Q
/-- xs + ys, either may be locked -/
def rCatR : R2 := fun x y H Q => ∃ l b xs zs, x = .ref l ∧ y = .ref b ∧ Rd H l (.lst xs) ∧ Rd H b (.lst zs) ∧ xs.length + zs.length ≤ sizeLine ∧ ∀ p, H p = none → Q (.ref p) (upd H p (.lst (xs ++ zs)))
theorem op_catR : OpR X (binaryOp .Add) rCatR := by
  intro pins s σ H x y v u Q I rx ry h
  obtain ⟨l, b, xs, zs, rfl, rfl, hH, hB, hz, q⟩ := h
  cases rx
  cases ry
  obtain ⟨z, its, n, r, e⟩ := hH.ok I.hok
  obtain ⟨z2, its2, n2, r2, e2⟩ := hB.ok I.hok
  have l1 := r.length
  have l2 := r2.length
  refine PySem.P.add_list e e2 ?_ (by rw [List.size_toArray, List.size_toArray]; omega)
  have ea : its.toArray ++ its2.toArray = (its ++ its2).toArray := by simp
  rw [ea]
  exact ⟨.ref _, _, I.lnew (t' := s.toks) (r.append r2) (by rw [List.length_append]; omega), rfl, q _ I.fresh⟩
theorem natAbs64 {i : Int} (h : i.natAbs < 2 ^ 64) : -(2 ^ 64) < i ∧ i < 2 ^ 64 := by omega
theorem op_bin {Z : NA} (hK : X.K = Z.K) (o : Bop) : OpR X (binaryOp (bopOf o)) (rD Z (binD o)) := by
  intro pins s σ H v u vv uu Q I rx ry h
  obtain ⟨F, R, mh, x, y, z, rh, rtx, rty, hop, k⟩ := h
  cases o with
  | add =>
    cases x with
    | int i => cases y with
      | int j =>
        cases hop
        obtain rfl := rtx.int
        obtain rfl := rty.int
        exact op_add pins s σ H _ _ _ _ Q I rx ry ⟨i, j, rfl, rfl, k.here rh (.int _)⟩
      | _ => cases hop
    | str i => cases y with
      | str j =>
        have hop' : (if i.length + j.length ≤ lim then some (D.str (i ++ j)) else none) = some z := hop
        split at hop'
        · rename_i hl
          cases hop'
          obtain rfl := rtx.str
          obtain rfl := rty.str
          exact op_add_str pins s σ H _ _ _ _ Q I rx ry ⟨i, j, rfl, rfl, lim_line hl, k.here rh (.str _)⟩
        · cases hop'
      | _ => cases hop
    | tup a => cases y with
      | tup b =>
        have hop' : (if a.length + b.length ≤ lim then some (D.tup (a ++ b)) else none) = some z := hop
        split at hop'
        · rename_i hl
          cases hop'
          obtain ⟨p, vs, rfl, hp, rs⟩ := rtx.tup
          obtain ⟨q, ws, rfl, hq, rs2⟩ := rty.tup
          refine op_catA pins s σ H _ _ _ _ Q I rx ry ⟨p, q, vs, ws, rfl, rfl, SqT.of (rh.sub _ _ hp), SqT.of (rh.sub _ _ hq), by rw [← rs.length, ← rs2.length]; exact lim_line hl, fun e => ?_, fun _ e => ?_, fun _ _ => k.tup rh (rs.append rs2)⟩
          · subst e
            cases rs
            exact k.here rh (.tup hq rs2)
          · subst e
            cases rs2
            rw [List.append_nil] at k
            exact k.here rh (.tup hp rs)
        · cases hop'
      | _ => cases hop
    | lst a => cases y with
      | lst b =>
        have hop' : (if a.length + b.length ≤ lim then some (D.lst (a ++ b)) else none) = some z := hop
        split at hop'
        · rename_i hl
          cases hop'
          obtain ⟨p, vs, rfl, hp, rs⟩ := rtx.lst rh
          obtain ⟨q, ws, rfl, hq, rs2⟩ := rty.lst rh
          exact op_catR pins s σ H _ _ _ _ Q I rx ry ⟨p, q, vs, ws, rfl, rfl, hp, hq, by rw [← rs.length, ← rs2.length]; exact lim_line hl, k.lst rh (rs.append rs2)⟩
        · cases hop'
      | _ => cases hop
    | _ => cases hop
  | sub =>
    cases x with
    | int i => cases y with
      | int j =>
        cases hop
        obtain rfl := rtx.int
        obtain rfl := rty.int
        exact op_sub pins s σ H _ _ _ _ Q I rx ry ⟨i, j, rfl, rfl, k.here rh (.int _)⟩
      | _ => cases hop
    | _ => cases hop
  | mul =>
    cases x with
    | int i => cases y with
      | int j =>
        have hop' : (if i.natAbs < 2 ^ 64 ∨ j.natAbs < 2 ^ 64 then some (D.int (i * j)) else none) = some z := hop
        split at hop'
        · rename_i hl
          cases hop'
          obtain rfl := rtx.int
          obtain rfl := rty.int
          exact op_mul pins s σ H _ _ _ _ Q I rx ry ⟨i, j, rfl, rfl, hl.imp natAbs64 natAbs64, k.here rh (.int _)⟩
        · cases hop'
      | _ => cases hop
    | _ => cases hop
  | fdiv =>
    cases x with
    | int i => cases y with
      | int j =>
        have hop' : (if 0 < j ∧ j < 1073741824 then some (D.int (i / j)) else none) = some z := hop
        split at hop'
        · rename_i hl
          cases hop'
          obtain rfl := rtx.int
          obtain rfl := rty.int
          exact op_fdiv pins s σ H _ _ _ _ Q I rx ry ⟨i, j, rfl, rfl, hl, k.here rh (.int _)⟩
        · cases hop'
      | _ => cases hop
    | _ => cases hop
  | mod =>
    cases x with
    | int i => cases y with
      | int j =>
        have hop' : (if 0 < j then some (D.int (i % j)) else none) = some z := hop
        split at hop'
        · rename_i hl
          cases hop'
          obtain rfl := rtx.int
          obtain rfl := rty.int
          exact op_mod pins s σ H _ _ _ _ Q I rx ry ⟨i, j, rfl, rfl, hl, k.here rh (.int _)⟩
        · cases hop'
      | _ => cases hop
    | _ => cases hop
  | pow =>
    cases x with
    | int i => cases y with
      | int j =>
        have hop' : (if 0 ≤ j ∧ j ≤ 1000 ∧ i.natAbs < 2 ^ 64 then some (D.int (i ^ j.toNat)) else none) = some z := hop
        split at hop'
        · rename_i hl
          cases hop'
          obtain rfl := rtx.int
          obtain rfl := rty.int
          exact op_pow pins s σ H _ _ _ _ Q I rx ry ⟨i, j, rfl, rfl, ⟨hl.1, by omega, hl.2.2⟩, k.here rh (.int _)⟩
        · cases hop'
      | _ => cases hop
    | _ => cases hop
  | shl =>
    cases x with
    | int i => cases y with
      | int j =>
        have hop' : (if 0 ≤ j ∧ j ≤ 1000 ∧ i.natAbs < 2 ^ 64 then some (D.int (i * 2 ^ j.toNat)) else none) = some z := hop
        split at hop'
        · rename_i hl
          cases hop'
          obtain rfl := rtx.int
          obtain rfl := rty.int
          exact op_shl pins s σ H _ _ _ _ Q I rx ry ⟨i, j, rfl, rfl, ⟨hl.1, by omega, hl.2.2⟩, k.here rh (.int _)⟩
        · cases hop'
      | _ => cases hop
    | _ => cases hop
  | shr =>
    cases x with
    | int i => cases y with
      | int j =>
        have hop' : (if 0 ≤ j then some (D.int (i / 2 ^ j.toNat)) else none) = some z := hop
        split at hop'
        · rename_i hl
          cases hop'
          obtain rfl := rtx.int
          obtain rfl := rty.int
          exact op_shr pins s σ H _ _ _ _ Q I rx ry ⟨i, j, rfl, rfl, hl, k.here rh (.int _)⟩
        · cases hop'
      | _ => cases hop
    | _ => cases hop
  | band =>
    cases x with
    | int i => cases y with
      | int j =>
        cases hop
        obtain rfl := rtx.int
        obtain rfl := rty.int
        exact op_and pins s σ H _ _ _ _ Q I rx ry ⟨i, j, rfl, rfl, k.here rh (.int _)⟩
      | _ => cases hop
    | _ => cases hop
  | bor =>
    cases x with
    | int i => cases y with
      | int j =>
        cases hop
        obtain rfl := rtx.int
        obtain rfl := rty.int
        exact op_or pins s σ H _ _ _ _ Q I rx ry ⟨i, j, rfl, rfl, k.here rh (.int _)⟩
      | _ => cases hop
    | _ => cases hop

/-! ### comparisons -/
theorem okN_shape : ∀ (n : Nat) (d : D), okN n d = true → d.py.canLay0 = true ∧ d.py.depth ≤ n
  | 0, d, h => by cases h
  | n + 1, d, h => by
    have all : ∀ xs : List D, xs.all (okN n) = true → PyData.canLayAll0 (pys xs) = true ∧ PyData.depthAll (pys xs) ≤ n := by
      intro xs
      induction xs with
      | nil => exact fun _ => ⟨rfl, Nat.zero_le _⟩
      | cons x r ih =>
        intro hx
        rw [List.all_cons, Bool.and_eq_true] at hx
        obtain ⟨a, b⟩ := okN_shape n x hx.1
        obtain ⟨c, e⟩ := ih hx.2
        refine ⟨?_, ?_⟩
        · show (x.py.canLay0 && PyData.canLayAll0 (pys r)) = true
          rw [a, c] <;> rfl
        · show max x.py.depth (PyData.depthAll (pys r)) ≤ n
          exact Nat.max_le.mpr ⟨b, e⟩
    cases d with
    | non => exact ⟨rfl, Nat.zero_le _⟩
    | bl b => exact ⟨rfl, Nat.zero_le _⟩
    | int i => exact ⟨rfl, Nat.zero_le _⟩
    | str x => exact ⟨h, Nat.zero_le _⟩
    | tup xs =>
      obtain ⟨a, b⟩ := all xs h
      exact ⟨a, Nat.succ_le_succ b⟩
    | lst xs =>
      obtain ⟨a, b⟩ := all xs h
      exact ⟨a, Nat.succ_le_succ b⟩
    | _ => cases h
theorem ok_shaped {d : D} (h : ok d = true) : SeqAt.shaped d.py = true := by
  obtain ⟨a, b⟩ := okN_shape 40 d h
  unfold SeqAt.shaped
  rw [a, decide_eq_true (Nat.le_trans b (by decide))] <;> rfl
theorem pys_eq : ∀ xs : List D, pys xs = xs.map D.py
  | [] => rfl
  | x :: r => by
    show x.py :: pys r = _
    rw [pys_eq r] <;> rfl
section
variable {Z : NA} {F H : Hp} {R : List Addr} {mh : MH} {v : V}
theorem okN_dp (sub : ∀ a o, F a = some o → H a = some o) : ∀ (n : Nat) (d : D) (v : V), okN n d = true → RD Z F R d v → Dp Z.K H v d.py
  | 0, d, v, h, _ => by cases h
  | n + 1, d, v, h, r => by
    have all : ∀ (xs : List D) (vs : List V), xs.all (okN n) = true → RDs Z F R xs vs → DpAll Z.K H vs (pys xs) := by
      intro xs
      induction xs with
      | nil =>
        intro vs _ q
        cases q
        exact .nil
      | cons x t ih =>
        intro vs hx q
        cases q with
        | cons q1 q2 =>
          rw [List.all_cons, Bool.and_eq_true] at hx
          exact .cons (okN_dp sub n x _ hx.1 q1) (ih _ hx.2 q2)
    cases r with
    | non => exact .non
    | bl b => exact .bl b
    | int i => exact .int i
    | str x => exact .str x
    | tup e q => exact .tup (SqT.of (sub _ _ e)) (all _ _ h q)
    | lst e q => exact .lst (.inl (rd_mono sub e)) (all _ _ h q)
    | obj e q => cases h
    | ref e => cases h
    | cls c => cases h
theorem RDs.dp (sub : ∀ a o, F a = some o → H a = some o) {n : Nat} : ∀ {xs : List D} {vs : List V}, xs.all (okN n) = true → RDs Z F R xs vs → DpAll Z.K H vs (pys xs)
  | [], _, _, .nil => .nil
  | x :: r, _, hx, .cons q1 q2 => by
    rw [List.all_cons, Bool.and_eq_true] at hx
    exact .cons (okN_dp sub n x _ hx.1 q1) (RDs.dp sub hx.2 q2)
theorem ok_dp {d : D} (r : RH Z F R H mh) (h : ok d = true) (t : RT Z F R H d v) : Dp Z.K H v d.py := by
  rcases t with t | ⟨a, o, e1, e2, ⟨ro, _⟩⟩
  · exact okN_dp r.sub 40 d v h t
  · cases o with
    | lst xs =>
      subst e1 e2
      obtain ⟨vs, h1, h2⟩ := ro
      exact .lst (SqL.of h1) (RDs.dp r.sub (n := 39) h h2)
    | dct kvs =>
      subst e2
      cases h
    | ndc kvs =>
      subst e2
      cases h
    | ins c fs =>
      subst e2
      cases h
end
theorem eqd_py : ∀ (n : Nat) (x y : D) (m : Nat), okN n x = true → okN m y = true → eqd x y = PyData.eqv x.py y.py
  | 0, x, y, m, h, _ => by cases h
  | n + 1, x, y, 0, _, h => by cases h
  | n + 1, x, y, m + 1, hx, hy => by
    have all : ∀ xs ys : List D, xs.all (okN n) = true → ys.all (okN m) = true → eqds xs ys = PyData.eqvAll (pys xs) (pys ys) := by
      intro xs
      induction xs with
      | nil =>
        intro ys _ _
        cases ys <;> rfl
      | cons a r ih =>
        intro ys h1 h2
        cases ys with
        | nil => rfl
        | cons b t =>
          rw [List.all_cons, Bool.and_eq_true] at h1 h2
          show (eqd a b && eqds r t) = (PyData.eqv a.py b.py && PyData.eqvAll (pys r) (pys t))
          rw [eqd_py n a b m h1.1 h2.1, ih t h1.2 h2.2]
    cases x with
    | tup xs => cases y with
      | tup ys => exact all xs ys hx hy
      | _ => first | rfl | cases hy
    | lst xs => cases y with
      | lst ys => exact all xs ys hx hy
      | _ => first | rfl | cases hy
    | non => cases y <;> first | rfl | cases hy
    | bl b => cases y <;> first | rfl | cases hy
    | int b => cases y <;> first | rfl | cases hy
    | str b => cases y <;> first | rfl | cases hy
    | _ => cases hx
def copOf : Cop → CmpOp
  | .eq => .Eq | .ne => .NotEq | .lt => .Lt | .le => .LtE | .gt => .Gt | .ge => .GtE | .isin => .In | .notin => .NotIn
theorem inTup (hu : X.A.units + 65 < cLine) {pins : List (Addr × Obj)} {s : Shared} {σ : L2.St} {H : Hp} {x y : V} {v u : Value} {Q : VK} (I : Inv X pins σ H s) (rx : RelV x v) (ry : RelV y u) {d : PyData} {ds : List PyData}
    (hd : Dp X.K H x d) (he : Dp X.K H y (.tuple ds)) (sd : SeqAt.shaped d = true) (se : SeqAt.shaped (.tuple ds) = true) :
    (Q (.bl (ds.any fun z => PyData.eqv z d)) H → wpAny (model X.prog X.w) X.A (compareOp .In v u) (EP X pins σ Q) X.xe s) ∧
    (Q (.bl (!ds.any fun z => PyData.eqv z d)) H → wpAny (model X.prog X.w) X.A (compareOp .NotIn v u) (EP X pins σ Q) X.xe s) := by
  obtain ⟨as, r1⟩ := Dp.reads I d x v hd rx
  obtain ⟨bs, r2⟩ := Dp.reads I (.tuple ds) y u he ry
  exact ⟨fun q => SeqAt.in_tuple_reads r2 r1 (SeqAt.canLay_of_shaped se) (SeqAt.canLay_of_shaped sd) (room_in_shaped sd hu) ⟨.bl _, H, I, rfl, q⟩,
    fun q => SeqAt.notIn_tuple_reads r2 r1 (SeqAt.canLay_of_shaped se) (SeqAt.canLay_of_shaped sd) (room_in_shaped sd hu) ⟨.bl _, H, I, rfl, q⟩⟩
theorem cmpD_eq {x y : D} {b : Bool} (h : cmpD .eq x y = some b) : (∃ i j, x = .str i ∧ y = .str j ∧ b = decide (i = j)) ∨ (ok x && ok y) = true ∧ b = eqd x y := by
  unfold cmpD at h
  split at h
  all_goals first
    | exact Cop.noConfusion ‹_›
    | (split at h
       · cases h
         exact .inl ⟨_, _, rfl, rfl, rfl⟩
       · split at h
         · cases h
           exact .inr ⟨‹_›, rfl⟩
         · cases h)
    | skip
theorem cmpD_ne {x y : D} {b : Bool} (h : cmpD .ne x y = some b) : (∃ i j, x = .str i ∧ y = .str j ∧ b = !decide (i = j)) ∨ (ok x && ok y) = true ∧ b = !eqd x y := by
  unfold cmpD at h
  split at h
  all_goals first
    | exact Cop.noConfusion ‹_›
    | (split at h
       · cases h
         exact .inl ⟨_, _, rfl, rfl, rfl⟩
       · split at h
         · cases h
           exact .inr ⟨‹_›, rfl⟩
         · cases h)
    | skip
theorem dec_str' {i j : Str} : decide (V.str i = V.str j) = decide (i = j) := by
  rw [Bool.eq_iff_iff]
  simp
theorem any_py {xs : List D} {x : D} (hx : ok x = true) (hs : xs.all (okN 39) = true) : (xs.any fun z => eqd z x) = (pys xs).any fun z => PyData.eqv z x.py := by
  rw [pys_eq, List.any_map]
  induction xs with
  | nil => rfl
  | cons a r ih =>
    rw [List.all_cons, Bool.and_eq_true] at hs
    rw [List.any_cons, List.any_cons, ih hs.2, eqd_py 39 a x 40 hs.1 hx] <;> rfl

theorem any_key {Z : NA} {F : Hp} {R : List Addr} {x : D} {q : Key} (hq : KyK x q) : ∀ {kvs : List (D × D)} {vs : List (Key × V)}, RKs Z F R kvs vs → (kvs.any fun z => eqd z.1 x) = (valV vs q).isSome
  | _, _, .nil => rfl
  | _, _, .cons (k := k) (q := p) (v := v) (xs := xs) (vs := vs) hk hv r => by
    have ih := any_key hq r
    have e : eqd k x = decide (p = q) := by
      cases hk with
      | int i => cases hq with
        | int j =>
          rw [key_ll]
          rfl
        | str j =>
          rw [key_lr]
          rfl
      | str i => cases hq with
        | int j =>
          rw [key_rl]
          rfl
        | str j =>
          rw [key_rr]
          show (i == j) = _
          rw [Bool.beq_eq_decide_eq]
    rw [List.any_cons, e, ih]
    unfold valV
    rw [List.find?_cons]
    by_cases h : p = q
    · rw [decide_eq_true h]
      rfl
    · rw [decide_eq_false h]
      rfl
/-- what a comparison gives -/
def rC (Z : NA) (op : D → D → Option Bool) : R2 := fun v u H Q => ∃ F R mh x y b, RH Z F R H mh ∧ RT Z F R H x v ∧ RT Z F R H y u ∧ op x y = some b ∧ Q (.bl b) H
theorem op_cmp {Z : NA} (hK : X.K = Z.K) (hu : X.A.units + 70 < cLine) (o : Cop) : OpR X (compareOp (copOf o)) (rC Z (cmpD o)) := by
  intro pins s σ H v u vv uu Q I rx ry h
  obtain ⟨F, R, mh, x, y, b, rh, rtx, rty, hop, q⟩ := h
  have isin : ∀ b, inD x y = some b → (Q (.bl b) H → wpAny (model X.prog X.w) X.A (compareOp .In vv uu) (EP X pins σ Q) X.xe s) ∧
      (Q (.bl (!b)) H → wpAny (model X.prog X.w) X.A (compareOp .NotIn vv uu) (EP X pins σ Q) X.xe s) := by
    intro b hb
    cases y with
    | tup ys =>
      have hb' : (if ok x && ok (D.tup ys) then some (ys.any fun z => eqd z x) else none) = some b := hb
      split at hb'
      · rename_i hk
        cases hb'
        rw [Bool.and_eq_true] at hk
        have e := any_py hk.1 (show ys.all (okN 39) = true from hk.2)
        have z := inTup (X := X) (by omega) I rx ry (Q := Q) (hK ▸ ok_dp rh hk.1 rtx) (ds := pys ys) (hK ▸ ok_dp rh hk.2 rty) (ok_shaped hk.1) (ok_shaped hk.2)
        rw [e]
        exact z
      · cases hb'
    | lst ys =>
      have hb' : (if ok x && ok (D.lst ys) then some (ys.any fun z => eqd z x) else none) = some b := hb
      split at hb'
      · rename_i hk
        cases hb'
        rw [Bool.and_eq_true] at hk
        have e := any_py hk.1 (show ys.all (okN 39) = true from hk.2)
        rw [e]
        exact ⟨fun q => op_inD (by omega) pins s σ H _ _ _ _ Q I rx ry ⟨x.py, pys ys, hK ▸ ok_dp rh hk.1 rtx, hK ▸ ok_dp rh hk.2 rty, ok_shaped hk.1, ok_shaped hk.2, q⟩,
          fun q => op_notInD (by omega) pins s σ H _ _ _ _ Q I rx ry ⟨x.py, pys ys, hK ▸ ok_dp rh hk.1 rtx, hK ▸ ok_dp rh hk.2 rty, ok_shaped hk.1, ok_shaped hk.2, q⟩⟩
      · cases hb'
    | dct kvs =>
      obtain ⟨a, vs, rfl, ha, rk⟩ := rty.dct
      obtain rfl : uu = Value.ref a := ry
      cases x with
      | int i =>
        cases hb
        obtain rfl := rtx.int
        have e := any_key (KyK.int i) rk
        rw [e]
        exact ⟨fun q => d_in (by omega) I (DGet.k (k := .inl i) ha) rx fun s3 I3 => ⟨.bl _, H, I3, rfl, q⟩, fun q => d_notIn (by omega) I (DGet.k (k := .inl i) ha) rx fun s3 I3 => ⟨.bl _, H, I3, rfl, q⟩⟩
      | str i =>
        cases hb
        obtain rfl := rtx.str
        have e := any_key (KyK.str i) rk
        rw [e]
        exact ⟨fun q => d_in (by omega) I (DGet.k (k := .inr i) ha) rx fun s3 I3 => ⟨.bl _, H, I3, rfl, q⟩, fun q => d_notIn (by omega) I (DGet.k (k := .inr i) ha) rx fun s3 I3 => ⟨.bl _, H, I3, rfl, q⟩⟩
      | _ => cases hb
    | str j =>
      cases x with
      | str i =>
        cases hb
        obtain rfl := rtx.str
        obtain rfl := rty.str
        exact ⟨fun q => op_in_str pins s σ H _ _ _ _ Q I rx ry ⟨i, j, rfl, rfl, q⟩, fun q => op_notin_str pins s σ H _ _ _ _ Q I rx ry ⟨i, j, rfl, rfl, q⟩⟩
      | _ => cases hb
    | _ => cases hb
  cases o with
  | eq =>
    rcases cmpD_eq hop with ⟨i, j, ex, ey, eb⟩ | ⟨hk, eb⟩
    · subst ex
      subst ey
      subst eb
      obtain rfl := rtx.str
      obtain rfl := rty.str
      refine op_eq pins s σ H _ _ _ _ Q I rx ry ⟨rfl, ?_⟩
      rw [dec_str']
      exact q
    · subst eb
      rw [Bool.and_eq_true] at hk
      rw [eqd_py 40 x y 40 hk.1 hk.2] at q
      exact op_eqD (by omega) pins s σ H _ _ _ _ Q I rx ry ⟨x.py, y.py, hK ▸ ok_dp rh hk.1 rtx, hK ▸ ok_dp rh hk.2 rty, ok_shaped hk.1, ok_shaped hk.2, q⟩
  | ne =>
    rcases cmpD_ne hop with ⟨i, j, ex, ey, eb⟩ | ⟨hk, eb⟩
    · subst ex
      subst ey
      subst eb
      obtain rfl := rtx.str
      obtain rfl := rty.str
      refine op_ne pins s σ H _ _ _ _ Q I rx ry ⟨rfl, ?_⟩
      rw [dec_str']
      exact q
    · subst eb
      rw [Bool.and_eq_true] at hk
      rw [eqd_py 40 x y 40 hk.1 hk.2] at q
      exact op_neD (by omega) pins s σ H _ _ _ _ Q I rx ry ⟨x.py, y.py, hK ▸ ok_dp rh hk.1 rtx, hK ▸ ok_dp rh hk.2 rty, ok_shaped hk.1, ok_shaped hk.2, q⟩
  | isin => exact (isin b hop).1 q
  | notin =>
    have hop' : (inD x y).map (!·) = some b := hop
    cases e : inD x y with
    | none =>
      rw [e] at hop'
      cases hop'
    | some c =>
      rw [e] at hop'
      cases hop'
      exact (isin c e).2 q
  | lt =>
    cases x with
    | int i => cases y with
      | int j =>
        cases hop
        obtain rfl := rtx.int
        obtain rfl := rty.int
        exact op_lt pins s σ H _ _ _ _ Q I rx ry ⟨i, j, rfl, rfl, q⟩
      | _ => cases hop
    | _ => cases hop
  | le =>
    cases x with
    | int i => cases y with
      | int j =>
        cases hop
        obtain rfl := rtx.int
        obtain rfl := rty.int
        exact op_le pins s σ H _ _ _ _ Q I rx ry ⟨i, j, rfl, rfl, q⟩
      | _ => cases hop
    | _ => cases hop
  | gt =>
    cases x with
    | int i => cases y with
      | int j =>
        cases hop
        obtain rfl := rtx.int
        obtain rfl := rty.int
        exact op_gt pins s σ H _ _ _ _ Q I rx ry ⟨i, j, rfl, rfl, q⟩
      | _ => cases hop
    | _ => cases hop
  | ge =>
    cases x with
    | int i => cases y with
      | int j =>
        cases hop
        obtain rfl := rtx.int
        obtain rfl := rty.int
        exact op_ge pins s σ H _ _ _ _ Q I rx ry ⟨i, j, rfl, rfl, q⟩
      | _ => cases hop
    | _ => cases hop
/-- truth -/
theorem tru_d {Z : NA} (hK : X.K = Z.K) {F H : Hp} {R : List Addr} {mh : MH} {x : D} {v : V} {b : Bool} (rh : RH Z F R H mh) (t : RT Z F R H x v) (h : truD x = some b) : TruV X.K v H b := by
  cases x with
  | non =>
    cases h
    obtain rfl := t.non
    rfl
  | bl k =>
    cases h
    obtain rfl := t.bl
    rfl
  | int i =>
    cases h
    obtain rfl := t.int
    rfl
  | str i =>
    have h' : (if i.length ≤ lim then some ((i.length : Int) != 0) else none) = some b := h
    split at h'
    · rename_i hl
      cases h'
      obtain rfl := t.str
      exact ⟨lim_line hl, rfl⟩
    · cases h'
  | tup xs =>
    cases h
    obtain ⟨a, vs, rfl, e, r⟩ := t.tup
    refine .inr (.inl ⟨vs, SqT.of (rh.sub _ _ e), ?_⟩)
    cases r <;> rfl
  | lst xs =>
    cases h
    obtain ⟨a, vs, rfl, e, r⟩ := t.lst rh
    refine .inl ⟨vs, .inl e, ?_⟩
    cases r <;> rfl
  | _ => cases h
end
end Mi
/-! MiMt: when a term of the small syntax stands for a term of the text. -/
namespace Mi
open PySem PySem.Spec PyProof.Rows L2

/-- the names of defs, classes, attributes, by number -/
structure NM where
  fn : Nat → Str
  cl : Nat → Str
  at_ : Nat → Str
  gi : List (Str × Int)
  gf : Nat → Bool
  gc : Nat → Bool
def isVis (sc : Scope) (x : Str) : Bool := match sc.names.lookup x with
  | some .local => true
  | some .cell => true
  | some .free => true
  | _ => false
def isLoc (sc : Scope) (x : Str) : Bool := match sc.names.lookup x with
  | some .local => true
  | some .cell => true
  | _ => false
def isGl (sc : Scope) (x : Str) : Bool := decide (sc.names.lookup x = some .globalImplicit)
def okName (x : Str) : Bool := !(x == ("__debug__" : Str)) && !(x == ("__classdict__" : Str))
def mtSlot (Ns : List Str) (i : Nat) (x : Str) : Bool := decide (Ns[i]? = some x)
def mtVar (Ns : List Str) (sc : Scope) (i : Nat) (x : Str) : Bool := mtSlot Ns i x && (isVis sc x && okName x)
def mtGlob (sc : Scope) (x y : Str) : Bool := decide (x = y) && (isGl sc x && okName x)
def bltName : Blt → Str
  | .len => "len" | .sum => "sum" | .all => "all" | .tuple => "tuple" | .list => "list" | .sorted => "sorted" | .max => "max" | .min => "min" | .str => "str" | .int => "int" | .repr => "repr"
def smName : Sm → Str
  | .split => "split" | .join => "join" | .endswith => "endswith" | .startswith => "startswith" | .index => "index" | .count => "count"
def tyName (M : NM) : Ty → Str
  | .int => "int" | .bool => "bool" | .str => "str" | .tuple => "tuple" | .list => "list" | .cls c => M.cl c
def mtConst : D → Const → Bool
  | .non, .none => true
  | .bl a, .bool b => a == b
  | .int i, .int j => decide (i = j)
  | .str x, .str y => decide (x = y)
  | _, _ => false
/-- no starred thing -/
def noStar : Expr → Bool
  | .Starred _ _ => false
  | _ => true
/-- its truth is that of its value -/
def plainT : Expr → Bool
  | .UnaryOp .Not _ _ => false
  | .BoolOp _ _ _ => false
  | .IfExp _ _ _ _ => false
  | .Compare _ _ _ _ => false
  | _ => true
def noSlice : Expr → Bool
  | .Slice _ _ _ _ => false
  | _ => true
def noSet : Expr → Bool
  | .Set _ _ _ => false
  | _ => true
def noSuper : Expr → Bool
  | .Call _ [] [] _ => false
  | _ => true
def isLc : Expr → Bool
  | .ListComp _ _ _ _ => true
  | .SetComp _ _ _ _ => true
  | .DictComp _ _ _ _ _ => true
  | _ => false
/-- a target's name: local, or a cell of the block itself -/
def tgOk (fn : Str → Bool) (sc : Scope) (x : Str) : Bool := match sc.names.lookup x with
  | some .local => true
  | some .cell => fn x
  | _ => false
def mgName (Ns : List Str) (fn : Str → Bool) (sc : Scope) (i : Nat) : Expr → Bool
  | .Name x _ => mtSlot Ns i x && tgOk fn sc x
  | _ => false
def mgs (Ns : List Str) (fn : Str → Bool) (sc : Scope) : List Nat → List Expr → Bool
  | [], [] => true
  | i :: is, e :: es => mgName Ns fn sc i e && mgs Ns fn sc is es
  | _, _ => false
def mg (Ns : List Str) (fn : Str → Bool) (sc : Scope) : Tg → Expr → Bool
  | .one i, e => mgName Ns fn sc i e
  | .many is, .Tuple es _ _ => mgs Ns fn sc is es
  | _, _ => false
def tgSub (vs : List Nat) : Tg → Bool
  | .one i => vs.contains i
  | .many is => is.all fun i => vs.contains i
def blkFn (scope : Scope) : Str → Bool := fun x => scope.names.lookup x == some .cell
/-- its truth has a rule -/
def okT : ME → Bool
  | .ite _ _ _ => false
  | .and a b => okT a && okT b
  | .or a b => okT a && okT b
  | .not a => okT a
  | _ => true
def plainArgs (xs : List Expr) : Bool := xs.all noStar
/-- the argument lists that have a rule -/
def okShape : List Expr → Bool
  | [] => true
  | [.Starred _ _] => true
  | e :: _ => noStar e
def smOk : Sm → Bool
  | .index => false
  | .count => false
  | _ => true
def isTup : Expr → Bool
  | .Tuple _ _ _ => true
  | _ => false
def ownOf (Ns : List Str) (wp : List Nat) : List (Str × Nat) := wp.map fun i => (Ns.getD i "", i)
/-- what a range is made into -/
def colName (t : Bool) : Str := if t then "tuple" else "list"
def isRg : MI → Bool
  | .rng _ => true
  | .rng2 _ _ => true
  | _ => false
/-- what is put into the heap -/
def isAl : ME → Bool
  | .lst _ => true
  | .make _ _ => true
  | .makeV _ _ => true
  | _ => false
def okOwn (Ns : List Str) (wp : List Nat) : Bool := wp.all fun i => decide (i < Ns.length)

/-! ### shapes -/
theorem any_some {α : Type} {o : Option α} {F : α → Bool} (h : o.any F = true) : ∃ a, o = some a ∧ F a = true := by
  cases o with
  | none => cases h
  | some a => exact ⟨a, rfl, h⟩
def dName : Expr → Option (Str)
  | .Name x _ => some (x)
  | _ => none
theorem dName_inv {e : Expr} {v : Str} (h : dName e = some v) : ∃ _h1, e = .Name v _h1 := by
  unfold dName at h
  split at h
  · cases h
    exact ⟨_, rfl⟩
  · cases h
def dConst : Expr → Option (Const)
  | .Constant x _ _ => some (x)
  | _ => none
theorem dConst_inv {e : Expr} {v : Const} (h : dConst e = some v) : ∃ _h1 _h2, e = .Constant v _h1 _h2 := by
  unfold dConst at h
  split at h
  · cases h
    exact ⟨_, _, rfl⟩
  · cases h
def dBin : Expr → Option (Expr × Operator × Expr)
  | .BinOp a p b _ => some (a, p, b)
  | _ => none
theorem dBin_inv {e : Expr} {v : Expr × Operator × Expr} (h : dBin e = some v) : ∃ _h1, e = .BinOp (v.1) (v.2.1) (v.2.2) _h1 := by
  unfold dBin at h
  split at h
  · cases h
    exact ⟨_, rfl⟩
  · cases h
def dNeg : Expr → Option (Expr)
  | .UnaryOp .USub a _ => some (a)
  | _ => none
theorem dNeg_inv {e : Expr} {v : Expr} (h : dNeg e = some v) : ∃ _h1, e = .UnaryOp .USub v _h1 := by
  unfold dNeg at h
  split at h
  · cases h
    exact ⟨_, rfl⟩
  · cases h
def dInv : Expr → Option (Expr)
  | .UnaryOp .Invert a _ => some (a)
  | _ => none
theorem dInv_inv {e : Expr} {v : Expr} (h : dInv e = some v) : ∃ _h1, e = .UnaryOp .Invert v _h1 := by
  unfold dInv at h
  split at h
  · cases h
    exact ⟨_, rfl⟩
  · cases h
def dNot : Expr → Option (Expr)
  | .UnaryOp .Not a _ => some (a)
  | _ => none
theorem dNot_inv {e : Expr} {v : Expr} (h : dNot e = some v) : ∃ _h1, e = .UnaryOp .Not v _h1 := by
  unfold dNot at h
  split at h
  · cases h
    exact ⟨_, rfl⟩
  · cases h
def dCmp : Expr → Option (Expr × CmpOp × Expr)
  | .Compare a [p] [b] _ => some (a, p, b)
  | _ => none
theorem dCmp_inv {e : Expr} {v : Expr × CmpOp × Expr} (h : dCmp e = some v) : ∃ _h1, e = .Compare (v.1) [(v.2.1)] [(v.2.2)] _h1 := by
  unfold dCmp at h
  split at h
  · cases h
    exact ⟨_, rfl⟩
  · cases h
def dCmp2 : Expr → Option (Expr × CmpOp × CmpOp × Expr × Expr)
  | .Compare a [p, p2] [b, c] _ => some (a, p, p2, b, c)
  | _ => none
theorem dCmp2_inv {e : Expr} {v : Expr × CmpOp × CmpOp × Expr × Expr} (h : dCmp2 e = some v) : ∃ _h1, e = .Compare (v.1) [(v.2.1), (v.2.2.1)] [(v.2.2.2.1), (v.2.2.2.2)] _h1 := by
  unfold dCmp2 at h
  split at h
  · cases h
    exact ⟨_, rfl⟩
  · cases h
def dIsn : Expr → Option (Expr)
  | .Compare a [.Is] [.Constant .none _ _] _ => some (a)
  | _ => none
theorem dIsn_inv {e : Expr} {v : Expr} (h : dIsn e = some v) : ∃ _h1 _h2 _h3, e = .Compare v [.Is] [.Constant .none _h1 _h2] _h3 := by
  unfold dIsn at h
  split at h
  · cases h
    exact ⟨_, _, _, rfl⟩
  · cases h
def dNotn : Expr → Option (Expr)
  | .Compare a [.IsNot] [.Constant .none _ _] _ => some (a)
  | _ => none
theorem dNotn_inv {e : Expr} {v : Expr} (h : dNotn e = some v) : ∃ _h1 _h2 _h3, e = .Compare v [.IsNot] [.Constant .none _h1 _h2] _h3 := by
  unfold dNotn at h
  split at h
  · cases h
    exact ⟨_, _, _, rfl⟩
  · cases h
def dIte : Expr → Option (Expr × Expr × Expr)
  | .IfExp t a b _ => some (t, a, b)
  | _ => none
theorem dIte_inv {e : Expr} {v : Expr × Expr × Expr} (h : dIte e = some v) : ∃ _h1, e = .IfExp (v.1) (v.2.1) (v.2.2) _h1 := by
  unfold dIte at h
  split at h
  · cases h
    exact ⟨_, rfl⟩
  · cases h
def dTup : Expr → Option (List Expr)
  | .Tuple xs _ _ => some (xs)
  | _ => none
theorem dTup_inv {e : Expr} {v : List Expr} (h : dTup e = some v) : ∃ _h1 _h2, e = .Tuple v _h1 _h2 := by
  unfold dTup at h
  split at h
  · cases h
    exact ⟨_, _, rfl⟩
  · cases h
def dLst : Expr → Option (List Expr)
  | .List xs _ => some (xs)
  | _ => none
theorem dLst_inv {e : Expr} {v : List Expr} (h : dLst e = some v) : ∃ _h1, e = .List v _h1 := by
  unfold dLst at h
  split at h
  · cases h
    exact ⟨_, rfl⟩
  · cases h
def dSub : Expr → Option (Expr × Expr)
  | .Subscript a i _ => some (a, i)
  | _ => none
theorem dSub_inv {e : Expr} {v : Expr × Expr} (h : dSub e = some v) : ∃ _h1, e = .Subscript (v.1) (v.2) _h1 := by
  unfold dSub at h
  split at h
  · cases h
    exact ⟨_, rfl⟩
  · cases h
def dSl : Expr → Option (Expr × Option Expr × Option Expr)
  | .Subscript a (.Slice l u none _) _ => some (a, l, u)
  | _ => none
theorem dSl_inv {e : Expr} {v : Expr × Option Expr × Option Expr} (h : dSl e = some v) : ∃ _h1 _h2, e = .Subscript (v.1) (.Slice (v.2.1) (v.2.2) none _h1) _h2 := by
  unfold dSl at h
  split at h
  · cases h
    exact ⟨_, _, rfl⟩
  · cases h
def dCallN : Expr → Option (Str × List Expr)
  | .Call (.Name x _) xs [] _ => some (x, xs)
  | _ => none
theorem dCallN_inv {e : Expr} {v : Str × List Expr} (h : dCallN e = some v) : ∃ _h1 _h2, e = .Call (.Name (v.1) _h1) (v.2) [] _h2 := by
  unfold dCallN at h
  split at h
  · cases h
    exact ⟨_, _, rfl⟩
  · cases h
def dCall1 : Expr → Option (Str × Expr)
  | .Call (.Name x _) [a] [] _ => some (x, a)
  | _ => none
theorem dCall1_inv {e : Expr} {v : Str × Expr} (h : dCall1 e = some v) : ∃ _h1 _h2, e = .Call (.Name (v.1) _h1) [(v.2)] [] _h2 := by
  unfold dCall1 at h
  split at h
  · cases h
    exact ⟨_, _, rfl⟩
  · cases h
def dCall2 : Expr → Option (Str × Expr × Expr)
  | .Call (.Name x _) [a, b] [] _ => some (x, a, b)
  | _ => none
theorem dCall2_inv {e : Expr} {v : Str × Expr × Expr} (h : dCall2 e = some v) : ∃ _h1 _h2, e = .Call (.Name (v.1) _h1) [(v.2.1), (v.2.2)] [] _h2 := by
  unfold dCall2 at h
  split at h
  · cases h
    exact ⟨_, _, rfl⟩
  · cases h
def dIsi : Expr → Option (Str × Expr × Str)
  | .Call (.Name x _) [a, .Name y _] [] _ => some (x, a, y)
  | _ => none
theorem dIsi_inv {e : Expr} {v : Str × Expr × Str} (h : dIsi e = some v) : ∃ _h1 _h2 _h3, e = .Call (.Name (v.1) _h1) [(v.2.1), .Name (v.2.2) _h2] [] _h3 := by
  unfold dIsi at h
  split at h
  · cases h
    exact ⟨_, _, _, rfl⟩
  · cases h
def dAttr : Expr → Option (Expr × Str)
  | .Attribute a x _ => some (a, x)
  | _ => none
theorem dAttr_inv {e : Expr} {v : Expr × Str} (h : dAttr e = some v) : ∃ _h1, e = .Attribute (v.1) (v.2) _h1 := by
  unfold dAttr at h
  split at h
  · cases h
    exact ⟨_, rfl⟩
  · cases h
def dMeth : Expr → Option (Expr × Str × Pos × List Expr × Pos)
  | .Call (.Attribute a x ap) xs [] p => some (a, x, ap, xs, p)
  | _ => none
theorem dMeth_inv {e : Expr} {v : Expr × Str × Pos × List Expr × Pos} (h : dMeth e = some v) : e = .Call (.Attribute (v.1) (v.2.1) (v.2.2.1)) (v.2.2.2.1) [] (v.2.2.2.2) := by
  unfold dMeth at h
  split at h
  · cases h
    exact rfl
  · cases h
def dCm : Expr → Option (Str × Str × Pos × List Expr × Pos)
  | .Call (.Attribute (.Name y _) x ap) xs [] p => some (y, x, ap, xs, p)
  | _ => none
theorem dCm_inv {e : Expr} {v : Str × Str × Pos × List Expr × Pos} (h : dCm e = some v) : ∃ _h1, e = .Call (.Attribute (.Name (v.1) _h1) (v.2.1) (v.2.2.1)) (v.2.2.2.1) [] (v.2.2.2.2) := by
  unfold dCm at h
  split at h
  · cases h
    exact ⟨_, rfl⟩
  · cases h
def dLc : Expr → Option (Expr × Expr × Expr × List Expr × Scope)
  | .ListComp elt [⟨t, i, fs, 0⟩] sco _ => some (elt, t, i, fs, sco)
  | _ => none
theorem dLc_inv {e : Expr} {v : Expr × Expr × Expr × List Expr × Scope} (h : dLc e = some v) : ∃ _h1, e = .ListComp (v.1) [⟨(v.2.1), (v.2.2.1), (v.2.2.2.1), 0⟩] (v.2.2.2.2) _h1 := by
  unfold dLc at h
  split at h
  · cases h
    exact ⟨_, rfl⟩
  · cases h
def dLcK : Expr → Option (Expr × Expr × Str × List Expr × Scope)
  | .ListComp elt [⟨t, .Name y _, fs, 0⟩] sco _ => some (elt, t, y, fs, sco)
  | _ => none
theorem dLcK_inv {e : Expr} {v : Expr × Expr × Str × List Expr × Scope} (h : dLcK e = some v) : ∃ _h1 _h2, e = .ListComp (v.1) [⟨(v.2.1), .Name (v.2.2.1) _h1, (v.2.2.2.1), 0⟩] (v.2.2.2.2) _h2 := by
  unfold dLcK at h
  split at h
  · cases h
    exact ⟨_, _, rfl⟩
  · cases h
def dSortK : Expr → Option (Str × Expr × Str × Str)
  | .Call (.Name x _) [a] [⟨some kn, .Name y _, _⟩] _ => some (x, a, kn, y)
  | _ => none
theorem dSortK_inv {e : Expr} {v : Str × Expr × Str × Str} (h : dSortK e = some v) : ∃ _h1 _h2 _h3 _h4, e = .Call (.Name (v.1) _h1) [(v.2.1)] [⟨some (v.2.2.1), .Name (v.2.2.2) _h2, _h3⟩] _h4 := by
  unfold dSortK at h
  split at h
  · cases h
    exact ⟨_, _, _, _, rfl⟩
  · cases h
def dAnd : Expr → Option (Expr × Expr)
  | .BoolOp .And [ea, eb] _ => some (ea, eb)
  | .BoolOp .And (ea :: eb :: ec :: es) p => some (ea, .BoolOp .And (eb :: ec :: es) p)
  | _ => none
theorem dAnd_inv {e : Expr} {v : Expr × Expr} (h : dAnd e = some v) : (∃ pos, e = .BoolOp .And [v.1, v.2] pos) ∨ ∃ eb ec es pos, e = .BoolOp .And (v.1 :: eb :: ec :: es) pos ∧ v.2 = .BoolOp .And (eb :: ec :: es) pos := by
  unfold dAnd at h
  split at h
  · cases h
    exact .inl ⟨_, rfl⟩
  · cases h
    exact .inr ⟨_, _, _, _, rfl, rfl⟩
  · cases h
def dOr : Expr → Option (Expr × Expr)
  | .BoolOp .Or [ea, eb] _ => some (ea, eb)
  | .BoolOp .Or (ea :: eb :: ec :: es) p => some (ea, .BoolOp .Or (eb :: ec :: es) p)
  | _ => none
theorem dOr_inv {e : Expr} {v : Expr × Expr} (h : dOr e = some v) : (∃ pos, e = .BoolOp .Or [v.1, v.2] pos) ∨ ∃ eb ec es pos, e = .BoolOp .Or (v.1 :: eb :: ec :: es) pos ∧ v.2 = .BoolOp .Or (eb :: ec :: es) pos := by
  unfold dOr at h
  split at h
  · cases h
    exact .inl ⟨_, rfl⟩
  · cases h
    exact .inr ⟨_, _, _, _, rfl, rfl⟩
  · cases h
section
variable (M : NM) (T : CT) (Ns : List Str)
mutual
def mtE : ME → Scope → Expr → Bool
  | .var i, sc, e0 => (dName e0).any fun x => mtVar Ns sc i x
  | .glo x i, sc, e0 => (dName e0).any fun y => mtGlob sc y x && decide (M.gi.lookup x = some i)
  | .con d, sc, e0 => (dConst e0).any fun c => mtConst d c
  | .bin o a b, sc, e0 => (dBin e0).any fun (ea, p, eb) => decide (bopOf o = p) && (mtE a sc ea && mtE b sc eb)
  | .neg a, sc, e0 => (dNeg e0).any fun ea => mtE a sc ea
  | .inv a, sc, e0 => (dInv e0).any fun ea => mtE a sc ea
  | .cmp o a b, sc, e0 => (dCmp e0).any fun (ea, p, eb) => decide (copOf o = p) && (mtE a sc ea && (mtE b sc eb && !behindInMarks p eb))
  | .cmp2 o o' a b c, sc, e0 => (dCmp2 e0).any fun (ea, p, p', eb, ec) => decide (copOf o = p) && (decide (copOf o' = p') && (mtE a sc ea && (mtE b sc eb && (mtE c sc ec && !lastMarks [p, p'] [eb, ec]))))
  | .isn a, sc, e0 => (dIsn e0).any fun ea => mtE a sc ea
  | .notn a, sc, e0 => (dNotn e0).any fun ea => mtE a sc ea
  | .and a b, sc, e0 => (dAnd e0).any fun (ea, er) => mtE a sc ea && mtE b sc er
  | .or a b, sc, e0 => (dOr e0).any fun (ea, er) => mtE a sc ea && mtE b sc er
  | .not a, sc, e0 => (dNot e0).any fun ea => mtE a sc ea
  | .ite t a b, sc, e0 => (dIte e0).any fun (et, ea, eb) => okT t && (mtE t sc et && (mtE a sc ea && mtE b sc eb))
  | .tup es, sc, e0 => (dTup e0).any fun xs => mtA es sc xs
  | .lst es, sc, e0 => (dLst e0).any fun xs => mtA es sc xs
  | .idx a i, sc, e0 => (dSub e0).any fun (ea, ei) => noSlice ei && (mtE a sc ea && mtE i sc ei)
  | .sl a lo hi, sc, e0 => (dSl e0).any fun (ea, l, h) => mtE a sc ea && (mtO lo sc l && mtO hi sc h)
  | .call f es, sc, e0 => (dCallN e0).any fun (x, xs) => mtGlob sc x (M.fn f) && (M.gf f && (okShape xs && mtA es sc xs))
  | .make c es, sc, e0 => (dCallN e0).any fun (x, xs) => mtGlob sc x (M.cl c) && (M.gc c && (okShape xs && mtA es sc xs))
  | .blt b es, sc, e0 => (dCallN e0).any fun (x, xs) => mtGlob sc x (bltName b) && (plainArgs xs && (!xs.isEmpty && mtA es sc xs))
  | .isi a t, sc, e0 => (dIsi e0).any fun (x, ea, y) => mtGlob sc x "isinstance" && (mtGlob sc y (tyName M t) && (noStar ea && ((match t with | .cls c => T.cls c | _ => true) && mtE a sc ea)))
  | .attr a f, sc, e0 => (dAttr e0).any fun (ea, x) => decide (x = M.at_ f) && (noSuper ea && mtE a sc ea)
  | .meth a m es, sc, e0 => (dMeth e0).any fun (ea, x, ap, xs, p) => decide (x = M.at_ m) && (noSuper ea && (plainArgs xs && (decide (xs.length < 30) && ((ap.endLine == p.line) && (mtE a sc ea && mtA es sc xs)))))
  | .smeth o a es, sc, e0 => (dMeth e0).any fun (ea, x, ap, xs, p) => smOk o && (decide (x = smName o) && (noSuper ea && (plainArgs xs && (!xs.isEmpty && (decide (xs.length < 29) && ((ap.endLine == p.line) && (mtE a sc ea && mtA es sc xs)))))))
  | .cm c m es, sc, e0 => (dCm e0).any fun (y, x, ap, xs, p) => decide (x = M.at_ m) && (mtGlob sc y (M.cl c) && (M.gc c && (plainArgs xs && (!xs.isEmpty && (decide (xs.length < 30) && ((ap.endLine == p.line) && ((match T.cmeth c m with | some (_, false) => false | _ => true) && mtA es sc xs)))))))
  | .lc it tg wp ts e, sc, e0 => (dLc e0).any fun (elt, t, i, fs, sco) => mtI it sc t i && (noSet i && (blkC Ns sc sco (ownOf Ns wp) && (tgSub wp tg && (mg Ns (blkFn sco) (relS sco sc) tg t && (mtTs ts (relS sco sc) fs && mtE e (relS sco sc) elt)))))
  | .lcK j tg wp ts e, sc, e0 => (dLcK e0).any fun (elt, t, y, fs, sco) => mtVar Ns sc j y && (blkC Ns sc sco (ownOf Ns wp) && (tgSub wp tg && (mg Ns (blkFn sco) (relS sco sc) tg t && (mtTs ts (relS sco sc) fs && mtE e (relS sco sc) elt))))
  | .makeV i es, sc, e0 => (dCallN e0).any fun (x, xs) => mtVar Ns sc i x && (okShape xs && mtA es sc xs)
  | .alloc a, sc, e => isAl a && mtE a sc e
  | .sortK f a, sc, e0 => (dSortK e0).any fun (x, e, kn, y) => mtGlob sc x "sorted" && (mtGlob sc y (M.fn f) && (M.gf f && (decide (kn = "key") && (noStar e && mtE a sc e))))
  | .col t it, sc, e0 => (dCall1 e0).any fun (x, e) => mtGlob sc x (colName t) && (isRg it && mtI it sc e e)
  | _, _, _ => false
def mtO : MO1 → Scope → Option Expr → Bool
  | .none, _, none => true
  | .some a, sc, some e => mtE a sc e
  | _, _, _ => false
def mtA : MA → Scope → List Expr → Bool
  | .nil, _, [] => true
  | .cons a r, sc, e :: es => noStar e && (mtE a sc e && mtA r sc es)
  | .star a r, sc, .Starred e _ :: es => mtE a sc e && mtA r sc es
  | _, _, _ => false
/-- no test or one -/
def mtTs : MA → Scope → List Expr → Bool
  | .nil, _, [] => true
  | .cons a .nil, sc, [e] => okT a && mtE a sc e
  | _, _, _ => false
def mtI : MI → Scope → Expr → Expr → Bool
  | .rng a, sc, _, e1 => (dCall1 e1).any fun (x, ea) => mtGlob sc x "range" && (noStar ea && mtE a sc ea)
  | .rng2 a b, sc, _, e1 => (dCall2 e1).any fun (x, ea, eb) => mtGlob sc x "range" && (noStar ea && (noStar eb && (mtE a sc ea && mtE b sc eb)))
  | .zip a b, sc, t, e1 => (dCall2 e1).any fun (x, ea, eb) => mtGlob sc x "zip" && (isTup t && (noStar ea && (noStar eb && (mtE a sc ea && mtE b sc eb))))
  | .enm a, sc, t, e1 => (dCall1 e1).any fun (x, ea) => mtGlob sc x "enumerate" && (isTup t && (noStar ea && mtE a sc ea))
  | .seq a, sc, _, e => mtE a sc e
end
end
end Mi
/-! MiSnd: what a term of the small syntax gives, the text's term gives, by the hand layer. -/
namespace Mi
open PySem PySem.Spec PyProof.Rows L2

def PO1 {α : Type} (o : Out α) (k : α → MH → Prop) : Prop := match o with
  | .ok a h => k a h
  | _ => False
theorem PO1.bd {α β : Type} {o : Out α} {f : α → MH → Out β} {k : β → MH → Prop} (h : PO1 (o.bd f) k) : ∃ a m, o = .ok a m ∧ PO1 (f a m) k := by
  cases o with
  | ok a m => exact ⟨a, m, rfl, h⟩
  | err _ _ _ => cases h
  | no => cases h
theorem PO1.ofO {α : Type} {o : Option α} {m : MH} {k : α → MH → Prop} (h : PO1 (ofO o m) k) : ∃ a, o = some a ∧ k a m := by
  cases o with
  | some a => exact ⟨a, rfl, h⟩
  | none => cases h
theorem PE.imp {X : Cx} {e : Expr} {t t' : TE} (h : PE X e t) (i : ∀ σ H Q, t' σ H Q → t σ H Q) : PE X e t' := ⟨fun pins s σ H Q I q => h.run pins s σ H Q I (i σ H Q q)⟩
theorem PT.imp {X : Cx} {e : Expr} {t t' : TT} (h : PT X e t) (i : ∀ σ H Q, t' σ H Q → t σ H Q) : PT X e t' := ⟨fun pins s σ H Q I q => h.run pins s σ H Q I (i σ H Q q)⟩
theorem PW.imp {X : Cx} {e : Expr} {t t' : TT} (h : PW X e t) (i : ∀ σ H Q, t' σ H Q → t σ H Q) : PW X e t' := ⟨fun w pins s σ H Q I q => h.run w pins s σ H Q I (i σ H Q q)⟩
theorem PA.imp {X : Cx} {e : List Expr} {t t' : TA} (h : PA X e t) (i : ∀ σ H Q, t' σ H Q → t σ H Q) : PA X e t' := ⟨fun p pins s σ H Q I q => h.run p pins s σ H Q I (i σ H Q q)⟩

/-! ### the text's side conditions -/
theorem star_of {e : Expr} (h : noStar e = true) (es : List Expr) (env : PySem.Env) : starEach (e :: es) env = (false, eval e env) :: starEach es env := by
  cases e <;> first | rfl | cases h
theorem plainT_of {e : Expr} (h : plainT e = true) (env : PySem.Env) (whole : Sem Value) : isTrue e env whole = (do let v ← whole; standAt e.pos; holding [v] (truthy v)) := by
  cases e with
  | UnaryOp o x p => cases o <;> first | rfl | cases h
  | BoolOp _ _ _ => cases h
  | IfExp _ _ _ _ => cases h
  | Compare _ _ _ _ => cases h
  | _ => rfl
theorem plainIx_of {e : Expr} (h : noSlice e = true) : PlainIx e := by
  intro o i
  cases e <;> first | rfl | cases h
theorem noSet_of {e : Expr} (h : noSet e = true) (env : PySem.Env) (x : Value) : foldedSetIterable e env x = pure x := by
  cases e <;> first | rfl | cases h
theorem noSuper_of {e : Expr} (h : noSuper e = true) (f : Str) (env : PySem.Env) (w : Sem Value) : attributeBase e f env w = w := by
  cases e with
  | Call a b c p =>
    cases a with
    | Name x q =>
      cases b with
      | nil => cases c with
        | nil => cases h
        | cons k ks => rfl
      | cons k ks => rfl
    | _ => rfl
  | _ => rfl
theorem ba2 {a b : Bool} (h : (a && b) = true) : a = true ∧ b = true := Bool.and_eq_true_iff.mp h

/-! ### readings -/
section
variable (Z : NA) (T : CT) (C : Cl)
def PD (F : Hp) (R : List Addr) (H : Hp) (o : Out D) (Q : VK) : Prop := PO1 o fun d mh' => ∀ F' R' H' v, EX F R H F' R' H' → RH Z F' R' H' mh' → RD Z F' R' d v → Q v H'
def PB (F : Hp) (R : List Addr) (H : Hp) (o : Out D) (Q : VK) : Prop := PO1 o fun d mh' => ∀ F' R' H' v, EX F R H F' R' H' → RH Z F' R' H' mh' → RT Z F' R' H' d v → Q v H'
def tM (m : ME) : TE := fun σ H Q => ∃ N F R mh env, RH Z F R H mh ∧ RE Z N F R H env σ ∧ PD Z F R H (evE T C m env mh) Q
def tB (m : ME) : TE := fun σ H Q => ∃ N F R mh env, RH Z F R H mh ∧ RE Z N F R H env σ ∧ PB Z F R H (bor env m mh (evE T C m env mh)) Q
def tTe (m : ME) : TT := fun σ H Q => ∃ N F R mh env, RH Z F R H mh ∧ RE Z N F R H env σ ∧ PO1 (evT T C m env mh) fun b mh' => ∀ F' R' H', EX F R H F' R' H' → RH Z F' R' H' mh' → Q b H'
def tTs (m : MA) : TT := fun σ H Q => ∃ N F R mh env, RH Z F R H mh ∧ RE Z N F R H env σ ∧ PO1 (evTs T C m env mh) fun b mh' => ∀ F' R' H', EX F R H F' R' H' → RH Z F' R' H' mh' → Q b H'
def tA (m : MA) : TA := fun σ H Q => ∃ N F R mh env, RH Z F R H mh ∧ RE Z N F R H env σ ∧ PO1 (evA T C m env mh) fun xs mh' => ∀ F' R' H' vs, EX F R H F' R' H' → RH Z F' R' H' mh' → RDs Z F' R' xs vs → Q vs H'
/-- data, some of them only looked at -/
inductive RTs (F : Hp) (R : List Addr) (H : Hp) : List D → List V → Prop
  | nil : RTs F R H [] []
  | cons {x : D} {v : V} {xs : List D} {vs : List V} : RT Z F R H x v → RTs F R H xs vs → RTs F R H (x :: xs) (v :: vs)
def tAB (m : MA) : TA := fun σ H Q => ∃ N F R mh env, RH Z F R H mh ∧ RE Z N F R H env σ ∧ PO1 (evB T C m env mh) fun xs mh' => ∀ F' R' H' vs, EX F R H F' R' H' → RH Z F' R' H' mh' → RTs Z F' R' H' xs vs → Q vs H'
def tOp1 (m : MO1) : TO := fun σ H Q => ∃ N F R mh env, RH Z F R H mh ∧ RE Z N F R H env σ ∧ PO1 (evO T C m env mh) fun x mh' => ∀ F' R' H', EX F R H F' R' H' → RH Z F' R' H' mh' → (match x with
  | none => Q none H'
  | some (.int i) => Q (some i) H'
  | _ => False)
end

/-- what the code that runs stands in -/
def kdName : Nat → String
  | 0 => "NoneType" | 1 => "bool" | 2 => "int" | 3 => "str" | 4 => "tuple" | _ => "list"
/-- the classes of the program, as the top has made them -/
structure ClOk (Z : NA) (M : NM) (T : CT) (K : PySem.W.Frag) (mg : Str → Option Value) : Prop where
  gl : ∀ c, T.cls c = true → mg (M.cl c) = some (.ref (Z.ca c))
  cl : ∀ c, T.cls c = true → Cls K (Z.ca c)
  ha : ∀ c, T.cls c = true → PySem.W.findIn K (.ref (Z.ca c)) "__class__" = some (some (.builtin "object.__class__"))
  hn : PySem.W.specialIn K (.builtin "object.__class__") "__get__" = some (some (.builtin "getset_descriptor.__get__"))
  htk : PySem.W.takesIn K (.builtin "object.__class__") = some true
  hm : ∀ c, T.cls c = true → PySem.W.mroIn K (Z.ca c) (.type "object") = some true
  oo : ∀ c d, T.cls c = true → T.cls d = true → PySem.W.kitOne K (.ref (Z.ca c)) (.ref (Z.ca d)) = some (T.sub c d)
  ob : ∀ c n, T.cls c = true → PySem.W.kitOne K (.ref (Z.ca c)) (.type (kdName n)) = some false
  bo : ∀ c n, T.cls c = true → PySem.W.kitOne K (.type (kdName n)) (.ref (Z.ca c)) = some false
structure CtxOk (Z : NA) (M : NM) (k : Nat) (X : Cx) : Prop where
  hK : X.K = Z.K
  calm : X.calm = true
  nd : X.N.Nodup
  room : Room k X.A
  gd : X.A.guards = some []
  blt : ∀ b, X.mg (bltName b) = none
  rng : X.mg "range" = none
  isi : X.mg "isinstance" = none
  tbl : X.mg "bool" = none
  gi : ∀ x i, M.gi.lookup x = some i → ∃ t, X.mg x = some (.int i t)

section
variable {Z : NA} {M : NM} {T : CT} {C : Cl} {k : Nat} {X : Cx}
theorem okName_1 {x : Str} (h : okName x = true) : (x == ("__debug__" : Str)) = false := by
  have q := (ba2 h).1
  cases e : (x == ("__debug__" : Str)) with
  | false => rfl
  | true =>
    rw [e] at q
    cases q
theorem okName_2 {x : Str} (h : okName x = true) : (x == ("__classdict__" : Str)) = false := by
  have q := (ba2 h).2
  cases e : (x == ("__classdict__" : Str)) with
  | false => rfl
  | true =>
    rw [e] at q
    cases q
theorem vis_of {x : Str} (h : isVis X.env.scope x = true) : Vis X.env.scope x := by
  unfold isVis at h
  cases e : X.env.scope.names.lookup x with
  | none =>
    rw [e] at h
    cases h
  | some q =>
    rw [e] at h
    cases q with
    | «local» => exact .inl e
    | cell => exact .inr (.inl e)
    | free => exact .inr (.inr e)
    | globalExplicit => cases h
    | globalImplicit => cases h
theorem gl_of {x : Str} (h : isGl X.env.scope x = true) : Gl X x := by
  have q : X.env.scope.names.lookup x = some .globalImplicit := of_decide_eq_true h
  exact q
theorem snd_var0 {i : Nat} {x : Str} {pos : Pos} (h : mtVar X.N X.env.scope i x = true) : PE X (.Name x pos) (tVar i) := by
  obtain ⟨h1, h2⟩ := ba2 h
  obtain ⟨h3, h4⟩ := ba2 h2
  exact pe_var (of_decide_eq_true h1) (vis_of h3) (okName_1 h4) (okName_2 h4)
theorem snd_var {i : Nat} {x : Str} {pos : Pos} (h : mtVar X.N X.env.scope i x = true) : PE X (.Name x pos) (tM Z T C (.var i)) := by
  refine PE.imp (snd_var0 h) fun σ H Q q => ?_
  obtain ⟨N, F, R, mh, env, rh, re, q⟩ := q
  have q : PO1 (match env[i]? with
    | some (some (.val d)) => Out.ok d mh
    | _ => .no) _ := q
  cases e : env[i]? with
  | none =>
    rw [e] at q
    cases q
  | some o =>
    rw [e] at q
    cases o with
    | none => cases q
    | some sv =>
      cases sv with
      | own o => cases q
      | val d =>
        obtain ⟨v, e1, r⟩ := re.val i d e
        exact ⟨v, e1, q F R H v EX.refl rh r⟩
/-- a term that may be only looked at -/
theorem snd_bor {m : ME} {e : Expr} (hm : mtE M T X.N m X.env.scope e = true) (h : PE X e (tM Z T C m)) : PE X e (tB Z T C m) := by
  have gen : (∀ env mh, bor env m mh (evE T C m env mh) = evE T C m env mh) → PE X e (tB Z T C m) := fun eq => PE.imp h fun σ H Q q => by
    obtain ⟨N, F, R, mh, env, rh, re, q⟩ := q
    rw [eq] at q
    refine ⟨N, F, R, mh, env, rh, re, ?_⟩
    cases ev : evE T C m env mh with
    | ok d mh' =>
      rw [ev] at q
      exact fun F' R' H' v x rh' rd => q F' R' H' v x rh' (.inl rd)
    | err _ _ _ =>
      rw [ev] at q
      cases q
    | no =>
      rw [ev] at q
      cases q
  cases m with
  | var i =>
    cases e with
    | Name x pos =>
      refine PE.imp (snd_var0 (show mtVar X.N X.env.scope i x = true from hm)) fun σ H Q q => ?_
      obtain ⟨N, F, R, mh, env, rh, re, q⟩ := q
      cases e : env[i]? with
      | none =>
        simp only [bor, evE, e] at q
        cases q
      | some o =>
        cases o with
        | none =>
          simp only [bor, evE, e] at q
          cases q
        | some sv =>
          cases sv with
          | own o =>
            simp only [bor, evE, e] at q
            obtain ⟨a, e1, ow, _⟩ := re.own i o e
            exact ⟨_, e1, q F R H _ EX.refl rh (.inr ⟨a, o, rfl, rfl, ow⟩)⟩
          | val d =>
            simp only [bor, evE, e] at q
            obtain ⟨v, e1, r⟩ := re.val i d e
            exact ⟨v, e1, q F R H v EX.refl rh (.inl r)⟩
    | _ => cases hm
  | _ => exact gen fun _ _ => rfl
theorem snd_bin (hc : CtxOk Z M k X) {o : Bop} {a b : ME} {ea eb : Expr} {pos : Pos} (ha : PE X ea (tB Z T C a)) (hb : PE X eb (tB Z T C b)) : PE X (.BinOp ea (bopOf o) eb pos) (tM Z T C (.bin o a b)) := by
  refine PE.imp (pe_op (op_bin hc.hK o) ha hb) fun σ H Q h => ?_
  obtain ⟨N, F, R, mh, env, rh, re, h⟩ := h
  obtain ⟨x, m1, e1, h⟩ := PO1.bd (show PO1 ((bor env a mh (evE T C a env mh)).bd _) _ from h)
  obtain ⟨y, m2, e2, h⟩ := PO1.bd h
  obtain ⟨z, e3, h⟩ := PO1.ofO h
  refine ⟨N, F, R, mh, env, rh, re, ?_⟩
  rw [e1]
  intro F1 R1 H1 v1 x1 rh1 t1
  refine ⟨N, F1, R1, m1, env, rh1, re.ext x1, ?_⟩
  rw [e2]
  intro F2 R2 H2 v2 x2 rh2 t2
  exact ⟨F2, R2, m2, x, y, z, rh2, t1.ext x2, t2, e3, fun F3 R3 H3 w x3 rh3 rd => h F3 R3 H3 w ((x1.trans x2).trans x3) rh3 rd⟩
theorem snd_cmp (hc : CtxOk Z M k X) {o : Cop} {a b : ME} {ea eb : Expr} {pos : Pos} (hm : behindInMarks (copOf o) eb = false) (ha : PE X ea (tB Z T C a)) (hb : PE X eb (tB Z T C b)) :
    PE X (.Compare ea [copOf o] [eb] pos) (tM Z T C (.cmp o a b)) := by
  have hu : X.A.units + 70 < cLine := by
    have := hc.room.un
    omega
  refine PE.imp (pe_cmpR (op_cmp hc.hK hu o) ha hb hm) fun σ H Q h => ?_
  obtain ⟨N, F, R, mh, env, rh, re, h⟩ := h
  obtain ⟨x, m1, e1, h⟩ := PO1.bd (show PO1 ((bor env a mh (evE T C a env mh)).bd _) _ from h)
  obtain ⟨y, m2, e2, h⟩ := PO1.bd h
  obtain ⟨z, e3, h⟩ := PO1.ofO h
  refine ⟨N, F, R, mh, env, rh, re, ?_⟩
  rw [e1]
  intro F1 R1 H1 v1 x1 rh1 t1
  refine ⟨N, F1, R1, m1, env, rh1, re.ext x1, ?_⟩
  rw [e2]
  intro F2 R2 H2 v2 x2 rh2 t2
  cases e4 : cmpD o x y with
  | none =>
    rw [e4] at e3
    cases e3
  | some b =>
    rw [e4] at e3
    cases e3
    exact ⟨F2, R2, m2, x, y, b, rh2, t1.ext x2, t2, e4, h F2 R2 H2 _ (x1.trans x2) rh2 (.bl b)⟩
theorem snd_tcmp (hc : CtxOk Z M k X) {o : Cop} {a b : ME} {ea eb : Expr} {pos : Pos} (hm : behindInMarks (copOf o) eb = false) (ha : PE X ea (tB Z T C a)) (hb : PE X eb (tB Z T C b)) :
    PT X (.Compare ea [copOf o] [eb] pos) (tTe Z T C (.cmp o a b)) := by
  have hu : X.A.units + 70 < cLine := by
    have := hc.room.un
    omega
  refine PT.imp (pt_cmpR (op_cmp hc.hK hu o) ha hb hm) fun σ H Q h => ?_
  obtain ⟨N, F, R, mh, env, rh, re, h⟩ := h
  obtain ⟨w, m0, e0, h⟩ := PO1.bd (show PO1 ((bor env (.cmp o a b) mh (evE T C (.cmp o a b) env mh)).bd _) _ from h)
  have e0 : ((bor env a mh (evE T C a env mh)).bd fun x h => (bor env b h (evE T C b env h)).bd fun y h => ofO ((cmpD o x y).map .bl) h) = .ok w m0 := e0
  have h0 : PO1 (Out.ok w m0) fun w' m' => w' = w ∧ m' = m0 := ⟨rfl, rfl⟩
  rw [← e0] at h0
  obtain ⟨x, m1, e1, h0⟩ := PO1.bd h0
  obtain ⟨y, m2, e2, h0⟩ := PO1.bd h0
  obtain ⟨z, e3, h0, hm0⟩ := PO1.ofO h0
  obtain ⟨c, e5, h⟩ := PO1.ofO h
  refine ⟨N, F, R, mh, env, rh, re, ?_⟩
  rw [e1]
  intro F1 R1 H1 v1 x1 rh1 t1
  refine ⟨N, F1, R1, m1, env, rh1, re.ext x1, ?_⟩
  rw [e2]
  intro F2 R2 H2 v2 x2 rh2 t2
  cases e4 : cmpD o x y with
  | none =>
    rw [e4] at e3
    cases e3
  | some kb =>
    rw [e4] at e3
    cases e3
    subst h0 hm0
    cases e5
    exact ⟨F2, R2, m2, x, y, _, rh2, t1.ext x2, t2, e4, _, rfl, h F2 R2 H2 (x1.trans x2) rh2⟩

theorem bor_ok {m : ME} {env : Mi.Env} {h h' : MH} {x : D} (e : evE T C m env h = .ok x h') : bor env m h (evE T C m env h) = .ok x h' := by
  cases m with
  | var i =>
    unfold bor
    dsimp only
    cases q : env[i]? with
    | none => exact e
    | some o =>
      cases o with
      | none => exact e
      | some sv =>
        cases sv with
        | val d => exact e
        | own o =>
          have e' : (match env[i]? with
            | some (some (.val d)) => Out.ok d h
            | _ => .no) = .ok x h' := e
          rw [q] at e'
          cases e'
  | _ => exact e
/-- a plain term as a test -/
theorem snd_tplain (hc : CtxOk Z M k X) {m : ME} {e : Expr} (hp : plainT e = true) (h : PE X e (tB Z T C m)) : PT X e (tTe Z T C m) := by
  refine PT.imp (pt_truth h (plainT_of hp X.env)) fun σ H Q q => ?_
  obtain ⟨N, F, R, mh, env, rh, re, q⟩ := q
  obtain ⟨x, m1, e1, q⟩ := PO1.bd (show PO1 ((bor env m mh (evE T C m env mh)).bd _) _ from q)
  obtain ⟨b, e2, q⟩ := PO1.ofO q
  refine ⟨N, F, R, mh, env, rh, re, ?_⟩
  rw [e1]
  intro F1 R1 H1 v1 x1 rh1 t1
  exact ⟨b, tru_d hc.hK rh1 t1 e2, q F1 R1 H1 x1 rh1⟩
/-- what a test says of a term whose value is at hand -/
theorem evT_of {m : ME} {env : Mi.Env} {h h' : MH} {x : D} {b : Bool} (e : evE T C m env h = .ok x h') (t : truD x = some b) : evT T C m env h = .ok b h' := by
  show tru (bor env m h (evE T C m env h)) = _
  rw [bor_ok e]
  show ofO (truD x) h' = _
  rw [t] <;> rfl
theorem snd_tand {a b : ME} {ea eb : Expr} {es : List Expr} {pos : Pos} (ha : PT X ea (tTe Z T C a)) (hb : PW X (.BoolOp .And (eb :: es) pos) (tTe Z T C b)) : PW X (.BoolOp .And (ea :: eb :: es) pos) (tTe Z T C (.and a b)) := by
  refine PW.imp (pw_and ha hb) fun σ H Q q => ?_
  obtain ⟨N, F, R, mh, env, rh, re, q⟩ := q
  obtain ⟨x, m1, e1, q⟩ := PO1.bd (show PO1 ((evE T C (.and a b) env mh).bd _) _ from q)
  obtain ⟨c, e2, q⟩ := PO1.ofO q
  have h0 : PO1 (Out.ok x m1) fun w' m' => w' = x ∧ m' = m1 := ⟨rfl, rfl⟩
  rw [← e1] at h0
  obtain ⟨y, m2, e3, h0⟩ := PO1.bd (show PO1 ((evE T C a env mh).bd _) _ from h0)
  refine ⟨N, F, R, mh, env, rh, re, ?_⟩
  cases y with
  | bl k =>
    rw [evT_of e3 (b := k) rfl]
    intro F1 R1 H1 x1 rh1
    cases k with
    | true =>
      have e4 : evE T C b env m2 = .ok x m1 := by
        cases e5 : evE T C b env m2 with
        | ok z m3 =>
          have h0 : PO1 (evE T C b env m2) (fun w' m' => w' = x ∧ m' = m1) := h0
          rw [e5] at h0
          obtain ⟨r1, r2⟩ := h0
          rw [r1, r2]
        | err _ _ _ =>
          have h0 : PO1 (evE T C b env m2) (fun w' m' => w' = x ∧ m' = m1) := h0
          rw [e5] at h0
          cases h0
        | no =>
          have h0 : PO1 (evE T C b env m2) (fun w' m' => w' = x ∧ m' = m1) := h0
          rw [e5] at h0
          cases h0
      refine ⟨N, F1, R1, m2, env, rh1, re.ext x1, ?_⟩
      rw [evT_of e4 e2]
      exact fun F2 R2 H2 x2 rh2 => q F2 R2 H2 (x1.trans x2) rh2
    | false =>
      obtain ⟨r1, r2⟩ := (show D.bl false = x ∧ m2 = m1 from h0)
      subst r1 r2
      cases e2
      exact q F1 R1 H1 x1 rh1
  | _ => cases h0
theorem snd_tor {a b : ME} {ea eb : Expr} {es : List Expr} {pos : Pos} (ha : PT X ea (tTe Z T C a)) (hb : PW X (.BoolOp .Or (eb :: es) pos) (tTe Z T C b)) : PW X (.BoolOp .Or (ea :: eb :: es) pos) (tTe Z T C (.or a b)) := by
  refine PW.imp (pw_or ha hb) fun σ H Q q => ?_
  obtain ⟨N, F, R, mh, env, rh, re, q⟩ := q
  obtain ⟨x, m1, e1, q⟩ := PO1.bd (show PO1 ((evE T C (.or a b) env mh).bd _) _ from q)
  obtain ⟨c, e2, q⟩ := PO1.ofO q
  have h0 : PO1 (Out.ok x m1) fun w' m' => w' = x ∧ m' = m1 := ⟨rfl, rfl⟩
  rw [← e1] at h0
  obtain ⟨y, m2, e3, h0⟩ := PO1.bd (show PO1 ((evE T C a env mh).bd _) _ from h0)
  refine ⟨N, F, R, mh, env, rh, re, ?_⟩
  cases y with
  | bl k =>
    rw [evT_of e3 (b := k) rfl]
    intro F1 R1 H1 x1 rh1
    cases k with
    | false =>
      have e4 : evE T C b env m2 = .ok x m1 := by
        cases e5 : evE T C b env m2 with
        | ok z m3 =>
          have h0 : PO1 (evE T C b env m2) (fun w' m' => w' = x ∧ m' = m1) := h0
          rw [e5] at h0
          obtain ⟨r1, r2⟩ := h0
          rw [r1, r2]
        | err _ _ _ =>
          have h0 : PO1 (evE T C b env m2) (fun w' m' => w' = x ∧ m' = m1) := h0
          rw [e5] at h0
          cases h0
        | no =>
          have h0 : PO1 (evE T C b env m2) (fun w' m' => w' = x ∧ m' = m1) := h0
          rw [e5] at h0
          cases h0
      refine ⟨N, F1, R1, m2, env, rh1, re.ext x1, ?_⟩
      rw [evT_of e4 e2]
      exact fun F2 R2 H2 x2 rh2 => q F2 R2 H2 (x1.trans x2) rh2
    | true =>
      obtain ⟨r1, r2⟩ := (show D.bl true = x ∧ m2 = m1 from h0)
      subst r1 r2
      cases e2
      exact q F1 R1 H1 x1 rh1
  | _ => cases h0
theorem snd_tnot {a : ME} {ea : Expr} {pos : Pos} (ha : PT X ea (tTe Z T C a)) : PT X (.UnaryOp .Not ea pos) (tTe Z T C (.not a)) := by
  refine PT.imp (pt_not ha) fun σ H Q q => ?_
  obtain ⟨N, F, R, mh, env, rh, re, q⟩ := q
  obtain ⟨x, m1, e1, q⟩ := PO1.bd (show PO1 ((evE T C (.not a) env mh).bd _) _ from q)
  obtain ⟨c, e2, q⟩ := PO1.ofO q
  have h0 : PO1 (Out.ok x m1) fun w' m' => w' = x ∧ m' = m1 := ⟨rfl, rfl⟩
  rw [← e1] at h0
  obtain ⟨y, m2, e3, h0⟩ := PO1.bd (show PO1 ((evE T C a env mh).bd _) _ from h0)
  refine ⟨N, F, R, mh, env, rh, re, ?_⟩
  cases y with
  | bl k =>
    rw [evT_of e3 (b := k) rfl]
    intro F1 R1 H1 x1 rh1
    obtain ⟨r1, r2⟩ := (show D.bl (!k) = x ∧ m2 = m1 from h0)
    subst r1 r2
    cases e2
    exact q F1 R1 H1 x1 rh1
  | _ => cases h0
theorem snd_and {a b : ME} {ea eb : Expr} {es : List Expr} {pos : Pos} (ha : PE X ea (tM Z T C a)) (hb : PE X (.BoolOp .And (eb :: es) pos) (tM Z T C b)) : PE X (.BoolOp .And (ea :: eb :: es) pos) (tM Z T C (.and a b)) := by
  refine PE.imp (pe_and ha hb) fun σ H Q q => ?_
  obtain ⟨N, F, R, mh, env, rh, re, q⟩ := q
  obtain ⟨x, m1, e1, q⟩ := PO1.bd (show PO1 ((evE T C a env mh).bd _) _ from q)
  refine ⟨N, F, R, mh, env, rh, re, ?_⟩
  unfold PD
  rw [e1]
  intro F1 R1 H1 v1 x1 rh1 t1
  cases t1 with
  | bl k =>
    refine ⟨k, rfl, ?_⟩
    cases k with
    | true => exact ⟨N, F1, R1, m1, env, rh1, re.ext x1, by
        cases e5 : evE T C b env m1 with
        | ok z m3 =>
          have q : PO1 (evE T C b env m1) _ := q
          rw [e5] at q
          exact fun F2 R2 H2 v x2 rh2 rd => q F2 R2 H2 v (x1.trans x2) rh2 rd
        | err _ _ _ =>
          have q : PO1 (evE T C b env m1) _ := q
          rw [e5] at q
          cases q
        | no =>
          have q : PO1 (evE T C b env m1) _ := q
          rw [e5] at q
          cases q⟩
    | false => exact q F1 R1 H1 _ x1 rh1 (.bl false)
  | _ => cases q
theorem snd_or {a b : ME} {ea eb : Expr} {es : List Expr} {pos : Pos} (ha : PE X ea (tM Z T C a)) (hb : PE X (.BoolOp .Or (eb :: es) pos) (tM Z T C b)) : PE X (.BoolOp .Or (ea :: eb :: es) pos) (tM Z T C (.or a b)) := by
  refine PE.imp (pe_or ha hb) fun σ H Q q => ?_
  obtain ⟨N, F, R, mh, env, rh, re, q⟩ := q
  obtain ⟨x, m1, e1, q⟩ := PO1.bd (show PO1 ((evE T C a env mh).bd _) _ from q)
  refine ⟨N, F, R, mh, env, rh, re, ?_⟩
  unfold PD
  rw [e1]
  intro F1 R1 H1 v1 x1 rh1 t1
  cases t1 with
  | bl k =>
    refine ⟨k, rfl, ?_⟩
    cases k with
    | false => exact ⟨N, F1, R1, m1, env, rh1, re.ext x1, by
        cases e5 : evE T C b env m1 with
        | ok z m3 =>
          have q : PO1 (evE T C b env m1) _ := q
          rw [e5] at q
          exact fun F2 R2 H2 v x2 rh2 rd => q F2 R2 H2 v (x1.trans x2) rh2 rd
        | err _ _ _ =>
          have q : PO1 (evE T C b env m1) _ := q
          rw [e5] at q
          cases q
        | no =>
          have q : PO1 (evE T C b env m1) _ := q
          rw [e5] at q
          cases q⟩
    | true => exact q F1 R1 H1 _ x1 rh1 (.bl true)
  | _ => cases q
theorem snd_not {a : ME} {ea : Expr} {pos : Pos} (ha : PE X ea (tM Z T C a)) : PE X (.UnaryOp .Not ea pos) (tM Z T C (.not a)) := by
  refine PE.imp (pe_not ha) fun σ H Q q => ?_
  obtain ⟨N, F, R, mh, env, rh, re, q⟩ := q
  obtain ⟨x, m1, e1, q⟩ := PO1.bd (show PO1 ((evE T C a env mh).bd _) _ from q)
  refine ⟨N, F, R, mh, env, rh, re, ?_⟩
  unfold PD
  rw [e1]
  intro F1 R1 H1 v1 x1 rh1 t1
  cases t1 with
  | bl k => exact ⟨k, rfl, q F1 R1 H1 _ x1 rh1 (.bl (!k))⟩
  | _ => cases q
theorem snd_neg {a : ME} {ea : Expr} {pos : Pos} (ha : PE X ea (tM Z T C a)) : PE X (.UnaryOp .USub ea pos) (tM Z T C (.neg a)) := by
  refine PE.imp (pe_un un_neg ha) fun σ H Q q => ?_
  obtain ⟨N, F, R, mh, env, rh, re, q⟩ := q
  obtain ⟨x, m1, e1, q⟩ := PO1.bd (show PO1 ((evE T C a env mh).bd _) _ from q)
  refine ⟨N, F, R, mh, env, rh, re, ?_⟩
  unfold PD
  rw [e1]
  intro F1 R1 H1 v1 x1 rh1 t1
  cases t1 with
  | int i => exact ⟨i, rfl, q F1 R1 H1 _ x1 rh1 (.int _)⟩
  | _ => cases q
theorem snd_inv {a : ME} {ea : Expr} {pos : Pos} (ha : PE X ea (tM Z T C a)) : PE X (.UnaryOp .Invert ea pos) (tM Z T C (.inv a)) := by
  refine PE.imp (pe_un un_inv ha) fun σ H Q q => ?_
  obtain ⟨N, F, R, mh, env, rh, re, q⟩ := q
  obtain ⟨x, m1, e1, q⟩ := PO1.bd (show PO1 ((evE T C a env mh).bd _) _ from q)
  refine ⟨N, F, R, mh, env, rh, re, ?_⟩
  unfold PD
  rw [e1]
  intro F1 R1 H1 v1 x1 rh1 t1
  cases t1 with
  | int i => exact ⟨i, rfl, q F1 R1 H1 _ x1 rh1 (.int _)⟩
  | _ => cases q
theorem snd_ite {t a b : ME} {et ea eb : Expr} {pos : Pos} (ht : PT X et (tTe Z T C t)) (ha : PE X ea (tM Z T C a)) (hb : PE X eb (tM Z T C b)) : PE X (.IfExp et ea eb pos) (tM Z T C (.ite t a b)) := by
  refine PE.imp (pe_ifExp ht ha hb) fun σ H Q q => ?_
  obtain ⟨N, F, R, mh, env, rh, re, q⟩ := q
  obtain ⟨c, m1, e1, q⟩ := PO1.bd (show PO1 ((evT T C t env mh).bd _) _ from q)
  refine ⟨N, F, R, mh, env, rh, re, ?_⟩
  rw [e1]
  intro F1 R1 H1 x1 rh1
  cases c with
  | true =>
    refine ⟨N, F1, R1, m1, env, rh1, re.ext x1, ?_⟩
    have q : PD Z F R H (evE T C a env m1) Q := q
    unfold PD at q ⊢
    cases e5 : evE T C a env m1 with
    | ok z m3 =>
      rw [e5] at q
      exact fun F2 R2 H2 v x2 rh2 rd => q F2 R2 H2 v (x1.trans x2) rh2 rd
    | err _ _ _ =>
      rw [e5] at q
      cases q
    | no =>
      rw [e5] at q
      cases q
  | false =>
    refine ⟨N, F1, R1, m1, env, rh1, re.ext x1, ?_⟩
    have q : PD Z F R H (evE T C b env m1) Q := q
    unfold PD at q ⊢
    cases e5 : evE T C b env m1 with
    | ok z m3 =>
      rw [e5] at q
      exact fun F2 R2 H2 v x2 rh2 rd => q F2 R2 H2 v (x1.trans x2) rh2 rd
    | err _ _ _ =>
      rw [e5] at q
      cases q
    | no =>
      rw [e5] at q
      cases q

theorem PD.shift {F F1 : Hp} {R R1 : List Addr} {H H1 : Hp} {o : Out D} {Q : VK} (x : EX F R H F1 R1 H1) (q : PD Z F R H o Q) : PD Z F1 R1 H1 o Q := by
  unfold PD at q ⊢
  cases o with
  | ok d m => exact fun F2 R2 H2 v x2 rh rd => q F2 R2 H2 v (x.trans x2) rh rd
  | err _ _ _ => cases q
  | no => cases q
theorem snd_con {d : D} {c : Const} {j : Nat} {pos : Pos} (h : mtConst d c = true) : PE X (.Constant c j pos) (tM Z T C (.con d)) := by
  cases d with
  | non => cases c with
    | none => exact PE.imp pe_non fun σ H Q ⟨N, F, R, mh, env, rh, re, q⟩ => q F R H _ EX.refl rh .non
    | _ => cases h
  | bl b => cases c with
    | bool b' =>
      have e : b = b' := eq_of_beq (show (b == b') = true from h)
      subst e
      exact PE.imp pe_bl fun σ H Q ⟨N, F, R, mh, env, rh, re, q⟩ => q F R H _ EX.refl rh (.bl b)
    | _ => cases h
  | int i => cases c with
    | int i' =>
      have e : i = i' := of_decide_eq_true h
      subst e
      exact PE.imp pe_int fun σ H Q ⟨N, F, R, mh, env, rh, re, q⟩ => q F R H _ EX.refl rh (.int i)
    | _ => cases h
  | str x => cases c with
    | str x' =>
      have e : x = x' := of_decide_eq_true h
      subst e
      exact PE.imp pe_str fun σ H Q ⟨N, F, R, mh, env, rh, re, q⟩ => q F R H _ EX.refl rh (.str x)
    | _ => cases h
  | _ => cases c <;> cases h
theorem snd_glo (hc : CtxOk Z M k X) {x y : Str} {i : Int} {pos : Pos} (h : mtGlob X.env.scope y x = true) (hi : M.gi.lookup x = some i) : PE X (.Name y pos) (tM Z T C (.glo x i)) := by
  obtain ⟨h1, h2⟩ := ba2 h
  obtain ⟨h3, h4⟩ := ba2 h2
  obtain rfl : y = x := of_decide_eq_true h1
  obtain ⟨t, ht⟩ := hc.gi y i hi
  exact PE.imp (pe_glob (v := .int i) (gl_of h3) ht ⟨t, rfl⟩ (okName_1 h4)) fun σ H Q ⟨N, F, R, mh, env, rh, re, q⟩ => q F R H _ EX.refl rh (.int i)
theorem isN_rd {F : Hp} {R : List Addr} {d : D} {v : V} (r : RD Z F R d v) : decide (v = .non) = isNonD d := by
  cases r <;> rfl
theorem snd_isn {a : ME} {ea : Expr} {j : Nat} {p pos : Pos} (ha : PE X ea (tM Z T C a)) : PE X (.Compare ea [.Is] [.Constant .none j p] pos) (tM Z T C (.isn a)) := by
  refine PE.imp (pe_cmp (pc_isN ha)) fun σ H Q q => ?_
  obtain ⟨N, F, R, mh, env, rh, re, q⟩ := q
  obtain ⟨x, m1, e1, q⟩ := PO1.bd (show PO1 ((evE T C a env mh).bd _) _ from q)
  refine ⟨N, F, R, mh, env, rh, re, ?_⟩
  unfold PD
  rw [e1]
  intro F1 R1 H1 v1 x1 rh1 t1
  rw [isN_rd t1]
  exact q F1 R1 H1 _ x1 rh1 (.bl _)
theorem snd_notn {a : ME} {ea : Expr} {j : Nat} {p pos : Pos} (ha : PE X ea (tM Z T C a)) : PE X (.Compare ea [.IsNot] [.Constant .none j p] pos) (tM Z T C (.notn a)) := by
  refine PE.imp (pe_cmp (pc_notN ha)) fun σ H Q q => ?_
  obtain ⟨N, F, R, mh, env, rh, re, q⟩ := q
  obtain ⟨x, m1, e1, q⟩ := PO1.bd (show PO1 ((evE T C a env mh).bd _) _ from q)
  refine ⟨N, F, R, mh, env, rh, re, ?_⟩
  unfold PD
  rw [e1]
  intro F1 R1 H1 v1 x1 rh1 t1
  rw [isN_rd t1]
  exact q F1 R1 H1 _ x1 rh1 (.bl _)
theorem snd_tisn {a : ME} {ea : Expr} {j : Nat} {p pos : Pos} (ha : PE X ea (tM Z T C a)) : PT X (.Compare ea [.Is] [.Constant .none j p] pos) (tTe Z T C (.isn a)) := by
  refine PT.imp (pt_cmp (pc_isN ha)) fun σ H Q q => ?_
  obtain ⟨N, F, R, mh, env, rh, re, q⟩ := q
  obtain ⟨w, m0, e0, q⟩ := PO1.bd (show PO1 ((evE T C (.isn a) env mh).bd _) _ from q)
  obtain ⟨x, m1, e1, h0⟩ := PO1.bd (show PO1 ((evE T C a env mh).bd fun x h => .ok (D.bl (isNonD x)) h) (fun w' m' => w' = w ∧ m' = m0) from by
    have : evE T C (.isn a) env mh = ((evE T C a env mh).bd fun x h => .ok (D.bl (isNonD x)) h) := rfl
    rw [← this, e0]
    exact ⟨rfl, rfl⟩)
  obtain ⟨h1, h2⟩ := (show D.bl (isNonD x) = w ∧ m1 = m0 from h0)
  subst h1
  subst h2
  obtain ⟨c, e2, q⟩ := PO1.ofO q
  cases e2
  refine ⟨N, F, R, mh, env, rh, re, ?_⟩
  unfold PD
  rw [e1]
  intro F1 R1 H1 v1 x1 rh1 t1
  rw [isN_rd t1]
  exact ⟨_, rfl, q F1 R1 H1 x1 rh1⟩
theorem snd_tnotn {a : ME} {ea : Expr} {j : Nat} {p pos : Pos} (ha : PE X ea (tM Z T C a)) : PT X (.Compare ea [.IsNot] [.Constant .none j p] pos) (tTe Z T C (.notn a)) := by
  refine PT.imp (pt_cmp (pc_notN ha)) fun σ H Q q => ?_
  obtain ⟨N, F, R, mh, env, rh, re, q⟩ := q
  obtain ⟨w, m0, e0, q⟩ := PO1.bd (show PO1 ((evE T C (.notn a) env mh).bd _) _ from q)
  obtain ⟨x, m1, e1, h0⟩ := PO1.bd (show PO1 ((evE T C a env mh).bd fun x h => .ok (D.bl (!isNonD x)) h) (fun w' m' => w' = w ∧ m' = m0) from by
    have : evE T C (.notn a) env mh = ((evE T C a env mh).bd fun x h => .ok (D.bl (!isNonD x)) h) := rfl
    rw [← this, e0]
    exact ⟨rfl, rfl⟩)
  obtain ⟨h1, h2⟩ := (show D.bl (!isNonD x) = w ∧ m1 = m0 from h0)
  subst h1
  subst h2
  obtain ⟨c, e2, q⟩ := PO1.ofO q
  cases e2
  refine ⟨N, F, R, mh, env, rh, re, ?_⟩
  unfold PD
  rw [e1]
  intro F1 R1 H1 v1 x1 rh1 t1
  rw [isN_rd t1]
  exact ⟨_, rfl, q F1 R1 H1 x1 rh1⟩
theorem snd_nil : PA X [] (tA Z T C .nil) := PA.imp pa_nil fun σ H Q ⟨N, F, R, mh, env, rh, re, q⟩ => q F R H [] EX.refl rh .nil
theorem snd_cons {a : ME} {r : MA} {e : Expr} {es : List Expr} (hs : noStar e = true) (ha : PE X e (tM Z T C a)) (hr : PA X es (tA Z T C r)) : PA X (e :: es) (tA Z T C (.cons a r)) := by
  refine PA.imp (pa_cons ha hr (star_of hs es X.env)) fun σ H Q q => ?_
  obtain ⟨N, F, R, mh, env, rh, re, q⟩ := q
  obtain ⟨x, m1, e1, q⟩ := PO1.bd (show PO1 ((evE T C a env mh).bd _) _ from q)
  obtain ⟨xs, m2, e2, q⟩ := PO1.bd q
  refine ⟨N, F, R, mh, env, rh, re, ?_⟩
  unfold PD
  rw [e1]
  intro F1 R1 H1 v1 x1 rh1 t1
  refine ⟨N, F1, R1, m1, env, rh1, re.ext x1, ?_⟩
  rw [e2]
  exact fun F2 R2 H2 vs x2 rh2 rs => q F2 R2 H2 _ (x1.trans x2) rh2 (.cons (t1.mono x2.f x2.r) rs)
theorem snd_star {a : ME} {r : MA} {e : Expr} {es : List Expr} {p : Pos} (hK : X.K = Z.K) (ha : PE X e (tB Z T C a)) (hr : PA X es (tA Z T C r)) : PA X (.Starred e p :: es) (tA Z T C (.star a r)) := by
  refine PA.imp (StX.pa_star ha hr) fun σ H Q q => ?_
  obtain ⟨N, F, R, mh, env, rh, re, q⟩ := q
  obtain ⟨x, m1, e1, q1⟩ := PO1.bd (show PO1 ((bor env a mh (evE T C a env mh)).bd _) _ from q)
  obtain ⟨xs, m2, e2, q2⟩ := PO1.bd q1
  obtain ⟨ys, m3, e3, q3⟩ := PO1.bd q2
  have e2' : seqD x = some xs ∧ m1 = m2 := by
    cases e : seqD x with
    | none =>
      rw [e] at e2
      cases e2
    | some zs =>
      rw [e] at e2
      cases e2
      exact ⟨rfl, rfl⟩
  obtain ⟨e4, e5⟩ := e2'
  rw [← e5] at e3
  refine ⟨N, F, R, mh, env, rh, re, ?_⟩
  unfold PB
  rw [e1]
  intro F1 R1 H1 v1 x1 rh1 t1
  have fin : ∀ (vs : List V), RDs Z F1 R1 xs vs → (tA Z T C r) σ H1 fun ws H2 => Q (vs ++ ws) H2 := fun vs rs => by
    refine ⟨N, F1, R1, m1, env, rh1, re.ext x1, ?_⟩
    rw [e3]
    exact fun F2 R2 H2 ws x2 rh2 rs2 => q3 F2 R2 H2 _ (x1.trans x2) rh2 ((rs.mono x2.f x2.r).append rs2)
  cases x with
  | tup zs =>
    cases e4
    obtain ⟨p, vs, rfl, hp, rs⟩ := t1.tup
    exact ⟨p, vs, rfl, .inl (SqT.of (rh1.sub _ _ hp)), fin vs rs⟩
  | lst zs =>
    cases e4
    obtain ⟨p, vs, rfl, hp, rs⟩ := t1.lst rh1
    exact ⟨p, vs, rfl, .inr (.inl hp), fin vs rs⟩
  | _ => cases e4
theorem snd_bnil : PA X [] (tAB Z T C .nil) := PA.imp pa_nil fun σ H Q ⟨N, F, R, mh, env, rh, re, q⟩ => q F R H [] EX.refl rh .nil
theorem RTs.ext {F F' : Hp} {R R' : List Addr} {H H' : Hp} (x : EX F R H F' R' H') : ∀ {xs : List D} {vs : List V}, RTs Z F R H xs vs → RTs Z F' R' H' xs vs
  | _, _, .nil => .nil
  | _, _, .cons a r => .cons (a.ext x) (RTs.ext x r)
theorem snd_bcons {a : ME} {r : MA} {e : Expr} {es : List Expr} (hs : noStar e = true) (ha : PE X e (tB Z T C a)) (hr : PA X es (tAB Z T C r)) : PA X (e :: es) (tAB Z T C (.cons a r)) := by
  refine PA.imp (pa_cons ha hr (star_of hs es X.env)) fun σ H Q q => ?_
  obtain ⟨N, F, R, mh, env, rh, re, q⟩ := q
  obtain ⟨x, m1, e1, q⟩ := PO1.bd (show PO1 ((bor env a mh (evE T C a env mh)).bd _) _ from q)
  obtain ⟨xs, m2, e2, q⟩ := PO1.bd q
  refine ⟨N, F, R, mh, env, rh, re, ?_⟩
  unfold PB
  rw [e1]
  intro F1 R1 H1 v1 x1 rh1 t1
  refine ⟨N, F1, R1, m1, env, rh1, re.ext x1, ?_⟩
  rw [e2]
  exact fun F2 R2 H2 vs x2 rh2 rs => q F2 R2 H2 _ (x1.trans x2) rh2 (.cons (t1.ext x2) rs)
theorem snd_tup {es : MA} {xs : List Expr} {j : Nat} {pos : Pos} (ha : PA X xs (tA Z T C es)) : PE X (.Tuple xs j pos) (tM Z T C (.tup es)) := by
  refine PE.imp (pe_tup ha) fun σ H Q q => ?_
  obtain ⟨N, F, R, mh, env, rh, re, q⟩ := q
  obtain ⟨ys, m1, e1, q⟩ := PO1.bd (show PO1 ((evA T C es env mh).bd _) _ from q)
  have q : PD Z F R H (if ys.length ≤ lim then Out.ok (D.tup ys) m1 else .no) Q := q
  by_cases hl : ys.length ≤ lim
  · rw [if_pos hl] at q
    refine ⟨N, F, R, mh, env, rh, re, ?_⟩
    rw [e1]
    intro F1 R1 H1 vs x1 rh1 rs
    refine ⟨by rw [← rs.length]; exact lim_line hl, KQ.tup (mh := m1) (fun F2 R2 H2 w x2 rh2 rd => q F2 R2 H2 w (x1.trans x2) rh2 rd) rh1 rs⟩
  · rw [if_neg hl] at q
    cases q
theorem snd_lst {es : MA} {xs : List Expr} {pos : Pos} (ha : PA X xs (tA Z T C es)) : PE X (.List xs pos) (tM Z T C (.lst es)) := by
  refine PE.imp (pe_lst ha) fun σ H Q q => ?_
  obtain ⟨N, F, R, mh, env, rh, re, q⟩ := q
  obtain ⟨ys, m1, e1, q⟩ := PO1.bd (show PO1 ((evA T C es env mh).bd _) _ from q)
  have q : PD Z F R H (if ys.length ≤ lim then Out.ok (D.lst ys) m1 else .no) Q := q
  by_cases hl : ys.length ≤ lim
  · rw [if_pos hl] at q
    refine ⟨N, F, R, mh, env, rh, re, ?_⟩
    rw [e1]
    intro F1 R1 H1 vs x1 rh1 rs
    refine ⟨by rw [← rs.length]; exact lim_line hl, KQ.lst (mh := m1) (fun F2 R2 H2 w x2 rh2 rd => q F2 R2 H2 w (x1.trans x2) rh2 rd) rh1 rs⟩
  · rw [if_neg hl] at q
    cases q
theorem tM_mono {m : ME} {σ : L2.St} {H : Hp} {Q Q' : VK} (h : tM Z T C m σ H Q) (hq : ∀ v H, Q v H → Q' v H) : tM Z T C m σ H Q' := by
  obtain ⟨N, F, R, mh, env, rh, re, q⟩ := h
  refine ⟨N, F, R, mh, env, rh, re, ?_⟩
  unfold PD at q ⊢
  cases e : evE T C m env mh with
  | ok d m1 =>
    rw [e] at q
    exact fun F' R' H' v x rh rd => hq v H' (q F' R' H' v x rh rd)
  | err _ _ _ =>
    rw [e] at q
    cases q
  | no =>
    rw [e] at q
    cases q
theorem snd_cmp2 (hc : CtxOk Z M k X) {o o' : Cop} {a b c : ME} {ea eb ec : Expr} {pos : Pos} (hm : lastMarks [copOf o, copOf o'] [eb, ec] = false) (ha : PE X ea (tM Z T C a)) (hb : PE X eb (tM Z T C b)) (he : PE X ec (tM Z T C c)) :
    PE X (.Compare ea [copOf o, copOf o'] [eb, ec] pos) (tM Z T C (.cmp2 o o' a b c)) ∧ PT X (.Compare ea [copOf o, copOf o'] [eb, ec] pos) (tTe Z T C (.cmp2 o o' a b c)) := by
  have hu : X.A.units + 70 < cLine := by
    have := hc.room.un
    omega
  have key : ∀ (σ : L2.St) (H : Hp) (Q : VK), tM Z T C (.cmp2 o o' a b c) σ H Q → tChain (rC Z (cmpD o)) (rC Z (cmpD o')) (tM Z T C a) (tM Z T C b) (tM Z T C c) σ H fun x H' => (∃ k, x = .bl k) ∧ Q x H' := by
    intro σ H Q q
    obtain ⟨N, F, R, mh, env, rh, re, q⟩ := q
    obtain ⟨x, m1, e1, q⟩ := PO1.bd (show PO1 ((evE T C a env mh).bd _) _ from q)
    obtain ⟨y, m2, e2, q⟩ := PO1.bd q
    obtain ⟨kb, m3, e3, q⟩ := PO1.bd q
    have e3' : cmpD o x y = some kb ∧ m2 = m3 := by
      cases e : cmpD o x y with
      | none =>
        rw [e] at e3
        cases e3
      | some zs =>
        rw [e] at e3
        cases e3
        exact ⟨rfl, rfl⟩
    obtain ⟨e4, rfl⟩ := e3'
    refine ⟨N, F, R, mh, env, rh, re, ?_⟩
    unfold PD
    rw [e1]
    intro F1 R1 H1 v1 x1 rh1 t1
    refine ⟨N, F1, R1, m1, env, rh1, re.ext x1, ?_⟩
    unfold PD
    rw [e2]
    intro F2 R2 H2 v2 x2 rh2 t2
    refine ⟨F2, R2, m2, x, y, kb, rh2, .inl (t1.mono x2.f x2.r), .inl t2, e4, kb, rfl, ?_⟩
    cases kb with
    | false => exact ⟨⟨false, rfl⟩, q F2 R2 H2 _ (x1.trans x2) rh2 (.bl false)⟩
    | true =>
      obtain ⟨z, m4, e5, q⟩ := PO1.bd (show PO1 ((evE T C c env m2).bd _) _ from q)
      obtain ⟨w, e6, q⟩ := PO1.ofO q
      show tM Z T C c σ H2 _
      refine ⟨N, F2, R2, m2, env, rh2, (re.ext x1).ext x2, ?_⟩
      unfold PD
      rw [e5]
      intro F3 R3 H3 v3 x3 rh3 t3
      cases e7 : cmpD o' y z with
      | none =>
        rw [e7] at e6
        cases e6
      | some kc =>
        rw [e7] at e6
        cases e6
        exact ⟨F3, R3, m4, y, z, kc, rh3, .inl (t2.mono x3.f x3.r), .inl t3, e7, ⟨kc, rfl⟩, q F3 R3 H3 _ ((x1.trans x2).trans x3) rh3 (.bl kc)⟩
  have pc := pe_chain (pos := pos) (op_cmp hc.hK hu o) (op_cmp hc.hK hu o') ha hb he hm
  have ptc := pt_chain (pos := pos) (op_cmp hc.hK hu o) (op_cmp hc.hK hu o') ha hb he hm
  refine ⟨⟨fun pins s σ H Q I q => thn (pc.run pins s σ H _ I (key σ H Q q)) fun a s ⟨v, H', I', r, q⟩ => ⟨v, H', I', r, q.2⟩⟩, ?_⟩
  refine PT.imp ptc fun σ H Q q => ?_
  obtain ⟨N, F, R, mh, env, rh, re, q⟩ := q
  obtain ⟨x, m1, e1, q⟩ := PO1.bd (show PO1 ((evE T C (.cmp2 o o' a b c) env mh).bd _) _ from q)
  obtain ⟨kb, e2, q⟩ := PO1.ofO q
  have z := key σ H (fun v H' => ∀ b, v = .bl b → Q b H') ⟨N, F, R, mh, env, rh, re, by
    unfold PD
    rw [e1]
    intro F1 R1 H1 v1 x1 rh1 t1 b hb
    subst hb
    cases t1
    cases e2
    exact q F1 R1 H1 x1 rh1⟩
  have mono : ∀ (Q Q' : VK), (∀ x H, Q x H → Q' x H) → tChain (rC Z (cmpD o)) (rC Z (cmpD o')) (tM Z T C a) (tM Z T C b) (tM Z T C c) σ H Q → tChain (rC Z (cmpD o)) (rC Z (cmpD o')) (tM Z T C a) (tM Z T C b) (tM Z T C c) σ H Q' := by
    intro Q Q' hq z
    refine tM_mono z fun v1 H1 z => tM_mono z fun v2 H2 ⟨F, R, mh, x, y, b, r1, r2, r3, e, k, e2, z⟩ => ⟨F, R, mh, x, y, b, r1, r2, r3, e, k, e2, ?_⟩
    cases k with
    | false => exact hq _ _ z
    | true =>
      have z : tM Z T C c σ H2 _ := z
      show tM Z T C c σ H2 _
      exact tM_mono z fun v3 H3 ⟨F, R, mh, x, y, b, r1, r2, r3, e, z⟩ => ⟨F, R, mh, x, y, b, r1, r2, r3, e, hq _ _ z⟩
  exact mono _ _ (fun x H ⟨⟨k, e⟩, h⟩ => ⟨k, e, h k e⟩) z

/-! ### places, parts -/
def rIxAll (K : PySem.W.Frag) : R2 := fun x y H Q => rIxL K x y H Q ∨ rIxT K x y H Q ∨ rIxS x y H Q
theorem atI_rd {F : Hp} {R : List Addr} {xs : List D} {vs : List V} {i : Int} {d : D} (r : RDs Z F R xs vs) (h : atI xs i = some d) : ∃ v, atI vs i = some v ∧ RD Z F R d v := by
  unfold atI at h ⊢
  rw [← r.length]
  cases e : ixN xs.length i with
  | none =>
    rw [e] at h
    cases h
  | some j =>
    rw [e] at h
    exact r.get h
theorem snd_idx (hK : X.K = Z.K) {a i : ME} {ea ei : Expr} {pos : Pos} (hs : noSlice ei = true) (ha : PE X ea (tB Z T C a)) (hi : PE X ei (tM Z T C i)) : PE X (.Subscript ea ei pos) (tM Z T C (.idx a i)) := by
  refine PE.imp (pe_ix ix_seq ha hi (plainIx_of hs)) fun σ H Q q => ?_
  obtain ⟨N, F, R, mh, env, rh, re, q⟩ := q
  obtain ⟨x, m1, e1, q1⟩ := PO1.bd (show PO1 ((bor env a mh (evE T C a env mh)).bd _) _ from q)
  obtain ⟨y, m2, e2, q2⟩ := PO1.bd q1
  obtain ⟨z, e3, q3⟩ := PO1.ofO q2
  refine ⟨N, F, R, mh, env, rh, re, ?_⟩
  unfold PB
  rw [e1]
  intro F1 R1 H1 v1 x1 rh1 t1
  refine ⟨N, F1, R1, m1, env, rh1, re.ext x1, ?_⟩
  unfold PD
  rw [e2]
  intro F2 R2 H2 v2 x2 rh2 t2
  have t1 := t1.ext x2
  have fin : ∀ v, RD Z F2 R2 z v → Q v H2 := fun v r => q3 F2 R2 H2 v (x1.trans x2) rh2 r
  cases t2 with
  | int i =>
    cases x with
    | tup xs =>
      obtain ⟨p, vs, rfl, hp, rs⟩ := t1.tup
      obtain ⟨v, e4, r⟩ := atI_rd rs (show atI xs i = some z from e3)
      exact .inr (.inl ⟨p, vs, i, v, rfl, rfl, SqT.of (rh2.sub _ _ hp), e4, fin v r⟩)
    | lst xs =>
      obtain ⟨p, vs, rfl, hp, rs⟩ := t1.lst rh2
      obtain ⟨v, e4, r⟩ := atI_rd rs (show atI xs i = some z from e3)
      exact .inl ⟨p, vs, i, v, rfl, rfl, .inl hp, e4, fin v r⟩
    | str s =>
      obtain rfl := t1.str
      have e3' : (if s.length ≤ lim then (atI s.cps.toList i).map fun c => D.str ⟨#[c]⟩ else none) = some z := e3
      split at e3'
      · rename_i hl
        cases e4 : atI s.cps.toList i with
        | none =>
          rw [e4] at e3'
          cases e3'
        | some c =>
          rw [e4] at e3'
          cases e3'
          exact .inr (.inr ⟨s, i, c, rfl, rfl, lim_line hl, e4, fin _ (.str _)⟩)
      · cases e3'
    | ref n =>
      rcases t1 with t1 | ⟨a, o, h1, h2, h3⟩
      · cases t1 with
        | ref e =>
          obtain ⟨o, e5, ro⟩ := rh2.objs e
          have e3' : (match m2[n]? with
            | some (.lst xs) => atI xs i
            | _ => none) = some z := e3
          rw [e5] at e3'
          cases o with
          | lst xs =>
            obtain ⟨vs, e6, rs⟩ := ro
            obtain ⟨v, e4, r⟩ := atI_rd rs (show atI xs i = some z from e3')
            exact .inl ⟨_, vs, i, v, rfl, rfl, SqL.of e6, e4, fin v r⟩
          | _ => cases e3'
      · cases o <;> cases h2
    | _ => cases e3
  | _ => cases x <;> cases e3
theorem snd_one {e : ME} {x : Expr} (h : PE X x (tM Z T C e)) : L2.PO X (some x) (tOp1 Z T C (.some e)) := by
  refine ⟨fun pins s σ H Q I q => ?_⟩
  obtain ⟨N, F, R, mh, env, rh, re, q⟩ := q
  obtain ⟨d, m1, e1, q⟩ := PO1.bd (show PO1 ((evE T C e env mh).bd _) _ from q)
  refine (po_some h).run pins s σ H Q I ⟨N, F, R, mh, env, rh, re, ?_⟩
  unfold PD
  rw [e1]
  intro F1 R1 H1 v1 x1 rh1 t1
  cases t1 with
  | int i => exact ⟨i, rfl, q F1 R1 H1 x1 rh1⟩
  | _ => exact (q F1 R1 H1 x1 rh1).elim
theorem snd_noPart : L2.PO X none (tOp1 Z T C .none) := by
  refine ⟨fun pins s σ H Q I q => ?_⟩
  obtain ⟨N, F, R, mh, env, rh, re, q⟩ := q
  exact po_none.run pins s σ H Q I (q F R H EX.refl rh)
/-- the three kinds of things that are cut -/
def rSl3 (K : PySem.W.Frag) : V → Option Int → Option Int → Hp → VK → Prop := fun x lo hi H Q => rSlL K x lo hi H Q ∨ (rSlA K x lo hi H Q ∨ rSlS x lo hi H Q)
theorem cut_rd {F : Hp} {R : List Addr} {xs : List D} {vs : List V} {lo hi : Option Int} (r : RDs Z F R xs vs) : RDs Z F R (cutL xs lo hi) (cutV vs lo hi) := by
  unfold cutL cutV
  rw [← r.length]
  exact (r.drop _).take _
theorem cut_whole {xs : List D} {lo hi : Option Int} (h : HT.sIx xs.length 0 lo = 0 ∧ HT.sIx xs.length xs.length hi = xs.length) : cutL xs lo hi = xs := by
  unfold cutL
  rw [h.1, h.2, List.drop_zero, Nat.sub_zero, List.take_length]
theorem snd_sl (hK : X.K = Z.K) {a : ME} {lo hi : MO1} {ea : Expr} {l h : Option Expr} {p2 pos : Pos} (ha : PE X ea (tB Z T C a)) (hl : L2.PO X l (tOp1 Z T C lo)) (hh : L2.PO X h (tOp1 Z T C hi)) :
    PE X (.Subscript ea (.Slice l h none p2) pos) (tM Z T C (.sl a lo hi)) := by
  refine PE.imp (pe_slice (r := rSl3 X.K) (sl_list.or (sl_tupA.or sl_str)) ha hl hh) fun σ H Q q => ?_
  obtain ⟨N, F, R, mh, env, rh, re, q⟩ := q
  obtain ⟨x, m1, e1, q1⟩ := PO1.bd (show PO1 ((bor env a mh (evE T C a env mh)).bd _) _ from q)
  obtain ⟨y, m2, e2, q2⟩ := PO1.bd q1
  obtain ⟨w, m3, e3, q3⟩ := PO1.bd q2
  obtain ⟨z, e4, q4⟩ := PO1.ofO q3
  refine ⟨N, F, R, mh, env, rh, re, ?_⟩
  unfold PB
  rw [e1]
  intro F1 R1 H1 v1 x1 rh1 t1
  refine ⟨N, F1, R1, m1, env, rh1, re.ext x1, ?_⟩
  rw [e2]
  intro F2 R2 H2 x2 rh2
  have go : ∀ yo, slPart y = some yo → tOp1 Z T C hi σ H2 fun u H3 => rSl3 X.K v1 yo u H3 Q := by
    intro yo ey
    refine ⟨N, F2, R2, m2, env, rh2, (re.ext x1).ext x2, ?_⟩
    rw [e3]
    intro F3 R3 H3 x3 rh3
    have t1 := (t1.ext x2).ext x3
    have fin : ∀ wo, slPart w = some wo → rSl3 X.K v1 yo wo H3 Q := by
      intro wo ew
      have e5 : cutD x yo wo = some z := by
        have e4' : (match slPart y, slPart w with
          | some a, some b => cutD x a b
          | _, _ => none) = some z := e4
        rw [ey, ew] at e4'
        exact e4'
      have kq : KQ Z F3 R3 H3 m3 z Q := fun F4 R4 H4 u x4 rh4 rd => q4 F4 R4 H4 u (((x1.trans x2).trans x3).trans x4) rh4 rd
      cases x with
      | tup xs =>
        cases e5
        obtain ⟨p, vs, rfl, hp, rs⟩ := t1.tup
        refine .inr (.inl ⟨p, vs, rfl, SqT.of (rh3.sub _ _ hp), fun hw => ?_, fun _ => kq.tup rh3 (cut_rd rs)⟩)
        rw [← rs.length] at hw
        rw [cut_whole hw] at kq
        exact kq.here rh3 (.tup hp rs)
      | lst xs =>
        cases e5
        obtain ⟨p, vs, rfl, hp, rs⟩ := t1.lst rh3
        exact .inl ⟨p, vs, rfl, .inl hp, kq.lst rh3 (cut_rd rs)⟩
      | str s =>
        have e5' : (if s.length ≤ lim then some (D.str (cutS s yo wo)) else none) = some z := e5
        split at e5'
        · rename_i hz
          cases e5'
          obtain rfl := t1.str
          exact .inr (.inr ⟨s, rfl, lim_line hz, kq.here rh3 (.str _)⟩)
        · cases e5'
      | _ => cases e5
    cases w with
    | none => exact fin none rfl
    | some wd => cases wd with
      | int i => exact fin (some i) rfl
      | _ => cases y with
        | none => cases e4
        | some yd => cases yd <;> cases e4
  cases y with
  | none => exact go none rfl
  | some yd => cases yd with
    | int i => exact go (some i) rfl
    | _ => cases e4

/-! ### isinstance -/
def kdV (Z : NA) : Kd → Value
  | .b n => .type (kdName n)
  | .c k => .ref (Z.ca k)
theorem kd_ty (co : ClOk Z M T X.K X.mg) {F H : Hp} {R : List Addr} {mh : MH} {x : D} {v : V} {kd : Kd} (rh : RH Z F R H mh) (r : RD Z F R x v) (h : kdOf mh x = some kd) (hk : ∀ c, kd = .c c → T.cls c = true) : TyX X.K H v (kdV Z kd) := by
  cases r with
  | non =>
    cases h
    exact .base .non
  | bl b =>
    cases h
    exact .base (.bl b)
  | int i =>
    cases h
    exact .base (.int i)
  | str i =>
    cases h
    exact .base (.str i)
  | tup e _ =>
    cases h
    exact .base (.tup (rh.sub _ _ e))
  | lst e _ =>
    cases h
    rcases e with e | ⟨o, e⟩
    · exact .base (.lst (rh.sub _ _ e))
    · exact .base (.frz (rh.sub _ _ e))
  | @obj a dx c fs fv e _ _ =>
    cases h
    have q := hk c rfl
    exact .base (.ins (rh.sub _ _ e) (co.cl c q) (co.ha c q) co.hn co.htk (co.hm c q))
  | @ref n a e =>
    obtain ⟨o, h1, h2⟩ := rh.objs e
    have h' : (match mh[n]? with
      | some (.ins k _) => some (Kd.c k)
      | some (.lst _) => some (.b 5)
      | _ => none) = some kd := h
    rw [h1] at h'
    cases o with
    | lst xs =>
      cases h'
      obtain ⟨vs, e2, _⟩ := h2
      exact .base (.lst e2)
    | dct kvs => cases h'
    | ndc kvs => cases h'
    | ins c fs =>
      cases h'
      obtain ⟨dx, fv, e2, _⟩ := h2
      have q := hk c rfl
      exact .base (.ins e2 (co.cl c q) (co.ha c q) co.hn co.htk (co.hm c q))
  | cls c => cases h
def tyV (Z : NA) : Ty → Value
  | .int => .type "int" | .bool => .type "bool" | .str => .type "str" | .tuple => .type "tuple" | .list => .type "list" | .cls c => .ref (Z.ca c)
theorem kit_bb {K : PySem.W.Frag} (n : Nat) (hn : n ≤ 5) (t : Ty) (b : Bool) (h : tyD T.cls T.sub (.b n) t = some b) (ht : ∀ c, t ≠ .cls c) : PySem.W.kitOne K (.type (kdName n)) (tyV Z t) = some b := by
  have all : ∀ n, n ≤ 5 → (kitB (kdName n) "int" = some (decide (n = 1 ∨ n = 2)) ∧ kitB (kdName n) "bool" = some (decide (n = 1)) ∧ kitB (kdName n) "str" = some (decide (n = 3)) ∧ kitB (kdName n) "tuple" = some (decide (n = 4)) ∧ kitB (kdName n) "list" = some (decide (n = 5))) := by
    intro n hn
    match n, hn with
    | 0, _ => decide +kernel
    | 1, _ => decide +kernel
    | 2, _ => decide +kernel
    | 3, _ => decide +kernel
    | 4, _ => decide +kernel
    | 5, _ => decide +kernel
  obtain ⟨h1, h2, h3, h4, h5⟩ := all n hn
  cases t with
  | int =>
    cases h
    exact kit_ty h1
  | bool =>
    cases h
    exact kit_ty h2
  | str =>
    cases h
    exact kit_ty h3
  | tuple =>
    cases h
    exact kit_ty h4
  | list =>
    cases h
    exact kit_ty h5
  | cls c => exact absurd rfl (ht c)
theorem kd_le {mh : MH} {x : D} {n : Nat} (h : kdOf mh x = some (.b n)) : n ≤ 5 := by
  cases x with
  | ref m =>
    have h' : (match mh[m]? with
      | some (.ins k _) => some (Kd.c k)
      | some (.lst _) => some (.b 5)
      | _ => none) = some (.b n) := h
    cases e : mh[m]? with
    | none =>
      rw [e] at h'
      cases h'
    | some o =>
      rw [e] at h'
      cases o <;> cases h'
      exact Nat.le_refl 5
  | _ => cases h <;> decide
theorem snd_tyname (hc : CtxOk Z M k X) (co : ClOk Z M T X.K X.mg) {t : Ty} {y : Str} {p : Pos} (ht : ∀ c, t = .cls c → T.cls c = true) (h : mtGlob X.env.scope y (tyName M t) = true) : ∃ c, ClsV c (tyV Z t) ∧ PE X (.Name y p) (tC c) := by
  obtain ⟨h1, h2⟩ := ba2 h
  obtain ⟨h3, h4⟩ := ba2 h2
  have hy : y = tyName M t := of_decide_eq_true h1
  cases t with
  | int =>
    have e : y = "int" := hy
    subst e
    exact ⟨_, .ty "int", pe_bltn (u := .type "int") (gl_of h3) (hc.blt .int) (by decide +kernel) rfl (by decide +kernel) (okName_1 h4)⟩
  | bool =>
    have e : y = "bool" := hy
    subst e
    exact ⟨_, .ty "bool", pe_bltn (u := .type "bool") (gl_of h3) hc.tbl (by decide +kernel) rfl (by decide +kernel) (okName_1 h4)⟩
  | str =>
    have e : y = "str" := hy
    subst e
    exact ⟨_, .ty "str", pe_bltn (u := .type "str") (gl_of h3) (hc.blt .str) (by decide +kernel) rfl (by decide +kernel) (okName_1 h4)⟩
  | tuple =>
    have e : y = "tuple" := hy
    subst e
    exact ⟨_, .ty "tuple", pe_bltn (u := .type "tuple") (gl_of h3) (hc.blt .tuple) (by decide +kernel) rfl (by decide +kernel) (okName_1 h4)⟩
  | list =>
    have e : y = "list" := hy
    subst e
    exact ⟨_, .ty "list", pe_bltn (u := .type "list") (gl_of h3) (hc.blt .list) (by decide +kernel) rfl (by decide +kernel) (okName_1 h4)⟩
  | cls c =>
    have e : y = M.cl c := hy
    subst e
    exact ⟨_, .own (Z.ca c), pe_glob (gl_of h3) (co.gl c (ht c rfl)) rfl (okName_1 h4)⟩
theorem snd_isi (hc : CtxOk Z M k X) (co : ClOk Z M T X.K X.mg) {a : ME} {t : Ty} {ea : Expr} {x y : Str} {p1 p2 pos : Pos} (ht : ∀ c, t = .cls c → T.cls c = true) (h1 : mtGlob X.env.scope x "isinstance" = true) (h2 : mtGlob X.env.scope y (tyName M t) = true) (hs : noStar ea = true)
    (ha : PE X ea (tM Z T C a)) : PE X (.Call (.Name x p1) [ea, .Name y p2] [] pos) (tM Z T C (.isi a t)) := by
  obtain ⟨q1, q2⟩ := ba2 h1
  obtain ⟨q3, q4⟩ := ba2 q2
  obtain rfl : x = "isinstance" := of_decide_eq_true q1
  obtain ⟨c, cv, pc⟩ := snd_tyname (p := p2) hc co ht h2
  have args : PA X [ea, .Name y p2] (tCons (tM Z T C a) (tCons (tC c) tNil)) := pa_cons ha (pa_cons pc pa_nil) (star_of hs _ _)
  refine PE.imp (pe_callB (he := star_of hs _ _) call_isi (gl_of q3) hc.isi (by decide +kernel) args) fun σ H Q q => ?_
  obtain ⟨N, F, R, mh, env, rh, re, q⟩ := q
  obtain ⟨d, m1, e1, q⟩ := PO1.bd (show PO1 ((evE T C a env mh).bd _) _ from q)
  obtain ⟨z, e2, q⟩ := PO1.ofO q
  refine ⟨N, F, R, mh, env, rh, re, ?_⟩
  unfold PD
  rw [e1]
  intro F1 R1 H1 v1 x1 rh1 t1
  cases ek : kdOf m1 d with
  | none =>
    rw [ek] at e2
    cases e2
  | some kd =>
    rw [ek] at e2
    have e2 : (tyD T.cls T.sub kd t).map D.bl = some z := e2
    cases et : tyD T.cls T.sub kd t with
    | none =>
      rw [et] at e2
      cases e2
    | some b =>
      rw [et] at e2
      cases e2
      have kc : ∀ c, kd = .c c → T.cls c = true := fun c e => by
        subst e
        cases t with
        | cls d =>
          have et : (if T.cls c && T.cls d then some (T.sub c d) else none) = some b := et
          split at et
          · rename_i hh
            exact (ba2 hh).1
          · cases et
        | _ =>
          have et : (if T.cls c then some false else none) = some b := et
          split at et
          · rename_i hh
            exact hh
          · cases et
      refine ⟨v1, c, kdV Z kd, tyV Z t, b, rfl, cv, kd_ty co rh1 t1 ek kc, ?_, q F1 R1 H1 _ x1 rh1 (.bl b)⟩
      cases kd with
      | b n =>
        cases t with
        | cls d =>
          cases et
          exact co.bo d n (ht d rfl)
        | int => exact kit_bb (Z := Z) n (kd_le ek) .int b et (fun _ h => nomatch h)
        | bool => exact kit_bb (Z := Z) n (kd_le ek) .bool b et (fun _ h => nomatch h)
        | str => exact kit_bb (Z := Z) n (kd_le ek) .str b et (fun _ h => nomatch h)
        | tuple => exact kit_bb (Z := Z) n (kd_le ek) .tuple b et (fun _ h => nomatch h)
        | list => exact kit_bb (Z := Z) n (kd_le ek) .list b et (fun _ h => nomatch h)
      | c c1 =>
        have hc1 := kc c1 rfl
        cases t with
        | cls d =>
          have et : (if T.cls c1 && T.cls d then some (T.sub c1 d) else none) = some b := et
          rw [hc1, ht d rfl] at et
          cases et
          exact co.oo c1 d hc1 (ht d rfl)
        | int =>
          have et : (if T.cls c1 then some false else none) = some b := et
          rw [hc1] at et
          cases et
          exact co.ob c1 2 hc1
        | bool =>
          have et : (if T.cls c1 then some false else none) = some b := et
          rw [hc1] at et
          cases et
          exact co.ob c1 1 hc1
        | str =>
          have et : (if T.cls c1 then some false else none) = some b := et
          rw [hc1] at et
          cases et
          exact co.ob c1 3 hc1
        | tuple =>
          have et : (if T.cls c1 then some false else none) = some b := et
          rw [hc1] at et
          cases et
          exact co.ob c1 4 hc1
        | list =>
          have et : (if T.cls c1 then some false else none) = some b := et
          rw [hc1] at et
          cases et
          exact co.ob c1 5 hc1
end
end Mi
/-! MiBlt: built-in functions and methods of texts. -/
namespace Mi
open PySem PySem.Spec PyProof.Rows L2

section
variable {Z : NA} {M : NM} {T : CT} {C : Cl} {k : Nat} {X : Cx}
def rCall (Z : NA) (op : List D → Option D) : List V → Hp → VK → Prop := fun vs H Q => ∃ F R mh xs z, RH Z F R H mh ∧ RTs Z F R H xs vs ∧ op xs = some z ∧ KQ Z F R H mh z Q
theorem RTs.one {F H : Hp} {R : List Addr} {x : D} {vs : List V} (h : RTs Z F R H [x] vs) : ∃ v, vs = [v] ∧ RT Z F R H x v := by
  cases h with
  | cons a r =>
    cases r
    exact ⟨_, rfl, a⟩
theorem RTs.two {F H : Hp} {R : List Addr} {x y : D} {vs : List V} (h : RTs Z F R H [x, y] vs) : ∃ v u, vs = [v, u] ∧ RT Z F R H x v ∧ RT Z F R H y u := by
  cases h with
  | cons a r =>
    obtain ⟨u, rfl, b⟩ := r.one
    exact ⟨_, _, rfl, a, b⟩
theorem RTs.length {F H : Hp} {R : List Addr} : ∀ {xs : List D} {vs : List V}, RTs Z F R H xs vs → xs.length = vs.length
  | _, _, .nil => rfl
  | _, _, .cons _ r => congrArg (· + 1) r.length
/-- weaker promise, same rule -/
theorem CallR.imp {f : Value} {r r' : List V → Hp → VK → Prop} (h : CallR X f r) (i : ∀ xs H Q, r' xs H Q → r xs H Q) : CallR X f r' := fun pins s σ H xs us Q I rs q => h pins s σ H xs us Q I rs (i xs H Q q)
theorem CallR.or {f : Value} {r r' : List V → Hp → VK → Prop} (h : CallR X f r) (h' : CallR X f r') : CallR X f (fun xs H Q => r xs H Q ∨ r' xs H Q) := fun pins s σ H xs us Q I rs q => by
  rcases q with q | q
  · exact h pins s σ H xs us Q I rs q
  · exact h' pins s σ H xs us Q I rs q
theorem cb_len : CallR X (.builtin "len") (rCall Z (bltD .len)) := by
  refine CallR.imp call_len fun vs H Q q => ?_
  obtain ⟨F, R, mh, xs, z, rh, rs, e, kq⟩ := q
  match xs, e with
  | [.str s], e =>
    obtain ⟨v, rfl, t⟩ := rs.one
    obtain rfl := t.str
    have e : (if s.length ≤ lim then some (D.int s.length) else none) = some z := e
    split at e
    · rename_i h
      cases e
      exact ⟨_, s.length, rfl, ⟨lim_line h, rfl⟩, kq.here rh (.int _)⟩
    · cases e
  | [.tup ys], e =>
    cases e
    obtain ⟨v, rfl, t⟩ := rs.one
    obtain ⟨p, ws, rfl, hp, rw'⟩ := t.tup
    exact ⟨_, ws.length, rfl, .inr ⟨ws, SqT.of (rh.sub _ _ hp), rfl⟩, by rw [← rw'.length]; exact kq.here rh (.int _)⟩
  | [.lst ys], e =>
    cases e
    obtain ⟨v, rfl, t⟩ := rs.one
    obtain ⟨p, ws, rfl, hp, rw'⟩ := t.lst rh
    exact ⟨_, ws.length, rfl, .inl ⟨ws, .inl hp, rfl⟩, by rw [← rw'.length]; exact kq.here rh (.int _)⟩
theorem mapS {α β : Type} {o : Option α} {f : α → β} {z : β} (h : o.map f = some z) : ∃ a, o = some a ∧ f a = z := by
  cases o with
  | none => cases h
  | some a => exact ⟨a, rfl, Option.some.inj h⟩
theorem cb_sum (hc : X.calm = true) (hK : X.K = Z.K) : CallR X (.builtin "sum") (rCall Z (bltD .sum)) := by
  refine CallR.imp (cr_sum hc) fun vs H Q q => ?_
  obtain ⟨F, R, mh, xs, z, rh, rs, e, kq⟩ := q
  match xs, e with
  | [.lst ys], e =>
    obtain ⟨v, rfl, t⟩ := rs.one
    obtain ⟨p, ws, rfl, hp, rw'⟩ := t.lst rh
    obtain ⟨l, e1, rfl⟩ := mapS (show (intL ys).map (fun l => D.int l.sum) = some z from e)
    obtain rfl := rw'.ints e1
    exact ⟨p, l, rfl, .inl hp, kq.here rh (.int _)⟩
theorem cb_all (hc : X.calm = true) (hK : X.K = Z.K) : CallR X (.builtin "all") (rCall Z (bltD .all)) := by
  refine CallR.imp (cr_all hc) fun vs H Q q => ?_
  obtain ⟨F, R, mh, xs, z, rh, rs, e, kq⟩ := q
  match xs, e with
  | [.lst ys], e =>
    obtain ⟨v, rfl, t⟩ := rs.one
    obtain ⟨p, ws, rfl, hp, rw'⟩ := t.lst rh
    obtain ⟨l, e1, rfl⟩ := mapS (show (blL ys).map (fun l => D.bl (l.all id)) = some z from e)
    obtain rfl := rw'.bools e1
    exact ⟨p, l, rfl, .inl hp, kq.here rh (.bl _)⟩
theorem cb_tuple : CallR X (.type "tuple") (rCall Z (bltD .tuple)) := by
  refine CallR.imp call_tuple_of fun vs H Q q => ?_
  obtain ⟨F, R, mh, xs, z, rh, rs, e, kq⟩ := q
  match xs, e with
  | [x], e =>
    obtain ⟨v, rfl, t⟩ := rs.one
    cases x with
    | lst ys =>
      cases e
      obtain ⟨p, ws, rfl, hp, rw'⟩ := t.lst rh
      exact ⟨p, ws, rfl, .inl ⟨.inl hp, kq.tup rh rw'⟩⟩
    | tup ys =>
      cases e
      obtain ⟨p, ws, rfl, hp, rw'⟩ := t.tup
      exact ⟨p, ws, rfl, .inr ⟨SqT.of (rh.sub _ _ hp), kq.here rh (.tup hp rw')⟩⟩
    | _ => cases e
theorem keys_rd {F : Hp} {R : List Addr} : ∀ {kvs : List (D × D)} {vs : List (Key × V)}, RKs Z F R kvs vs → RDs Z F R (kvs.map (·.1)) (vs.map fun kv => kV kv.1)
  | _, _, .nil => .nil
  | _, _, .cons kk _ r => .cons (by cases kk with
    | int i => exact .int i
    | str x => exact .str x) (keys_rd r)
theorem cb_list (hc : X.calm = true) : CallR X (.type "list") (rCall Z (bltD .list)) := by
  refine CallR.imp (CallR.or call_list_of (call_listD hc)) fun vs H Q q => ?_
  obtain ⟨F, R, mh, xs, z, rh, rs, e, kq⟩ := q
  match xs, e with
  | [x], e =>
    obtain ⟨v, rfl, t⟩ := rs.one
    cases x with
    | lst ys =>
      cases e
      obtain ⟨p, ws, rfl, hp, rw'⟩ := t.lst rh
      exact .inl ⟨p, ws, rfl, .inl (.inl hp), kq.lst rh rw'⟩
    | tup ys =>
      cases e
      obtain ⟨p, ws, rfl, hp, rw'⟩ := t.tup
      exact .inl ⟨p, ws, rfl, .inr (SqT.of (rh.sub _ _ hp)), kq.lst rh rw'⟩
    | dct kvs =>
      cases e
      obtain ⟨p, ws, rfl, hp, rw'⟩ := t.dct
      exact .inr ⟨p, ws, rfl, .inl hp, kq.lst rh (keys_rd rw')⟩
    | _ => cases e
theorem cb_max (hc : X.calm = true) : CallR X (.builtin "max") (rCall Z (bltD .max)) := by
  refine CallR.imp (call_max2 hc) fun vs H Q q => ?_
  obtain ⟨F, R, mh, xs, z, rh, rs, e, kq⟩ := q
  match xs, e with
  | [.int i, .int j], e =>
    cases e
    obtain ⟨v, u, rfl, t1, t2⟩ := rs.two
    obtain rfl := t1.int
    obtain rfl := t2.int
    exact ⟨i, j, rfl, kq.here rh (.int _)⟩
theorem cb_min (hc : X.calm = true) : CallR X (.builtin "min") (rCall Z (bltD .min)) := by
  refine CallR.imp (call_min2 hc) fun vs H Q q => ?_
  obtain ⟨F, R, mh, xs, z, rh, rs, e, kq⟩ := q
  match xs, e with
  | [.int i, .int j], e =>
    cases e
    obtain ⟨v, u, rfl, t1, t2⟩ := rs.two
    obtain rfl := t1.int
    obtain rfl := t2.int
    exact ⟨i, j, rfl, kq.here rh (.int _)⟩
theorem cb_str : CallR X (.type "str") (rCall Z (bltD .str)) := by
  refine CallR.imp call_str_int fun vs H Q q => ?_
  obtain ⟨F, R, mh, xs, z, rh, rs, e, kq⟩ := q
  match xs, e with
  | [.int i], e =>
    obtain ⟨v, rfl, t⟩ := rs.one
    obtain rfl := t.int
    have e : (if i.natAbs.log2 < 1920 then some (D.str (toString i)) else none) = some z := e
    split at e
    · rename_i h
      cases e
      exact ⟨i, rfl, h, kq.here rh (.str _)⟩
    · cases e
theorem cb_int : CallR X (.type "int") (rCall Z (bltD .int)) := by
  refine CallR.imp call_int_str fun vs H Q q => ?_
  obtain ⟨F, R, mh, xs, z, rh, rs, e, kq⟩ := q
  match xs, e with
  | [.str s], e =>
    obtain ⟨v, rfl, t⟩ := rs.one
    obtain rfl := t.str
    have e : (if s.length ≤ 640 then (PySem.intText? s).map D.int else none) = some z := e
    split at e
    · rename_i h
      obtain ⟨n, e1, rfl⟩ := mapS e
      exact ⟨s, n, rfl, e1, h, kq.here rh (.int _)⟩
    · cases e
/-! ### methods of texts -/
def rMeth (Z : NA) (op : D → List D → Option D) : V → List V → Hp → VK → Prop := fun v vs H Q => ∃ F R mh x xs z, RH Z F R H mh ∧ RD Z F R x v ∧ RTs Z F R H xs vs ∧ op x xs = some z ∧ KQ Z F R H mh z Q
theorem MtR.imp {id : String} {r r' : V → List V → Hp → VK → Prop} (h : MtR X id r) (i : ∀ x xs H Q, r' x xs H Q → r x xs H Q) : MtR X id r' := fun pins s σ H x xs v us Q I rv rs q => h pins s σ H x xs v us Q I rv rs (i x xs H Q q)
theorem strs_rd {F : Hp} {R : List Addr} : ∀ l : List Str, RDs Z F R (l.map D.str) (l.map V.str)
  | [] => .nil
  | x :: r => .cons (.str x) (strs_rd r)
theorem cm_split : MtR X "str.split" (rMeth Z (smD .split)) := by
  refine MtR.imp mt_split fun v vs H Q q => ?_
  obtain ⟨F, R, mh, x, xs, z, rh, rv, rs, e, kq⟩ := q
  match x, xs, e with
  | .str a, [.str b], e =>
    cases rv
    obtain ⟨v, rfl, t⟩ := rs.one
    obtain rfl := t.str
    have e : (if b.length ≠ 0 ∧ a.length ≤ lim then some (D.lst ((Txt.split a b).map .str)) else none) = some z := e
    split at e
    · rename_i h
      cases e
      refine ⟨a, b, rfl, rfl, ?_, ?_, kq.lst rh (strs_rd _)⟩
      · cases hb : (b.length == 0) with
        | false => rfl
        | true => exact absurd (eq_of_beq hb) h.1
      · have h2 := h.2
        have l2 : lim + 2 ≤ sizeLine := by decide
        omega
    · cases e
theorem seqD_rt {F H : Hp} {R : List Addr} {mh : MH} {x : D} {v : V} {ys : List D} (rh : RH Z F R H mh) (t : RT Z F R H x v) (h : seqD x = some ys) : ∃ p vs, v = .ref p ∧ RDs Z F R ys vs ∧ (Rd H p (.lst vs) ∨ H p = some (.tup vs)) := by
  cases x with
  | tup zs =>
    cases h
    obtain ⟨p, vs, rfl, hp, rs⟩ := t.tup
    exact ⟨p, vs, rfl, rs, .inr (rh.sub _ _ hp)⟩
  | lst zs =>
    cases h
    obtain ⟨p, vs, rfl, hp, rs⟩ := t.lst rh
    exact ⟨p, vs, rfl, rs, .inl hp⟩
  | _ => cases h
theorem cm_join : MtR X "str.join" (rMeth Z (smD .join)) := by
  refine MtR.imp mt_join fun v vs H Q q => ?_
  obtain ⟨F, R, mh, x, xs, z, rh, rv, rs, e, kq⟩ := q
  match x, xs, e with
  | .str a, [y], e =>
    cases rv
    obtain ⟨v, rfl, t⟩ := rs.one
    have e : ((seqD y).bind fun ys => (strL ys).bind fun l => if (l.map (·.length)).sum + l.length * a.length ≤ lim then some (D.str (Txt.join a l)) else none) = some z := e
    obtain ⟨ys, e1, e⟩ := Option.bind_eq_some_iff.mp e
    obtain ⟨l, e2, e⟩ := Option.bind_eq_some_iff.mp e
    split at e
    · rename_i h
      cases e
      obtain ⟨p, ws, rfl, rw', ho⟩ := seqD_rt rh t e1
      obtain rfl := rw'.strs e2
      refine ⟨a, p, l, rfl, rfl, ?_, Nat.le_trans h (by decide), kq.here rh (.str _)⟩
      rcases ho with ho | ho
      · exact .inl (.inl ho)
      · exact .inr (SqT.of ho)
    · cases e
theorem cm_ends : MtR X "str.endswith" (rMeth Z (smD .endswith)) := by
  refine MtR.imp mt_endswith fun v vs H Q q => ?_
  obtain ⟨F, R, mh, x, xs, z, rh, rv, rs, e, kq⟩ := q
  match x, xs, e with
  | .str a, [.str b], e =>
    cases rv
    cases e
    obtain ⟨v, rfl, t⟩ := rs.one
    obtain rfl := t.str
    exact ⟨a, b, rfl, rfl, kq.here rh (.bl _)⟩
theorem cm_starts : MtR X "str.startswith" (rMeth Z (smD .startswith)) := by
  refine MtR.imp mt_startswith fun v vs H Q q => ?_
  obtain ⟨F, R, mh, x, xs, z, rh, rv, rs, e, kq⟩ := q
  match x, xs, e with
  | .str a, [.str b], e =>
    cases rv
    cases e
    obtain ⟨v, rfl, t⟩ := rs.one
    obtain rfl := t.str
    exact ⟨a, b, rfl, rfl, kq.here rh (.bl _)⟩
end
end Mi
/-! MiEnt: enumerate(a tuple). -/
namespace Mi
open PySem PySem.Spec PyProof.Rows L2

theorem meets_enum_newT (l : Addr) (items : Array Value) :
    Meets (Builtin.«enumerate.__new__» ⟨[.type "enumerate", .ref l], []⟩) (fun _ R s => s.heap.IsTuple l items ∧
      R (.ok (.ret (.ref (s.heap.push { cls := .type "tuple_iterator", data := .fields #[.ref l, .int 0 0] }).objs.size)))
        { s with heap := (s.heap.push { cls := .type "tuple_iterator", data := .fields #[.ref l, .int 0 0] }).push { cls := .type "enumerate", data := .fields #[.none, .bool false, .ref s.heap.objs.size, rawInt 0, .none, .none] } }) :=
  .of_wp fun prog w A R s h => by
    obtain ⟨hp, g, d, tk, os⟩ := s; obtain ⟨hl, h⟩ := h
    have hsub := sub_enumerate
    have hL : Heap.IsTuple (Shared.heap ⟨hp, g, d, tk, os⟩) l items := hl
    obtain ⟨ol, hol, hcl, nl, hdl⟩ := hl
    obtain ⟨cl, dl, dtl, sll⟩ := ol
    obtain rfl : cl = .type "tuple" := hcl
    obtain rfl : dtl = .seq items nl := hdl
    wp_walk using AutoSeq1.wpAny_loadPart' hol
    refine wpAny_stack_any fun st => wpAny_pure ?_
    split
    · rename_i c _ _ _ _ _
      cases (c == Value.type "enumerate")
      · wp_walk using AutoSeq1.wpAny_loadPart' hol, wpAny_pyIter_tuple hL
        exact ⟨_, rfl, h⟩
      · wp_walk using AutoSeq1.wpAny_loadPart' hol, wpAny_pyIter_tuple hL
        exact ⟨_, rfl, h⟩
    · wp_walk using AutoSeq1.wpAny_loadPart' hol, wpAny_pyIter_tuple hL
      exact ⟨_, rfl, h⟩
section
variable {prog : Program} {w : World} {A : Around} {E : Value → Shared → Prop} {s : Shared}
theorem call_enum_tuple {l : Addr} {items : Array Value} {Q : Value → Shared → Prop} (hL : s.heap.IsTuple l items)
    (h : ∀ h', IsEnum h' (s.heap.objs.size + 1) s.heap.objs.size 0 .none → h'.IsTupleIter s.heap.objs.size l 0 → h'.objs.size = s.heap.objs.size + 2 →
      (∀ b o, s.heap.get? b = some o → h'.get? b = some o) → Q (.ref (s.heap.objs.size + 1)) { s with heap := h' }) :
    wpAny (model prog w) A (call (.type "enumerate") [.ref l]) Q E s := by
  refine callType_new F.called_enumerate (by decide) (F.typeCall_enumerate_1 _) (F.newCall_enumerate_1 _) (fun obj => F.args_object_init_2 obj _) F.entry_enumerate_new
    (meets_enum_newT l items) ⟨hL, ?_⟩
  have hz : (s.heap.push { cls := .type "tuple_iterator", data := .fields #[.ref l, .int 0 0] }).objs.size = s.heap.objs.size + 1 := Heap.size_push ..
  show _ ∧ _
  rw [hz]
  have he : IsEnum ((s.heap.push { cls := .type "tuple_iterator", data := .fields #[.ref l, .int 0 0] }).push
      { cls := .type "enumerate", data := .fields #[.none, .bool false, .ref s.heap.objs.size, rawInt 0, .none, .none] }) (s.heap.objs.size + 1) s.heap.objs.size 0 .none := by
    have := Heap.get?_push_size (s.heap.push { cls := .type "tuple_iterator", data := .fields #[.ref l, .int 0 0] })
      (o := { cls := .type "enumerate", data := .fields #[.none, .bool false, .ref s.heap.objs.size, rawInt 0, .none, .none] }) rfl
    rw [hz] at this; exact this
  refine ⟨⟨_, he, rfl⟩, h _ he ⟨_, Heap.get?_push_of_some _ (Heap.get?_push_size _ rfl), rfl, rfl⟩ (by rw [Heap.size_push, hz]) fun b o x => Heap.get?_push_of_some _ (Heap.get?_push_of_some _ x)⟩
end
section
variable {prog : Program} {w : World} {A : Around} {E : Value → Shared → Prop} {s : Shared}
theorem pyNext_enumT_end {e it l : Addr} {i : Nat} {items : Array Value} {j : Int} {old : Value} {Q : Option Value → Shared → Prop} (hh : A.handled = none)
    (he : IsEnum s.heap e it j old) (hit : s.heap.IsTupleIter it l i) (hl : s.heap.IsTuple l items) (hx : items[i]? = none)
    (hQ : ∀ h', Heap.ExtBut it s.heap h' → Q none { s with heap := h' }) : wpAny (model prog w) A (pyNext (.ref e)) Q E s := by
  have hT : s.TypeIs (.ref e) "enumerate" := ⟨_, he, rfl⟩
  unfold pyNext
  refine wpAny_bind (wpAny_attempt (wpAny_callSpecial?_slot (name := Str.ofString "__next__") hT F.slot_enumerate_next
    (wpAny_call_entry F.slot_enumerate_next hT F.entry_enumerate_next ?_ (F.args_enumerate_next_1 _))))
  show wpAny _ _ (field (.ref e) 2 >>= _) _ _ _
  refine wpAny_bind (wpAny_field he rfl (x := .ref it) rfl ?_)
  refine wpAny_bind (wpAny_nextOf_tuple_end hh hit hl hx fun h' x he' hx' => ?_)
  obtain ⟨o, ho, hc⟩ := hx'
  refine wpAny_bind (wpAny_isInstance (T := "StopIteration") (b := true) ⟨o, ho, hc⟩ isSubtype_stop ?_)
  exact wpAny_pure (hQ _ he')
end
def IteT (K : PySem.W.Frag) (a : Addr) : It :=
  ⟨fun i H => ∃ (xs : List V) (x : V), SqT K H a xs ∧ xs[i]? = some x, fun i H v H' => ∃ T x, v = .ref T ∧ H T = none ∧ H' = upd H T (.tup [.int (i : Nat), x]) ∧ ∀ xs, SqT K H a xs → xs[i]? = some x, fun i H => ∃ xs : List V, SqT K H a xs ∧ xs.length ≤ i⟩
theorem iter_apart {h : Heap} {it a e : Addr} {i : Nat} {items : Array Value} {j : Int} {old : Value} (hit : h.IsTupleIter it a i) (p : h.IsTuple a items) (he : IsEnum h e it j old) : a ≠ it ∧ e ≠ a := by
  obtain ⟨o, h1, h2, _⟩ := hit
  obtain ⟨o', h3, h4, _⟩ := p
  refine ⟨fun z => ?_, fun z => ?_⟩
  · rw [z, h1] at h3
    cases h3
    rw [h2] at h4
    injection h4 with h5
    exact absurd h5 (by decide)
  · subst z
    have he : h.get? e = some _ := he
    rw [h3] at he
    injection he with he
    rw [he] at h4
    injection h4 with h5
    exact absurd h5 (by decide)
theorem turn_enumT {P : Program} {w : World} {K : PySem.W.Frag} {elts : List Expr} {kk : Nat} {tpos : Pos} (a e it : Addr) :
    Turn P w K (.Tuple elts kk tpos) (IteT K a) [e, it] e (fun i h => (∃ old, IsEnum h e it ((i : Nat) : Int) old) ∧ h.IsTupleIter it a i ∧ e ≠ it) where
  mem := by simp
  obj := fun i h st b hb => by
    obtain ⟨⟨old, he⟩, ⟨o, ho, hc, hd⟩, _⟩ := st
    have e' : b = e ∨ b = it := by simpa using hb
    rcases e' with z | z
    · rw [z]; exact ⟨_, he, fun v q => nomatch q⟩
    · rw [z]; exact ⟨o, ho, fun v q => by rw [hd] at q; cases q⟩
  keep := fun i h h' st k => let ⟨⟨old, he⟩, hi, hne⟩ := st; ⟨⟨old, k e (by simp) _ he⟩, hi.at fun o q => k it (by simp) o q, hne⟩
  item := by
    intro X hP hw hK hc i pins s σ H E I hf st hg
    subst hP hw hK
    obtain ⟨⟨old, he⟩, hit, hne⟩ := st
    obtain ⟨xs, x, hq, hx⟩ := hg
    obtain ⟨its, rv, p, hz⟩ := I.tuple hq
    have p : s.heap.IsTuple a its.toArray := p
    obtain ⟨u, hu, ru⟩ := rv.get hx
    have hel : e < s.heap.objs.size := Heap.lt_size he
    have hil : it < s.heap.objs.size := by obtain ⟨_, q, _⟩ := hit; exact Heap.lt_size q
    obtain ⟨ap1, ap2⟩ := iter_apart hit p he
    have Dr := Draws.tuple (prog := X.prog) (w := X.w) (A := X.A.in1) (show X.A.in1.handled = none from I.ok.hd hc) it a ap1 its.toArray
    have hi : i < its.toArray.size := by simpa using (List.getElem?_eq_some_iff.mp hu).1
    have hef : e ∉ [it, a] := by simp [hne, ap2]
    refine wpAny_pyNext_enum_itemD Dr he ⟨hit, p⟩ hi hne hef fun u' h' tk hP' ho hit' hT hsz hk => ?_
    obtain rfl : u' = u := by
      have e1 : its.toArray[i]? = some u' := hP'
      have e2 : its[i]? = some u' := by simpa using e1
      rw [hu] at e2
      exact (Option.some.inj e2).symm
    refine ⟨_, rfl, wpAny_letOwnedTupleGo_enum (s := { s with heap := h', toks := tk + 1 }) ho fun h'' he' sb => ?_⟩
    have hT2 : h''.get? s.heap.objs.size = some { cls := .type "tuple", data := .seq #[.int i tk, u'] } := (sb.2 _ (Nat.ne_of_gt hel)).trans hT
    have new : ObjOk X.prog X.w (upd H s.heap.objs.size (.tup [.int (i : Nat), x])) h'' s.heap.objs.size (.tup [.int (i : Nat), x]) :=
      ⟨by show 2 ≤ sizeLine; decide, [.int i tk, u'], .cons ⟨_, rfl⟩ (.cons ru .nil), ⟨_, hT2, rfl, _, rfl⟩⟩
    have I1 : Inv X pins σ (upd H s.heap.objs.size (.tup [.int (i : Nat), x])) { s with heap := h'', toks := tk + 1 } :=
      I.turnedNew (ch := [e, it]) (fun b ob hb q => (sb.2 b (fun z => hb (by simp [z]))).trans (hk b ob (fun z => hb (by simp [z])) (fun z => hb (by simp [z])) q)) hf (Nat.le_refl _) new
    refine ⟨.ref s.heap.objs.size, _, I1, rfl, ⟨_, x, rfl, I.hok.fresh (Nat.le_refl _), rfl, fun ys hy => by rw [I.tuple_inj hy hq]; exact hx⟩, ⟨⟨u', ?_⟩, hit'.1.at fun o q => (sb.2 it (Ne.symm hne)).trans q, hne⟩, fun b hb => ?_⟩
    · have e1 : ((i + 1 : Nat) : Int) = (i : Int) + 1 := by omega
      rw [e1]; exact he'
    · have hb' : b < s.heap.objs.size := by
        have e' : b = e ∨ b = it := by simpa using hb
        rcases e' with z | z
        · rw [z]; exact hel
        · rw [z]; exact hil
      rw [upd_ne (Nat.ne_of_lt hb')]
      exact (hf b hb).1
  done := by
    intro X hP hw hK hc i pins s σ H E I hf st hg
    subst hP hw hK
    obtain ⟨⟨old, he⟩, hit, hne⟩ := st
    obtain ⟨xs, hq, hx⟩ := hg
    obtain ⟨its, rv, p, hz⟩ := I.tuple hq
    have p : s.heap.IsTuple a its.toArray := p
    obtain ⟨f0, f1, f2, f3, f4, f5⟩ := hf it (by simp)
    have hl := rv.length
    refine pyNext_enumT_end (I.ok.hd hc) he hit p (by simp; omega) fun h' eb => ⟨rfl, I.turned (t' := s.toks) (fun b o hb q => eb b o hb q) f0 f1 f3 f4 f5⟩
  self := fun A i s Q E st h => let ⟨⟨_, he⟩, _⟩ := st; wpAny_pyIter_enum he h
/-- over a list or a tuple -/
def iEnum2 (K : PySem.W.Frag) (ta : TA) : TI := fun σ H R => ta σ H fun vs H1 => ∃ a xs, vs = [.ref a] ∧ ((SqL K H1 a xs ∧ R (Ite K a) H1) ∨ (SqT K H1 a xs ∧ R (IteT K a) H1))
theorem pi_enum2 {X : Cx} {e : Expr} {ta : TA} {p pos tpos : Pos} {elts : List Expr} {kk : Nat} (hg : Gl X "enumerate") (hm : X.mg "enumerate" = none) (ha : PA X [e] ta) (hs : starEach [e] X.env = [(false, eval e X.env)]) :
    PI X (.Tuple elts kk tpos) (.Call (.Name "enumerate" p) [e] [] pos) (iEnum2 X.K ta) := by
  refine ⟨fun pins s σ H R I h => ?_⟩
  refine Call_ (ld_blt I hg hm boot_enumerate (PyProof.Rows.callWith_type1 (thn (ha.run pos pins s σ H _ I h) fun us s1 ⟨vs, H1, I1, r1, q1⟩ => ?_) hs rfl))
  obtain ⟨a, xs, ex, q⟩ := q1
  subst ex
  cases r1 with
  | cons r rr =>
    cases rr
    cases r
    have fin : ∀ b, b ∈ [s1.heap.objs.size + 1, s1.heap.objs.size] → s1.heap.objs.size ≤ b := fun b hb => by
      have e' : b = s1.heap.objs.size + 1 ∨ b = s1.heap.objs.size := by simpa using hb
      rcases e' with z | z
      · rw [z]; exact Nat.le_add_right _ _
      · rw [z]; exact Nat.le_refl _
    rcases q with ⟨hq, q⟩ | ⟨hq, q⟩
    · obtain ⟨its, rv, p', hz⟩ := I1.list hq
      refine call_enumerate_list p'.isList fun h' he hit hsz hk => wpAny_pyIter_enum he ?_
      have I2 : Inv X pins σ H1 { s1 with heap := h' } := I1.kept (t' := s1.toks) hk
      exact ⟨s1.heap.objs.size + 1, [s1.heap.objs.size + 1, s1.heap.objs.size], _, _, H1, rfl, I2, turn_enum a (s1.heap.objs.size + 1) s1.heap.objs.size, ⟨⟨.none, he⟩, hit, Nat.succ_ne_self _⟩, fun b hb => I1.fpOk (fin b hb) (I1.hok.fresh (fin b hb)), q⟩
    · obtain ⟨its, rv, p', hz⟩ := I1.tuple hq
      refine call_enum_tuple (show s1.heap.IsTuple a its.toArray from p') fun h' he hit hsz hk => wpAny_pyIter_enum he ?_
      have I2 : Inv X pins σ H1 { s1 with heap := h' } := I1.kept (t' := s1.toks) hk
      exact ⟨s1.heap.objs.size + 1, [s1.heap.objs.size + 1, s1.heap.objs.size], _, _, H1, rfl, I2, turn_enumT a (s1.heap.objs.size + 1) s1.heap.objs.size, ⟨⟨.none, he⟩, hit, Nat.succ_ne_self _⟩, fun b hb => I1.fpOk (fin b hb) (I1.hok.fresh (fin b hb)), q⟩
theorem walk_enumT {K : PySem.W.Frag} {a : Addr} {xs : List V} : Walk (IteT K a) xs.length (fun H => SqT K H a xs) (YPair (fun i => some (.int (i : Nat))) (fun i => xs[i]?)) := by
  refine ⟨fun i _ hi q => ⟨xs, xs[i], q, by simp [hi]⟩, fun _ q => ⟨xs, q, Nat.le_refl _⟩, fun i H v H' _ q y => ?_⟩
  obtain ⟨T, x, h1, h2, h3, h4⟩ := y
  exact ⟨T, .int (i : Nat), x, h1, h2, h3, rfl, h4 xs q⟩
end Mi
/-! MiIt: targets, what is walked, comprehensions. -/
namespace Mi
open PySem PySem.Spec PyProof.Rows L2

section
variable {Z : NA} {N : EN} {F F' F2 H H' H2 : Hp} {R R' R2 : List Addr} {mh mh' : MH} {env : Mi.Env} {σ : L2.St}
theorem RE.set (i : Nat) {d : D} {v : V} (re : RE Z N F R H env σ) (r : RD Z F R d v) : RE Z N F R H (env.set i (some (.val d))) (σ.set i (some v)) where
  len := by rw [List.length_set, List.length_set]; exact re.len
  val := fun j d' e => by
    rw [List.getElem?_set] at e ⊢
    by_cases h : i = j
    · rw [if_pos h] at e ⊢
      split at e
      · rename_i hl
        rw [if_pos (by rw [← re.len]; exact hl)]
        cases e
        exact ⟨v, rfl, r⟩
      · cases e
    · rw [if_neg h] at e ⊢
      exact re.val j d' e
  own := fun j o e => by
    rw [List.getElem?_set] at e ⊢
    by_cases h : i = j
    · rw [if_pos h] at e
      split at e <;> cases e
    · rw [if_neg h] at e ⊢
      exact re.own j o e
  sep := fun j k o u a e1 e2 s1 s2 => by
    rw [List.getElem?_set] at e1 e2 s1 s2
    by_cases h : i = j
    · rw [if_pos h] at e1
      split at e1 <;> cases e1
    · by_cases h' : i = k
      · rw [if_pos h'] at e2
        split at e2 <;> cases e2
      · rw [if_neg h] at e1 s1
        rw [if_neg h'] at e2 s2
        exact re.sep j k o u a e1 e2 s1 s2
  self := fun a c fs hs e => by
    rw [List.getElem?_set] at e ⊢
    by_cases h : i = 0
    · rw [if_pos h] at e
      split at e <;> cases e
    · rw [if_neg h] at e ⊢
      exact re.self a c fs hs e
theorem RE.drop (i : Nat) (re : RE Z N F R H env σ) : RE Z N F R H (env.set i none) (σ.set i none) where
  len := by rw [List.length_set, List.length_set]; exact re.len
  val := fun j d' e => by
    rw [List.getElem?_set] at e ⊢
    by_cases h : i = j
    · rw [if_pos h] at e
      split at e <;> cases e
    · rw [if_neg h] at e ⊢
      exact re.val j d' e
  own := fun j o e => by
    rw [List.getElem?_set] at e ⊢
    by_cases h : i = j
    · rw [if_pos h] at e
      split at e <;> cases e
    · rw [if_neg h] at e ⊢
      exact re.own j o e
  sep := fun j k o u a e1 e2 s1 s2 => by
    rw [List.getElem?_set] at e1 e2 s1 s2
    by_cases h : i = j
    · rw [if_pos h] at e1
      split at e1 <;> cases e1
    · by_cases h' : i = k
      · rw [if_pos h'] at e2
        split at e2 <;> cases e2
      · rw [if_neg h] at e1 s1
        rw [if_neg h'] at e2 s2
        exact re.sep j k o u a e1 e2 s1 s2
  self := fun a c fs hs e => by
    rw [List.getElem?_set] at e ⊢
    by_cases h : i = 0
    · rw [if_pos h] at e
      split at e <;> cases e
    · rw [if_neg h] at e ⊢
      exact re.self a c fs hs e
/-- the slot is looked at no more, its value may stay -/
theorem RE.hide (i : Nat) (re : RE Z N F R H env σ) : RE Z N F R H (env.set i none) σ where
  len := by rw [List.length_set]; exact re.len
  val := fun j d' e => by
    rw [List.getElem?_set] at e
    by_cases h : i = j
    · rw [if_pos h] at e
      split at e <;> cases e
    · rw [if_neg h] at e
      exact re.val j d' e
  own := fun j o e => by
    rw [List.getElem?_set] at e
    by_cases h : i = j
    · rw [if_pos h] at e
      split at e <;> cases e
    · rw [if_neg h] at e
      exact re.own j o e
  sep := fun j k o u a e1 e2 s1 s2 => by
    rw [List.getElem?_set] at e1 e2
    by_cases h : i = j
    · rw [if_pos h] at e1
      split at e1 <;> cases e1
    · by_cases h' : i = k
      · rw [if_pos h'] at e2
        split at e2 <;> cases e2
      · rw [if_neg h] at e1
        rw [if_neg h'] at e2
        exact re.sep j k o u a e1 e2 s1 s2
  self := fun a c fs hs e => by
    rw [List.getElem?_set] at e
    by_cases h : i = 0
    · rw [if_pos h] at e
      split at e <;> cases e
    · rw [if_neg h] at e
      exact re.self a c fs hs e
theorem RE.wipe (re : RE Z N F R H env σ) : ∀ vs : List Nat, RE Z N F R H (wipeE env vs) (L2.wipe σ vs)
  | [] => re
  | v :: vs => (RE.wipe re vs).drop v
/-- σ with the slots set -/
def setMany : List Nat → List V → L2.St → L2.St
  | i :: is, v :: vs, σ => setMany is vs (σ.set i (some v))
  | _, _, σ => σ
theorem bindMany_re : ∀ {is : List Nat} {xs : List D} {vs : List V} {env env' : Mi.Env} {σ : L2.St}, RE Z N F R H env σ → RDs Z F R xs vs → bindMany is xs env = some env' → is.length = vs.length ∧ RE Z N F R H env' (setMany is vs σ)
  | [], [], _, _, _, _, re, .nil, h => by
    cases h
    exact ⟨rfl, re⟩
  | i :: is, x :: xs, _, _, _, _, re, .cons r rs, h => by
    obtain ⟨h1, h2⟩ := bindMany_re (re.set i r) rs h
    exact ⟨congrArg (· + 1) h1, h2⟩
end
section
variable {Z : NA} {M : NM} {T : CT} {C : Cl} {k : Nat} {X : Cx}
def gMany (is : List Nat) : TGs := fun vs σ H Q => is.length = vs.length ∧ Q (setMany is vs σ) H
theorem PGs.imp {ts : List Expr} {t t' : TGs} (h : PGs X ts t) (i : ∀ vs σ H Q, t' vs σ H Q → t vs σ H Q) : PGs X ts t' := ⟨fun pins s σ H vs us Q I r q => h.run pins s σ H vs us Q I r (i vs σ H Q q)⟩
theorem PG.imp {ts : Expr} {t t' : TG} (h : PG X ts t) (i : ∀ v σ H Q, t' v σ H Q → t v σ H Q) : PG X ts t' := ⟨fun pins s σ H v u Q I r q => h.run pins s σ H v u Q I r (i v σ H Q q)⟩
theorem tgOk_of {x : Str} (h : tgOk X.fn X.env.scope x = true) : Loc X.env.scope x ∧ (X.fn x = true ∨ X.env.scope.names.lookup x = some .local) := by
  unfold tgOk at h
  cases e : X.env.scope.names.lookup x with
  | none =>
    rw [e] at h
    cases h
  | some q =>
    rw [e] at h
    cases q with
    | «local» => exact ⟨.inl e, .inr rfl⟩
    | cell => exact ⟨.inr e, .inl h⟩
    | free => cases h
    | globalExplicit => cases h
    | globalImplicit => cases h
theorem pg_one (hN : X.N.Nodup) {i : Nat} {e : Expr} (h : mgName X.N X.fn X.env.scope i e = true) : PG X e (gName i) := by
  cases e with
  | Name x p =>
    obtain ⟨h1, h2⟩ := ba2 h
    obtain ⟨h3, h4⟩ := tgOk_of h2
    exact pg_name hN (of_decide_eq_true h1) h3 h4
  | _ => cases h
theorem asg_name {x : Str} {p : Pos} (es : List Expr) (env : PySem.Env) : assignEach (.Name x p :: es) env = (false, assign (.Name x p) env) :: assignEach es env := rfl
theorem pgs_many (hN : X.N.Nodup) : ∀ {is : List Nat} {es : List Expr}, mgs X.N X.fn X.env.scope is es = true → PGs X es (gMany is) ∧ (assignEach es X.env).length = is.length ∧ (assignEach es X.env).findIdx? (·.1) = none
  | [], [], _ => by
    refine ⟨PGs.imp pgs_nil fun vs σ H Q q => ?_, rfl, rfl⟩
    obtain ⟨q1, q2⟩ := q
    cases vs with
    | nil => exact ⟨rfl, q2⟩
    | cons _ _ => cases q1
  | i :: is, e :: es, h => by
    obtain ⟨h1, h2⟩ := ba2 h
    obtain ⟨r1, r2, r3⟩ := pgs_many hN h2
    have p1 := pg_one hN h1
    cases e with
    | Name x p =>
      refine ⟨PGs.imp (pgs_cons p1 r1 (by rw [asg_name]; rfl)) fun vs σ H Q q => ?_, ?_, ?_⟩
      · obtain ⟨q1, q2⟩ := q
        cases vs with
        | nil => cases q1
        | cons v vs => exact ⟨v, vs, rfl, Nat.succ.inj q1, q2⟩
      · rw [asg_name]
        exact congrArg (· + 1) r2
      · rw [asg_name, List.findIdx?_cons, r3]
        rfl
    | _ => cases h1
def gTg (K : PySem.W.Frag) : Tg → TG
  | .one i => gName i
  | .many is => gTup K is.length (gMany is)
theorem pg_of (hN : X.N.Nodup) (hc : X.calm = true) {tg : Tg} {e : Expr} (h : mg X.N X.fn X.env.scope tg e = true) : PG X e (gTg X.K tg) := by
  cases tg with
  | one i => exact pg_one hN h
  | many is =>
    cases e with
    | Tuple es j p =>
      obtain ⟨h1, h2, h3⟩ := pgs_many hN (show mgs X.N X.fn X.env.scope is es = true from h)
      exact pg_tup hc h1 h2 h3
    | _ => cases h
theorem wipe_get : ∀ (vs : List Nat) (σ : L2.St) (j : Nat), (L2.wipe σ vs)[j]? = if vs.contains j then σ[j]?.map (fun _ => none) else σ[j]?
  | [], σ, j => rfl
  | v :: vs, σ, j => by
    have ih := wipe_get vs σ j
    show ((L2.wipe σ vs).set v none)[j]? = _
    rw [List.getElem?_set]
    by_cases h : v = j
    · subst h
      rw [if_pos rfl]
      have hc : (v :: vs).contains v = true := by simp
      rw [hc, if_pos rfl]
      by_cases hl : v < (L2.wipe σ vs).length
      · rw [if_pos hl]
        have hl' : v < σ.length := by rw [wipe_length] at hl; exact hl
        rw [List.getElem?_eq_getElem hl']
        rfl
      · rw [if_neg hl]
        have hl' : ¬ v < σ.length := by rw [wipe_length] at hl; exact hl
        rw [List.getElem?_eq_none (Nat.le_of_not_lt hl')]
        rfl
    · rw [if_neg h, ih]
      have hc : (v :: vs).contains j = vs.contains j := by
        rw [List.contains_cons]
        have : (j == v) = false := by
          cases e : (j == v) with
          | false => rfl
          | true => exact absurd (eq_of_beq e).symm h
        rw [this, Bool.false_or]
      rw [hc]
where
  wipe_length : ∀ {σ : L2.St} {vs : List Nat}, (L2.wipe σ vs).length = σ.length
    | _, [] => rfl
    | σ, v :: vs => by
      show ((L2.wipe σ vs).set v none).length = _
      rw [List.length_set]
      exact wipe_length
theorem wipe_wipe (vs : List Nat) (σ : L2.St) : L2.wipe (L2.wipe σ vs) vs = L2.wipe σ vs := by
  refine List.ext_getElem? fun j => ?_
  rw [wipe_get vs (L2.wipe σ vs) j, wipe_get vs σ j]
  by_cases h : vs.contains j = true
  · rw [if_pos h, if_pos h]
    cases σ[j]? <;> rfl
  · rw [if_neg h]
theorem wipe_set {vs : List Nat} {i : Nat} {x : Option V} (h : vs.contains i = true) (σ : L2.St) : L2.wipe (σ.set i x) vs = L2.wipe σ vs := by
  refine List.ext_getElem? fun j => ?_
  rw [wipe_get, wipe_get, List.getElem?_set]
  by_cases e : i = j
  · subst e
    rw [if_pos h, if_pos h, if_pos rfl]
    by_cases hl : i < σ.length
    · rw [if_pos hl, List.getElem?_eq_getElem hl]
      rfl
    · rw [if_neg hl, List.getElem?_eq_none (Nat.le_of_not_lt hl)]
  · rw [if_neg e]
theorem wipe_many {vs : List Nat} : ∀ {is : List Nat} (us : List V) (σ : L2.St), (is.all fun i => vs.contains i) = true → L2.wipe (setMany is us σ) vs = L2.wipe σ vs
  | [], _, _, _ => rfl
  | _ :: _, [], _, _ => rfl
  | i :: is, u :: us, σ, h => by
    obtain ⟨h1, h2⟩ := ba2 (show (vs.contains i && is.all fun i => vs.contains i) = true from h)
    exact (wipe_many us _ h2).trans (wipe_set h1 σ)
/-- what a target does, the small interpreter does -/
theorem gTg_re {N : EN} {F H : Hp} {R : List Addr} {mh : MH} {tg : Tg} {x : D} {v : V} {env env' : Mi.Env} {σ : L2.St} {Q : L2.St → Hp → Prop} (rh : RH Z F R H mh) (re : RE Z N F R H env σ) (r : RD Z F R x v) (h : bindT tg x env = some env')
    (q : ∀ σ', RE Z N F R H env' σ' → (∀ vs, tgSub vs tg = true → L2.wipe σ' vs = L2.wipe σ vs) → Q σ' H) : gTg X.K tg v σ H Q := by
  cases tg with
  | one i =>
    cases h
    exact q _ (re.set i r) fun vs hv => wipe_set hv σ
  | many is =>
    cases x with
    | tup xs =>
      cases r with
      | tup hp rs =>
        obtain ⟨h1, h2⟩ := bindMany_re re rs (show bindMany is xs env = some env' from h)
        exact ⟨_, _, rfl, SqT.of (rh.sub _ _ hp), h1.symm, h1, q _ h2 fun vs hv => wipe_many _ σ hv⟩
    | _ => cases h
/-! ### what is walked -/
def FX (F : Hp) (R : List Addr) (F' : Hp) (R' : List Addr) : Prop := (∀ a o, F a = some o → F' a = some o) ∧ R <+: R'
theorem FX.of {F H F' H' : Hp} {R R' : List Addr} (x : EX F R H F' R' H') : FX F R F' R' := ⟨x.f, x.r⟩
theorem FX.trans {F F1 F2 : Hp} {R R1 R2 : List Addr} (a : FX F R F1 R1) (b : FX F1 R1 F2 R2) : FX F R F2 R2 := ⟨fun x o h => b.1 x o (a.1 x o h), a.2.trans b.2⟩
theorem FX.refl {F : Hp} {R : List Addr} : FX F R F R := ⟨fun _ _ h => h, List.prefix_refl R⟩
/-- xs is what J walks, as long as W holds of what stands still and of the heap -/
def ItW (Z : NA) (W : Hp → List Addr → Hp → Prop) (xs : List D) (J : It) : Prop := ∃ G Y, Walk J xs.length G Y ∧ (∀ F' R' H' mh, W F' R' H' → RH Z F' R' H' mh → G H') ∧
  ∀ i F' R' H' mh v H2, W F' R' H' → RH Z F' R' H' mh → i < xs.length → Y i H' v H2 → ∃ F2, EX F' R' H' F2 R' H2 ∧ RH Z F2 R' H2 mh ∧ ∃ d, xs[i]? = some d ∧ RD Z F2 R' d v
/-- b: looked at only while nothing that is owned changes -/
def WI (b : Bool) (F : Hp) (R : List Addr) (H : Hp) : Hp → List Addr → Hp → Prop := fun F' R' H' => if b then EX F R H F' R' H' else FX F R F' R'
theorem WI.fx {b : Bool} {F F' H H' : Hp} {R R' : List Addr} (h : WI b F R H F' R' H') : FX F R F' R' := by
  cases b with
  | true => exact .of h
  | false => exact h
def tI (Z : NA) (T : CT) (C : Cl) (b : Bool) (m : MI) : TI := fun σ H Q => ∃ N F R mh env, RH Z F R H mh ∧ RE Z N F R H env σ ∧ PO1 (evI T C b m env mh) fun xs mh' => ∀ F' R' H' J, EX F R H F' R' H' → RH Z F' R' H' mh' → ItW Z (WI b F' R' H') xs J → Q J H'
theorem itw_seqF {W : Hp → List Addr → Hp → Prop} {F : Hp} {R : List Addr} {xs : List D} {vs : List V} {J : It} {S : Hp → List V → Prop} (w : Walk J vs.length (fun H => S H vs) (YAt vs)) (rs : RDs Z F R xs vs) (hw : ∀ F' R' H', W F' R' H' → FX F R F' R')
    (hS : ∀ F' R' H' mh, W F' R' H' → RH Z F' R' H' mh → S H' vs) : ItW Z W xs J := by
  refine ⟨_, _, by rw [rs.length]; exact w, hS, fun i F' R' H' mh v H2 hW rh hi hy => ?_⟩
  obtain ⟨rfl, hv⟩ := hy
  obtain ⟨u, e, r⟩ := rs.get (List.getElem?_eq_getElem hi)
  rw [hv] at e
  cases e
  have fx := hw _ _ _ hW
  exact ⟨F', EX.refl, rh, _, List.getElem?_eq_getElem hi, r.mono fx.1 fx.2⟩
/-- a list or tuple, in the hand -/
theorem itw_lst {b : Bool} {F H : Hp} {R : List Addr} {mh : MH} {a : Addr} {xs : List D} {vs : List V} (rh : RH Z F R H mh) (rs : RDs Z F R xs vs) (h : Rd F a (.lst vs) ∨ b = true ∧ H a = some (.lst vs) ∧ a ∉ R) : ItW Z (WI b F R H) xs (Itl X.K a) := by
  refine itw_seqF (S := fun H vs => SqL X.K H a vs) walk_list rs (fun _ _ _ h => h.fx) fun F' R' H' mh' hW rh' => ?_
  rcases h with h | ⟨rfl, h, hn⟩
  · exact .inl (rd_mono rh'.sub (rd_mono hW.fx.1 h))
  · have hW : EX F R H F' R' H' := hW
    exact .inl (.inl (hW.keep _ _ h hn))
theorem itw_tup {b : Bool} {F H : Hp} {R : List Addr} {a : Addr} {xs : List D} {vs : List V} (rs : RDs Z F R xs vs) (h : F a = some (.tup vs)) : ItW Z (WI b F R H) xs (Itt X.K a) := by
  refine itw_seqF (S := fun H vs => SqT X.K H a vs) walk_tup rs (fun _ _ _ h => h.fx) fun F' R' H' mh' hW rh' => ?_
  exact SqT.of (rh'.sub _ _ (hW.fx.1 _ _ h))
theorem RT.lst2 {F H : Hp} {R : List Addr} {mh : MH} {xs : List D} {v : V} (rh : RH Z F R H mh) (t : RT Z F R H (.lst xs) v) : ∃ a vs, v = .ref a ∧ RDs Z F R xs vs ∧ (Rd F a (.lst vs) ∨ H a = some (.lst vs) ∧ a ∉ R) := by
  rcases t with t | ⟨a, o, h1, h2, h3⟩
  · cases t with
    | lst h r => exact ⟨_, _, rfl, r, .inl h⟩
  · cases o with
    | lst ys =>
      cases h2
      obtain ⟨⟨vs, e, r⟩, _, hn⟩ := h3
      exact ⟨a, vs, h1, r, .inr ⟨e, hn⟩⟩
    | _ => cases h2
/-- reading of a term, borrowed or not -/
def PBb (b : Bool) (F : Hp) (R : List Addr) (H : Hp) (o : Out D) (Q : VK) : Prop := PO1 o fun d mh' => ∀ F' R' H' v, EX F R H F' R' H' → RH Z F' R' H' mh' → (if b then RT Z F' R' H' d v else RD Z F' R' d v) → Q v H'
def tBb (Z : NA) (T : CT) (C : Cl) (b : Bool) (m : ME) : TE := fun σ H Q => ∃ N F R mh env, RH Z F R H mh ∧ RE Z N F R H env σ ∧ PBb (Z := Z) b F R H (if b then bor env m mh (evE T C m env mh) else evE T C m env mh) Q
theorem snd_bb (b : Bool) {m : ME} {e : Expr} (h1 : PE X e (tM Z T C m)) (h2 : PE X e (tB Z T C m)) : PE X e (tBb Z T C b m) := by
  cases b with
  | true => exact h2
  | false => exact h1
theorem isL_of {x : D} {xs : List D} (h : seqD x = some xs) : x = .lst xs ∨ x = .tup xs := by
  cases x with
  | lst ys =>
    cases h
    exact .inl rfl
  | tup ys =>
    cases h
    exact .inr rfl
  | _ => cases h
theorem snd_iseq {b : Bool} {a : ME} {e tg : Expr} (h : PE X e (tBb Z T C b a)) : PI X tg e (tI Z T C b (.seq a)) := by
  refine ⟨fun pins s σ H Q I q => ?_⟩
  obtain ⟨N, F, R, mh, env, rh, re, q⟩ := q
  obtain ⟨x, m1, e1, q⟩ := PO1.bd (show PO1 ((if b then bor env a mh (evE T C a env mh) else evE T C a env mh).bd _) _ from q)
  obtain ⟨xs, e2, q⟩ := PO1.ofO q
  rcases isL_of e2 with rfl | rfl
  · refine (pi_list h).run pins s σ H Q I ⟨N, F, R, mh, env, rh, re, ?_⟩
    unfold PBb
    rw [e1]
    intro F1 R1 H1 v x1 rh1 t1
    have k : ∃ a vs, v = .ref a ∧ RDs Z F1 R1 xs vs ∧ (Rd F1 a (.lst vs) ∨ b = true ∧ H1 a = some (.lst vs) ∧ a ∉ R1) := by
      cases b with
      | true =>
        obtain ⟨a, vs, h1, h2, h3⟩ := RT.lst2 rh1 t1
        refine ⟨a, vs, h1, h2, ?_⟩
        rcases h3 with h3 | h3
        · exact .inl h3
        · exact .inr ⟨rfl, h3⟩
      | false =>
        cases (show RD Z F1 R1 (.lst xs) v from t1) with
        | lst h r => exact ⟨_, _, rfl, r, .inl h⟩
    obtain ⟨a, vs, rfl, rs, ho⟩ := k
    refine ⟨a, rfl, ⟨vs, ?_⟩, q F1 R1 H1 _ x1 rh1 (itw_lst rh1 rs ho)⟩
    rcases ho with ho | ⟨_, ho, _⟩
    · exact .inl (rd_mono rh1.sub ho)
    · exact .inl (.inl ho)
  · refine (pi_tup h).run pins s σ H Q I ⟨N, F, R, mh, env, rh, re, ?_⟩
    unfold PBb
    rw [e1]
    intro F1 R1 H1 v x1 rh1 t1
    have k : ∃ a vs, v = .ref a ∧ F1 a = some (.tup vs) ∧ RDs Z F1 R1 xs vs := by
      cases b with
      | true => exact RT.tup t1
      | false => exact RT.tup (H := H1) (.of t1)
    obtain ⟨a, vs, rfl, ho, rs⟩ := k
    exact ⟨a, rfl, ⟨vs, SqT.of (rh1.sub _ _ ho)⟩, q F1 R1 H1 _ x1 rh1 (itw_tup rs ho)⟩
theorem rngD_len (lo hi : Int) : (rngD lo hi).length = (hi - lo).toNat := by
  unfold rngD
  rw [List.length_map, List.length_range]
theorem rngD_get {lo hi : Int} {i : Nat} (h : i < (rngD lo hi).length) : (rngD lo hi)[i]? = some (.int (lo + i)) := by
  rw [rngD_len] at h
  unfold rngD
  rw [List.getElem?_map, List.getElem?_range h]
  rfl
theorem itw_rng {W : Hp → List Addr → Hp → Prop} (lo hi : Int) : ItW Z W (rngD lo hi) (Itr lo (hi - lo).toNat) := by
  refine ⟨_, _, by rw [rngD_len]; exact walk_range, fun _ _ _ _ _ _ => trivial, fun i F' R' H' mh v H2 hW rh hi hy => ?_⟩
  obtain ⟨rfl, rfl⟩ := hy
  exact ⟨F', EX.refl, rh, _, rngD_get hi, .int _⟩
theorem rng_of (hc : CtxOk Z M k X) {x : Str} (h : mtGlob X.env.scope x "range" = true) : x = "range" ∧ Gl X "range" := by
  obtain ⟨q1, q2⟩ := ba2 h
  obtain rfl : x = "range" := of_decide_eq_true q1
  exact ⟨rfl, gl_of (ba2 q2).1⟩
theorem snd_irng (hc : CtxOk Z M k X) {b : Bool} {a : ME} {x : Str} {ea tg : Expr} {p pos : Pos} (hx : mtGlob X.env.scope x "range" = true) (hs : noStar ea = true) (h : PE X ea (tM Z T C a)) : PI X tg (.Call (.Name x p) [ea] [] pos) (tI Z T C b (.rng a)) := by
  obtain ⟨rfl, hg⟩ := rng_of hc hx
  have args : PA X [ea] (tCons (tM Z T C a) tNil) := pa_cons h pa_nil (star_of hs _ _)
  refine ⟨fun pins s σ H Q I q => ?_⟩
  obtain ⟨N, F, R, mh, env, rh, re, q⟩ := q
  obtain ⟨x, m1, e1, q⟩ := PO1.bd (show PO1 ((evE T C a env mh).bd _) _ from q)
  refine (pi_range1 hg hc.rng args (star_of hs _ _)).run pins s σ H Q I ⟨N, F, R, mh, env, rh, re, ?_⟩
  unfold PD
  rw [e1]
  intro F1 R1 H1 v x1 rh1 t1
  cases t1 with
  | int i =>
    have q : PO1 (if -lim ≤ i ∧ i ≤ lim then Out.ok (rngD 0 i) m1 else .no) _ := q
    by_cases hi : -lim ≤ i ∧ i ≤ lim
    · rw [if_pos hi] at q
      have hb : (lim : Int) < 2 ^ 62 := by decide
      refine ⟨i, rfl, by omega, by omega, ?_⟩
      have e : i.toNat = (i - 0).toNat := by rw [Int.sub_zero]
      rw [e]
      exact q F1 R1 H1 _ x1 rh1 (itw_rng 0 i)
    · rw [if_neg hi] at q
      cases q
  | _ => cases q
theorem snd_irng2 (hc : CtxOk Z M k X) {b : Bool} {a c : ME} {x : Str} {ea ec tg : Expr} {p pos : Pos} (hx : mtGlob X.env.scope x "range" = true) (hs : noStar ea = true) (hs' : noStar ec = true) (h : PE X ea (tM Z T C a)) (h' : PE X ec (tM Z T C c)) :
    PI X tg (.Call (.Name x p) [ea, ec] [] pos) (tI Z T C b (.rng2 a c)) := by
  obtain ⟨rfl, hg⟩ := rng_of hc hx
  have args : PA X [ea, ec] (tCons (tM Z T C a) (tCons (tM Z T C c) tNil)) := pa_cons h (pa_cons h' pa_nil (star_of hs' _ _)) (star_of hs _ _)
  refine ⟨fun pins s σ H Q I q => ?_⟩
  obtain ⟨N, F, R, mh, env, rh, re, q⟩ := q
  obtain ⟨x, m1, e1, q⟩ := PO1.bd (show PO1 ((evE T C a env mh).bd _) _ from q)
  obtain ⟨y, m2, e2, q⟩ := PO1.bd q
  refine (pi_range2 hg hc.rng args (by rw [star_of hs, star_of hs'] <;> rfl) (star_of hs' _ _)).run pins s σ H Q I ⟨N, F, R, mh, env, rh, re, ?_⟩
  unfold PD
  rw [e1]
  intro F1 R1 H1 v x1 rh1 t1
  refine ⟨N, F1, R1, m1, env, rh1, re.ext x1, ?_⟩
  unfold PD
  rw [e2]
  intro F2 R2 H2 v2 x2 rh2 t2
  cases t1 with
  | int i =>
    cases t2 with
    | int j =>
      have q : PO1 (if -lim ≤ i ∧ i ≤ lim ∧ -lim ≤ j ∧ j ≤ lim then Out.ok (rngD i j) m2 else .no) _ := q
      by_cases hi : -lim ≤ i ∧ i ≤ lim ∧ -lim ≤ j ∧ j ≤ lim
      · rw [if_pos hi] at q
        have hb : (lim : Int) < 2 ^ 62 := by decide
        refine ⟨i, j, rfl, ⟨by omega, by omega, by omega, by omega⟩, ?_⟩
        exact q F2 R2 H2 _ (x1.trans x2) rh2 (itw_rng i j)
      · rw [if_neg hi] at q
        cases q
    | _ => cases q
  | _ => cases q
theorem zip_len (xs ys : List D) : (zipD xs ys).length = min xs.length ys.length := by
  unfold zipD
  rw [List.length_map, List.length_zip]
theorem zip_get {xs ys : List D} {i : Nat} {x y : D} (h1 : xs[i]? = some x) (h2 : ys[i]? = some y) : (zipD xs ys)[i]? = some (.tup [x, y]) := by
  unfold zipD
  rw [List.getElem?_map, (List.getElem?_zip_eq_some (z := (x, y))).mpr ⟨h1, h2⟩]
  rfl
theorem walk_zipT {K : PySem.W.Frag} {a b : Addr} {xs ys : List V} {n : Nat} (hn : n = min xs.length ys.length) : Walk (RZ.ItzT K a b) n (fun H => SqT K H a xs ∧ SqT K H b ys) (YPair (fun i => xs[i]?) (fun i => ys[i]?)) where
  goes := fun i H hi q => by
    have h1 : i < xs.length := by omega
    have h2 : i < ys.length := by omega
    exact ⟨xs, ys, xs[i], ys[i], q.1, q.2, List.getElem?_eq_getElem h1, List.getElem?_eq_getElem h2⟩
  stops := fun H q => ⟨xs, ys, q.1, q.2, by omega⟩
  yields := fun i H v H' hi q y => by
    obtain ⟨T, u, w, e1, e2, e3, e4, e5⟩ := y
    exact ⟨T, u, w, e1, e2, e3, e4 xs q.1, e5 ys q.2⟩
theorem itw_pair {W : Hp → List Addr → Hp → Prop} {zs : List D} {J : It} {G : Hp → Prop} {f g : Nat → Option V} (w : Walk J zs.length G (YPair f g)) (hG : ∀ F' R' H' mh, W F' R' H' → RH Z F' R' H' mh → G H')
    (hf : ∀ i u v F' R' H', i < zs.length → W F' R' H' → f i = some u → g i = some v → ∃ x y, zs[i]? = some (.tup [x, y]) ∧ RD Z F' R' x u ∧ RD Z F' R' y v) : ItW Z W zs J := by
  refine ⟨_, _, w, hG, fun i F' R' H' mh v H2 hW rh hi hy => ?_⟩
  obtain ⟨T, u, w', rfl, hT, rfl, e1, e2⟩ := hy
  obtain ⟨x, y, e3, r1, r2⟩ := hf i u w' F' R' H' hi hW e1 e2
  have ex := EX.new (R := R') (o := HO.tup [u, w']) hT rh.sub
  exact ⟨_, ex, rh.new hT, _, e3, .tup upd_same (.cons (r1.mono ex.f ex.r) (.cons (r2.mono ex.f ex.r) .nil))⟩
theorem isZ_of {x y : D} {zs : List D} (h : zipO x y = some zs) : ∃ xs ys, zs = zipD xs ys ∧ (x = .lst xs ∧ y = .lst ys ∨ x = .tup xs ∧ y = .tup ys) := by
  cases x with
  | lst xs =>
    cases y with
    | lst ys =>
      cases h
      exact ⟨xs, ys, rfl, .inl ⟨rfl, rfl⟩⟩
    | _ => cases h
  | tup xs =>
    cases y with
    | tup ys =>
      cases h
      exact ⟨xs, ys, rfl, .inr ⟨rfl, rfl⟩⟩
    | _ => cases h
  | _ => cases h
theorem zip_some {xs ys : List D} {vs ws : List V} {F : Hp} {R : List Addr} {i : Nat} {u v : V} (rs : RDs Z F R xs vs) (rs2 : RDs Z F R ys ws) (h1 : vs[i]? = some u) (h2 : ws[i]? = some v) : ∃ x y, (zipD xs ys)[i]? = some (.tup [x, y]) ∧ RD Z F R x u ∧ RD Z F R y v := by
  have l1 : i < xs.length := by
    rw [rs.length]
    exact (List.getElem?_eq_some_iff.mp h1).1
  have l2 : i < ys.length := by
    rw [rs2.length]
    exact (List.getElem?_eq_some_iff.mp h2).1
  obtain ⟨u', e1, r1⟩ := rs.get (List.getElem?_eq_getElem l1)
  obtain ⟨v', e2, r2⟩ := rs2.get (List.getElem?_eq_getElem l2)
  rw [h1] at e1
  rw [h2] at e2
  cases e1
  cases e2
  exact ⟨_, _, zip_get (List.getElem?_eq_getElem l1) (List.getElem?_eq_getElem l2), r1, r2⟩
theorem snd_izip (hc : CtxOk Z M k X) {b : Bool} {a c : ME} {x : Str} {ea ec : Expr} {p pos tpos : Pos} {elts : List Expr} {kk : Nat} (hx : mtGlob X.env.scope x "zip" = true) (hm : X.mg "zip" = none) (hs : noStar ea = true) (hs' : noStar ec = true) (h : PE X ea (tM Z T C a)) (h' : PE X ec (tM Z T C c)) :
    PI X (.Tuple elts kk tpos) (.Call (.Name x p) [ea, ec] [] pos) (tI Z T C b (.zip a c)) := by
  obtain ⟨q1, q2⟩ := ba2 hx
  obtain rfl : x = "zip" := of_decide_eq_true q1
  have hg : Gl X "zip" := gl_of (ba2 q2).1
  have args : PA X [ea, ec] (tCons (tM Z T C a) (tCons (tM Z T C c) tNil)) := pa_cons h (pa_cons h' pa_nil (star_of hs' _ _)) (star_of hs _ _)
  refine ⟨fun pins s σ H Q I q => ?_⟩
  obtain ⟨N, F, R, mh, env, rh, re, q⟩ := q
  obtain ⟨x, m1, e1, q⟩ := PO1.bd (show PO1 ((evE T C a env mh).bd _) _ from q)
  obtain ⟨y, m2, e2, q⟩ := PO1.bd q
  obtain ⟨zs, e3, q⟩ := PO1.ofO q
  obtain ⟨xs, ys, rfl, hh⟩ := isZ_of e3
  refine (RZ.pi_zipA hg hm args (star_of hs _ _) (by rw [star_of hs'] <;> rfl)).run pins s σ H Q I ⟨N, F, R, mh, env, rh, re, ?_⟩
  unfold PD
  rw [e1]
  intro F1 R1 H1 v x1 rh1 t1
  refine ⟨N, F1, R1, m1, env, rh1, re.ext x1, ?_⟩
  unfold PD
  rw [e2]
  intro F2 R2 H2 v2 x2 rh2 t2
  have qq : ∀ J, ItW Z (WI b F2 R2 H2) (zipD xs ys) J → Q J H2 := fun J w => q F2 R2 H2 J (x1.trans x2) rh2 w
  have t1 := t1.mono x2.f x2.r
  rcases hh with ⟨rfl, rfl⟩ | ⟨rfl, rfl⟩
  · cases t1 with
    | @lst a1 _ vs h1 rs =>
      cases t2 with
      | @lst a2 _ ws h2 rs2 =>
        refine ⟨_, _, vs, ws, rfl, .inl ⟨.inl (rd_mono rh2.sub h1), .inl (rd_mono rh2.sub h2), qq _ ?_⟩⟩
        refine itw_pair (walk_zip (K := X.K) (xs := vs) (ys := ws) (by rw [zip_len, rs.length, rs2.length])) (fun F' R' H' mh' hW rh' => ?_) fun i u v F' R' H' hi hW e4 e5 => ?_
        · exact ⟨.inl (rd_mono rh'.sub (rd_mono hW.fx.1 h1)), .inl (rd_mono rh'.sub (rd_mono hW.fx.1 h2))⟩
        · exact zip_some (rs.mono hW.fx.1 hW.fx.2) (rs2.mono hW.fx.1 hW.fx.2) e4 e5
  · cases t1 with
    | @tup a1 _ vs h1 rs =>
      cases t2 with
      | @tup a2 _ ws h2 rs2 =>
        refine ⟨_, _, vs, ws, rfl, .inr ⟨SqT.of (rh2.sub _ _ h1), SqT.of (rh2.sub _ _ h2), qq _ ?_⟩⟩
        refine itw_pair (walk_zipT (K := X.K) (xs := vs) (ys := ws) (by rw [zip_len, rs.length, rs2.length])) (fun F' R' H' mh' hW rh' => ?_) fun i u v F' R' H' hi hW e4 e5 => ?_
        · exact ⟨SqT.of (rh'.sub _ _ (hW.fx.1 _ _ h1)), SqT.of (rh'.sub _ _ (hW.fx.1 _ _ h2))⟩
        · exact zip_some (rs.mono hW.fx.1 hW.fx.2) (rs2.mono hW.fx.1 hW.fx.2) e4 e5
theorem enum_len : ∀ (k : Nat) (xs : List D), (enumD k xs).length = xs.length
  | _, [] => rfl
  | k, _ :: r => congrArg (· + 1) (enum_len (k + 1) r)
theorem enum_get : ∀ (k : Nat) (xs : List D) (i : Nat) (x : D), xs[i]? = some x → (enumD k xs)[i]? = some (.tup [.int ((k + i : Nat) : Int), x])
  | k, y :: r, 0, x, h => by
    cases h
    rfl
  | k, y :: r, i + 1, x, h => by
    have := enum_get (k + 1) r i x h
    show (enumD (k + 1) r)[i]? = _
    rw [this, show k + 1 + i = k + (i + 1) by omega]
theorem snd_ienm (hc : CtxOk Z M k X) {b : Bool} {a : ME} {x : Str} {ea : Expr} {p pos tpos : Pos} {elts : List Expr} {kk : Nat} (hx : mtGlob X.env.scope x "enumerate" = true) (hm : X.mg "enumerate" = none) (hs : noStar ea = true) (h : PE X ea (tBb Z T C b a)) :
    PI X (.Tuple elts kk tpos) (.Call (.Name x p) [ea] [] pos) (tI Z T C b (.enm a)) := by
  obtain ⟨q1, q2⟩ := ba2 hx
  obtain rfl : x = "enumerate" := of_decide_eq_true q1
  have hg : Gl X "enumerate" := gl_of (ba2 q2).1
  have args : PA X [ea] (tCons (tBb Z T C b a) tNil) := pa_cons h pa_nil (star_of hs _ _)
  refine ⟨fun pins s σ H Q I q => ?_⟩
  obtain ⟨N, F, R, mh, env, rh, re, q⟩ := q
  obtain ⟨x, m1, e1, q⟩ := PO1.bd (show PO1 ((if b then bor env a mh (evE T C a env mh) else evE T C a env mh).bd _) _ from q)
  obtain ⟨xs, m2, e2, q⟩ := PO1.bd q
  have e3 : (x = .lst xs ∨ x = .tup xs) ∧ m2 = m1 := by
    cases x with
    | lst ys =>
      cases e2
      exact ⟨.inl rfl, rfl⟩
    | tup ys =>
      cases e2
      exact ⟨.inr rfl, rfl⟩
    | _ => cases e2
  obtain ⟨e3, rfl⟩ := e3
  refine (pi_enum2 hg hm args (star_of hs _ _)).run pins s σ H Q I ⟨N, F, R, mh, env, rh, re, ?_⟩
  unfold PBb
  rw [e1]
  intro F1 R1 H1 v x1 rh1 t1
  have w0 : WI b F1 R1 H1 F1 R1 H1 := by
    cases b with
    | true => exact EX.refl
    | false => exact FX.refl
  rcases e3 with rfl | rfl
  · have k : ∃ a vs, v = .ref a ∧ RDs Z F1 R1 xs vs ∧ (Rd F1 a (.lst vs) ∨ b = true ∧ H1 a = some (.lst vs) ∧ a ∉ R1) := by
      cases b with
      | true =>
        obtain ⟨a, vs, h1, h2, h3⟩ := RT.lst2 rh1 t1
        refine ⟨a, vs, h1, h2, ?_⟩
        rcases h3 with h3 | h3
        · exact .inl h3
        · exact .inr ⟨rfl, h3⟩
      | false =>
        cases (show RD Z F1 R1 (.lst xs) v from t1) with
        | lst h r => exact ⟨_, _, rfl, r, .inl h⟩
    obtain ⟨a1, vs, rfl, rs, ho⟩ := k
    have sq : ∀ F' R' H' mh', WI b F1 R1 H1 F' R' H' → RH Z F' R' H' mh' → SqL X.K H' a1 vs := fun F' R' H' mh' hW rh' => by
      rcases ho with ho | ⟨rfl, ho, hn⟩
      · exact .inl (rd_mono rh'.sub (rd_mono hW.fx.1 ho))
      · have hW : EX F1 R1 H1 F' R' H' := hW
        exact .inl (.inl (hW.keep _ _ ho hn))
    refine ⟨a1, vs, rfl, .inl ⟨sq _ _ _ _ w0 rh1, q F1 R1 H1 _ x1 rh1 ?_⟩⟩
    refine itw_pair (by rw [enum_len, rs.length]; exact walk_enum (K := X.K) (xs := vs)) (fun F' R' H' mh' hW rh' => sq _ _ _ _ hW rh') fun i u v F' R' H' hi hW e4 e5 => ?_
    cases e4
    have l1 : i < xs.length := by
      rw [rs.length]
      exact (List.getElem?_eq_some_iff.mp e5).1
    obtain ⟨u', e6, r1⟩ := rs.get (List.getElem?_eq_getElem l1)
    rw [e5] at e6
    cases e6
    refine ⟨_, _, enum_get 0 xs i _ (List.getElem?_eq_getElem l1), ?_, r1.mono hW.fx.1 hW.fx.2⟩
    rw [Nat.zero_add]
    exact .int _
  · have k : ∃ a vs, v = .ref a ∧ RDs Z F1 R1 xs vs ∧ F1 a = some (.tup vs) := by
      cases b with
      | true =>
        obtain ⟨a, vs, h1, h2, h3⟩ := RT.tup (show RT Z F1 R1 H1 (.tup xs) v from t1)
        exact ⟨a, vs, h1, h3, h2⟩
      | false =>
        cases (show RD Z F1 R1 (.tup xs) v from t1) with
        | tup h r => exact ⟨_, _, rfl, r, h⟩
    obtain ⟨a1, vs, rfl, rs, ho⟩ := k
    have sq : ∀ F' R' H' mh', WI b F1 R1 H1 F' R' H' → RH Z F' R' H' mh' → SqT X.K H' a1 vs := fun F' R' H' mh' hW rh' => SqT.of (rh'.sub _ _ (hW.fx.1 _ _ ho))
    refine ⟨a1, vs, rfl, .inr ⟨sq _ _ _ _ w0 rh1, q F1 R1 H1 _ x1 rh1 ?_⟩⟩
    refine itw_pair (by rw [enum_len, rs.length]; exact walk_enumT (K := X.K) (xs := vs)) (fun F' R' H' mh' hW rh' => sq _ _ _ _ hW rh') fun i u v F' R' H' hi hW e4 e5 => ?_
    cases e4
    have l1 : i < xs.length := by
      rw [rs.length]
      exact (List.getElem?_eq_some_iff.mp e5).1
    obtain ⟨u', e6, r1⟩ := rs.get (List.getElem?_eq_getElem l1)
    rw [e5] at e6
    cases e6
    refine ⟨_, _, enum_get 0 xs i _ (List.getElem?_eq_getElem l1), ?_, r1.mono hW.fx.1 hW.fx.2⟩
    rw [Nat.zero_add]
    exact .int _
end
end Mi
/-! MiCmp: comprehensions. -/
namespace Mi
open PySem PySem.Spec PyProof.Rows L2

theorem PO1.get {α : Type} {o : Out α} {k : α → MH → Prop} (h : PO1 o k) : ∃ a m, o = .ok a m ∧ k a m := by
  cases o with
  | ok a m => exact ⟨a, m, rfl, h⟩
  | err _ _ _ => cases h
  | no => cases h
theorem PO1.mk {α : Type} {o : Out α} {k : α → MH → Prop} {a : α} {m : MH} (e : o = .ok a m) (h : k a m) : PO1 o k := by
  rw [e]
  exact h
section
variable {Z : NA} {F F' F2 H H' H2 : Hp} {R R' R2 : List Addr} {mh : MH}
/-- what nobody else has, at D -/
def Trk (F : Hp) (R : List Addr) (H : Hp) (D : Addr) (o : HO) : Prop := H D = some o ∧ F D = none ∧ D ∉ R
theorem Trk.ext {D : Addr} {o : HO} (t : Trk F R H D o) (x : EX F R H F' R' H') : Trk F' R' H' D o := by
  obtain ⟨h1, h2, h3⟩ := t
  refine ⟨x.keep _ _ h1 h3, x.nf _ _ h1 h2, fun z => ?_⟩
  rcases x.nr _ z with q | q
  · exact h3 q
  · rw [h1] at q
    cases q
theorem EX.upd {D : Addr} {o : HO} (x : EX F R H F' R' H') (h : H D = none) : EX F R H F' R' (upd H' D o) where
  f := x.f
  nf := x.nf
  r := x.r
  nr := x.nr
  keep := fun a u q n => by
    rw [upd_ne (ne_of_none q h)]
    exact x.keep a u q n
  there := fun a u q => by
    rw [upd_ne (ne_of_none q h)]
    exact x.there a u q
theorem RH.upd {D : Addr} {o : HO} (r : RH Z F R H mh) (hF : F D = none) (hR : D ∉ R) : RH Z F R (upd H D o) mh where
  sub := fun a u h => by
    rw [upd_ne (ne_of_none h hF)]
    exact r.sub a u h
  len := r.len
  obj := fun n a u h1 h2 => by
    have ha : a ≠ D := fun e => hR (by rw [← e]; exact List.mem_of_getElem? h1)
    have q := r.obj n a u h1 h2
    cases u with
    | lst xs =>
      obtain ⟨vs, q1, q2⟩ := q
      exact ⟨vs, by rw [upd_ne ha]; exact q1, q2⟩
    | dct kvs =>
      obtain ⟨vs, q1, q2⟩ := q
      exact ⟨vs, by rw [upd_ne ha]; exact q1, q2⟩
    | ndc kvs =>
      obtain ⟨vs, q1, q2⟩ := q
      exact ⟨vs, by rw [upd_ne ha]; exact q1, q2⟩
    | ins c fs =>
      obtain ⟨dx, fv, q1, q2⟩ := q
      exact ⟨dx, fv, by rw [upd_ne ha]; exact q1, q2⟩
  inj := r.inj
  dis := r.dis
theorem RH.notin {a : Addr} (r : RH Z F R H mh) (h : H a = none) : a ∉ R := fun z => by
  obtain ⟨u, hu⟩ := r.mem z
  rw [h] at hu
  cases hu
theorem EX.freeze {D : Addr} {o : HO} (x : EX F R H F' R' H') (h : H D = none) (h' : F' D = none) : EX F R H (L2.upd F' D o) R' H' := EX.frz (N := ⟨F, R, H, none⟩) x h' h
end
section
variable {Z : NA} {M : NM} {T : CT} {C : Cl} {k : Nat} {X : Cx}
/-- one turn of a comprehension -/
def bodyC (T : CT) (C : Cl) (tg : Tg) (wp : List Nat) (ts : MA) (e : ME) (env : Mi.Env) : D → MH → Out (Option D) := fun x h => match bindT tg x (wipeE env wp) with
  | some en => (evTs T C ts en h).bd fun k h => if k then (evE T C e en h).bd fun y h => .ok (some y) h else .ok none h
  | none => .no
theorem drop_cons_get {α : Type} {xs : List α} {i : Nat} {d : α} (h : xs[i]? = some d) : xs.drop i = d :: xs.drop (i + 1) := by
  obtain ⟨hl, e⟩ := List.getElem?_eq_some_iff.mp h
  rw [List.drop_eq_getElem_cons hl, e]
theorem lc_core {N : EN} {F1 H1 : Hp} {R1 : List Addr} {m1 : MH} {env : Mi.Env} {σ : L2.St} {xs : List D} {J : It} {tg : Tg} {wp : List Nat} {ts : MA} {e : ME} {Q : VK} {K0 : PySem.W.Frag} (hX : X.K = K0) (rh1 : RH Z F1 R1 H1 m1) (re1 : RE Z N F1 R1 H1 env σ)
    (w : ItW Z (WI true F1 R1 H1) xs J) (hsub : tgSub wp tg = true)
    (q : PO1 (loopC (bodyC T C tg wp ts e env) xs m1) fun ys m => ys.length ≤ lim ∧ ∀ F' R' H' dd vs, H1 dd = none → EX F1 R1 H1 F' R' H' → RH Z F' R' H' m → Trk F' R' H' dd (.lst vs) → RDs Z F' R' ys vs → Q (.ref dd) H') :
    ∀ dd, H1 dd = none → ∃ W : Nat → Nat → Hp → Prop, (∃ m, W 0 m (upd H1 dd (.lst []))) ∧ ∀ i m H, W i m H →
      (J.stop i H ∧ Q (.ref dd) H) ∨ (J.go i H ∧ ∃ Nx : Hp → Prop, (∀ H', Nx H' → ∃ m', m' < m ∧ W (i + 1) m' H') ∧ ∀ x H', J.yld i H x H' → gTg K0 tg x (wipe σ wp) H' fun σ2 H2 => wipe σ2 wp = wipe σ wp ∧ tTs Z T C ts σ2 H2 fun b H3 =>
        if b = true then tM Z T C e σ2 H3 fun y H4 => ∃ acc, H4 dd = some (.lst acc) ∧ acc.length < sizeLine ∧ Nx (upd H4 dd (.lst (acc ++ [y]))) else Nx H3) := by
  intro dd hD
  obtain ⟨G, Y, walk, hG, hY⟩ := w
  let Kq : List D → MH → Prop := fun ys m => ys.length ≤ lim ∧ ∀ F' R' H' dd vs, H1 dd = none → EX F1 R1 H1 F' R' H' → RH Z F' R' H' m → Trk F' R' H' dd (.lst vs) → RDs Z F' R' ys vs → Q (.ref dd) H'
  let Pv : Nat → Hp → Prop := fun i H => ∃ F' R' m ys vs, EX F1 R1 H1 F' R' H ∧ RH Z F' R' H m ∧ Trk F' R' H dd (.lst vs) ∧ RDs Z F' R' ys vs ∧ PO1 (loopC (bodyC T C tg wp ts e env) (xs.drop i) m) fun zs m => Kq (ys ++ zs) m
  refine lc_it (Qd := fun H => Q (.ref dd) H) walk Pv ?_ ?_ ?_ ?_
  · exact ⟨F1, R1, m1, [], [], EX.own hD, rh1.own hD, ⟨upd_same, rh1.none_F hD, rh1.notin hD⟩, .nil, q⟩
  · rintro i H _ ⟨F', R', m, ys, vs, x, rh, _⟩
    exact hG F' R' H m x rh
  · rintro i x H H' hi ⟨F', R', m, ys, vs, ex, rh, tk, rs, q⟩ hy
    obtain ⟨F2, ex2, rh2, d, hd, rd⟩ := hY i F' R' H m x H' ex rh hi hy
    have tk2 := tk.ext ex2
    rw [drop_cons_get hd] at q
    obtain ⟨o, m2, e1, q⟩ := PO1.bd (show PO1 ((bodyC T C tg wp ts e env d m).bd fun o h => (loopC (bodyC T C tg wp ts e env) (xs.drop (i + 1)) h).bd fun ys h => .ok (o.toList ++ ys) h) _ from q)
    cases eb : bindT tg d (wipeE env wp) with
    | none =>
      simp only [bodyC, eb] at e1
      cases e1
    | some en =>
      simp only [bodyC, eb] at e1
      have re2 := ((re1.ext (ex.trans ex2)).wipe wp)
      rw [← hX]
      refine gTg_re rh2 re2 rd eb fun σ' re' hw => ⟨(hw wp hsub).trans (wipe_wipe wp σ), ?_⟩
      obtain ⟨kb, m3, e2, e1⟩ := PO1.bd (show PO1 ((evTs T C ts en m).bd _) (fun o' m' => o' = o ∧ m' = m2) from PO1.mk e1 ⟨rfl, rfl⟩)
      refine ⟨N, F2, R', m, en, rh2, re', PO1.mk e2 fun F3 R3 H3 x3 rh3 => ?_⟩
      cases kb with
      | true =>
        rw [if_pos rfl] at e1 ⊢
        obtain ⟨y, m4, e3, e1⟩ := PO1.bd e1
        obtain ⟨eo, em⟩ := (show some y = o ∧ m4 = m2 from e1)
        subst eo
        subst em
        refine ⟨N, F3, R3, m3, en, rh3, re'.ext x3, PO1.mk e3 fun F4 R4 H4 v x4 rh4 rd4 => ?_⟩
        have tk4 := (tk2.ext x3).ext x4
        have ex4 := ((ex.trans ex2).trans x3).trans x4
        obtain ⟨zs, m5, e4, q⟩ := PO1.bd q
        have q : Kq (ys ++ y :: zs) m5 := q
        have hl : (ys ++ y :: zs).length ≤ lim := q.1
        have rs4 := rs.mono (fun a u h => x4.f a u (x3.f a u (ex2.f a u h))) ((ex2.r.trans x3.r).trans x4.r)
        refine ⟨vs, tk4.1, ?_, F4, R4, m4, ys ++ [y], vs ++ [v], ex4.upd hD, rh4.upd tk4.2.1 tk4.2.2, ⟨upd_same, tk4.2.1, tk4.2.2⟩, rs4.append (.cons rd4 .nil), PO1.mk e4 ?_⟩
        · rw [← rs.length]
          rw [List.length_append, List.length_cons] at hl
          exact lim_lt (by omega)
        · show Kq ((ys ++ [y]) ++ zs) m5
          rw [List.append_assoc]
          exact q
      | false =>
        rw [if_neg (by decide)] at e1 ⊢
        obtain ⟨eo, em⟩ := (show none = o ∧ m3 = m2 from e1)
        subst eo
        subst em
        obtain ⟨zs, m5, e4, q⟩ := PO1.bd q
        have rs4 := rs.mono (fun a u h => x3.f a u (ex2.f a u h)) (ex2.r.trans x3.r)
        exact ⟨F3, R3, m3, ys, vs, (ex.trans ex2).trans x3, rh3, tk2.ext x3, rs4, PO1.mk e4 q⟩
  · rintro H ⟨F', R', m, ys, vs, ex, rh, tk, rs, q⟩
    rw [List.drop_length] at q
    have q : Kq (ys ++ []) m := q
    rw [List.append_nil] at q
    exact q.2 F' R' H dd vs hD ex rh tk rs
/-- the new list, frozen -/
theorem frozen {F1 H1 F' H' : Hp} {R1 R' : List Addr} {m : MH} {dd : Addr} {ys : List D} {vs : List V} (h : H1 dd = none) (ex : EX F1 R1 H1 F' R' H') (rh : RH Z F' R' H' m) (tk : Trk F' R' H' dd (.lst vs)) (rs : RDs Z F' R' ys vs) :
    EX F1 R1 H1 (L2.upd F' dd (.lst vs)) R' H' ∧ RH Z (L2.upd F' dd (.lst vs)) R' H' m ∧ RD Z (L2.upd F' dd (.lst vs)) R' (.lst ys) (.ref dd) := by
  have mono : ∀ a u, F' a = some u → L2.upd F' dd (.lst vs) a = some u := fun a u h => by
    rw [upd_ne (ne_of_none h tk.2.1)]
    exact h
  exact ⟨ex.freeze h tk.2.1, rh.frz tk.1 tk.2.1 tk.2.2, .lst (.inl upd_same) (rs.mono mono (List.prefix_refl _))⟩
theorem snd_tNil : PTs X [] (tTs Z T C .nil) := ⟨fun pins s σ H Q I q => by
  obtain ⟨N, F, R, mh, env, rh, re, q⟩ := q
  exact (pts_nil (X := X)).run pins s σ H Q I (q F R H EX.refl rh)⟩
theorem snd_tOne {a : ME} {c : Expr} (h : PT X c (tTe Z T C a)) : PTs X [c] (tTs Z T C (.cons a .nil)) := ⟨fun pins s σ H Q I q => by
  obtain ⟨N, F, R, mh, env, rh, re, q⟩ := q
  refine (pts_one h).run pins s σ H Q I ⟨N, F, R, mh, env, rh, re, ?_⟩
  obtain ⟨b, m1, e1, q⟩ := PO1.bd (show PO1 ((evT T C a env mh).bd fun k h => if k then .ok true h else .ok false h) _ from q)
  refine PO1.mk e1 ?_
  cases b with
  | true => exact q
  | false => exact q⟩
theorem own_snd (Ns : List Str) (wp : List Nat) : (ownOf Ns wp).map (·.2) = wp := by
  unfold ownOf
  rw [List.map_map]
  exact List.map_id wp
/-- [e for t in it if ..] -/
theorem snd_lc (hc : CtxOk Z M k X) {it : MI} {tg : Tg} {wp : List Nat} {ts : MA} {e : ME} {elt tge iter : Expr} {ifs : List Expr} {scope : Scope} {pos : Pos} (bo : blkC X.N X.env.scope scope (ownOf X.N wp) = true) (hsub : tgSub wp tg = true) (hset : noSet iter = true)
    (hi : PI X tge iter (tI Z T C true it))
    (hg : ∀ (s : Shared) (H : Hp) (c : Addr) (cl : List (Str × Addr)) (fp : List Addr), PG (X.blk s H scope (compEnvC scope cl c X.env) fp) tge (gTg X.K tg))
    (ht : ∀ (s : Shared) (H : Hp) (c : Addr) (cl : List (Str × Addr)) (fp : List Addr), PTs (X.blk s H scope (compEnvC scope cl c X.env) fp) ifs (tTs Z T C ts))
    (he : ∀ (s : Shared) (H : Hp) (c : Addr) (cl : List (Str × Addr)) (fp : List Addr), PE (X.blk s H scope (compEnvC scope cl c X.env) fp) elt (tM Z T C e)) :
    PE X (.ListComp elt [⟨tge, iter, ifs, 0⟩] scope pos) (tM Z T C (.lc it tg wp ts e)) := by
  refine PE.imp (pe_lc hc.calm hc.nd hi (blkOk_by bo) hg ht he (fun x => noSet_of hset _ x)) fun σ H Q q => ?_
  rw [own_snd]
  obtain ⟨N, F, R, mh, env, rh, re, q⟩ := q
  obtain ⟨xs, m1, e1, q⟩ := PO1.bd (show PO1 ((evI T C true it env mh).bd fun xs h => (loopC (bodyC T C tg wp ts e env) xs h).bd fun ys h => if ys.length ≤ lim then Out.ok (D.lst ys) h else .no) _ from q)
  refine ⟨N, F, R, mh, env, rh, re, PO1.mk e1 fun F1 R1 H1 J x1 rh1 w => ?_⟩
  refine lc_core (X := X) (Q := Q) rfl rh1 (re.ext x1) w hsub ?_
  obtain ⟨ys, m2, e2, q⟩ := PO1.bd q
  refine PO1.mk e2 ?_
  by_cases hl : ys.length ≤ lim
  · rw [if_pos hl] at q
    refine ⟨hl, fun F' R' H' dd vs hd x rh' tk rs => ?_⟩
    obtain ⟨k1, k2, k3⟩ := frozen hd x rh' tk rs
    exact q _ R' H' _ (x1.trans k1) k2 k3
  · rw [if_neg hl] at q
    cases q
/-- .. walking the keys of a dict of one's own -/
theorem snd_lcK (hc : CtxOk Z M k X) {i : Nat} {tg : Tg} {wp : List Nat} {ts : MA} {e : ME} {elt tge : Expr} {y : Str} {py : Pos} {ifs : List Expr} {scope : Scope} {pos : Pos} (bo : blkC X.N X.env.scope scope (ownOf X.N wp) = true) (hsub : tgSub wp tg = true)
    (hv : mtVar X.N X.env.scope i y = true)
    (hg : ∀ (s : Shared) (H : Hp) (c : Addr) (cl : List (Str × Addr)) (fp : List Addr), PG (X.blk s H scope (compEnvC scope cl c X.env) fp) tge (gTg X.K tg))
    (ht : ∀ (s : Shared) (H : Hp) (c : Addr) (cl : List (Str × Addr)) (fp : List Addr), PTs (X.blk s H scope (compEnvC scope cl c X.env) fp) ifs (tTs Z T C ts))
    (he : ∀ (s : Shared) (H : Hp) (c : Addr) (cl : List (Str × Addr)) (fp : List Addr), PE (X.blk s H scope (compEnvC scope cl c X.env) fp) elt (tM Z T C e)) :
    PE X (.ListComp elt [⟨tge, .Name y py, ifs, 0⟩] scope pos) (tM Z T C (.lcK i tg wp ts e)) := by
  refine PE.imp (pe_lock (pe_lc hc.calm hc.nd (pi_keys (snd_var0 hv)) (blkOk_by bo) hg ht he (fun x => rfl))) fun σ H Q q => ?_
  rw [own_snd]
  obtain ⟨N, F, R, mh, env, rh, re, q⟩ := q
  cases ei : env[i]? with
  | none =>
    simp only [PD, evE, ei] at q
    cases q
  | some sv =>
    match sv, ei with
    | none, ei =>
      simp only [PD, evE, ei] at q
      cases q
    | some (.val d), ei =>
      simp only [PD, evE, ei] at q
      cases q
    | some (.own (.lst _)), ei =>
      simp only [PD, evE, ei] at q
      cases q
    | some (.own (.ndc _)), ei =>
      simp only [PD, evE, ei] at q
      cases q
    | some (.own (.ins _ _)), ei =>
      simp only [PD, evE, ei] at q
      cases q
    | some (.own (.dct kvs)), ei =>
      have q : PD Z F R H ((loopC (bodyC T C tg wp ts e (env.set i none)) (kvs.map (·.1)) mh).bd fun ys h => if ys.length ≤ lim then Out.ok (D.lst ys) h else .no) Q := by
        simp only [evE, ei] at q
        exact q
      obtain ⟨a, es, ow, _⟩ := re.own i _ ei
      obtain ⟨⟨vs, hv, rk⟩, hF, hR⟩ := ow
      refine ⟨a, _, hv, trivial, fun od => ?_⟩
      have rh1 : RH Z F R (upd H a (.frz od (.dK vs))) mh := rh.upd hF hR
      have re1 : RE Z N F R (upd H a (.frz od (.dK vs))) (env.set i none) σ := by
        have h0 := re.hide i
        refine ⟨h0.len, h0.val, fun j o ej => ?_, h0.sep, h0.self⟩
        obtain ⟨b, e1, ⟨e2, e3, e4⟩, e5⟩ := h0.own j o ej
        have ne : b ≠ a := fun z => by
          subst z
          have ej' : env[j]? = some (some (.own o)) := by
            rw [List.getElem?_set] at ej
            by_cases h : i = j
            · rw [if_pos h] at ej
              split at ej <;> cases ej
            · rw [if_neg h] at ej
              exact ej
          have := re.sep i j _ _ b ei ej' es e1
          subst this
          rw [List.getElem?_set, if_pos rfl] at ej
          split at ej <;> cases ej
        refine ⟨b, e1, ⟨?_, e3, e4⟩, e5⟩
        cases o with
        | lst ys =>
          obtain ⟨ws, q1, q2⟩ := e2
          exact ⟨ws, by rw [upd_ne ne]; exact q1, q2⟩
        | dct ys =>
          obtain ⟨ws, q1, q2⟩ := e2
          exact ⟨ws, by rw [upd_ne ne]; exact q1, q2⟩
        | ndc ys =>
          obtain ⟨ws, q1, q2⟩ := e2
          exact ⟨ws, by rw [upd_ne ne]; exact q1, q2⟩
        | ins c fs =>
          obtain ⟨dx, fv, q1, q2⟩ := e2
          exact ⟨dx, fv, by rw [upd_ne ne]; exact q1, q2⟩
      refine ⟨_, es, a, od, rfl, .inl ⟨vs, upd_same, ?_⟩⟩
      have w : ItW Z (WI true F R (upd H a (.frz od (.dK vs)))) (kvs.map (·.1)) (Itk a od vs) := by
        have kr := keys_rd rk
        have hl : (kvs.map (·.1)).length = vs.length := by
          rw [kr.length, List.length_map]
        refine ⟨_, _, by rw [hl]; exact walk_keys, fun F' R' H' mh' hW rh' => ?_, fun n F' R' H' mh' v H2 hW rh' hi hy => ?_⟩
        · have hW : EX F R (upd H a (.frz od (.dK vs))) F' R' H' := hW
          exact hW.keep _ _ upd_same hR
        · obtain ⟨rfl, kk, u, e1, rfl⟩ := hy
          obtain ⟨u', e2, r⟩ := kr.get (List.getElem?_eq_getElem hi)
          rw [List.getElem?_map, e1] at e2
          cases e2
          exact ⟨F', EX.refl, rh', _, List.getElem?_eq_getElem hi, r.mono hW.fx.1 hW.fx.2⟩
      refine lc_core (X := X) (T := T) (C := C) (ts := ts) (e := e) (tg := tg) (Q := fun v H' => H' a = some (.frz od (.dK vs)) ∧ Q v (L2.upd H' a (.dK vs))) rfl rh1 re1 w hsub ?_
      obtain ⟨ys, m2, e2, q⟩ := PO1.bd q
      refine PO1.mk e2 ?_
      by_cases hl : ys.length ≤ lim
      · rw [if_pos hl] at q
        refine ⟨hl, fun F0 R' H' dd vs' hd x0 rh0 tk0 rs0 => ?_⟩
        obtain ⟨x, rh', rd⟩ := frozen hd x0 rh0 tk0 rs0
        generalize L2.upd F0 dd (.lst vs') = F' at x rh' rd
        have tk : Trk F' R' H' a (.frz od (.dK vs)) := Trk.ext ⟨upd_same, hF, hR⟩ x
        refine ⟨tk.1, q F' R' (upd H' a (.dK vs)) (.ref dd) ?_ (rh'.upd tk.2.1 tk.2.2) rd⟩
        refine ⟨x.f, fun b u h n => ?_, x.r, fun b h => ?_, fun b u h n => ?_, fun b u h => ?_⟩
        · by_cases e : b = a
          · subst e
            exact tk.2.1
          · exact x.nf b u (by rw [upd_ne e]; exact h) n
        · rcases x.nr b h with q | q
          · exact .inl q
          · by_cases e : b = a
            · subst e
              rw [upd_same] at q
              cases q
            · rw [upd_ne e] at q
              exact .inr q
        · by_cases e : b = a
          · subst e
            rw [upd_same, ← hv, h]
          · rw [upd_ne e]
            exact x.keep b u (by rw [upd_ne e]; exact h) n
        · by_cases e : b = a
          · subst e
            exact ⟨_, upd_same⟩
          · rw [upd_ne e]
            exact x.there b u (by rw [upd_ne e]; exact h)
      · rw [if_neg hl] at q
        cases q
end
end Mi
/-! MiCall: calls of defs, methods, classmethods; properties and attributes; new instances. -/
namespace Mi
open PySem PySem.Spec PyProof.Rows L2

/-- the callee's promise, from a caller whose guards are known -/
def FnG (P : Program) (w : World) (K : PySem.W.Frag) (mg : Str → Option Value) (base : Heap) (CX : CXT) (k : Nat) (f : Addr) (sp : Sp) : Prop :=
  ∀ (A : Around) (outer : List PySem.Env) (s : Shared) (H : Hp) (us : List Value) (vs : List V) (Q : VK) (E : XK), Room k A → A.guards = some [] → Env0 P w K mg base A outer s H → Vals vs us → sp vs H Q E →
    codeAny (model P w) A (.call (.ref f) ⟨us, []⟩) (CR CX outer P w H s Q E) s
theorem FnG.mono {P : Program} {w : World} {K : PySem.W.Frag} {mg : Str → Option Value} {base : Heap} {CX : CXT} {j k : Nat} {f : Addr} {sp : Sp} (F : FnG P w K mg base CX j f sp) (h : j ≤ k) : FnG P w K mg base CX k f sp :=
  fun A outer s H us vs Q E hr => F A outer s H us vs Q E (hr.mono h)
section
variable {X : Cx} {CX : CXT} {k : Nat} {pins : List (Addr × Obj)} {σ : L2.St} {H : Hp} {s : Shared} {sp : Sp} {E : XK} {Q : VK} {us : List Value} {vs : List V}
theorem run_g {f : Addr} (F : FnG X.prog X.w X.K X.mg X.base CX k f sp) (hr : Room k X.A) (hg : X.A.guards = some []) (hx : Passes CX X E) (I : Inv X pins σ H s) (r : Vals vs us) (h : sp vs H Q E) :
    codeAny (model X.prog X.w) X.A (.call (.ref f) ⟨us, []⟩) (fun r s' => match r with | .ok (.ret v) => EP X pins σ Q v s' | .ok _ => False | .error e => X.xe e s') s :=
  codeAny_mono (F X.A X.stack s H us vs Q E hr hg I.env0 r h) fun r s' hq => by
    match r, hq with
    | .error e, hq => exact hx pins σ H s e s' I hq
    | .ok (.ret u), hq => exact I.after hq

/-! ### arguments -/
def ArgOk (X : Cx) (es : List Expr) (t : TA) : Prop := ∀ (pos : Pos) (f : Value) (first : List Value) (pins : List (Addr × Obj)) (s : Shared) (σ : L2.St) (H : Hp) (Q' : List V → Hp → Prop) (Qv : Value → Shared → Prop), PySem.W.keepIn X.K f = true → Inv X pins σ H s → t σ H Q' →
  (∀ us s1 vs H1, Inv X pins σ H1 s1 → Vals vs us → Q' vs H1 → wpAny (model X.prog X.w) X.A (call f (first ++ us)) Qv X.xe s1) →
  wpAny (model X.prog X.w) X.A (callWith pos f first (backTo pos (starEach es X.env)) []) Qv X.xe s
theorem arg_nil {t : TA} (h : ∀ σ H Q, t σ H Q → Q [] H) : ArgOk X [] t := fun pos f first pins s σ H Q' Qv hk I q run =>
  PySem.W.callWith_K0 I.kIn hk (run [] s [] H I .nil (h _ _ _ q))
theorem arg_cons {e : Expr} {es : List Expr} {t : TA} (hs : noStar e = true) (ha : PA X (e :: es) t) : ArgOk X (e :: es) t := fun pos f first pins s σ H Q' Qv hk I q run => by
  cases hst : (backTo pos (starEach es X.env)).any (·.1) with
  | true => exact PySem.W.callWith_S2 (h₀ := X.base) I.ok.mod.kin hk (thn (ha.run pos pins s σ H _ I q) fun us s1 ⟨vs, H1, I1, r, q1⟩ => ⟨I1.kIn, run us s1 vs H1 I1 r q1⟩) (star_of hs _ _) hst
  | false => exact PySem.W.callWith_K (h₀ := X.base) I.ok.mod.kin hk (thn (ha.run pos pins s σ H _ I q) fun us s1 ⟨vs, H1, I1, r, q1⟩ => ⟨I1.kIn, run us s1 vs H1 I1 r q1⟩) (star_of hs _ _) hst
theorem arg_star {e : Expr} {p : Pos} {te : TE} {t : TA} (he : PE X e te) (h : ∀ σ H Q, t σ H Q → te σ H fun y H1 => ∃ a xs, y = V.ref a ∧ (SqT X.K H1 a xs ∨ SqL X.K H1 a xs) ∧ Q xs H1) : ArgOk X [.Starred e p] t := fun pos f first pins s σ H Q' Qv hk I q run => by
  refine PySem.W.callWith_S (h₀ := X.base) I.ok.mod.kin hk (thn (he.run pins s σ H _ I (h _ _ _ q)) fun v s1 ⟨y, H1, I1, ry, a, xs, ey, hxs, q1⟩ => ?_) rfl
  subst ey
  obtain rfl : v = Value.ref a := ry
  exact StX.star_any I1 hxs fun us s2 I2 rv => ⟨I2.kIn, run us s2 xs H1 I2 rv q1⟩
end

/-! ### the table of defs -/
/-- what def number f promises -/
def spF (Z : NA) (C : Cl) (f : Nat) : Sp := fun vs H Q _ => ∃ F R mh xs, RH Z F R H mh ∧ RDs Z F R xs vs ∧ PD Z F R H (C.fn f xs mh) Q
def hole (H : Hp) (x : Addr) : Hp := fun a => if a = x then none else H a
/-- what the __init__ of class c promises, of an instance of class c0 that is made -/
def spI (Z : NA) (C : Cl) (c : Nat) : Sp := fun vs H Q _ => ∃ F R mh x dx c0 fs fv xs ws, vs = V.ref x :: ws ∧ RH Z F R H mh ∧ Trk F R H x (.ins (Z.ca c0) dx fv) ∧ (∀ p ∈ fs, Z.fld c0 p.1 = true) ∧ RFs Z F R fs fv ∧ RDs Z F R xs ws ∧
  PO1 (C.ini c c0 fs xs mh) fun fs' mh' => ∀ F' R' H' dx' fv', EX F R (hole H x) F' R' H' → RH Z F' R' H' mh' → Trk F' R' H' x (.ins (Z.ca c0) dx' fv') → (∀ p ∈ fs', Z.fld c0 p.1 = true) → RFs Z F' R' fs' fv' → Q .non H'
structure CallOk (Z : NA) (M : NM) (T : CT) (C : Cl) (CX : CXT) (fa fi : Nat → Addr) (k : Nat) (X : Cx) : Prop where
  fn : ∀ f, FnG X.prog X.w X.K X.mg X.base CX k (fa f) (spF Z C f)
  ini : ∀ c, FnG X.prog X.w X.K X.mg X.base CX k (fi c) (spI Z C c)
  same : ∀ c xs mh, C.ini c c [] xs mh = C.mke c xs mh
  px : Passes CX X (fun _ _ _ => False)
  pn : Passes CX X.nox (fun _ _ _ => False)
  no : ∀ outer H s e s', ¬ CX outer H s (fun _ _ _ => False) e s'
  /-- a def by its global name -/
  gf : ∀ f, M.gf f = true → X.mg (M.fn f) = some (.ref (fa f)) ∧ PySem.W.keepIn X.K (.ref (fa f)) = true
  mke : ∀ c, M.gc c = true → X.mg (M.cl c) = some (.ref (Z.ca c)) ∧ Mk X.K (Z.ca c) (fi c)
  mkv : ∀ c, T.mkc c = true → Mk X.K (Z.ca c) (fi c)
  mt : ∀ c m f, T.meth c m = some f → Cls X.K (Z.ca c) ∧ Meth X.K (Z.ca c) (M.at_ m) (fa f) ∧ ∀ g, Z.fld c g = true → Z.an g ≠ M.at_ m
  pr : ∀ c m f, T.prop c m = some f → Cls X.K (Z.ca c) ∧ ∃ p, PropOf X.K (Z.ca c) (M.at_ m) p (fa f)
  fd : ∀ c m, T.fld c m = true → Cls X.K (Z.ca c) ∧ NoAttr X.K (Z.ca c) (M.at_ m) ∧ Z.fld c m = true
  an : ∀ m, M.at_ m = Z.an m
  inj : ∀ c f g, Z.fld c f = true → Z.fld c g = true → Z.an f = Z.an g → f = g
  cm : ∀ c m f, T.cmeth c m = some (f, true) → ∃ mc p, ClX.CRead X.K (Z.ca c) mc ∧ ClX.CMet X.K (Z.ca c) mc (M.at_ m) p (fa f)
section
variable {Z : NA} {M : NM} {T : CT} {C : Cl} {k k' : Nat} {X : Cx} {CX : CXT} {fa fi : Nat → Addr}
theorem argm_nil : ArgOk X [] (tA Z T C .nil) := arg_nil fun σ H Q ⟨N, F, R, mh, env, rh, re, q⟩ => q F R H [] EX.refl rh .nil
theorem argm_star {a : ME} {e : Expr} {p : Pos} (he : PE X e (tB Z T C a)) : ArgOk X [.Starred e p] (tA Z T C (.star a .nil)) := arg_star he fun σ H Q q => by
  obtain ⟨N, F, R, mh, env, rh, re, q⟩ := q
  obtain ⟨x, m1, e1, q1⟩ := PO1.bd (show PO1 ((bor env a mh (evE T C a env mh)).bd _) _ from q)
  obtain ⟨xs, m2, e2, q2⟩ := PO1.bd q1
  have h2 : seqD x = some xs ∧ m2 = m1 := by
    cases e : seqD x with
    | none =>
      rw [e] at e2
      cases e2
    | some zs =>
      rw [e] at e2
      cases e2
      exact ⟨rfl, rfl⟩
  obtain ⟨h2, rfl⟩ := h2
  refine ⟨N, F, R, mh, env, rh, re, PO1.mk e1 fun F1 R1 H1 v x1 rh1 t1 => ?_⟩
  obtain ⟨p, vs, rfl, rs, ho⟩ := seqD_rt rh1 t1 h2
  refine ⟨p, vs, rfl, ?_, ?_⟩
  · rcases ho with ho | ho
    · exact .inr (.inl ho)
    · exact .inl (SqT.of ho)
  · have q2 : ∀ F' R' H' vs, EX F R H F' R' H' → RH Z F' R' H' m2 → RDs Z F' R' (xs ++ []) vs → Q vs H' := q2
    rw [List.append_nil] at q2
    exact q2 F1 R1 H1 vs x1 rh1 rs
theorem glob_of {x y : Str} (h : mtGlob X.env.scope x y = true) : x = y ∧ Gl X x ∧ (x == ("__debug__" : Str)) = false := by
  obtain ⟨q1, q2⟩ := ba2 h
  obtain ⟨q3, q4⟩ := ba2 q2
  exact ⟨of_decide_eq_true q1, gl_of q3, okName_1 q4⟩
/-- f(..) -/
theorem snd_call (hc : CtxOk Z M k' X) (co : CallOk Z M T C CX fa fi k X) (hr : Room (k + 1) X.A) {f : Nat} {es : MA} {x : Str} {p pos : Pos} {xs : List Expr} (hx : mtGlob X.env.scope x (M.fn f) = true) (hf : M.gf f = true) (ha : ArgOk X xs (tA Z T C es)) :
    PE X (.Call (.Name x p) xs [] pos) (tM Z T C (.call f es)) := by
  obtain ⟨rfl, hg, hd⟩ := glob_of hx
  obtain ⟨h1, h2⟩ := co.gf f hf
  refine ⟨fun pins s σ H Q I h => ?_⟩
  obtain ⟨N, F, R, mh, env, rh, re, h⟩ := h
  obtain ⟨ys, m1, e1, q⟩ := PO1.bd (show PO1 ((evA T C es env mh).bd fun xs h => C.fn f xs h) _ from h)
  refine wpAny_Call_Name_kw (ld_glob I hg h1 ?_ hd)
  refine ha pos (.ref (fa f)) [] pins s σ H (fun vs H1 => spF Z C f vs H1 Q (fun _ _ _ => False)) _ h2 I ⟨N, F, R, mh, env, rh, re, PO1.mk e1 fun F1 R1 H1 vs x1 rh1 rs => ⟨F1, R1, m1, ys, rh1, rs, ?_⟩⟩ fun us s1 vs H1 I1 r q1 => ?_
  · exact PD.shift x1 q
  · exact wpAny_call (run_g (co.fn f) (hr.mono (Nat.le_succ _)) hc.gd co.px I1 r q1)
theorem made_g {c : Nat} (co : CallOk Z M T C CX fa fi k X) (hg : X.A.guards = some []) (hr : Room (k + 1) X.A) {pins : List (Addr × Obj)} {σ : L2.St} {H : Hp} {s : Shared} {Q : VK} {us : List Value} {vs : List V} (Mc : Mk X.K (Z.ca c) (fi c)) (I : Inv X pins σ H s) (r : Vals vs us)
    (h : ∀ x dx, H x = none → H dx = none → dx ≠ x → spI Z C c (V.ref x :: vs) (upd (upd H dx (.own x)) x (.ins (Z.ca c) dx [])) (fun v H2 => v = .non ∧ Q (.ref x) H2) (fun _ _ _ => False)) :
    wpAny (model X.prog X.w) X.A (call (.ref (Z.ca c)) us) (EP X pins σ Q) X.xe s := by
  have hq := h (s.heap.objs.size + 1) s.heap.objs.size (I.hok.fresh (Nat.le_succ _)) (I.hok.fresh (Nat.le_refl _)) (Nat.ne_of_lt (Nat.lt_succ_self _))
  have I2 := Inv.made (C := Z.ca c) I
  have r2 : Vals (V.ref (s.heap.objs.size + 1) :: vs) (Value.ref (s.heap.objs.size + 1) :: us) := .cons rfl r
  refine wpAny_call (make_map (f := fi c) I.kIn Mc.makes Mc.init (beq_iff_eq.mp Mc.fn) (codeAny_mono (co.ini c _ X.stack _ _ (Value.ref (s.heap.objs.size + 1) :: us) _ _ _ (hr.make (Z.ca c) us []) (by exact hg) (I2.env0.make (Z.ca c) us []) r2 hq) fun r s' hq' => ?_))
  match r, hq' with
  | .error e, hq' => exact co.px pins σ _ _ e s' I2 hq'
  | .ok (.ret u), hq' =>
    obtain ⟨v, H', I3, rv, ev, q3⟩ := I2.after hq'
    subst ev
    exact ⟨rv, ⟨V.ref (s.heap.objs.size + 1), H', I3, rfl, q3⟩⟩
/-- a heap with more, as the base of what comes -/
theorem EX.less {F H H1 F' H' : Hp} {R R' : List Addr} (e : EX F R H1 F' R' H') (h : ∀ a o, H a = some o → H1 a = some o) : EX F R H F' R' H' where
  f := e.f
  nf := fun a o q n => e.nf a o (h a o q) n
  r := e.r
  nr := fun a q => by
    rcases e.nr a q with q | q
    · exact .inl q
    · refine .inr ?_
      cases z : H a with
      | none => rfl
      | some o =>
        rw [h a o z] at q
        cases q
  keep := fun a o q n => e.keep a o (h a o q) n
  there := fun a o q => e.there a o (h a o q)
/-- C(..), an instance that stands still -/
theorem snd_make (hc : CtxOk Z M k' X) (co : CallOk Z M T C CX fa fi k X) (hr : Room (k + 1) X.A) {c : Nat} {es : MA} {x : Str} {p pos : Pos} {xs : List Expr} (hx : mtGlob X.env.scope x (M.cl c) = true) (hf : M.gc c = true) (ha : ArgOk X xs (tA Z T C es)) :
    PE X (.Call (.Name x p) xs [] pos) (tM Z T C (.make c es)) := by
  obtain ⟨rfl, hg, hd⟩ := glob_of hx
  obtain ⟨h1, h2⟩ := co.mke c hf
  refine ⟨fun pins s σ H Q I h => ?_⟩
  obtain ⟨N, F, R, mh, env, rh, re, h⟩ := h
  obtain ⟨ys, m1, e1, q⟩ := PO1.bd (show PO1 ((evA T C es env mh).bd fun xs h => (C.mke c xs h).bd fun fs h => .ok (D.obj c fs) h) _ from h)
  obtain ⟨fs, m2, e2, q⟩ := PO1.bd q
  refine wpAny_Call_Name_kw (ld_glob I hg h1 ?_ hd)
  refine ha pos (.ref (Z.ca c)) [] pins s σ H (fun vs H1 => ∃ F1 R1, EX F R H F1 R1 H1 ∧ RH Z F1 R1 H1 m1 ∧ RDs Z F1 R1 ys vs) _ h2.kp I ⟨N, F, R, mh, env, rh, re, PO1.mk e1 fun F1 R1 H1 vs x1 rh1 rs => ⟨F1, R1, x1, rh1, rs⟩⟩ fun us s1 vs H1 I1 r q1 => ?_
  obtain ⟨F1, R1, x1, rh1, rs⟩ := q1
  refine made_g co hc.gd hr h2 I1 r fun y dx hy hdx hne => ?_
  have xy : EX F1 R1 H1 F1 R1 (upd (upd H1 dx (.own y)) y (.ins (Z.ca c) dx [])) := (EX.own hdx).upd hy
  have sub : ∀ a o, H1 a = some o → hole (upd (upd H1 dx (.own y)) y (.ins (Z.ca c) dx [])) y a = some o := fun a o e => by
    have n1 : a ≠ y := ne_of_none e hy
    have n2 : a ≠ dx := ne_of_none e hdx
    unfold hole
    rw [if_neg n1, upd_ne n1, upd_ne n2]
    exact e
  refine ⟨F1, R1, m1, y, dx, c, [], [], ys, vs, rfl, (rh1.own hdx).upd (rh1.none_F hy) (rh1.notin hy), ⟨upd_same, rh1.none_F hy, rh1.notin hy⟩, (fun _ h => nomatch h), .nil, rs, ?_⟩
  have hm : C.ini c c [] ys m1 = .ok fs m2 := (co.same c ys m1).trans e2
  refine PO1.mk hm fun F' R' H' dx' fv' ex rh' tk hf' rf => ⟨rfl, ?_⟩
  have ex1 : EX F1 R1 H1 F' R' H' := ex.less sub
  have mono : ∀ a u, F' a = some u → upd F' y (.ins (Z.ca c) dx' fv') a = some u := fun a u h => by
    rw [upd_ne (ne_of_none h tk.2.1)]
    exact h
  exact q _ R' H' _ (x1.trans (ex1.freeze hy tk.2.1)) (rh'.frz tk.1 tk.2.1 tk.2.2) (.obj upd_same hf' (RFs.mono mono (List.prefix_refl _) rf))
theorem rf_lookup {F : Hp} {R : List Addr} {c f : Nat} {d : D} (inj : ∀ g, Z.fld c g = true → Z.an g = Z.an f → g = f) : ∀ {fs : List (Nat × D)} {fv : List (Str × V)}, RFs Z F R fs fv → (∀ p ∈ fs, Z.fld c p.1 = true) → fs.lookup f = some d → ∃ v, fv.lookup (Z.an f) = some v ∧ RD Z F R d v
  | _, _, .nil, _, h => nomatch h
  | _, _, @RFs.cons _ _ _ g x v xs vs r rs, hf, h => by
    rw [List.lookup_cons] at h ⊢
    by_cases e : g = f
    · subst e
      rw [beq_self_eq_true] at h ⊢
      cases h
      exact ⟨v, rfl, r⟩
    · have e1 : (f == g) = false := beq_eq_false_iff_ne.mpr fun z => e z.symm
      have e2 : (Z.an f == Z.an g) = false := beq_eq_false_iff_ne.mpr fun z => e (inj g (hf _ List.mem_cons_self) z.symm)
      rw [e1] at h
      rw [e2]
      exact rf_lookup inj rs (fun p hp => hf p (List.mem_cons_of_mem _ hp)) h
theorem rf_none {F : Hp} {R : List Addr} {c : Nat} {y : Str} (no : ∀ g, Z.fld c g = true → Z.an g ≠ y) : ∀ {fs : List (Nat × D)} {fv : List (Str × V)}, RFs Z F R fs fv → (∀ p ∈ fs, Z.fld c p.1 = true) → fv.lookup y = none
  | _, _, .nil, _ => rfl
  | _, _, @RFs.cons _ _ _ g x v xs vs r rs, hf => by
    rw [List.lookup_cons]
    have e2 : (y == Z.an g) = false := beq_eq_false_iff_ne.mpr fun z => no g (hf _ List.mem_cons_self) z.symm
    rw [e2]
    exact rf_none no rs fun p hp => hf p (List.mem_cons_of_mem _ hp)
/-- an instance, wherever it stands -/
theorem ins_at {F H : Hp} {R : List Addr} {mh : MH} {x : D} {v : V} {c : Nat} (rh : RH Z F R H mh) (t : RT Z F R H x v) (h : clsOf mh x = some c) : ∃ a dx fs fv, v = .ref a ∧ H a = some (.ins (Z.ca c) dx fv) ∧ fldsOf mh x = some fs ∧ (∀ p ∈ fs, Z.fld c p.1 = true) ∧ RFs Z F R fs fv := by
  rcases t with t | ⟨a, o, rfl, rfl, ⟨ro, _, _⟩⟩
  · cases t with
    | obj e g r =>
      cases h
      exact ⟨_, _, _, _, rfl, rh.sub _ _ e, rfl, g, r⟩
    | @ref n a e =>
      obtain ⟨o, h1, h2⟩ := rh.objs e
      have h' : (match mh[n]? with
        | some (.ins c _) => some c
        | _ => none) = some c := h
      rw [h1] at h'
      cases o with
      | ins c' fs =>
        cases h'
        obtain ⟨dx, fv, e2, g, r⟩ := h2
        refine ⟨a, dx, fs, fv, rfl, e2, ?_, g, r⟩
        show (match mh[n]? with
          | some (.ins _ fs) => some fs
          | _ => none) = some fs
        rw [h1]
      | _ => cases h'
    | _ => cases h
  · cases o with
    | ins c' fs =>
      cases h
      obtain ⟨dx, fv, e2, g, r⟩ := ro
      exact ⟨a, dx, fs, fv, rfl, e2, rfl, g, r⟩
    | _ => cases h
theorem plain_few {xs : List Expr} {env : PySem.Env} {pos : Pos} : plainArgs xs = true → (backTo pos (starEach xs env)).all (fun x => !x.1) = true := by
  induction xs with
  | nil => exact fun _ => rfl
  | cons e es ih =>
    intro h
    obtain ⟨h1, h2⟩ := ba2 (show (noStar e && plainArgs es) = true from h)
    rw [star_of h1]
    show (!false && (backTo pos (starEach es env)).all (fun x => !x.1)) = true
    rw [ih h2]
    rfl
theorem meth_eq {o : Expr} {m : Str} {ap pos : Pos} {xs : List Expr} {env : PySem.Env} (hbase : attributeBase o m env (eval o env) = eval o env) (hp : plainArgs xs = true) (hn : xs.length < 30) (hl : (ap.endLine == pos.line) = true) :
    eval (.Call (.Attribute o m ap) xs [] pos) env = (do
      let ov ← eval o env
      standAt ap.atName
      let (f, first) ← holding [ov] (getMethod ov m (do return (← importBound o env).getD true))
      callWith pos f first (backTo pos (starEach xs env)) (backToKw pos (keywordEach [] env))) := by
  have hk : backToKw pos (keywordEach [] env) = [] := rfl
  have hf : methodCallForm (xs.length + ([] : List Keyword).length) (backTo pos (starEach xs env)) (backToKw pos (keywordEach [] env)) = true := by
    rw [hk]
    unfold methodCallForm
    rw [plain_few hp]
    show (true && true && decide (xs.length + 0 + 0 < 30)) = true
    rw [Bool.and_true, Bool.true_and]
    exact decide_eq_true hn
  rw [arm_eval_Call, hbase]
  unfold methodCall
  rw [hf]
  unfold calleeOf methodCallPos
  simp only [hl, Bool.not_true, Bool.false_or, if_true]
  rfl
/-- o.m(..) -/
theorem snd_meth (hc : CtxOk Z M k' X) (co : CallOk Z M T C CX fa fi k X) (hr : Room (k + 1) X.A) {a : ME} {m : Nat} {es : MA} {x : Str} {ea : Expr} {ap pos : Pos} {xs : List Expr} (hx : x = M.at_ m) (hs : noSuper ea = true) (hl : (ap.endLine == pos.line) = true) (hp : plainArgs xs = true) (hn : xs.length < 30) (he : PE X ea (tM Z T C a)) (ha : ArgOk X xs (tA Z T C es)) :
    PE X (.Call (.Attribute ea x ap) xs [] pos) (tM Z T C (.meth a m es)) := by
  subst hx
  refine ⟨fun pins s σ H Q I h => ?_⟩
  obtain ⟨N, F, R, mh, env, rh, re, h⟩ := h
  obtain ⟨d, m1, e1, q⟩ := PO1.bd (show PO1 ((evE T C a env mh).bd fun x h => (match (clsOf h x).bind fun c => T.meth c m with
    | some f => (evA T C es env h).bd fun xs h => C.fn f (x :: xs) h
    | none => Out.no)) _ from h)
  refine PySem.W.methodCall_KW (thn (he.run pins s σ H (fun v H1 => ∃ F1 R1, EX F R H F1 R1 H1 ∧ RH Z F1 R1 H1 m1 ∧ RD Z F1 R1 d v) I ⟨N, F, R, mh, env, rh, re, PO1.mk e1 fun F1 R1 H1 v x1 rh1 t1 => ⟨F1, R1, x1, rh1, t1⟩⟩) fun u s1 q1 => ?_) (meth_eq (noSuper_of hs _ _ _) hp hn hl)
  obtain ⟨v, H1, I1, rv, F1, R1, x1, rh1, t1⟩ := q1
  cases ec : (clsOf m1 d).bind fun c => T.meth c m with
  | none =>
    rw [ec] at q
    cases q
  | some f =>
    rw [ec] at q
    obtain ⟨ys, m2, e2, q⟩ := PO1.bd q
    obtain ⟨c, e3, e4⟩ := Option.bind_eq_some_iff.mp ec
    obtain ⟨hcl, hme, hno⟩ := co.mt c m f e4
    obtain ⟨b, dx, fs, fv, rfl, eb, _, hg, rf⟩ := ins_at rh1 (.of t1) e3
    obtain rfl : u = Value.ref b := rv
    refine getmeth_ok I1 eb hcl hme (rf_none hno rf hg) ?_
    refine ha pos (.ref (fa f)) [.ref b] pins s1 σ H1 (fun vs H2 => ∃ F2 R2, EX F1 R1 H1 F2 R2 H2 ∧ RH Z F2 R2 H2 m2 ∧ RDs Z F2 R2 ys vs) _ hme.kp I1 ⟨N, F1, R1, m1, env, rh1, re.ext x1, PO1.mk e2 fun F2 R2 H2 vs x2 rh2 rs => ⟨F2, R2, x2, rh2, rs⟩⟩ fun us s2 vs H2 I2 r q2 => ?_
    obtain ⟨F2, R2, x2, rh2, rs⟩ := q2
    exact wpAny_call (run_g (us := .ref b :: us) (vs := .ref b :: vs) (co.fn f) (hr.mono (Nat.le_succ _)) hc.gd co.px I2 (.cons rfl r) ⟨F2, R2, m2, d :: ys, rh2, .cons (t1.mono x2.f x2.r) rs, PD.shift (x1.trans x2) q⟩)
/-- a property's def runs -/
theorem prop_g (co : CallOk Z M T C CX fa fi k X) (hg : X.A.guards = some []) (hr : Room (k + 1) X.A) {pins : List (Addr × Obj)} {σ : L2.St} {H : Hp} {s : Shared} {Q : VK} {c g p : Nat} {a dx : Addr} {y : Str} {fs : List (Str × V)} {b : Bool} {E' : Value → Shared → Prop} (I : Inv X pins σ H s) (ea : H a = some (.ins (Z.ca c) dx fs)) (cl : Cls X.K (Z.ca c)) (hp : PropOf X.K (Z.ca c) y p (fa g))
    (h : spF Z C g [.ref a] H Q (fun _ _ _ => False)) : wpAny (model X.prog X.w) X.A (getAttr (.ref a) y b) (EP X pins σ Q) E' s := by
  obtain ⟨mA, O, _, _, _, _⟩ := ins_get I.hok ea
  obtain ⟨od, J, _⟩ := O.look
  obtain ⟨rest, hrec⟩ := hp.rec_
  have I1 := I.tok (s.toks + 1)
  have hi : (PySem.W.clsIn X.K (Z.ca c)).isSome = true := by
    obtain ⟨cd, h1, _⟩ := PySem.W.any_some cl.hd
    rw [h1]
    rfl
  refine PySem.W.get_bind I.kIn J (PySem.W.plainGet_of (cl.get y)).1 (PySem.W.findObj_data hi hp.at_ hp.get hp.tak) (PySem.W.plainGet_of (cl.get y)).2 (wpAny_call (PySem.W.prop_get (s := { s with toks := s.toks + 1 }) I.kIn hrec ?_))
  refine codeAny_mono (co.fn g X.A.in1 X.stack { s with toks := s.toks + 1 } H [.ref a] [.ref a] Q (fun _ _ _ => False) hr.in1 hg I1.env0.in1 (.cons rfl .nil) h) fun r s' hq => ?_
  match r, hq with
  | .error er, hq => exact False.elim (co.pn pins σ H { s with toks := s.toks + 1 } er s' (I1.wish _) hq)
  | .ok (.ret u), hq =>
    obtain ⟨v, H', I3, rv, q3⟩ := I1.after hq
    show wpAny _ _ (handedOut u) _ _ _
    rw [PySem.W.handedOut_of (handed_of rv)]
    exact wpAny_pure ⟨v, H', I3, rv, q3⟩
theorem not_own {env : Mi.Env} {a : ME} (h : ownVar env a = false) (o : Out D) (mh : MH) : bor env a mh o = o := by
  cases a with
  | var i =>
    unfold ownVar at h
    unfold bor
    dsimp only at h ⊢
    cases e : env[i]? with
    | none => rfl
    | some sv =>
      rw [e] at h
      cases sv with
      | none => rfl
      | some w => cases w with
        | val d => rfl
        | own o => cases h
  | _ => rfl
/-- o.f -/
theorem snd_attr (hc : CtxOk Z M k' X) (co : CallOk Z M T C CX fa fi k X) (hr : Room (k + 1) X.A) {a : ME} {f : Nat} {x : Str} {ea : Expr} {pos : Pos} (hx : x = M.at_ f) (hs : noSuper ea = true) (he : PE X ea (tM Z T C a)) (hb : PE X ea (tB Z T C a)) :
    PE X (.Attribute ea x pos) (tM Z T C (.attr a f)) := by
  subst hx
  refine ⟨fun pins s σ H Q I h => ?_⟩
  obtain ⟨N, F, R, mh, env, rh, re, h⟩ := h
  obtain ⟨d, m1, e1, q⟩ := PO1.bd (show PO1 ((bor env a mh (evE T C a env mh)).bd fun x h => (match clsOf h x with
    | some c => (match T.prop c f with
      | some g => if ownVar env a then Out.no else C.fn g [x] h
      | none => if T.fld c f then ofO ((fldsOf h x).bind fun fs => fs.lookup f) h else .no)
    | none => .no)) _ from h)
  cases ec : clsOf m1 d with
  | none =>
    rw [ec] at q
    cases q
  | some c =>
    rw [ec] at q
    cases ep : T.prop c f with
    | some g =>
      have q : PO1 (match T.prop c f with
        | some g => if ownVar env a then Out.no else C.fn g [d] m1
        | none => if T.fld c f then ofO ((fldsOf m1 d).bind fun fs => fs.lookup f) m1 else .no) _ := q
      rw [ep] at q
      have q : PO1 (if ownVar env a then Out.no else C.fn g [d] m1) _ := q
      cases eo : ownVar env a with
      | true =>
        rw [eo] at q
        cases q
      | false =>
        rw [eo] at q
        have q : PO1 (C.fn g [d] m1) _ := q
        rw [not_own eo] at e1
        obtain ⟨cl, p, hp⟩ := co.pr c f g ep
        refine attr_of (noSuper_of hs _ _ _) (thn (he.run pins s σ H (fun v H1 => ∃ F1 R1, EX F R H F1 R1 H1 ∧ RH Z F1 R1 H1 m1 ∧ RD Z F1 R1 d v) I ⟨N, F, R, mh, env, rh, re, PO1.mk e1 fun F1 R1 H1 v x1 rh1 t1 => ⟨F1, R1, x1, rh1, t1⟩⟩) fun u s1 q1 => ?_)
        obtain ⟨v, H1, I1, rv, F1, R1, x1, rh1, t1⟩ := q1
        obtain ⟨b, dx, fs, fv, rfl, eb, _, hg, rf⟩ := ins_at rh1 (.of t1) ec
        obtain rfl : u = Value.ref b := rv
        exact prop_g co hc.gd hr I1 eb cl hp ⟨F1, R1, m1, [d], rh1, .cons t1 .nil, PD.shift x1 q⟩
    | none =>
      have q : PO1 (match T.prop c f with
        | some g => if ownVar env a then Out.no else C.fn g [d] m1
        | none => if T.fld c f then ofO ((fldsOf m1 d).bind fun fs => fs.lookup f) m1 else .no) _ := q
      rw [ep] at q
      have q : PO1 (if T.fld c f then ofO ((fldsOf m1 d).bind fun fs => fs.lookup f) m1 else .no) _ := q
      cases ef : T.fld c f with
      | false =>
        rw [ef] at q
        cases q
      | true =>
        rw [ef] at q
        obtain ⟨w, e2, q⟩ := PO1.ofO (show PO1 (ofO ((fldsOf m1 d).bind fun fs => fs.lookup f) m1) _ from q)
        obtain ⟨cl, na, zf⟩ := co.fd c f ef
        refine (pe_fld (X := X) hb (noSuper_of hs _ _ _)).run pins s σ H Q I ⟨N, F, R, mh, env, rh, re, PO1.mk e1 fun F1 R1 H1 v x1 rh1 t1 => ?_⟩
        obtain ⟨b, dx, fs, fv, rfl, eb, e3, hg, rf⟩ := ins_at rh1 t1 ec
        rw [e3] at e2
        obtain ⟨v2, e4, r2⟩ := rf_lookup (c := c) (fun g h1 h2 => co.inj c g f h1 zf h2) rf hg (show fs.lookup f = some w from e2)
        exact ⟨b, Z.ca c, dx, fv, v2, rfl, eb, cl, na, by rw [co.an]; exact e4, q F1 R1 H1 _ x1 rh1 r2⟩
theorem few_any {e : Expr} {xs : List Expr} {env : PySem.Env} {pos : Pos} (h : plainArgs (e :: xs) = true) : (backTo pos (starEach xs env)).any (·.1) = false := by
  have h2 := (ba2 (show (noStar e && plainArgs xs) = true from h)).2
  have := plain_few (env := env) (pos := pos) h2
  cases z : (backTo pos (starEach xs env)).any (·.1) with
  | false => rfl
  | true =>
    rw [List.any_eq_true] at z
    obtain ⟨y, hy, hb⟩ := z
    rw [List.all_eq_true] at this
    have := this y hy
    rw [hb] at this
    cases this
/-- C.m(..), m a classmethod -/
theorem snd_cm (hc : CtxOk Z M k' X) (co : CallOk Z M T C CX fa fi k X) (hr : Room (k + 1) X.A) {c m : Nat} {es : MA} {x y : Str} {ap p1 pos : Pos} {e : Expr} {xs : List Expr} (hx : x = M.at_ m) (hy : mtGlob X.env.scope y (M.cl c) = true) (hgc : M.gc c = true) (hl : (ap.endLine == pos.line) = true) (hp : plainArgs (e :: xs) = true) (hn : (e :: xs).length < 30) (hst : ∀ f, T.cmeth c m ≠ some (f, false)) (ha : PA X (e :: xs) (tA Z T C es)) :
    PE X (.Call (.Attribute (.Name y p1) x ap) (e :: xs) [] pos) (tM Z T C (.cm c m es)) := by
  subst hx
  obtain ⟨rfl, hg, hd⟩ := glob_of hy
  obtain ⟨h1, _⟩ := co.mke c hgc
  refine ⟨fun pins s σ H Q I h => ?_⟩
  obtain ⟨N, F, R, mh, env, rh, re, h⟩ := h
  obtain ⟨ys, m1, e1, q⟩ := PO1.bd (show PO1 ((evA T C es env mh).bd fun xs h => (match T.cmeth c m with
    | some (f, true) => C.fn f (.cls c :: xs) h
    | some (f, false) => C.fn f xs h
    | none => Out.no)) _ from h)
  cases em : T.cmeth c m with
  | none =>
    rw [em] at q
    cases q
  | some fb =>
    rw [em] at q
    obtain ⟨f, b⟩ := fb
    cases b with
    | false => exact (hst f em).elim
    | true =>
      have q : PO1 (C.fn f (.cls c :: ys) m1) _ := q
      obtain ⟨mc, p, cr, cm⟩ := co.cm c m f em
      refine PySem.W.methodCall_KW (ld_glob I hg h1 ?_ hd) (meth_eq rfl hp hn hl)
      refine ClX.getmethcm_ok I cr cm fun s2 I2 => ?_
      have hs : noStar e = true := (ba2 (show (noStar e && plainArgs xs) = true from hp)).1
      refine ClX.callwith_cm I2 (ClX.base_none I (Nat.le_refl _)) cm.fi (thn (ha.run pos _ s2 σ H (fun vs H1 => ∃ F1 R1, EX F R H F1 R1 H1 ∧ RH Z F1 R1 H1 m1 ∧ RDs Z F1 R1 ys vs) I2 ⟨N, F, R, mh, env, rh, re, PO1.mk e1 fun F1 R1 H1 vs x1 rh1 rs => ⟨F1, R1, x1, rh1, rs⟩⟩) fun us s3 ⟨vs, H2, I3, rv, q2⟩ => ⟨⟨ClX.pin_at I3, I3.kIn⟩, ?_⟩) (star_of hs _ _) (few_any hp)
      obtain ⟨F1, R1, x1, rh1, rs⟩ := q2
      have z : wpAny (model X.prog X.w) X.A (call (.ref _) us) (EP X ((_, PySem.W.methodObj (.ref (fa f)) (.ref (Z.ca c))) :: pins) σ Q) X.xe s3 :=
        wpAny_call (PySem.W.method_call (ClX.pin_at I3) (run_g (us := .ref (Z.ca c) :: us) (vs := .ref (Z.ca c) :: vs) (co.fn f) (hr.mono (Nat.le_succ _)) hc.gd co.px I3 (.cons rfl rv) ⟨F1, R1, m1, .cls c :: ys, rh1, .cons (.cls c) rs, PD.shift x1 q⟩))
      exact thn z fun _ _ y => ClX.unpinE y
end
end Mi
/-! MiAlc: things that are put into the heap; cls(..); tuple(range(..)). -/
namespace Mi
open PySem PySem.Spec PyProof.Rows L2

section
variable {Z : NA} {M : NM} {T : CT} {C : Cl} {k k' : Nat} {X : Cx} {CX : CXT} {fa fi : Nat → Addr}
theorem EX.pushR {F R H F' R' H'} {a : Addr} (x : EX F R H F' R' H') (h : H a = none) : EX F R H F' (R' ++ [a]) H' where
  f := x.f
  nf := x.nf
  r := x.r.trans (List.prefix_append _ _)
  nr := fun b hb => by
    rcases List.mem_append.mp hb with q | q
    · exact x.nr b q
    · rw [List.mem_singleton.mp q]
      exact .inr h
  keep := x.keep
  there := x.there
theorem RO.monoR {F R R' H} {o : MO} {a : Addr} (p : R <+: R') (h : RO Z F R H o a) : RO Z F R' H o a := by
  cases o with
  | lst xs =>
    obtain ⟨vs, h1, h2⟩ := h
    exact ⟨vs, h1, h2.mono (fun _ _ z => z) p⟩
  | dct kvs =>
    obtain ⟨vs, h1, h2⟩ := h
    exact ⟨vs, h1, h2.mono (fun _ _ z => z) p⟩
  | ndc kvs =>
    obtain ⟨vs, h1, h2⟩ := h
    exact ⟨vs, h1, h2.mono (fun _ _ z => z) p⟩
  | ins c fs =>
    obtain ⟨dx, fv, h1, hg, h2⟩ := h
    exact ⟨dx, fv, h1, hg, h2.mono (fun _ _ z => z) p⟩
theorem RH.pushR {F H} {R : List Addr} {mh : MH} {a : Addr} {o : MO} (r : RH Z F R H mh) (ro : RO Z F R H o a) (hF : F a = none) (hR : a ∉ R) : RH Z F (R ++ [a]) H (mh ++ [o]) where
  sub := r.sub
  len := by rw [List.length_append, List.length_append, r.len]; rfl
  obj := fun n b u h1 h2 => by
    by_cases hn : n < R.length
    · rw [List.getElem?_append_left hn] at h1
      rw [List.getElem?_append_left (by rw [← r.len]; exact hn)] at h2
      exact (r.obj n b u h1 h2).monoR (List.prefix_append _ _)
    · rw [List.getElem?_append_right (by omega)] at h1
      rw [List.getElem?_append_right (by rw [← r.len]; omega), ← r.len] at h2
      have e : n - R.length = 0 := by
        by_cases z : n - R.length = 0
        · exact z
        · rw [List.getElem?_eq_none (by rw [List.length_singleton]; omega)] at h1
          cases h1
      rw [e] at h1 h2
      cases h1
      cases h2
      exact ro.monoR (List.prefix_append _ _)
  inj := fun n m b h1 h2 => by
    have key : ∀ n, (R ++ [a])[n]? = some b → (n < R.length ∧ R[n]? = some b) ∨ (n = R.length ∧ b = a) := fun n h => by
      by_cases hn : n < R.length
      · rw [List.getElem?_append_left hn] at h
        exact .inl ⟨hn, h⟩
      · rw [List.getElem?_append_right (by omega)] at h
        by_cases z : n - R.length = 0
        · rw [z] at h
          cases h
          exact .inr ⟨by omega, rfl⟩
        · rw [List.getElem?_eq_none (by rw [List.length_singleton]; omega)] at h
          cases h
    rcases key n h1 with ⟨_, q1⟩ | ⟨q1, rfl⟩
    · rcases key m h2 with ⟨_, q2⟩ | ⟨q2, rfl⟩
      · exact r.inj n m b q1 q2
      · exact absurd (List.mem_of_getElem? q1) hR
    · rcases key m h2 with ⟨_, q2⟩ | ⟨q2, _⟩
      · exact absurd (List.mem_of_getElem? q2) hR
      · omega
  dis := fun b hb => by
    rcases List.mem_append.mp hb with q | q
    · exact r.dis b q
    · rw [List.mem_singleton.mp q]
      exact hF
theorem rd_push {F : Hp} {R : List Addr} {a : Addr} {n : Nat} (h : R.length = n) : RD Z F (R ++ [a]) (.ref n) (.ref a) := .ref (by
  rw [List.getElem?_append_right (by omega), h, Nat.sub_self]
  rfl)
/-- a new list of the heap -/
theorem snd_allocL {es : MA} {xs : List Expr} {pos : Pos} (ha : PA X xs (tA Z T C es)) : PE X (.List xs pos) (tM Z T C (.alloc (.lst es))) := by
  refine PE.imp (pe_lst ha) fun σ H Q q => ?_
  obtain ⟨N, F, R, mh, env, rh, re, q⟩ := q
  have q : PD Z F R H (((evA T C es env mh).bd fun xs h => if xs.length ≤ lim then Out.ok (D.lst xs) h else .no).bd fun x h => (match x with
    | .lst xs => .ok (.ref h.length) (h ++ [.lst xs])
    | .obj c fs => .ok (.ref h.length) (h ++ [.ins c fs])
    | _ => .no)) Q := q
  obtain ⟨d, m1, e0, q⟩ := PO1.bd q
  obtain ⟨ys, m2, e1, q0⟩ := PO1.bd (show PO1 ((evA T C es env mh).bd fun xs h => if xs.length ≤ lim then Out.ok (D.lst xs) h else .no) (fun d' m' => d' = d ∧ m' = m1) from PO1.mk e0 ⟨rfl, rfl⟩)
  by_cases hl : ys.length ≤ lim
  · rw [if_pos hl] at q0
    obtain ⟨q1, q2⟩ := (show D.lst ys = d ∧ m2 = m1 from q0)
    subst q1
    subst q2
    refine ⟨N, F, R, mh, env, rh, re, PO1.mk e1 fun F1 R1 H1 vs x1 rh1 rs => ?_⟩
    refine ⟨by rw [← rs.length]; exact lim_line hl, fun p hp => ?_⟩
    have hpH : H p = none := by
      cases z : H p with
      | none => rfl
      | some o =>
        obtain ⟨u, hu⟩ := x1.there p o z
        rw [hp] at hu
        cases hu
    exact q F1 (R1 ++ [p]) _ _ ((x1.trans (EX.own hp)).pushR hpH) ((rh1.own hp).pushR (o := .lst ys) ⟨vs, upd_same, rs⟩ (rh1.none_F hp) (rh1.notin hp)) (rd_push rh1.len)
  · rw [if_neg hl] at q0
    cases q0
/-- an instance is made: what is asked of it -/
theorem make_run (hc : CtxOk Z M k' X) (co : CallOk Z M T C CX fa fi k X) (hr : Room (k + 1) X.A) {c : Nat} (h2 : Mk X.K (Z.ca c) (fi c)) {pins : List (Addr × Obj)} {s : Shared} {σ : L2.St} {F1 H1 : Hp} {R1 : List Addr} {m1 m2 : MH} {ys : List D} {fs : List (Nat × D)} {Q : VK} {us : List Value} {vs : List V} (I1 : Inv X pins σ H1 s) (r : Vals vs us) (rh1 : RH Z F1 R1 H1 m1) (rs : RDs Z F1 R1 ys vs) (e2 : C.mke c ys m1 = .ok fs m2)
    (q : ∀ y dx F' R' H' fv', H1 y = none → EX F1 R1 H1 F' R' H' → RH Z F' R' H' m2 → Trk F' R' H' y (.ins (Z.ca c) dx fv') → (∀ p ∈ fs, Z.fld c p.1 = true) → RFs Z F' R' fs fv' → Q (.ref y) H') :
    wpAny (model X.prog X.w) X.A (call (.ref (Z.ca c)) us) (EP X pins σ Q) X.xe s := by
  refine made_g co hc.gd hr h2 I1 r fun y dx hy hdx hne => ?_
  have xy : EX F1 R1 H1 F1 R1 (upd (upd H1 dx (.own y)) y (.ins (Z.ca c) dx [])) := (EX.own hdx).upd hy
  have sub : ∀ a o, H1 a = some o → hole (upd (upd H1 dx (.own y)) y (.ins (Z.ca c) dx [])) y a = some o := fun a o e => by
    have n1 : a ≠ y := ne_of_none e hy
    have n2 : a ≠ dx := ne_of_none e hdx
    unfold hole
    rw [if_neg n1, upd_ne n1, upd_ne n2]
    exact e
  refine ⟨F1, R1, m1, y, dx, c, [], [], ys, vs, rfl, (rh1.own hdx).upd (rh1.none_F hy) (rh1.notin hy), ⟨upd_same, rh1.none_F hy, rh1.notin hy⟩, (fun _ h => nomatch h), .nil, rs, ?_⟩
  have hm : C.ini c c [] ys m1 = .ok fs m2 := (co.same c ys m1).trans e2
  refine PO1.mk hm fun F' R' H' dx' fv' ex rh' tk hf' rf => ⟨rfl, ?_⟩
  exact q y dx' F' R' H' fv' hy (ex.less sub) rh' tk hf' rf
/-- frozen, put into the heap -/
theorem make_frz {F1 H1 : Hp} {R1 : List Addr} {m2 : MH} {c : Nat} {fs : List (Nat × D)} {Q : VK} (q : ∀ F' R' H' v, EX F1 R1 H1 F' R' H' → RH Z F' R' H' m2 → RD Z F' R' (.obj c fs) v → Q v H') :
    ∀ y dx F' R' H' fv', H1 y = none → EX F1 R1 H1 F' R' H' → RH Z F' R' H' m2 → Trk F' R' H' y (.ins (Z.ca c) dx fv') → (∀ p ∈ fs, Z.fld c p.1 = true) → RFs Z F' R' fs fv' → Q (.ref y) H' := fun y dx F' R' H' fv' hy ex rh' tk hf' rf => by
  have mono : ∀ a u, F' a = some u → upd F' y (.ins (Z.ca c) dx fv') a = some u := fun a u h => by
    rw [upd_ne (ne_of_none h tk.2.1)]
    exact h
  exact q _ R' H' _ (ex.freeze hy tk.2.1) (rh'.frz tk.1 tk.2.1 tk.2.2) (.obj upd_same hf' (RFs.mono mono (List.prefix_refl _) rf))
theorem make_alc {F1 H1 : Hp} {R1 : List Addr} {m2 : MH} {c : Nat} {fs : List (Nat × D)} {Q : VK} (q : ∀ F' R' H' v, EX F1 R1 H1 F' R' H' → RH Z F' R' H' (m2 ++ [.ins c fs]) → RD Z F' R' (.ref m2.length) v → Q v H') :
    ∀ y dx F' R' H' fv', H1 y = none → EX F1 R1 H1 F' R' H' → RH Z F' R' H' m2 → Trk F' R' H' y (.ins (Z.ca c) dx fv') → (∀ p ∈ fs, Z.fld c p.1 = true) → RFs Z F' R' fs fv' → Q (.ref y) H' := fun y dx F' R' H' fv' hy ex rh' tk hf' rf =>
  q F' (R' ++ [y]) H' _ (ex.pushR hy) (rh'.pushR (o := .ins c fs) ⟨dx, fv', tk.1, hf', rf⟩ tk.2.1 tk.2.2) (rd_push rh'.len)
theorem snd_makeA (hc : CtxOk Z M k' X) (co : CallOk Z M T C CX fa fi k X) (hr : Room (k + 1) X.A) {c : Nat} {es : MA} {x : Str} {p pos : Pos} {xs : List Expr} (hx : mtGlob X.env.scope x (M.cl c) = true) (hf : M.gc c = true) (ha : ArgOk X xs (tA Z T C es)) :
    PE X (.Call (.Name x p) xs [] pos) (tM Z T C (.alloc (.make c es))) := by
  obtain ⟨rfl, hg, hd⟩ := glob_of hx
  obtain ⟨h1, h2⟩ := co.mke c hf
  refine ⟨fun pins s σ H Q I h => ?_⟩
  obtain ⟨N, F, R, mh, env, rh, re, h⟩ := h
  obtain ⟨d, m0, e0, q⟩ := PO1.bd (show PO1 (((evA T C es env mh).bd fun xs h => (C.mke c xs h).bd fun fs h => .ok (D.obj c fs) h).bd fun x h => (match x with
    | .lst xs => Out.ok (D.ref h.length) (h ++ [.lst xs])
    | .obj c fs => .ok (D.ref h.length) (h ++ [.ins c fs])
    | _ => .no)) _ from h)
  obtain ⟨ys, m1, e1, q1⟩ := PO1.bd (show PO1 ((evA T C es env mh).bd fun xs h => (C.mke c xs h).bd fun fs h => .ok (D.obj c fs) h) (fun d' m' => d' = d ∧ m' = m0) from PO1.mk e0 ⟨rfl, rfl⟩)
  obtain ⟨fs, m2, e2, q1⟩ := PO1.bd q1
  obtain ⟨q2, q3⟩ := (show D.obj c fs = d ∧ m2 = m0 from q1)
  subst q2
  subst q3
  refine wpAny_Call_Name_kw (ld_glob I hg h1 ?_ hd)
  refine ha pos (.ref (Z.ca c)) [] pins s σ H (fun vs H1 => ∃ F1 R1, EX F R H F1 R1 H1 ∧ RH Z F1 R1 H1 m1 ∧ RDs Z F1 R1 ys vs) _ h2.kp I ⟨N, F, R, mh, env, rh, re, PO1.mk e1 fun F1 R1 H1 vs x1 rh1 rs => ⟨F1, R1, x1, rh1, rs⟩⟩ fun us s1 vs H1 I1 r q1 => ?_
  obtain ⟨F1, R1, x1, rh1, rs⟩ := q1
  exact make_run hc co hr h2 I1 r rh1 rs e2 (make_alc fun F' R' H' v x rh' rd => q F' R' H' v (x1.trans x) rh' rd)
/-- cls(..) -/
theorem makeV_run (hc : CtxOk Z M k' X) (co : CallOk Z M T C CX fa fi k X) (hr : Room (k + 1) X.A) {i : Nat} {es : MA} {x : Str} {p pos : Pos} {xs : List Expr} (hx : mtVar X.N X.env.scope i x = true) (ha : ArgOk X xs (tA Z T C es)) {pins : List (Addr × Obj)} {s : Shared} {σ : L2.St} {H : Hp} {Q : VK} (I : Inv X pins σ H s)
    {N : EN} {F : Hp} {R : List Addr} {mh m2 : MH} {env : Mi.Env} {d : D} (rh : RH Z F R H mh) (re : RE Z N F R H env σ) (e : evE T C (.makeV i es) env mh = .ok d m2)
    (q : ∀ c fs, d = .obj c fs → ∀ F1 R1 H1, EX F R H F1 R1 H1 → ∀ y dx F' R' H' fv', H1 y = none → EX F1 R1 H1 F' R' H' → RH Z F' R' H' m2 → Trk F' R' H' y (.ins (Z.ca c) dx fv') → (∀ p ∈ fs, Z.fld c p.1 = true) → RFs Z F' R' fs fv' → Q (.ref y) H') :
    wpAny (model X.prog X.w) X.A (eval (.Call (.Name x p) xs [] pos) X.env) (EP X pins σ Q) X.xe s := by
  have e : (match env[i]? with
    | some (some (.val (.cls c))) => if T.mkc c then (evA T C es env mh).bd fun xs h => (C.mke c xs h).bd fun fs h => .ok (D.obj c fs) h else .no
    | _ => .no) = Out.ok d m2 := e
  cases es' : env[i]? with
  | none =>
    rw [es'] at e
    cases e
  | some sv =>
    rw [es'] at e
    match sv, es', e with
    | some (.val (.cls c)), es', e =>
      have e : (if T.mkc c then (evA T C es env mh).bd fun xs h => (C.mke c xs h).bd fun fs h => .ok (D.obj c fs) h else .no) = Out.ok d m2 := e
      cases hm : T.mkc c with
      | false =>
        rw [hm] at e
        cases e
      | true =>
        rw [hm] at e
        obtain ⟨v, hσ, rd⟩ := re.val i _ es'
        cases rd
        have h2 := co.mkv c hm
        obtain ⟨ys, m1, e1, q1⟩ := PO1.bd (show PO1 ((evA T C es env mh).bd fun xs h => (C.mke c xs h).bd fun fs h => .ok (D.obj c fs) h) (fun d' m' => d' = d ∧ m' = m2) from PO1.mk e ⟨rfl, rfl⟩)
        obtain ⟨fs, m3, e2, q1⟩ := PO1.bd q1
        obtain ⟨q2, q3⟩ := (show D.obj c fs = d ∧ m3 = m2 from q1)
        subst q2
        subst q3
        refine wpAny_Call_Name_kw (thn ((snd_var0 (pos := p) hx).run pins s σ H (fun v H1 => v = .ref (Z.ca c) ∧ H1 = H) I ⟨_, hσ, rfl, rfl⟩) fun u s1 ⟨v, H1, I1, rv, ev, eH⟩ => ?_)
        subst ev
        subst eH
        obtain rfl : u = Value.ref (Z.ca c) := rv
        refine ha pos (.ref (Z.ca c)) [] pins s1 σ _ (fun vs H2 => ∃ F1 R1, EX F R _ F1 R1 H2 ∧ RH Z F1 R1 H2 m1 ∧ RDs Z F1 R1 ys vs) _ h2.kp I1 ⟨N, F, R, mh, env, rh, re, PO1.mk e1 fun F1 R1 H1 vs x1 rh1 rs => ⟨F1, R1, x1, rh1, rs⟩⟩ fun us s2 vs H2 I2 r q1 => ?_
        obtain ⟨F1, R1, x1, rh1, rs⟩ := q1
        exact make_run hc co hr h2 I2 r rh1 rs e2 (q c fs rfl F1 R1 H2 x1)
theorem snd_makeV (hc : CtxOk Z M k' X) (co : CallOk Z M T C CX fa fi k X) (hr : Room (k + 1) X.A) {i : Nat} {es : MA} {x : Str} {p pos : Pos} {xs : List Expr} (hx : mtVar X.N X.env.scope i x = true) (ha : ArgOk X xs (tA Z T C es)) :
    PE X (.Call (.Name x p) xs [] pos) (tM Z T C (.makeV i es)) := by
  refine ⟨fun pins s σ H Q I h => ?_⟩
  obtain ⟨N, F, R, mh, env, rh, re, h⟩ := h
  obtain ⟨d, m2, e, q⟩ := PO1.get h
  refine makeV_run hc co hr hx ha I rh re e fun c fs ed F1 R1 H1 x1 => ?_
  subst ed
  exact make_frz fun F' R' H' v x rh' rd => q F' R' H' v (x1.trans x) rh' rd
theorem snd_makeVA (hc : CtxOk Z M k' X) (co : CallOk Z M T C CX fa fi k X) (hr : Room (k + 1) X.A) {i : Nat} {es : MA} {x : Str} {p pos : Pos} {xs : List Expr} (hx : mtVar X.N X.env.scope i x = true) (ha : ArgOk X xs (tA Z T C es)) :
    PE X (.Call (.Name x p) xs [] pos) (tM Z T C (.alloc (.makeV i es))) := by
  refine ⟨fun pins s σ H Q I h => ?_⟩
  obtain ⟨N, F, R, mh, env, rh, re, h⟩ := h
  obtain ⟨d, m2, e, q⟩ := PO1.bd (show PO1 ((evE T C (.makeV i es) env mh).bd fun x h => (match x with
    | .lst xs => Out.ok (D.ref h.length) (h ++ [.lst xs])
    | .obj c fs => .ok (D.ref h.length) (h ++ [.ins c fs])
    | _ => .no)) _ from h)
  refine makeV_run hc co hr hx ha I rh re e fun c fs ed F1 R1 H1 x1 => ?_
  subst ed
  exact make_alc fun F' R' H' v x rh' rd => q F' R' H' v (x1.trans x) rh' rd
/-- tuple(range(..)), list(range(..)) -/
theorem rg_rd {F : Hp} {R : List Addr} (lo hi : Int) : RDs Z F R (rngD lo hi) (rgV lo hi) := by
  unfold rngD rgV
  generalize List.range (hi - lo).toNat = l
  induction l with
  | nil => exact .nil
  | cons x r ih => exact .cons (.int _) ih
theorem rg_ok {a b : Int} (h : -lim ≤ a ∧ a ≤ lim ∧ -lim ≤ b ∧ b ≤ lim) : RgOk a b := by
  obtain ⟨h1, h2, h3, h4⟩ := h
  have e : ((lim : Nat) : Int) = 1000000 := rfl
  rw [e] at h1 h2 h3 h4
  exact ⟨by omega, by omega, by omega, by omega, by omega⟩
theorem snd_colC (hc : CtxOk Z M k X) {t : Bool} {te : L2.St → Hp → (Int → Int → Hp → Prop) → Prop} {x : Str} {e : Expr} {p pos : Pos} (hx : mtGlob X.env.scope x (colName t) = true) (hs : noStar e = true) (he : PRg X e te) : PE X (.Call (.Name x p) [e] [] pos) (if t then tTupRg te else tLstRg te) := by
  obtain ⟨rfl, hg, hd⟩ := glob_of hx
  cases t with
  | true => exact pe_tupRg hc.calm hg (hc.blt .tuple) he (star_of hs _ _)
  | false => exact pe_listRg hc.calm hg (hc.blt .list) he (star_of hs _ _)
theorem snd_colQ {t : Bool} {F H : Hp} {R : List Addr} {m : MH} {lo hi : Int} {Q : VK} {te : L2.St → Hp → (Int → Int → Hp → Prop) → Prop} {σ : L2.St} {H0 : Hp} (rh : RH Z F R H m) (q : ∀ F' R' H' v, EX F R H F' R' H' → RH Z F' R' H' m → RD Z F' R' (if t then .tup (rngD lo hi) else .lst (rngD lo hi)) v → Q v H') :
    ∀ p, H p = none → Q (.ref p) (upd H p (if t then .tup (rgV lo hi) else .lst (rgV lo hi))) := fun p hp => by
  have x := EX.new (R := R) (o := if t then HO.tup (rgV lo hi) else .lst (rgV lo hi)) hp rh.sub
  refine q _ R _ _ x (rh.new hp) ?_
  cases t with
  | true => exact .tup upd_same (rg_rd lo hi)
  | false => exact .lst (.inl upd_same) (rg_rd lo hi)
theorem snd_col1 (hc : CtxOk Z M k X) {t : Bool} {a : ME} {x y : Str} {ea : Expr} {p p2 pos pos2 : Pos} (hx : mtGlob X.env.scope x (colName t) = true) (hy : mtGlob X.env.scope y "range" = true) (hs : noStar ea = true) (h : PE X ea (tM Z T C a)) :
    PE X (.Call (.Name x p) [.Call (.Name y p2) [ea] [] pos2] [] pos) (tM Z T C (.col t (.rng a))) := by
  obtain ⟨rfl, hg, hd⟩ := glob_of hy
  refine PE.imp (snd_colC hc hx rfl (prg_1 hg hc.rng h (star_of hs _ _))) fun σ H Q q => ?_
  obtain ⟨N, F, R, mh, env, rh, re, q⟩ := q
  obtain ⟨xs, m1, e1, q⟩ := PO1.bd (show PO1 ((evI T C true (.rng a) env mh).bd fun xs h => Out.ok (if t then D.tup xs else .lst xs) h) _ from q)
  obtain ⟨d, m2, e2, q0⟩ := PO1.bd (show PO1 ((evE T C a env mh).bd fun x h => (match x with | .int i => if -lim ≤ i ∧ i ≤ lim then Out.ok (rngD 0 i) h else .no | _ => .no)) (fun d' m' => d' = xs ∧ m' = m1) from PO1.mk e1 ⟨rfl, rfl⟩)
  cases d with
  | int i =>
    have q0 : PO1 (if -lim ≤ i ∧ i ≤ lim then Out.ok (rngD 0 i) m2 else .no) (fun d' m' => d' = xs ∧ m' = m1) := q0
    by_cases hl : -(lim : Int) ≤ i ∧ i ≤ lim
    · rw [if_pos hl] at q0
      obtain ⟨q1, q2⟩ := (show rngD 0 i = xs ∧ m2 = m1 from q0)
      subst q1
      subst q2
      have core : ∀ F1 R1 H1 v, EX F R H F1 R1 H1 → RH Z F1 R1 H1 m2 → RD Z F1 R1 (.int i) v → ∃ n, v = .int n ∧ RgOk 0 n ∧ ∀ p, H1 p = none → Q (.ref p) (upd H1 p (if t then .tup (rgV 0 n) else .lst (rgV 0 n))) := fun F1 R1 H1 v x1 rh1 t1 => by
        cases t1
        exact ⟨i, rfl, rg_ok ⟨by decide, by decide, hl.1, hl.2⟩, snd_colQ (te := fun _ _ _ => True) (σ := σ) (H0 := H) rh1 fun F' R' H' v x rh' rd => q F' R' H' v (x1.trans x) rh' rd⟩
      cases t with
      | true => exact ⟨N, F, R, mh, env, rh, re, PO1.mk e2 core⟩
      | false => exact ⟨N, F, R, mh, env, rh, re, PO1.mk e2 core⟩
    · rw [if_neg hl] at q0
      cases q0
  | _ => cases q0
theorem snd_col2 (hc : CtxOk Z M k X) {t : Bool} {a b : ME} {x y : Str} {ea eb : Expr} {p p2 pos pos2 : Pos} (hx : mtGlob X.env.scope x (colName t) = true) (hy : mtGlob X.env.scope y "range" = true) (hs : noStar ea = true) (hs2 : noStar eb = true) (h : PE X ea (tM Z T C a)) (h2 : PE X eb (tM Z T C b)) :
    PE X (.Call (.Name x p) [.Call (.Name y p2) [ea, eb] [] pos2] [] pos) (tM Z T C (.col t (.rng2 a b))) := by
  obtain ⟨rfl, hg, hd⟩ := glob_of hy
  have hp2 : (backTo pos2 (starEach [eb] X.env)).any (·.1) = false := by
    rw [star_of hs2 _ _]
    rfl
  refine PE.imp (snd_colC hc hx rfl (prg_2 hg hc.rng h h2 (star_of hs _ _) (star_of hs2 _ _) hp2)) fun σ H Q q => ?_
  obtain ⟨N, F, R, mh, env, rh, re, q⟩ := q
  obtain ⟨xs, m1, e1, q⟩ := PO1.bd (show PO1 ((evI T C true (.rng2 a b) env mh).bd fun xs h => Out.ok (if t then D.tup xs else .lst xs) h) _ from q)
  obtain ⟨d, m2, e2, q0⟩ := PO1.bd (show PO1 ((evE T C a env mh).bd fun x h => (evE T C b env h).bd fun y h => (match x, y with | .int i, .int j => if -lim ≤ i ∧ i ≤ lim ∧ -lim ≤ j ∧ j ≤ lim then Out.ok (rngD i j) h else .no | _, _ => .no)) (fun d' m' => d' = xs ∧ m' = m1) from PO1.mk e1 ⟨rfl, rfl⟩)
  obtain ⟨d2, m3, e3, q0⟩ := PO1.bd q0
  cases d with
  | int i =>
    cases d2 with
    | int j =>
      have q0 : PO1 (if -lim ≤ i ∧ i ≤ lim ∧ -lim ≤ j ∧ j ≤ lim then Out.ok (rngD i j) m3 else .no) (fun d' m' => d' = xs ∧ m' = m1) := q0
      by_cases hl : -(lim : Int) ≤ i ∧ i ≤ lim ∧ -(lim : Int) ≤ j ∧ j ≤ lim
      · rw [if_pos hl] at q0
        obtain ⟨q1, q2⟩ := (show rngD i j = xs ∧ m3 = m1 from q0)
        subst q1
        subst q2
        have core : ∀ F1 R1 H1 v, EX F R H F1 R1 H1 → RH Z F1 R1 H1 m2 → RD Z F1 R1 (.int i) v → tM Z T C b σ H1 fun y H2 => ∃ i' j', v = .int i' ∧ y = .int j' ∧ RgOk i' j' ∧ ∀ p, H2 p = none → Q (.ref p) (upd H2 p (if t then .tup (rgV i' j') else .lst (rgV i' j'))) := fun F1 R1 H1 v x1 rh1 t1 => by
          refine ⟨N, F1, R1, m2, env, rh1, re.ext x1, PO1.mk e3 fun F2 R2 H2 v2 x2 rh2 t2 => ?_⟩
          cases t1
          cases t2
          exact ⟨i, j, rfl, rfl, rg_ok hl, snd_colQ (te := fun _ _ _ => True) (σ := σ) (H0 := H) rh2 fun F' R' H' v x rh' rd => q F' R' H' v ((x1.trans x2).trans x) rh' rd⟩
        cases t with
        | true => exact ⟨N, F, R, mh, env, rh, re, PO1.mk e2 core⟩
        | false => exact ⟨N, F, R, mh, env, rh, re, PO1.mk e2 core⟩
      · rw [if_neg hl] at q0
        cases q0
    | _ => cases q0
  | _ => cases q0
end
end Mi
/-! MiAll: all terms. -/
namespace Mi
open PySem PySem.Spec PyProof.Rows L2

structure BltOk (Z : NA) (X : Cx) : Prop where
  sorted : CallR X (.builtin "sorted") (rCall Z (bltD .sorted))
  repr : CallR X (.builtin "repr") (rCall Z (bltD .repr))
/-- what every context of the code that runs has -/
structure All (Z : NA) (M : NM) (T : CT) (C : Cl) (CX : CXT) (fa fi : Nat → Addr) (k : Nat) (X : Cx) : Prop where
  c : CtxOk Z M k X
  cl : ClOk Z M T X.K X.mg
  f : CallOk Z M T C CX fa fi k X
  r : Room (k + 1) X.A
  zip : X.mg "zip" = none
  enm : X.mg "enumerate" = none
section
variable {Z : NA} {M : NM} {T : CT} {C : Cl} {k : Nat} {X : Cx} {CX : CXT} {fa fi : Nat → Addr}
def bltV : Blt → Value
  | .tuple => .type "tuple" | .list => .type "list" | .str => .type "str" | .int => .type "int"
  | .len => .builtin "len" | .sum => .builtin "sum" | .all => .builtin "all" | .sorted => .builtin "sorted" | .max => .builtin "max" | .min => .builtin "min" | .repr => .builtin "repr"
theorem cb_any (hc : CtxOk Z M k X) (hb : BltOk Z X) (b : Blt) : CallR X (bltV b) (rCall Z (bltD b)) := by
  cases b with
  | len => exact cb_len
  | sum => exact cb_sum hc.calm hc.hK
  | all => exact cb_all hc.calm hc.hK
  | tuple => exact cb_tuple
  | list => exact cb_list hc.calm
  | sorted => exact hb.sorted
  | max => exact cb_max hc.calm
  | min => exact cb_min hc.calm
  | str => exact cb_str
  | int => exact cb_int
  | repr => exact hb.repr
theorem snd_blt (hc : CtxOk Z M k X) (hb : BltOk Z X) {b : Blt} {es : MA} {x : Str} {e : Expr} {xs : List Expr} {p pos : Pos} (hx : mtGlob X.env.scope x (bltName b) = true) (hp : plainArgs (e :: xs) = true) (ha : PA X (e :: xs) (tAB Z T C es)) :
    PE X (.Call (.Name x p) (e :: xs) [] pos) (tM Z T C (.blt b es)) := by
  obtain ⟨rfl, hg, hd⟩ := glob_of hx
  have hs : noStar e = true := (ba2 (show (noStar e && plainArgs xs) = true from hp)).1
  have core : PE X (.Call (.Name (bltName b) p) (e :: xs) [] pos) (tCB (rCall Z (bltD b)) (tAB Z T C es)) := by
    have h := cb_any hc hb b
    cases b <;> first | exact pe_callB h hg (hc.blt _) (by decide +kernel) ha (by decide +kernel) hd (star_of hs _ _) (few_any hp) | exact pe_callTy h hg (hc.blt _) (by decide +kernel) ha (by decide +kernel) hd (star_of hs _ _) (few_any hp)
  refine PE.imp core fun σ H Q q => ?_
  obtain ⟨N, F, R, mh, env, rh, re, q⟩ := q
  obtain ⟨ys, m1, e1, q⟩ := PO1.bd (show PO1 ((evB T C es env mh).bd fun xs h => ofO (bltD b xs) h) _ from q)
  obtain ⟨z, e2, q⟩ := PO1.ofO q
  exact ⟨N, F, R, mh, env, rh, re, PO1.mk e1 fun F1 R1 H1 vs x1 rh1 rs => ⟨F1, R1, m1, ys, z, rh1, rs, e2, fun F2 R2 H2 w x2 rh2 rd => q F2 R2 H2 w (x1.trans x2) rh2 rd⟩⟩
theorem snd_smeth (hc : CtxOk Z M k X) {o : Sm} {a : ME} {es : MA} {x : Str} {ea e : Expr} {xs : List Expr} {ap pos : Pos} (hx : x = smName o) (ho : smOk o = true) (hs : noSuper ea = true) (hp : plainArgs (e :: xs) = true) (hn : (e :: xs).length < 29) (hl : (ap.endLine == pos.line) = true) (he : PE X ea (tM Z T C a)) (ha : PA X (e :: xs) (tAB Z T C es)) :
    PE X (.Call (.Attribute ea x ap) (e :: xs) [] pos) (tM Z T C (.smeth o a es)) := by
  subst hx
  have h1 : noStar e = true := (ba2 (show (noStar e && plainArgs xs) = true from hp)).1
  have hfew : ((backTo pos (starEach (e :: xs) X.env)).all (fun x => !x.1) && (backToKw pos (keywordEach [] X.env)).all (fun x => x.1.isSome)
      && decide ((e :: xs).length + ([] : List Keyword).length + (if ([] : List Keyword).isEmpty then 0 else 1) < 30)) = true := by
    rw [plain_few hp]
    show (true && true && decide ((e :: xs).length + 0 + 0 < 30)) = true
    rw [Bool.and_true, Bool.true_and]
    exact decide_eq_true (by omega)
  have core : PE X (.Call (.Attribute ea (smName o) ap) (e :: xs) [] pos) (tBM X.K "str" (rMeth Z (smD o)) (tM Z T C a) (tAB Z T C es)) := by
    cases o with
    | split => exact pe_bm F.plainAttrs_str F.slot_str_split F.type_str_split cm_split he ha (noSuper_of hs _ _ _) hfew hl (star_of h1 _ _) (few_any hp)
    | join => exact pe_bm F.plainAttrs_str F.slot_str_join F.type_str_join cm_join he ha (noSuper_of hs _ _ _) hfew hl (star_of h1 _ _) (few_any hp)
    | endswith => exact pe_bm F.plainAttrs_str F.slot_str_endswith F.type_str_endswith cm_ends he ha (noSuper_of hs _ _ _) hfew hl (star_of h1 _ _) (few_any hp)
    | startswith => exact pe_bm F.plainAttrs_str F.slot_str_startswith F.type_str_startswith cm_starts he ha (noSuper_of hs _ _ _) hfew hl (star_of h1 _ _) (few_any hp)
    | index => cases ho
    | count => cases ho
  refine PE.imp core fun σ H Q q => ?_
  obtain ⟨N, F, R, mh, env, rh, re, q⟩ := q
  obtain ⟨d, m1, e1, q⟩ := PO1.bd (show PO1 ((evE T C a env mh).bd fun x h => (evB T C es env h).bd fun xs h => ofO (smD o x xs) h) _ from q)
  obtain ⟨ys, m2, e2, q⟩ := PO1.bd q
  obtain ⟨z, e3, qz⟩ := PO1.ofO q
  have hd : ∃ s, d = .str s := by
    cases o <;> cases d <;> first | exact ⟨_, rfl⟩ | cases e3
  obtain ⟨st, rfl⟩ := hd
  refine ⟨N, F, R, mh, env, rh, re, PO1.mk e1 fun F1 R1 H1 v x1 rh1 t1 => ?_⟩
  obtain rfl := (RT.of (H := H1) t1).str
  refine ⟨rfl, N, F1, R1, m1, env, rh1, re.ext x1, PO1.mk e2 fun F2 R2 H2 vs x2 rh2 rs => ⟨F2, R2, m2, .str st, ys, z, rh2, .str _, rs, e3, fun F3 R3 H3 w x3 rh3 rd => qz F3 R3 H3 w ((x1.trans x2).trans x3) rh3 rd⟩⟩
theorem CtxOk.blk (hc : CtxOk Z M k X) (s : Shared) (H : Hp) (sc : Scope) (ce : PySem.Env) (fp : List Addr) : CtxOk Z M k (X.blk s H sc ce fp) := ⟨hc.hK, hc.calm, hc.nd, hc.room, hc.gd, hc.blt, hc.rng, hc.isi, hc.tbl, hc.gi⟩
theorem All.blk (a : All Z M T C CX fa fi k X) (s : Shared) (H : Hp) (sc : Scope) (ce : PySem.Env) (fp : List Addr) : All Z M T C CX fa fi k (X.blk s H sc ce fp) :=
  ⟨a.c.blk s H sc ce fp, a.cl, ⟨a.f.fn, a.f.ini, a.f.same, fun _ _ _ _ _ _ _ h => (a.f.no _ _ _ _ _ h).elim, fun _ _ _ _ _ _ _ h => (a.f.no _ _ _ _ _ h).elim, a.f.no, a.f.gf, a.f.mke, a.f.mkv, a.f.mt, a.f.pr, a.f.fd, a.f.an, a.f.inj, a.f.cm⟩, a.r, a.zip, a.enm⟩
theorem ne_nil {α : Type} {xs : List α} (h : (!xs.isEmpty) = true) : ∃ e es, xs = e :: es := by
  cases xs with
  | nil => cases h
  | cons e es => exact ⟨e, es, rfl⟩
theorem bnot {b : Bool} (h : (!b) = true) : b = false := by
  cases b with
  | false => rfl
  | true => cases h
theorem plain_shape {xs : List Expr} (h : plainArgs xs = true) : okShape xs = true := by
  cases xs with
  | nil => rfl
  | cons e es =>
    have h1 : noStar e = true := (ba2 (show (noStar e && plainArgs es) = true from h)).1
    cases e <;> first | exact rfl | cases h1 | (cases es <;> rfl)
/-- what the parts of a term have -/
structure Parts (Z : NA) (M : NM) (T : CT) (C : Cl) (CX : CXT) (fa fi : Nat → Addr) (k : Nat) (X : Cx) : Prop where
  all : All Z M T C CX fa fi k X
  b : BltOk Z X
end
end Mi
/-! MiKey: keys of any depth. -/
namespace Mi
open PySem PySem.Spec PyProof.Rows L2

section
variable {Z : NA} {F : Hp} {R : List Addr}
theorem depthAll_le {n : Nat} : ∀ {xs : List D}, (∀ x ∈ xs, (nk x).depth ≤ n) → NestedKey.depthAll (nks xs) ≤ n
  | [], _ => Nat.zero_le _
  | x :: r, h => by
    show max (NestedKey.depth (nk x)) (NestedKey.depthAll (nks r)) ≤ n
    exact Nat.max_le.mpr ⟨h x List.mem_cons_self, depthAll_le fun y hy => h y (List.mem_cons_of_mem _ hy)⟩
theorem key_depth : ∀ (n : Nat) (k : D), keyN n k = true → (nk k).depth ≤ n
  | 0, _, h => by cases h
  | n + 1, .int _, _ => Nat.zero_le _
  | n + 1, .str _, _ => Nat.zero_le _
  | n + 1, .tup xs, h => by
    show NestedKey.depthAll (nks xs) + 1 ≤ n + 1
    refine Nat.succ_le_succ (depthAll_le fun x hx => key_depth n x ?_)
    exact List.all_eq_true.mp (show xs.all (keyN n) = true from h) x hx
theorem key_is {P : Program} {w : World} {H : Hp} {h : Heap} (sub : ∀ a o, F a = some o → H a = some o) (ok : HOk P w H h) : ∀ (n : Nat) (k : D) (v : V) (u : Value), keyN n k = true → RD Z F R k v → RelV v u → NestedIs h (nk k) u
  | 0, _, _, _, e, _, _ => by cases e
  | n + 1, .int i, _, _, _, .int _, r => by
    obtain ⟨t, rfl⟩ := r
    exact .int i t
  | n + 1, .str i, _, _, _, .str _, r => by
    obtain ⟨t, rfl⟩ := r
    exact .text i t
  | n + 1, .tup xs, _, u, e, @RD.tup _ _ _ a _ vs hF rs, r => by
    obtain rfl : u = Value.ref a := r
    obtain ⟨_, its, rv, o, h1, h2, m, h3⟩ := (show ObjOk P w H h a (.tup vs) from ok a _ (sub a _ hF))
    refine .tup h1 h2 h3 ?_
    have all := List.all_eq_true.mp (show xs.all (keyN n) = true from e)
    have go : ∀ (xs : List D) (vs : List V) (its : List Value), (∀ x ∈ xs, keyN n x = true) → RDs Z F R xs vs → Vals vs its → NestedAll h (nks xs) its := by
      intro xs
      induction xs with
      | nil =>
        intro vs its _ rs rv
        cases rs
        cases rv
        exact .nil
      | cons x r ih =>
        intro vs its hx rs rv
        cases rs with
        | cons r1 rs =>
          cases rv with
          | cons v1 rv => exact .cons (key_is sub ok n x _ _ (hx x List.mem_cons_self) r1 v1) (ih _ _ (fun y hy => hx y (List.mem_cons_of_mem _ hy)) rs rv)
    exact go xs vs its all rs rv
theorem nk_eq : ∀ (n : Nat) (g k : D) (m : Nat), keyN n g = true → keyN m k = true → eqd g k = NestedKey.beq (nk g) (nk k)
  | 0, _, _, _, h, _ => by cases h
  | n + 1, _, _, 0, _, h => by cases h
  | n + 1, .int i, k, m + 1, _, hk => by
    cases k with
    | int j =>
      show (i == j) = decide (i = j)
      by_cases h : i = j
      · subst h; simp
      · simp [h]
    | str y => rfl
    | tup ys => rfl
    | _ => cases hk
  | n + 1, .str i, k, m + 1, _, hk => by
    cases k with
    | str j =>
      show (i == j) = decide (i = j)
      by_cases h : i = j
      · subst h; simp
      · simp [h]
    | int y => rfl
    | tup ys => rfl
    | _ => cases hk
  | n + 1, .tup xs, k, m + 1, hg, hk => by
    cases k with
    | int j => rfl
    | str y => rfl
    | tup ys =>
      have ax := List.all_eq_true.mp (show xs.all (keyN n) = true from hg)
      have ay := List.all_eq_true.mp (show ys.all (keyN m) = true from hk)
      show eqds xs ys = NestedKey.beqAll (nks xs) (nks ys)
      have go : ∀ (xs ys : List D), (∀ x ∈ xs, keyN n x = true) → (∀ x ∈ ys, keyN m x = true) → eqds xs ys = NestedKey.beqAll (nks xs) (nks ys) := by
        intro xs
        induction xs with
        | nil =>
          intro ys _ _
          cases ys <;> rfl
        | cons x r ih =>
          intro ys hx hy
          cases ys with
          | nil => rfl
          | cons y q =>
            show (eqd x y && eqds r q) = (NestedKey.beq (nk x) (nk y) && NestedKey.beqAll (nks r) (nks q))
            rw [nk_eq n x y m (hx x List.mem_cons_self) (hy y List.mem_cons_self), ih q (fun z hz => hx z (List.mem_cons_of_mem _ hz)) fun z hz => hy z (List.mem_cons_of_mem _ hz)]
      exact go xs ys ax ay
    | _ => cases hk
theorem nk_dec {n m : Nat} {g k : D} (hg : keyN n g = true) (hk : keyN m k = true) : eqd g k = decide (nk g = nk k) := by
  rw [nk_eq n g k m hg hk, NestedKey.decide_eq]
theorem rns_any {k : D} (hk : keyN 8 k = true) : ∀ {kvs : List (D × D)} {vs : List (NestedKey × Addr × Value)}, RNs Z F R kvs vs → (kvs.any fun z => eqd z.1 k) = (atKey vs (nk k)).isSome
  | _, _, .nil => rfl
  | _, _, @RNs.cons _ _ _ g _ _ _ _ _ vs _ hg _ _ _ rs => by
    have ih := rns_any hk rs
    rw [List.any_cons, ih]
    show (eqd g k || _) = _
    rw [nk_dec hg hk]
    unfold atKey
    rw [List.find?_cons]
    by_cases e : nk g = nk k
    · simp [e]
    · simp [e]
theorem rns_append : ∀ {a b : List (D × D)} {va vb : List (NestedKey × Addr × Value)}, RNs Z F R a va → RNs Z F R b vb → RNs Z F R (a ++ b) (va ++ vb)
  | _, _, _, _, .nil, h => h
  | _, _, _, _, .cons a b c d e rs, h => .cons a b c d e (rns_append rs h)
theorem rns_map {k x : D} {v : V} {u : Value} (hk : keyN 8 k = true) (rd : RD Z F R x v) (rv : RelV v u) : ∀ {kvs : List (D × D)} {vs : List (NestedKey × Addr × Value)}, RNs Z F R kvs vs → RNs Z F R (kvs.map (fun z => if eqd z.1 k then (z.1, x) else z)) (vs.map (putAt (nk k) u))
  | _, _, .nil => .nil
  | _, _, @RNs.cons _ _ _ g y a w u0 xs vs ht hg r1 r2 rw' rs => by
    rw [List.map_cons, List.map_cons]
    show RNs Z F R ((if eqd g k then (g, x) else (g, y)) :: _) (putAt (nk k) u (nk g, a, u0) :: _)
    unfold putAt
    rw [nk_dec hg hk]
    show RNs Z F R _ ((if nk g = nk k then (nk g, a, u) else (nk g, a, u0)) :: _)
    by_cases e : nk g = nk k
    · rw [if_pos (by rw [decide_eq_true e]), if_pos e]
      exact .cons ht hg r1 rd rv (rns_map hk rd rv rs)
    · rw [if_neg (by rw [decide_eq_false e]; decide), if_neg e]
      exact .cons ht hg r1 r2 rw' (rns_map hk rd rv rs)
theorem rns_put {k x : D} {b : Addr} {v : V} {u : Value} (ht : isTupD k = true) (hk : keyN 8 k = true) (rk : RD Z F R k (.ref b)) (rd : RD Z F R x v) (rv : RelV v u) {kvs : List (D × D)} {vs : List (NestedKey × Addr × Value)} (h : RNs Z F R kvs vs) : RNs Z F R (putD k x kvs) (storedH vs (nk k) b u) := by
  unfold putD storedH
  rw [rns_any hk h]
  split
  · exact rns_map hk rd rv h
  · exact rns_append h (.cons ht hk rk rd rv .nil)
theorem rns_len : ∀ {kvs : List (D × D)} {vs : List (NestedKey × Addr × Value)}, RNs Z F R kvs vs → kvs.length = vs.length
  | _, _, .nil => rfl
  | _, _, .cons _ _ _ _ _ r => congrArg (· + 1) (rns_len r)
theorem rns_is {P : Program} {w : World} {H : Hp} (sub : ∀ a o, F a = some o → H a = some o) : ∀ {kvs : List (D × D)} {vs : List (NestedKey × Addr × Value)}, RNs Z F R kvs vs → ∀ x ∈ vs, ∀ h, HOk P w H h → (nestedKind P w).is h x.1 x.2.1
  | _, _, .nil, x, hx, _, _ => nomatch hx
  | _, _, .cons (k := k) _ hk r1 _ _ rs, x, hx, h, ok => by
    rcases List.mem_cons.mp hx with e | e
    · subst e
      exact ⟨key_is sub ok 8 k _ _ hk r1 rfl, key_depth 8 k hk⟩
    · exact rns_is sub rs x e h ok
end
end Mi
/-! MiBok: repr and sorted of data. -/
namespace Mi
open PySem PySem.Spec PyProof.Rows L2

section
variable {Z : NA} {M : NM} {k : Nat} {X : Cx}
mutual
theorem ok_nodict : ∀ (n : Nat) (d : D), okN n d = true → d.py.hasDict = false
  | 0, _, h => by cases h
  | n + 1, .non, _ => rfl
  | n + 1, .bl _, _ => rfl
  | n + 1, .int _, _ => rfl
  | n + 1, .str _, _ => rfl
  | n + 1, .tup xs, h => by
    show PyData.hasDict (.tuple (pys xs)) = false
    rw [PyData.hasDict]
    exact ok_nodicts n xs (show xs.all (okN n) = true from h)
  | n + 1, .lst xs, h => by
    show PyData.hasDict (.list (pys xs)) = false
    rw [PyData.hasDict]
    exact ok_nodicts n xs (show xs.all (okN n) = true from h)
theorem ok_nodicts : ∀ (n : Nat) (xs : List D), xs.all (okN n) = true → PyData.hasDictAll (pys xs) = false
  | n, [], _ => rfl
  | n, x :: r, h => by
    rw [List.all_cons, Bool.and_eq_true] at h
    show PyData.hasDictAll (x.py :: pys r) = false
    rw [PyData.hasDictAll, ok_nodict n x h.1, ok_nodicts n r h.2]
    rfl
end
mutual
theorem ok_depth : ∀ (n : Nat) (d : D), okN n d = true → d.py.depth ≤ n
  | 0, _, h => by cases h
  | n + 1, .non, _ => Nat.zero_le _
  | n + 1, .bl _, _ => Nat.zero_le _
  | n + 1, .int _, _ => Nat.zero_le _
  | n + 1, .str _, _ => Nat.zero_le _
  | n + 1, .tup xs, h => by
    show PyData.depth (.tuple (pys xs)) ≤ n + 1
    rw [PyData.depth]
    exact Nat.succ_le_succ (ok_depths n xs (show xs.all (okN n) = true from h))
  | n + 1, .lst xs, h => by
    show PyData.depth (.list (pys xs)) ≤ n + 1
    rw [PyData.depth]
    exact Nat.succ_le_succ (ok_depths n xs (show xs.all (okN n) = true from h))
theorem ok_depths : ∀ (n : Nat) (xs : List D), xs.all (okN n) = true → PyData.depthAll (pys xs) ≤ n
  | n, [], _ => Nat.zero_le _
  | n, x :: r, h => by
    rw [List.all_cons, Bool.and_eq_true] at h
    show PyData.depthAll (x.py :: pys r) ≤ n
    rw [PyData.depthAll]
    exact Nat.max_le.mpr ⟨ok_depth n x h.1, ok_depths n r h.2⟩
end
theorem okN_up : ∀ (n m : Nat) (d : D), n ≤ m → okN n d = true → okN m d = true
  | 0, _, _, _, h => by cases h
  | n + 1, 0, _, hm, _ => by omega
  | n + 1, m + 1, d, hm, h => by
    have hs : ∀ xs : List D, xs.all (okN n) = true → xs.all (okN m) = true := fun xs hx => List.all_eq_true.mpr fun y hy => okN_up n m y (by omega) (List.all_eq_true.mp hx y hy)
    cases d with
    | tup xs => exact hs xs h
    | lst xs => exact hs xs h
    | _ => exact h
theorem reads_of {pins : List (Addr × Obj)} {s : Shared} {σ : L2.St} {F H : Hp} {R : List Addr} {mh : MH} {x : D} {v : V} {u : Value} (hK : X.K = Z.K) (I : Inv X pins σ H s) (rh : RH Z F R H mh) (h : ok x = true) (t : RT Z F R H x v) (rv : RelV v u) : ∃ as, Reads s.heap u x.py as :=
  Dp.reads I x.py v u (hK ▸ ok_dp rh h t) rv
theorem cb_repr (hc : CtxOk Z M k X) : CallR X (.builtin "repr") (rCall Z (bltD .repr)) := by
  intro pins s σ H vs us Q I r q
  obtain ⟨F, R, mh, xs, z, rh, rs, e, kq⟩ := q
  match xs, e with
  | [x], e =>
    obtain ⟨v, rfl, t⟩ := rs.one
    obtain ⟨u, rfl, rv⟩ := vals1 r
    have e : (if ok x && x.py.showable && decide (x.py.shown.length ≤ 16000000) then some x.py.shown else none).map D.str = some z := e
    cases hk : ok x && x.py.showable && decide (x.py.shown.length ≤ 16000000) with
    | false =>
      rw [hk] at e
      cases e
    | true =>
      rw [hk] at e
      cases e
      obtain ⟨h1, h3⟩ := ba2 hk
      obtain ⟨h1, h2⟩ := ba2 h1
      have h3 : x.py.shown.length ≤ sizeLine := Nat.le_trans (of_decide_eq_true h3) (by decide)
      have hq : Q (.str x.py.shown) H := kq.here rh (.str _)
      obtain ⟨as, rd⟩ := reads_of hc.hK I rh h1 t rv
      have hu := hc.room.un
      have go : ∀ a, u = Value.ref a → wpAny (model X.prog X.w) X.A (call (.builtin "repr") [u]) (EP X pins σ Q) X.xe s := fun a ea => by
        subst ea
        have hd : x.py.depth ≤ 40 := ok_depth 40 x h1
        refine repr_of_reads' rd h2 (PyData.noDict_hsm (ok_nodict 40 x h1)) hc.gd (by omega) (fun _ _ z => z) (fun h' u tk hk => ⟨.str x.py.shown, H, I.kept (t' := tk) hk, ⟨u, rfl⟩, hq⟩) h3
      cases x with
      | non =>
        obtain rfl := t.non
        obtain rfl : u = Value.none := rv
        exact PySem.P.repr_of_none ⟨.str _, H, I.tok _, ⟨_, rfl⟩, hq⟩
      | bl b =>
        obtain rfl := t.bl
        obtain rfl : u = Value.bool b := rv
        refine PySem.P.repr_of_bool ⟨.str _, H, I.tok _, ⟨_, rfl⟩, ?_⟩
        have e0 : (D.bl b).py.shown = (if b then ("True" : Str) else "False") := rfl
        rw [e0] at hq
        cases b <;> exact hq
      | int i =>
        obtain rfl := t.int
        obtain ⟨tk, rfl⟩ := rv
        exact PySem.P.repr_of_int (of_decide_eq_true h2) ⟨.str _, H, I.tok _, ⟨_, rfl⟩, hq⟩
      | str y =>
        obtain rfl := t.str
        obtain ⟨tk, rfl⟩ := rv
        exact PySem.P.repr_of_str ⟨.str _, H, I.tok _, ⟨_, rfl⟩, hq⟩ h3
      | tup ys =>
        obtain ⟨a, ws, rfl, _, _⟩ := t.tup
        exact go a rv
      | lst ys =>
        obtain ⟨a, ws, rfl, _, _⟩ := t.lst rh
        exact go a rv
      | _ => cases h1
/-! ### what can be walked is collected -/
theorem items_at {xs : List Value} {acc : Array Value} (h1 : acc.size = xs.length) (h2 : ∀ (i : Nat) (v : Value), acc[i]? = some v → xs[i]? = some v) : acc.toList = xs := by
  refine List.ext_getElem? fun i => ?_
  rw [Array.getElem?_toList]
  by_cases hi : i < acc.size
  · obtain ⟨v, hv⟩ : ∃ v, acc[i]? = some v := ⟨acc[i], by simp [hi]⟩
    rw [hv]
    exact (h2 i v hv).symm
  · rw [Array.getElem?_eq_none (by omega), List.getElem?_eq_none (by omega)]
def Coll (X : Cx) (s : Shared) (a : Addr) (vs : List V) : Prop := ∀ (A : Around) (Q : List Value → Shared → Prop) (E : Value → Shared → Prop), A.handled = none →
  (∀ h' tk us, (∀ b o, s.heap.get? b = some o → h'.get? b = some o) → Vals vs us → Q us { s with heap := h', toks := tk }) → wpAny (model X.prog X.w) A (collect (.ref a)) Q E s
theorem rns_rds {F : Hp} {R : List Addr} : ∀ {kvs : List (D × D)} {vs : List (NestedKey × Addr × Value)}, RNs Z F R kvs vs → RDs Z F R (kvs.map (·.1)) (vs.map fun p => V.ref p.2.1)
  | _, _, .nil => .nil
  | _, _, .cons _ _ r1 _ _ r => .cons r1 (rns_rds r)
theorem refs_vals : ∀ {α : Type} (f : α → Addr) (l : List α), Vals (l.map fun p => V.ref (f p)) (l.map fun p => Value.ref (f p))
  | _, _, [] => .nil
  | _, f, _ :: r => .cons rfl (refs_vals f r)
theorem coll_of (hc : CtxOk Z M k X) {pins : List (Addr × Obj)} {s : Shared} {σ : L2.St} {F H : Hp} {R : List Addr} {mh : MH} {x : D} {v : V} {ys : List D} (I : Inv X pins σ H s) (rh : RH Z F R H mh) (t : RT Z F R H x v) (e : itemsS x = some ys) (hl : ys.length ≤ lim) :
    ∃ a vs, v = .ref a ∧ RDs Z F R ys vs ∧ Coll X s a vs := by
  cases x with
  | lst zs =>
    cases e
    obtain ⟨p, ws, rfl, hp, rw'⟩ := t.lst rh
    obtain ⟨its, rv, ⟨o, n, h1, h2, h3, h4⟩, hz⟩ := I.list (.inl hp)
    refine ⟨p, ws, rfl, rw', fun A Q E _ hQ => ?_⟩
    exact wpAny_collect_seq p (T := "list") (.inl rfl) h1 h2 h4 (fun h' hk => hQ h' s.toks _ hk (by simpa using rv)) (by rw [List.size_toArray, ← rv.length]; exact hz)
  | tup zs =>
    cases e
    obtain ⟨p, ws, rfl, hp, rw'⟩ := t.tup
    obtain ⟨its, rv, ⟨o, h1, h2, n, h4⟩, hz⟩ := I.tuple (SqT.of (rh.sub _ _ hp))
    refine ⟨p, ws, rfl, rw', fun A Q E _ hQ => ?_⟩
    exact wpAny_collect_seq p (T := "tuple") (.inr rfl) h1 h2 h4 (fun h' hk => hQ h' s.toks _ hk (by simpa using rv)) (by rw [List.size_toArray, ← rv.length]; exact hz)
  | dct kvs =>
    cases e
    obtain ⟨p, ws, rfl, hp, rw'⟩ := t.dct
    have kr := keys_rd rw'
    obtain ⟨z, lo, vs, rel, dd⟩ := dk_rd I.hok (.inl hp)
    obtain ⟨ep, hat⟩ := dd.dictAt
    have ek : (ws.map fun kv => kV kv.1) = vs.map fun p => kV p.1 := by
      have e := congrArg (List.map kV) rel.keys
      rw [List.map_map, List.map_map] at e
      exact e
    refine ⟨p, _, rfl, kr, fun A Q E hA hQ => ?_⟩
    refine PySem.W.kdu_collect (PySem.W.kdl_dict (knd := mixKind X.prog X.w) (kvs := vs) (ep := ep) lo) hA hat (by rw [← rel.length]; exact z) fun h' tk acc hk hacc => hQ h' tk acc.toList hk ?_
    rw [ek]
    exact keys_at (by rw [Array.length_toList]; exact hacc.1) fun j v e => hacc.2 j v (by rw [← Array.getElem?_toList]; exact e)
  | ndc kvs =>
    cases e
    obtain ⟨p, ws, rfl, hp, rw'⟩ := t.ndc
    obtain ⟨⟨lo, o, es, ep, h1, h2, h3, h4, h5⟩, _, _⟩ := (show ObjOk X.prog X.w H s.heap p (.ext (NDict Z.P Z.w p ws)) from I.hok p _ hp)
    have hsz : es.size = ws.length := by
      rw [← Array.length_toList, h4, List.length_map]
    refine ⟨p, _, rfl, rns_rds rw', fun A Q E hA hQ => ?_⟩
    refine PySem.W.kdu_collect (PySem.KdlSrc.rawDict (es := es) (ep := ep) lo) hA ⟨o, h1, h2, h3⟩ (by rw [hsz, ← rns_len rw']; exact lim_line (by simpa using hl)) fun h' tk acc hk hacc => hQ h' tk acc.toList hk ?_
    have ea : acc.toList = ws.map fun p => Value.ref p.2.1 := by
      refine items_at (by rw [hacc.1, hsz, List.length_map]) fun i v hv => ?_
      obtain ⟨hi, rfl⟩ := hacc.2 i v hv
      have e0 : es.toList[i]? = (ws.map (entryOfKey (nestedKind Z.P Z.w)))[i]? := by rw [h4]
      rw [Array.getElem?_toList, Array.getElem?_eq_getElem hi, List.getElem?_map] at e0
      rw [List.getElem?_map]
      cases hw : ws[i]? with
      | none => rw [hw] at e0; cases e0
      | some w =>
        rw [hw] at e0
        have e0 : es[i] = entryOfKey (nestedKind Z.P Z.w) w := Option.some.inj e0
        rw [e0]
        rfl
    rw [ea]
    exact refs_vals (fun p : NestedKey × Addr × Value => p.2.1) ws
  | _ => cases e
/-! ### sorted -/
open PySem.W PySem.Calls in
/-- sorted(xs, ..) is list.sort(..) on a new list of what xs gives -/
theorem sorted_coll {s : Shared} {a : Addr} {vs : List V} {kw : List (Str × Value)} {Q : Value → Shared → Prop} {E : Value → Shared → Prop} (hA : X.A.handled = none) (hc : Coll X s a vs) (hL : vs.length ≤ sizeLine) (ha1 : argsOk "sorted" ⟨[.ref a], kw⟩) (ha2 : ∀ x, argsOk "list.sort" ⟨[.ref x], kw⟩)
    (body : ∀ (h' : Heap) (tk : Nat) (us : List Value) (E' : Value → Shared → Prop), (∀ b o, s.heap.get? b = some o → h'.get? b = some o) → Vals vs us →
      wpAny (model X.prog X.w) X.A.in1.in1 (Builtin.«list.sort» ⟨[.ref h'.objs.size], kw⟩) (fun f s' => f = .done (.ret .none) ∧ Q (.ref h'.objs.size) s') E' { s with heap := h'.push (seqObj "list" us.toArray 0), toks := tk }) :
    wpAny (model X.prog X.w) X.A (call (.builtin "sorted") [.ref a] kw) Q E s := by
  refine call_function_entry_kw kind_sorted plain_sorted entry_sorted ha1 ?_
  unfold Builtin.«sorted»
  refine wpAny_bind (m := checkCount "sorted" 1 1 _) (wpAny_pure ?_)
  refine wpAny_bind (hc _ _ _ hA fun h' tk us hk rv => ?_)
  refine wpAny_bind (wpAny_newList ?_ (by rw [← rv.length]; exact hL))
  refine wpAny_bind (wpAny_holding (wpAny_call_entry_kw slot_list_sort ⟨_, Heap.get?_push_size _ rfl, rfl⟩ entry_list_sort ?body (ha2 _)))
  case body =>
    refine wpAny_mono (body h' tk us _ hk rv) (fun f s' hf => ?_) fun _ _ e => e
    obtain ⟨rfl, hq⟩ := hf
    exact ⟨_, rfl, wpAny_pure ⟨_, rfl, hq⟩⟩
/-- the data are the values, one by one -/
theorem each_of {F : Hp} {R : List Addr} : ∀ {xs : List D} {vs : List V} {us : List Value}, RDs Z F R xs vs → Vals vs us → PySem.W.EachIs (fun u x => ∃ v, RD Z F R x v ∧ RelV v u) us xs
  | _, _, _, .nil, .nil => .nil
  | _, _, _, .cons r rs, .cons v vs => .cons ⟨_, r, v⟩ (each_of rs vs)
theorem of_each {F : Hp} {R : List Addr} : ∀ {xs : List D} {us : List Value}, PySem.W.EachIs (fun u x => ∃ v, RD Z F R x v ∧ RelV v u) us xs → ∃ vs, RDs Z F R xs vs ∧ Vals vs us
  | _, _, .nil => ⟨[], .nil, .nil⟩
  | _, _, .cons ⟨v, r, w⟩ e => by
    obtain ⟨vs, h1, h2⟩ := of_each e
    exact ⟨v :: vs, .cons r h1, .cons w h2⟩
theorem each_mem {α β : Type} {R S : α → β → Prop} : ∀ {as : List α} {bs : List β}, PySem.W.EachIs R as bs → (∀ a b, b ∈ bs → R a b → S a b) → PySem.W.EachIs S as bs
  | _, _, .nil, _ => .nil
  | _, _, .cons r e, h => .cons (h _ _ List.mem_cons_self r) (each_mem e fun a b hb => h a b (List.mem_cons_of_mem _ hb))
structure Srt (xs : List D) : Prop where
  ok : ∀ x ∈ xs, okN 30 x = true
  al : PySem.W.AllAlike (xs.map D.py)
  so : PySem.W.Sortable (xs.map D.py)
  le : xs.length ≤ lim
theorem srt_of {xs : List D} (h : cmpb xs = true) : Srt xs := by
  obtain ⟨h1, r1⟩ := ba2 h
  obtain ⟨h2, r2⟩ := ba2 r1
  obtain ⟨h3, h4⟩ := ba2 r2
  refine ⟨List.all_eq_true.mp h1, ?_, ?_, of_decide_eq_true h4⟩
  · intro d hd d' hd'
    obtain ⟨b, hb, rfl⟩ := List.mem_map.mp hd
    obtain ⟨b', hb', rfl⟩ := List.mem_map.mp hd'
    exact List.all_eq_true.mp (List.all_eq_true.mp h2 b hb) b' hb'
  · rw [Bool.or_eq_true] at h3
    rcases h3 with h3 | h3
    · refine .inl fun d hd => ?_
      obtain ⟨b, hb, rfl⟩ := List.mem_map.mp hd
      have := List.all_eq_true.mp h3 b hb
      cases b with
      | tup xs =>
        cases xs with
        | nil => cases this
        | cons x r => exact ⟨x.py, pys r, rfl⟩
      | _ => cases this
    · refine .inr fun d hd => ?_
      obtain ⟨b, hb, rfl⟩ := List.mem_map.mp hd
      have q := List.all_eq_true.mp h3 b hb
      have ho := List.all_eq_true.mp h1 b hb
      cases b with
      | non => cases q
      | tup xs => cases q
      | bl b => exact ⟨(fun z => nomatch z), fun xs z => nomatch z⟩
      | int b => exact ⟨(fun z => nomatch z), fun xs z => nomatch z⟩
      | str b => exact ⟨(fun z => nomatch z), fun xs z => nomatch z⟩
      | lst b => exact ⟨(fun z => nomatch z), fun xs z => nomatch z⟩
      | _ => cases ho
theorem cb_sorted (hc : CtxOk Z M k X) : CallR X (.builtin "sorted") (rCall Z (bltD .sorted)) := by
  intro pins s σ H vs us Q I r q
  obtain ⟨F, R, mh, xs, z, rh, rs, e, kq⟩ := q
  match xs, e with
  | [x], e =>
    obtain ⟨v, rfl, t⟩ := rs.one
    obtain ⟨u, rfl, rv⟩ := vals1 r
    have e : ((itemsS x).bind fun xs => if cmpb xs then some (.lst (sortd xs)) else none) = some z := e
    obtain ⟨ys, e1, e2⟩ := Option.bind_eq_some_iff.mp e
    cases hk : cmpb ys with
    | false =>
      rw [hk] at e2
      cases e2
    | true =>
      rw [hk] at e2
      cases e2
      have S := srt_of hk
      obtain ⟨a, ws, rfl, rw', co⟩ := coll_of hc I rh t e1 S.le
      obtain rfl : u = Value.ref a := rv
      have hu := hc.room.un
      refine sorted_coll (I.ok.hd hc.calm) co (by rw [← rw'.length]; exact lim_line S.le) (args_sorted1 _) (fun _ => args_list_sort _) fun h' tk us E' hk rv' => ?_
      have I1 : Inv X pins σ H { s with heap := h', toks := tk } := I.kept hk
      have hkp : ∀ b o, h'.get? b = some o → (PySem.W.sortingHeap (h'.push (seqObj "list" us.toArray 0)) h'.objs.size us).get? b = some o := fun b o e =>
        PySem.W.sortingHeap_old (Nat.ne_of_lt (Heap.lt_size e)) (Heap.get?_push_of_some _ e)
      have ea := each_of rw' rv'
      have er : PySem.W.EachIs (fun v b => ∃ as, Reads (PySem.W.sortingHeap (h'.push (seqObj "list" us.toArray 0)) h'.objs.size us) v (D.py b) as) us ys := each_mem ea fun u b hb hr => by
        obtain ⟨v, rd, rl⟩ := hr
        obtain ⟨as, r2⟩ := reads_of hc.hK I1 rh (okN_up 30 40 b (by decide) (S.ok b hb)) (.of rd) rl
        exact ⟨as, PyProof.Rows.Reads.keeps hkp r2⟩
      have hlen := ea.length
      have at_ : (h'.push (seqObj "list" us.toArray 0)).get? h'.objs.size = some (seqObj "list" us.toArray 0) := Heap.get?_push_size _ rfl
      refine PySem.W.list_sort_vals (s := { s with heap := h'.push (seqObj "list" us.toArray 0), toks := tk }) (κ := PySem.W.dataKind (PySem.W.sortingHeap (h'.push (seqObj "list" us.toArray 0)) h'.objs.size us) (ys.map D.py)) at_ (PySem.W.SortsAt.data (s := { s with heap := PySem.W.sortingHeap (h'.push (seqObj "list" us.toArray 0)) h'.objs.size us, toks := tk }) (PySem.W.each_map (R := fun v d => ∃ as, Reads (PySem.W.sortingHeap (h'.push (seqObj "list" us.toArray 0)) h'.objs.size us) v d as) D.py er) S.al S.so (PySem.W.bound_map fun b hb => ?_)) (by rw [hlen]; exact lim_line S.le) ⟨rfl, ?_⟩
      · have h30 := ok_depth 30 b (S.ok b hb)
        have e0 : X.A.in1.in1.units = X.A.units + 1 + 1 := rfl
        rw [e0]
        have h31 : X.A.units + 1 + 1 + 30 < cLine := by omega
        exact Nat.lt_of_le_of_lt (Nat.add_le_add_left h30 _) h31
      · have out := PySem.W.sortVals_data false ea er S.al
        obtain ⟨ws2, rs2, rv2⟩ := of_each out
        obtain ⟨c, hat⟩ : ∃ c, (sortedHeap (h'.push (seqObj "list" us.toArray 0)) h'.objs.size us (PySem.W.sortVals (PySem.W.dataKind (PySem.W.sortingHeap (h'.push (seqObj "list" us.toArray 0)) h'.objs.size us) (ys.map D.py)) false us us).toArray).get? h'.objs.size = some (seqObj "list" (PySem.W.sortVals (PySem.W.dataKind (PySem.W.sortingHeap (h'.push (seqObj "list" us.toArray 0)) h'.objs.size us) (ys.map D.py)) false us us).toArray c) := sortedHeap_at at_
        have kp : ∀ b o, h'.get? b = some o → (sortedHeap (h'.push (seqObj "list" us.toArray 0)) h'.objs.size us (PySem.W.sortVals (PySem.W.dataKind (PySem.W.sortingHeap (h'.push (seqObj "list" us.toArray 0)) h'.objs.size us) (ys.map D.py)) false us us).toArray).get? b = some o := fun b o e1 => by
          have hl := Heap.lt_size e1
          rw [sortedHeap_old (Nat.ne_of_lt hl) (by rw [Heap.size_push]; exact Nat.lt_succ_of_lt hl)]
          exact Heap.get?_push_of_some _ e1
        have hn : H h'.objs.size = none := I1.hok.fresh (Nat.le_refl _)
        refine ⟨.ref h'.objs.size, upd H h'.objs.size (.lst ws2), I1.laid (t' := tk) kp (Nat.le_refl _) ⟨?_, _, c, rv2, hat⟩, rfl, kq.lst rh rs2 _ hn⟩
        rw [← rs2.length]
        show (ys.mergeSort _).length ≤ sizeLine
        rw [List.length_mergeSort]
        exact lim_line S.le
end
end Mi
/-! MiSrk: sorted(xs, key=f), f a def of the program. -/
namespace Mi
open PySem PySem.Spec PyProof.Rows L2

section
variable {Z : NA} {M : NM} {T : CT} {C : Cl} {k k' : Nat} {X : Cx} {CX : CXT} {fa fi : Nat → Addr}
/-- objects that a built-in holds are changed -/
theorem inv_chg {pins : List (Addr × Obj)} {σ : L2.St} {H : Hp} {s : Shared} {h' : Heap} {t' : Nat} {ch : List Addr} (I : Inv X pins σ H s) (kp : ∀ b o, b ∉ ch → s.heap.get? b = some o → h'.get? b = some o) (hf : ∀ b ∈ ch, FpOk X pins H b) : Inv X pins σ H { s with heap := h', toks := t' } := by
  have nit : ∀ b u, H b = some u → b ∉ ch := fun b u e z => by
    have q := (hf b z).1
    rw [q] at e; cases e
  refine I.step (g' := s.gens) (d' := s.drawn) (ch := ch) (fun b hb => ⟨(hf b hb).2.2.2.1, (hf b hb).2.1, (hf b hb).2.2.2.2.1, (hf b hb).2.2.2.2.2⟩) (fun b o _ _ hc e _ => kp b o hc e) (fun b o _ _ hc e _ => ⟨o.slots, kp b o hc e⟩)
    (fun b o _ e n => n) (fun b o hc e => ⟨o, kp b o hc e⟩) (fun b xs e => e) (fun b o u e => e) (fun b ps e => ⟨#[], by rw [e]; simp⟩) (fun m hm => ?_) (fun b u e => ?_) I.bare
  · obtain ⟨o, es, ep, ho, r⟩ := hm
    exact ⟨o, es, ep, kp _ _ (fun z => (hf _ z).2.1 rfl) ho, r⟩
  · exact (I.hok b u e).stay (fun c v hc q => kp c v (by
      rcases hc with hc | hc
      · rw [hc]; exact nit b u e
      · exact nit c _ hc) q) (fun c q => q) fun c xs q => q
theorem inv_adopt {pins : List (Addr × Obj)} {σ : L2.St} {H : Hp} {s : Shared} {h' : Heap} {t' : Nat} {ch : List Addr} {a : Addr} {ob : HO} (I : Inv X pins σ H s) (kp : ∀ b o, b ∉ ch → s.heap.get? b = some o → h'.get? b = some o) (hf : ∀ b ∈ ch, FpOk X pins H b) (ha : a ∈ ch)
    (new : ObjOk X.prog X.w (upd H a ob) h' a ob) : Inv X pins σ (upd H a ob) { s with heap := h', toks := t' } := by
  have hn : H a = none := (hf a ha).1
  have nit : ∀ b u, H b = some u → b ∉ ch := fun b u e z => by
    have q := (hf b z).1
    rw [q] at e; cases e
  refine I.step (g' := s.gens) (d' := s.drawn) (ch := ch) (fun b hb => ⟨(hf b hb).2.2.2.1, (hf b hb).2.1, (hf b hb).2.2.2.2.1, (hf b hb).2.2.2.2.2⟩) (fun b o _ _ hc e _ => kp b o hc e) (fun b o _ _ hc e _ => ⟨o.slots, kp b o hc e⟩)
    (fun b o hc e n => ?_) (fun b o hc e => ⟨o, kp b o hc e⟩) (fun b xs e => ?_) (fun b o u e => ?_) (fun b ps e => ⟨#[], ?_⟩) (fun m hm => ?_) (fun b u e => ?_) I.bare
  · rw [upd_ne (show b ≠ a from fun z => hc (by rw [z]; exact ha))]; exact n
  · rw [upd_ne (ne_of_none e hn)]; exact e
  · rw [upd_ne (ne_of_none e hn)]; exact e
  · rw [upd_ne (ne_of_none e hn), e]; simp
  · obtain ⟨o, es, ep, ho, r⟩ := hm
    exact ⟨o, es, ep, kp _ _ (fun z => (hf _ z).2.1 rfl) ho, r⟩
  · by_cases hb : b = a
    · subst hb
      rw [upd_same] at e
      cases e
      exact new
    · rw [upd_ne hb] at e
      exact (I.hok b u e).stay (fun c v hc q => kp c v (by
        rcases hc with hc | hc
        · rw [hc]; exact nit b u e
        · exact nit c _ hc) q) (fun c q => by rw [upd_ne (ne_of_none q hn)]; exact q) fun c xs q => by rw [upd_ne (ne_of_none q hn)]; exact q
/-- the pins, told anew -/
theorem inv_pin {pins pins' : List (Addr × Obj)} {σ : L2.St} {H : Hp} {s : Shared} (I : Inv X pins σ H s) (hp : ∀ p ∈ pins', p ∉ pins → FpOk X pins H p.1 ∧ s.heap.get? p.1 = some p.2 ∧ ∀ v, p.2.data ≠ .cell v) : Inv X pins' σ H s := by
  refine I.pins_of fun p hm => ?_
  by_cases h : p ∈ pins
  · exact I.pin p (List.mem_append_right _ h)
  · obtain ⟨f, e, d⟩ := hp p hm h
    exact ⟨e, f.1, f.2.1, f.2.2.1, d⟩
/-- what holds at every turn -/
structure KI (Z : NA) (C : Cl) (X : Cx) (f : Nat) (pins : List (Addr × Obj)) (σ : L2.St) (F : Hp) (R : List Addr) (H : Hp) (a kS : Addr) (oa : Obj) (xs : List D) (Kt : List D → MH → Prop) (i : Nat) (s' : Shared) : Prop where
  ex : ∃ kA e F' R' H' m ds ws, Inv X ((a, oa) :: (kS, (seqObj "list" kA e : Obj)) :: pins) σ H' s' ∧ EX F R H F' R' H' ∧ RH Z F' R' H' m ∧ RDs Z F' R' ds ws ∧ Vals ws kA.toList ∧ ds.length = i ∧ PO1 (keysOfs C f (xs.drop i) m) fun zs m' => Kt (ds ++ zs) m'
theorem keys_len {f : Nat} : ∀ {xs : List D} {m m' : MH} {ks : List D}, keysOfs C f xs m = .ok ks m' → ks.length = xs.length
  | [], m, m', ks, h => by
    cases h
    rfl
  | x :: xs, m, m', ks, h => by
    obtain ⟨k, m1, e1, q⟩ := PO1.bd (show PO1 ((C.fn f [x] m).bd fun k h => (keysOfs C f xs h).bd fun ks h => .ok (k :: ks) h) (fun d n => d = ks ∧ n = m') from PO1.mk h ⟨rfl, rfl⟩)
    obtain ⟨ks', m2, e2, q⟩ := PO1.bd q
    obtain ⟨q1, q2⟩ := (show k :: ks' = ks ∧ m2 = m' from q)
    subst q1
    exact congrArg (· + 1) (keys_len e2)
theorem room_in2 {A : Around} (r : Room (k + 1) A) : Room k A.in1.in1 := ⟨r.hd, by have := r.dp; show A.depth + 3 * k + 5 < _; omega, by have := r.un; show A.units + 1 + 1 + 16 * k + 200 < _; omega⟩
theorem snd_zip_py : ∀ (xs ds : List D), ds.length = xs.length → (xs.zip ds).map (fun p => p.2.py) = ds.map D.py
  | [], [], _ => rfl
  | [], _ :: _, h => nomatch h
  | _ :: _, [], h => nomatch h
  | x :: xs, d :: ds, h => by
    show d.py :: (xs.zip ds).map (fun p => p.2.py) = d.py :: ds.map D.py
    rw [snd_zip_py xs ds (Nat.succ.inj h)]
open PySem.W PySem.Calls in
theorem key_rest (hc : CtxOk Z M k' X) (co : CallOk Z M T C CX fa fi k X) (hr : Room (k + 1) X.A) {f : Nat} {pins : List (Addr × Obj)} {σ : L2.St} {F H : Hp} {R : List Addr} {mh : MH} {s : Shared} {a kS : Addr} {e1 : Nat} {xs : List D} {us : List Value} {vs : List V} {P : PySem.Fin → Shared → Prop} {Kt : List D → MH → Prop} {E' : Value → Shared → Prop}
    (I : Inv X ((a, (seqObj "list" #[] e1 : Obj)) :: (kS, (seqObj "list" #[] 0 : Obj)) :: pins) σ H s) (rh : RH Z F R H mh) (rs : RDs Z F R xs vs) (rv : Vals vs us) (hl : xs.length ≤ lim) (hne : kS ≠ a)
    (fpa : ∀ H', H' a = none → FpOk X pins H' a) (fpk : ∀ H', H' kS = none → FpOk X pins H' kS) (q : PO1 (keysOfs C f xs mh) Kt) (hK : ∀ ds m, Kt ds m → Srt ds)
    (fin : ∀ ds m F' R' H' ws h' tk (s' : Shared), Kt ds m → EX F R H F' R' H' → RH Z F' R' H' m → RDs Z F' R' ((sortk (xs.zip ds)).map (·.1)) ws → H' a = none → Inv X pins σ (upd H' a (.lst ws)) { s' with heap := h', toks := tk } → P (.done (.ret .none)) { s' with heap := h', toks := tk }) :
    wpAny (model X.prog X.w) X.A.in1.in1 (ksk_rest a (.ref (fa f)) false us.toArray e1 (.ref kS)) P E' s := by
  unfold ksk_rest
  refine wpAny_bind (wpAny_rule ?_)
  first
    | rw [List.forIn_toArray]
    | (rw [← Array.forIn_toList]; simp only [List.toList_toArray])
    | rw [← Array.forIn_toList]
  have hlu : us.length = xs.length := by rw [← rv.length, ← rs.length]
  refine wpAny_bind (ksk_fold (fun i s' => KI Z C X f pins σ F R H a kS (seqObj "list" #[] e1) xs Kt i s') us 0 s ⟨#[], 0, F, R, H, mh, [], [], I, EX.refl, rh, .nil, .nil, rfl, q⟩ ?step ?done)
  case step =>
    rintro j u s' hx ⟨kA, e, F', R', H', m, ds, ws, I1, x1, rh1, rd1, rv1, hlen, q1⟩
    simp only [Nat.zero_add] at hlen q1 ⊢
    have hj : j < us.length := (List.getElem?_eq_some_iff.mp hx).1
    have hxj : xs[j]? = some xs[j] := List.getElem?_eq_getElem (by omega)
    rw [drop_cons_get hxj] at q1
    obtain ⟨d, m2, e2, q1⟩ := PO1.bd (show PO1 ((C.fn f [xs[j]] m).bd fun k h => (keysOfs C f (xs.drop (j + 1)) h).bd fun ks h => .ok (k :: ks) h) _ from q1)
    obtain ⟨zs, m3, e3, q1⟩ := PO1.bd q1
    obtain ⟨v, hv, rd⟩ := rs.get hxj
    obtain ⟨u', hu', rl⟩ := rv.get hv
    rw [hx] at hu'
    cases hu'
    have hz : kA.size ≤ us.length := by
      rw [← Array.length_toList, ← rv1.length, ← rd1.length]
      omega
    have hzl : us.length ≤ sizeLine := by rw [hlu]; exact lim_line hl
    refine wpAny_bind (wpAny_attempt (wpAny_mono (Q := EP X ((a, (seqObj "list" #[] e1 : Obj)) :: (kS, (seqObj "list" kA e : Obj)) :: pins) σ fun w H2 => ∃ F2 R2, EX F' R' H' F2 R2 H2 ∧ RH Z F2 R2 H2 m2 ∧ RD Z F2 R2 d w) (E := fun _ _ => False) (wpAny_call ?call) (fun kv s'' he => ?_) fun _ _ hF => hF.elim))
    case call =>
      refine codeAny_mono (co.fn f X.A.in1.in1 X.stack s' H' [u] [v] (fun w H2 => ∃ F2 R2, EX F' R' H' F2 R2 H2 ∧ RH Z F2 R2 H2 m2 ∧ RD Z F2 R2 d w) (fun _ _ _ => False) (room_in2 hr) hc.gd I1.env0.in1.in1 (.cons rl .nil) ⟨F', R', m, [xs[j]], rh1, .cons (rd.mono x1.f x1.r) .nil, PO1.mk e2 fun F2 R2 H2 w x2 rh2 rd2 => ⟨F2, R2, x2, rh2, rd2⟩⟩) fun r s'' hq => ?_
      match r, hq with
      | .error er, hq => exact (co.no _ _ _ _ _ hq).elim
      | .ok (.ret w), hq => exact I1.after hq
    obtain ⟨w, H2, I2, rw2, F2, R2, x2, rh2, rd2⟩ := he
    try dsimp only
    have pa := I2.pin (a, (seqObj "list" #[] e1 : Obj)) (List.mem_append_right _ List.mem_cons_self)
    have pk := I2.pin (kS, (seqObj "list" kA e : Obj)) (List.mem_append_right _ (List.mem_cons_of_mem _ List.mem_cons_self))
    obtain ⟨c2, hc2⟩ : ∃ c2, (s''.heap.update kS (Obj.mapSeq (·.push kv))).get? kS = some (seqObj "list" (kA.push kv) c2) := ⟨_, get?_update_seq pk.1 (·.push kv)⟩
    have s1 := Heap.SameBut.update s''.heap kS (Obj.mapSeq (·.push kv))
    refine wpAny_bind (listUpdate_at pk.1 rfl ?_ (Nat.le_trans hz hzl) (Nat.le_trans (Nat.le_of_eq (Array.size_push ..)) (Nat.succ_le_succ (Nat.le_trans hz hzl))))
    have I3 : Inv X ((a, (seqObj "list" #[] e1 : Obj)) :: pins) σ H2 s'' := inv_pin I2 fun p hm hn => by
      rcases List.mem_cons.mp hm with h | h
      · exact absurd (h ▸ List.mem_cons_self) hn
      · exact absurd (List.mem_cons_of_mem _ (List.mem_cons_of_mem _ h)) hn
    have fk : FpOk X ((a, (seqObj "list" #[] e1 : Obj)) :: pins) H2 kS := by
      obtain ⟨f0, f1, f2, f3, f4, f5⟩ := fpk H2 pk.2.1
      refine ⟨f0, f1, f2, f3, f4, fun p hp z => ?_⟩
      rcases List.mem_append.mp hp with h | h
      · exact f5 p (List.mem_append_left _ h) z
      · rcases List.mem_cons.mp h with h | h
        · rw [h] at z
          exact hne z.symm
        · exact f5 p (List.mem_append_right _ h) z
    have I4 : Inv X ((a, (seqObj "list" #[] e1 : Obj)) :: pins) σ H2 { s'' with heap := s''.heap.update kS (Obj.mapSeq (·.push kv)), toks := s''.toks } := inv_chg (ch := [kS]) I3 (fun b o hb eo => (s1.2 b (fun z => hb (by simp [z]))).trans eo) (fun b hb => by
      rw [List.mem_singleton.mp hb]
      exact fk)
    have I5 : Inv X ((a, (seqObj "list" #[] e1 : Obj)) :: (kS, (seqObj "list" (kA.push kv) c2 : Obj)) :: pins) σ H2 { s'' with heap := s''.heap.update kS (Obj.mapSeq (·.push kv)), toks := s''.toks } := inv_pin I4 fun p hm hn => by
      rcases List.mem_cons.mp hm with h | h
      · exact absurd (h ▸ List.mem_cons_self) hn
      · rcases List.mem_cons.mp h with h | h
        · subst h
          exact ⟨fk, hc2, fun v z => nomatch z⟩
        · exact absurd (List.mem_cons_of_mem _ h) hn
    refine wpAny_pure ⟨rfl, ⟨kA.push kv, c2, F2, R2, H2, m2, ds ++ [d], ws ++ [w], I5, x1.trans x2, rh2, (rd1.mono x2.f x2.r).append (.cons rd2 .nil), by rw [Array.toList_push]; exact rv1.append (.cons rw2 .nil), by rw [List.length_append, hlen]; rfl, PO1.mk e3 (by rw [List.append_assoc]; exact q1)⟩⟩
  case done =>
    rintro s' ⟨kA, e, F', R', H', m, ds, ws, I1, x1, rh1, rd1, rv1, hlen, q1⟩
    have hlen : ds.length = xs.length := by rw [hlen, Nat.zero_add, hlu]
    have q1 : Kt (ds ++ []) m := by
      rw [List.drop_of_length_le (by omega)] at q1
      exact q1
    rw [List.append_nil] at q1
    have S := hK ds m q1
    have pa := I1.pin (a, (seqObj "list" #[] e1 : Obj)) (List.mem_append_right _ List.mem_cons_self)
    have pk := I1.pin (kS, (seqObj "list" kA e : Obj)) (List.mem_append_right _ (List.mem_cons_of_mem _ List.mem_cons_self))
    have hu := hc.room.un
    try dsimp only
    refine wpAny_bind (listItems_at pk.1 rfl ?_)
    have hsz : kA.size = us.length := by rw [← Array.length_toList, ← rv1.length, ← rd1.length, hlen, hlu]
    have ea := each_of rd1 rv1
    have er : PySem.W.EachIs (fun v b => ∃ as, Reads s'.heap v (D.py b) as) kA.toList ds := each_mem ea fun u b hb hr => by
      obtain ⟨v, rd, rl⟩ := hr
      exact reads_of hc.hK I1 rh1 (okN_up 30 40 b (by decide) (S.ok b hb)) (.of rd) rl
    have er' : PySem.W.EachIs (fun v d => ∃ as, Reads s'.heap v d as) kA.toList (ds.map D.py) := PySem.W.each_map (R := fun v d => ∃ as, Reads s'.heap v d as) D.py er
    obtain ⟨G, hG1, hG2⟩ := L2.restrict s'.heap fun b => decide (b ≠ kS)
    have hzl : us.length ≤ sizeLine := by rw [hlu]; exact lim_line hl
    refine keyH_end (κ := dataKind s'.heap (ds.map D.py)) (h₁ := G) (fun b o hb eo => ?_) (hG2 kS (by simp)) pk.1 pa.1 hne (SortsAt.data er' S.al S.so (bound_map fun b hb => ?_)) hsz hzl fun h' tk c kp hat => ?_
    · by_cases z : b = kS
      · rw [z, hG2 kS (by simp)] at eo
        cases eo
      · rw [← hG1 b (by simp [z])]
        exact eo
    · have h30 := ok_depth 30 b (S.ok b hb)
      have e0 : X.A.in1.in1.units = X.A.units + 1 + 1 := rfl
      rw [e0]
      have h31 : X.A.units + 1 + 1 + 30 < cLine := by omega
      exact Nat.lt_of_le_of_lt (Nat.add_le_add_left h30 _) h31
    · have ez : PySem.W.EachIs (fun u (p : D × D) => ∃ v, RD Z F' R' p.1 v ∧ RelV v u) us (xs.zip ds) := by
        have go : ∀ (xs ds : List D) (us : List Value), ds.length = xs.length → PySem.W.EachIs (fun u x => ∃ v, RD Z F' R' x v ∧ RelV v u) us xs → PySem.W.EachIs (fun u (p : D × D) => ∃ v, RD Z F' R' p.1 v ∧ RelV v u) us (xs.zip ds) := by
          intro xs
          induction xs with
          | nil =>
            intro ds us _ h
            cases h
            exact .nil
          | cons x r ih =>
            intro ds us hl h
            cases ds with
            | nil => cases hl
            | cons d dr =>
              cases h with
              | cons h1 h2 => exact .cons h1 (ih dr _ (Nat.succ.inj hl) h2)
        exact go xs ds us hlen (each_of (rs.mono x1.f x1.r) rv)
      have ek : (xs.zip ds).map (fun p => p.2.py) = ds.map D.py := by
        exact snd_zip_py xs ds hlen
      have ko : KeyedOut false ((xs.zip ds).map fun p => p.2.py) us (sortVals (dataKind s'.heap (ds.map D.py)) false kA.toList us) := by
        rw [ek]
        exact ⟨s'.heap, kA.toList, S.al, rfl, er'⟩
      have out := keyedOut_each (fun p : D × D => p.2.py) ko ez
      obtain ⟨ws2, rs2, rv2⟩ : ∃ ws2, RDs Z F' R' ((sortk (xs.zip ds)).map (·.1)) ws2 ∧ Vals ws2 (sortVals (dataKind s'.heap (ds.map D.py)) false kA.toList us) := by
        have go : ∀ (ps : List (D × D)) (us : List Value), PySem.W.EachIs (fun u (p : D × D) => ∃ v, RD Z F' R' p.1 v ∧ RelV v u) us ps → ∃ ws2, RDs Z F' R' (ps.map (·.1)) ws2 ∧ Vals ws2 us := by
          intro ps
          induction ps with
          | nil =>
            intro us h
            cases h
            exact ⟨[], .nil, .nil⟩
          | cons p r ih =>
            intro us h
            cases h with
            | cons h1 h2 =>
              obtain ⟨v, r1, r2⟩ := h1
              obtain ⟨ws, g1, g2⟩ := ih _ h2
              exact ⟨v :: ws, .cons r1 g1, .cons r2 g2⟩
        exact go _ _ out
      have ha' : H' a = none := pa.2.1
      have I3 : Inv X pins σ H' s' := inv_pin I1 fun p hm hn => absurd (List.mem_cons_of_mem _ (List.mem_cons_of_mem _ hm)) hn
      have I4 : Inv X pins σ (upd H' a (.lst ws2)) { s' with heap := h', toks := tk } := by
        refine inv_adopt (ch := [a, kS]) I3 (fun b o hb eo => ?_) (fun b hb => ?_) List.mem_cons_self ⟨?_, _, c, rv2, hat⟩
        · have hb1 : b ≠ a := fun z => hb (by simp [z])
          have hb2 : b ≠ kS := fun z => hb (by simp [z])
          exact kp b o hb1 (by rw [hG1 b (by simp [hb2])]; exact eo)
        · rcases List.mem_cons.mp hb with h | h
          · rw [h]; exact fpa H' pa.2.1
          · rw [List.mem_singleton.mp h]; exact fpk H' pk.2.1
        · rw [← rs2.length, List.length_map]
          show (List.mergeSort _ _).length ≤ sizeLine
          rw [List.length_mergeSort, List.length_zip]
          exact Nat.le_trans (Nat.min_le_left _ _) (lim_line hl)
      exact fin ds m F' R' H' ws2 h' tk s' q1 x1 rh1 rs2 ha' I4
/-- sorted(.., key=f) of data and a def of the program -/
def rKey (Z : NA) (C : Cl) (fa : Nat → Addr) (f : Nat) : List V → List V → Hp → VK → Prop := fun vs zs H Q => ∃ F R mh x xs v, RH Z F R H mh ∧ vs = [v] ∧ zs = [.ref (fa f)] ∧ RT Z F R H x v ∧ items x = some xs ∧ PO1 (keysOfs C f xs mh) fun ks m => cmpb ks = true ∧ ∀ F' R' H' w, EX F R H F' R' H' → RH Z F' R' H' m → RD Z F' R' (.lst ((sortk (xs.zip ks)).map (·.1))) w → Q w H'
theorem itemsS_of {x : D} {xs : List D} (h : items x = some xs) : itemsS x = some xs := by
  cases x <;> first | exact h | cases h
open PySem.W PySem.Calls in
theorem cb_sortK (hc : CtxOk Z M k' X) (co : CallOk Z M T C CX fa fi k X) (hr : Room (k + 1) X.A) (f : Nat) : CallRK X (.builtin "sorted") [Str.ofString "key"] (rKey Z C fa f) := by
  intro pins s σ H vs zs us ws Q I r rz q
  obtain ⟨F, R, mh, x, xs, v, rh, rfl, rfl, t, e, q⟩ := q
  obtain ⟨u, rfl, rv⟩ := vals1 r
  obtain ⟨u2, rfl, rz2⟩ := vals1 rz
  obtain rfl : u2 = Value.ref (fa f) := rz2
  obtain ⟨ks, m, ek, hk, q⟩ := PO1.get q
  have hlen := keys_len ek
  have hl : xs.length ≤ lim := by rw [← hlen]; exact (srt_of hk).le
  obtain ⟨a, ws, rfl, rw', cl⟩ := coll_of hc I rh t (itemsS_of e) hl
  obtain rfl : u = Value.ref a := rv
  have hzs : xs.length ≤ sizeLine := lim_line hl
  refine sorted_coll (I.ok.hd hc.calm) cl (by rw [← rw'.length]; exact hzs) (ksk_s1 _ _) (fun _ => ksk_l1 _ _) fun h' tk us E' hkp rv' => ?_
  have I1 : Inv X pins σ H { s with heap := h', toks := tk } := I.kept hkp
  have hlu : us.length = xs.length := by rw [← rv'.length, ← rw'.length]
  have at_ : (h'.push (seqObj "list" us.toArray 0)).get? h'.objs.size = some (seqObj "list" us.toArray 0) := Heap.get?_push_size _ rfl
  show wpAny (model X.prog X.w) X.A.in1.in1 (Builtin.«list.sort» ⟨[.ref h'.objs.size], [(Str.ofString "key", .ref (fa f))]⟩) _ E' _
  rw [ksk_t1]
  generalize hh0 : h'.push (seqObj "list" us.toArray 0) = h0 at at_ ⊢
  have hk0 : ∀ b o, h'.get? b = some o → h0.get? b = some o := fun b o eo => by rw [← hh0]; exact Heap.get?_push_of_some _ eo
  have hs0 : h0.objs.size = h'.objs.size + 1 := by rw [← hh0]; exact Heap.size_push ..
  obtain ⟨e1, ho1⟩ : ∃ e1, (h0.update h'.objs.size (Obj.mapSeq fun _ => (#[] : Array Value))).get? h'.objs.size = some (seqObj "list" #[] e1) := ⟨_, get?_update_seq at_ fun _ => #[]⟩
  have hkS : ((h0.update h'.objs.size (Obj.mapSeq fun _ => (#[] : Array Value))).push (seqObj "tuple" us.toArray 0)).objs.size = h0.objs.size + 1 := by rw [size_push', Heap.size_update]
  unfold ksk_tree
  refine wpAny_bind (listItems_at at_ rfl ?_)
  refine wpAny_bind (listUpdate_at at_ rfl ?_ (by rw [List.size_toArray, hlu]; exact hzs) (Nat.zero_le _))
  refine wpAny_bind (seqEpoch_at ho1 rfl ?_)
  refine wpAny_bind (wpAny_newTuple ?_ (by show us.length ≤ _; rw [hlu]; exact hzs))
  refine wpAny_bind (wpAny_newList ?_ (Nat.zero_le _))
  refine wpAny_holding ?_
  have kpN : ∀ b o, h'.get? b = some o → (((h0.update h'.objs.size (Obj.mapSeq fun _ => (#[] : Array Value))).push (seqObj "tuple" us.toArray 0)).push (seqObj "list" #[] 0)).get? b = some o := fun b o eo => by
    have hlt := Heap.lt_size eo
    refine Heap.get?_push_of_some _ (Heap.get?_push_of_some _ ?_)
    rw [Heap.get?_update_ne _ _ _ _ (Nat.ne_of_lt hlt)]
    exact hk0 b o eo
  have fpa : ∀ H', H' h'.objs.size = none → FpOk X pins H' h'.objs.size := fun H' hn => I1.fpOk (Nat.le_refl _) hn
  have fpk : ∀ H', H' (h0.objs.size + 1) = none → FpOk X pins H' (h0.objs.size + 1) := fun H' hn => I1.fpOk (by show h'.objs.size ≤ _; omega) hn
  have ha0 : H h'.objs.size = none := I1.hok.fresh (Nat.le_refl _)
  have hk1 : H (h0.objs.size + 1) = none := I1.hok.fresh (by show h'.objs.size ≤ _; omega)
  have I2 : Inv X pins σ H { s with heap := ((h0.update h'.objs.size (Obj.mapSeq fun _ => (#[] : Array Value))).push (seqObj "tuple" us.toArray 0)).push (seqObj "list" #[] 0), toks := tk } := I1.kept (t' := tk) kpN
  rw [hkS]
  have nk : (((h0.update h'.objs.size (Obj.mapSeq fun _ => (#[] : Array Value))).push (seqObj "tuple" us.toArray 0)).push (seqObj "list" #[] 0)).get? (h0.objs.size + 1) = some (seqObj "list" #[] 0) := by
    rw [← hkS]
    exact Heap.get?_push_size _ rfl
  have na : (((h0.update h'.objs.size (Obj.mapSeq fun _ => (#[] : Array Value))).push (seqObj "tuple" us.toArray 0)).push (seqObj "list" #[] 0)).get? h'.objs.size = some (seqObj "list" #[] e1) := Heap.get?_push_of_some _ (Heap.get?_push_of_some _ ho1)
  have I3 : Inv X ((h'.objs.size, (seqObj "list" #[] e1 : Obj)) :: (h0.objs.size + 1, (seqObj "list" #[] 0 : Obj)) :: pins) σ H { s with heap := ((h0.update h'.objs.size (Obj.mapSeq fun _ => (#[] : Array Value))).push (seqObj "tuple" us.toArray 0)).push (seqObj "list" #[] 0), toks := tk } := inv_pin I2 fun p hm hn => by
    rcases List.mem_cons.mp hm with h | h
    · subst h
      exact ⟨fpa H ha0, na, fun v z => nomatch z⟩
    · rcases List.mem_cons.mp h with h | h
      · subst h
        exact ⟨fpk H hk1, nk, fun v z => nomatch z⟩
      · exact absurd h hn
  have hne2 : h0.objs.size + 1 ≠ h'.objs.size := by omega
  refine key_rest hc co hr (kS := h0.objs.size + 1) (F := F) (R := R) (mh := mh) (xs := xs) (vs := ws) (Kt := fun ds m' => ds = ks ∧ m' = m) I3 rh rw' rv' hl hne2 fpa fpk (PO1.mk ek ⟨rfl, rfl⟩) (fun ds m' h => by rw [h.1]; exact srt_of hk) fun ds m' F' R' H' ws2 h2 tk2 s' hd x1 rh1 rs2 ha2 I4 => ⟨rfl, ?_⟩
  obtain ⟨rfl, rfl⟩ := hd
  have k2 : KQ Z F' R' H' m' (.lst ((sortk (xs.zip ds)).map (·.1))) Q := fun F2 R2 H2 w x2 rh2 rd2 => q F2 R2 H2 w (x1.trans x2) rh2 rd2
  exact ⟨.ref h'.objs.size, _, I4, rfl, k2.lst rh1 rs2 _ ha2⟩
/-- sorted(e, key=f) -/
theorem snd_sortK (hc : CtxOk Z M k' X) (co : CallOk Z M T C CX fa fi k X) (hr : Room (k + 1) X.A) {f : Nat} {a : ME} {x y kn : Str} {e : Expr} {p py kp pos : Pos} (hx : mtGlob X.env.scope x "sorted" = true) (hy : mtGlob X.env.scope y (M.fn f) = true) (hf : M.gf f = true) (hk : kn = "key") (hs : noStar e = true) (he : PE X e (tB Z T C a)) :
    PE X (.Call (.Name x p) [e] [⟨some kn, .Name y py, kp⟩] pos) (tM Z T C (.sortK f a)) := by
  subst hk
  obtain ⟨rfl, hg, hd⟩ := glob_of hx
  obtain ⟨rfl, hg2, hd2⟩ := glob_of hy
  obtain ⟨h1, h2⟩ := co.gf f hf
  have hK : PE X (.Name (M.fn f) py) (fun σ H Q => Q (.ref (fa f)) H) := ⟨fun pins s σ H Q I h => ld_glob I hg2 h1 ⟨.ref (fa f), H, I, rfl, h⟩ hd2⟩
  refine PE.imp (pe_callBK (cb_sortK hc co hr f) hg (hc.blt .sorted) (by decide +kernel) (pa_cons he pa_nil (star_of hs _ _)) (pk_cons hK pk_nil) (by decide +kernel) hd (by rw [star_of hs _ _] <;> rfl) (by rw [star_of hs _ _] <;> rfl) rfl rfl rfl) fun σ H Q q => ?_
  obtain ⟨N, F, R, mh, env, rh, re, q⟩ := q
  obtain ⟨d, m1, e1, q⟩ := PO1.bd (show PO1 ((bor env a mh (evE T C a env mh)).bd fun x h => (ofO (items x) h).bd fun xs h => (keysOfs C f xs h).bd fun ks h => if cmpb ks then Out.ok (D.lst ((sortk (xs.zip ks)).map (·.1))) h else .no) _ from q)
  obtain ⟨xs, m2, e2, qq⟩ := PO1.bd q
  have e3 : items d = some xs ∧ m2 = m1 := by
    cases e : items d with
    | none => rw [e] at e2; cases e2
    | some z => rw [e] at e2; cases e2; exact ⟨rfl, rfl⟩
  obtain ⟨e3, rfl⟩ := e3
  obtain ⟨ks, m3, e4, qk⟩ := PO1.bd qq
  refine ⟨N, F, R, mh, env, rh, re, PO1.mk e1 fun F1 R1 H1 v x1 rh1 t1 => ⟨F1, R1, _, d, xs, v, rh1, rfl, rfl, t1, e3, PO1.mk e4 ?_⟩⟩
  cases hz : cmpb ks with
  | false =>
    rw [hz] at qk
    cases qk
  | true =>
    rw [hz] at qk
    exact ⟨rfl, fun F' R' H' w x rh' rd => qk F' R' H' w (x1.trans x) rh' rd⟩
end
end Mi
/-! MiTrm: every term that the matcher finds gives what the small interpreter says. -/
namespace Mi
open PySem PySem.Spec PyProof.Rows L2

section
variable {Z : NA} {M : NM} {T : CT} {C : Cl} {k : Nat} {CX : CXT} {fa fi : Nat → Addr}
def isBoolE : Expr → Bool
  | .BoolOp _ _ _ => true
  | _ => false
def isCompE : Expr → Bool
  | .ListComp _ _ _ _ => true
  | _ => false
/-- what is shown of a term -/
structure G1 (Z : NA) (T : CT) (C : Cl) (X : Cx) (m : ME) (e : Expr) : Prop where
  v : PE X e (tM Z T C m)
  b : PE X e (tB Z T C m)
  t : okT m = true → PT X e (tTe Z T C m)
  w : okT m = true → isBoolE e = true → PW X e (tTe Z T C m)
  al : isAl m = true → PE X e (tM Z T C (.alloc m))
theorem G1.plain {X : Cx} {m : ME} {e : Expr} (hc : CtxOk Z M k X) (hm : mtE M T X.N m X.env.scope e = true) (hp : plainT e = true) (hw : isBoolE e = false) (h : PE X e (tM Z T C m)) (hl : isAl m = true → PE X e (tM Z T C (.alloc m)) := by exact fun z => nomatch z) : G1 Z T C X m e := by
  have b := snd_bor hm h
  exact ⟨h, b, fun _ => snd_tplain hc hp b, (fun _ z => by rw [hw] at z; cases z), hl⟩
theorem all_eq {α : Type} [DecidableEq α] {a b : α} (h : decide (a = b) = true) : a = b := of_decide_eq_true h
theorem cls_ok {t : Ty} (h : (match t with | .cls c => T.cls c | _ => true) = true) : ∀ c, t = .cls c → T.cls c = true := fun c e => by
  subst e
  exact h
theorem cm_ok {c m : Nat} (h : (match T.cmeth c m with | some (_, false) => false | _ => true) = true) : ∀ f, T.cmeth c m ≠ some (f, false) := fun f e => by
  rw [e] at h
  cases h
/-- what is to be shown of a term, of its parts -/
abbrev TmE (Z : NA) (M : NM) (T : CT) (C : Cl) (CX : CXT) (fa fi : Nat → Addr) (k : Nat) (m : ME) : Prop := ∀ (X : Cx) (e : Expr), All Z M T C CX fa fi k X → mtE M T X.N m X.env.scope e = true → G1 Z T C X m e
abbrev TmO (Z : NA) (M : NM) (T : CT) (C : Cl) (CX : CXT) (fa fi : Nat → Addr) (k : Nat) (m : MO1) : Prop := ∀ (X : Cx) (e : Option Expr), All Z M T C CX fa fi k X → mtO M T X.N m X.env.scope e = true → L2.PO X e (tOp1 Z T C m)
abbrev TmA (Z : NA) (M : NM) (T : CT) (C : Cl) (CX : CXT) (fa fi : Nat → Addr) (k : Nat) (m : MA) : Prop := ∀ (X : Cx) (es : List Expr), All Z M T C CX fa fi k X → mtA M T X.N m X.env.scope es = true → PA X es (tA Z T C m)
abbrev TmAB (Z : NA) (M : NM) (T : CT) (C : Cl) (CX : CXT) (fa fi : Nat → Addr) (k : Nat) (m : MA) : Prop := ∀ (X : Cx) (es : List Expr), All Z M T C CX fa fi k X → plainArgs es = true → mtA M T X.N m X.env.scope es = true → PA X es (tAB Z T C m)
abbrev TmArg (Z : NA) (M : NM) (T : CT) (C : Cl) (CX : CXT) (fa fi : Nat → Addr) (k : Nat) (m : MA) : Prop := ∀ (X : Cx) (es : List Expr), All Z M T C CX fa fi k X → okShape es = true → mtA M T X.N m X.env.scope es = true → ArgOk X es (tA Z T C m)
abbrev TmTs (Z : NA) (M : NM) (T : CT) (C : Cl) (CX : CXT) (fa fi : Nat → Addr) (k : Nat) (m : MA) : Prop := ∀ (X : Cx) (es : List Expr), All Z M T C CX fa fi k X → mtTs M T X.N m X.env.scope es = true → PTs X es (tTs Z T C m)
abbrev TmIt (Z : NA) (M : NM) (T : CT) (C : Cl) (CX : CXT) (fa fi : Nat → Addr) (k : Nat) (m : MI) : Prop := ∀ (b : Bool) (X : Cx) (t e : Expr), All Z M T C CX fa fi k X → mtI M T X.N m X.env.scope t e = true → PI X t e (tI Z T C b m)
theorem gE_var_i {i : Nat}  : TmE Z M T C CX fa fi k (.var i : ME) := fun X e a h => by
  obtain ⟨x, q, h0⟩ := any_some (o := dName e) h
  obtain ⟨pos, rfl⟩ := dName_inv q
  exact G1.plain a.c h rfl rfl (snd_var h0)
theorem gE_glo_x_i {x : Str} {i : Int}  : TmE Z M T C CX fa fi k (.glo x i : ME) := fun X e a h => by
  obtain ⟨y, q, h0⟩ := any_some (o := dName e) h
  obtain ⟨pos, rfl⟩ := dName_inv q
  obtain ⟨h1, h2⟩ := ba2 h0
  exact G1.plain a.c h rfl rfl (snd_glo a.c h1 (of_decide_eq_true h2))
theorem gE_con_d {d : D}  : TmE Z M T C CX fa fi k (.con d : ME) := fun X e a h => by
  obtain ⟨c, q, h0⟩ := any_some (o := dConst e) h
  obtain ⟨j, pos, rfl⟩ := dConst_inv q
  exact G1.plain a.c h rfl rfl (snd_con h0)
theorem gE_bin_o {o : Bop} {m1 : ME} {m2 : ME} (iE_m1 : TmE Z M T C CX fa fi k m1) (iE_m2 : TmE Z M T C CX fa fi k m2) : TmE Z M T C CX fa fi k (.bin o m1 m2 : ME) := fun X e a h => by
  obtain ⟨⟨ea, p, eb⟩, q, h0⟩ := any_some (o := dBin e) h
  obtain ⟨pos, rfl⟩ := dBin_inv q
  obtain ⟨h1, r1⟩ := ba2 h0
  obtain ⟨h2, h3⟩ := ba2 r1
  obtain rfl := all_eq h1
  exact G1.plain a.c h rfl rfl (snd_bin a.c (iE_m1 X ea a h2).b (iE_m2 X eb a h3).b)
theorem gE_neg {m1 : ME} (iE_m1 : TmE Z M T C CX fa fi k m1) : TmE Z M T C CX fa fi k (.neg m1 : ME) := fun X e a h => by
  obtain ⟨ea, q, h0⟩ := any_some (o := dNeg e) h
  obtain ⟨pos, rfl⟩ := dNeg_inv q
  exact G1.plain a.c h rfl rfl (snd_neg (iE_m1 X ea a h0).v)
theorem gE_inv {m1 : ME} (iE_m1 : TmE Z M T C CX fa fi k m1) : TmE Z M T C CX fa fi k (.inv m1 : ME) := fun X e a h => by
  obtain ⟨ea, q, h0⟩ := any_some (o := dInv e) h
  obtain ⟨pos, rfl⟩ := dInv_inv q
  exact G1.plain a.c h rfl rfl (snd_inv (iE_m1 X ea a h0).v)
theorem gE_cmp_o {o : Cop} {m1 : ME} {m2 : ME} (iE_m1 : TmE Z M T C CX fa fi k m1) (iE_m2 : TmE Z M T C CX fa fi k m2) : TmE Z M T C CX fa fi k (.cmp o m1 m2 : ME) := fun X e a h => by
  obtain ⟨⟨ea, p, eb⟩, q, h0⟩ := any_some (o := dCmp e) h
  obtain ⟨pos, rfl⟩ := dCmp_inv q
  obtain ⟨h1, r1⟩ := ba2 h0
  obtain ⟨h2, r2⟩ := ba2 r1
  obtain ⟨h3, h4⟩ := ba2 r2
  obtain rfl := all_eq h1
  have g1 := iE_m1 X ea a h2
  have g2 := iE_m2 X eb a h3
  have v := snd_cmp (pos := pos) a.c (bnot h4) g1.b g2.b
  exact ⟨v, snd_bor h v, fun _ => snd_tcmp a.c (bnot h4) g1.b g2.b, (fun _ z => by cases z), fun z => nomatch z⟩
theorem gE_cmp2_o_o {o : Cop} {o' : Cop} {m1 : ME} {m2 : ME} {m3 : ME} (iE_m1 : TmE Z M T C CX fa fi k m1) (iE_m2 : TmE Z M T C CX fa fi k m2) (iE_m3 : TmE Z M T C CX fa fi k m3) : TmE Z M T C CX fa fi k (.cmp2 o o' m1 m2 m3 : ME) := fun X e a h => by
  obtain ⟨⟨ea, p, p', eb, ec⟩, q, h0⟩ := any_some (o := dCmp2 e) h
  obtain ⟨pos, rfl⟩ := dCmp2_inv q
  obtain ⟨h1, r1⟩ := ba2 h0
  obtain ⟨h2, r2⟩ := ba2 r1
  obtain ⟨h3, r3⟩ := ba2 r2
  obtain ⟨h4, r4⟩ := ba2 r3
  obtain ⟨h5, h6⟩ := ba2 r4
  obtain rfl := all_eq h1
  obtain rfl := all_eq h2
  have g1 := iE_m1 X ea a h3
  have g2 := iE_m2 X eb a h4
  have g3 := iE_m3 X ec a h5
  have v := snd_cmp2 (pos := pos) a.c (bnot h6) g1.v g2.v g3.v
  exact ⟨v.1, snd_bor h v.1, fun _ => v.2, (fun _ z => by cases z), fun z => nomatch z⟩
theorem gE_isn {m1 : ME} (iE_m1 : TmE Z M T C CX fa fi k m1) : TmE Z M T C CX fa fi k (.isn m1 : ME) := fun X e a h => by
  obtain ⟨ea, q, h0⟩ := any_some (o := dIsn e) h
  obtain ⟨j, p, pos, rfl⟩ := dIsn_inv q
  have g1 := iE_m1 X ea a h
  have v := snd_isn (j := j) (p := p) (pos := pos) g1.v
  exact ⟨v, snd_bor h v, fun _ => snd_tisn g1.v, (fun _ z => by cases z), fun z => nomatch z⟩
theorem gE_notn {m1 : ME} (iE_m1 : TmE Z M T C CX fa fi k m1) : TmE Z M T C CX fa fi k (.notn m1 : ME) := fun X e a h => by
  obtain ⟨ea, q, h0⟩ := any_some (o := dNotn e) h
  obtain ⟨j, p, pos, rfl⟩ := dNotn_inv q
  have g1 := iE_m1 X ea a h
  have v := snd_notn (j := j) (p := p) (pos := pos) g1.v
  exact ⟨v, snd_bor h v, fun _ => snd_tnotn g1.v, (fun _ z => by cases z), fun z => nomatch z⟩
theorem gE_and {m1 : ME} {m2 : ME} (iE_m1 : TmE Z M T C CX fa fi k m1) (iE_m2 : TmE Z M T C CX fa fi k m2) : TmE Z M T C CX fa fi k (.and m1 m2 : ME) := fun X e a h => by
  obtain ⟨⟨ea, er⟩, q, h0⟩ := any_some (o := dAnd e) h
  obtain ⟨h1, h2⟩ := ba2 h0
  have g1 := iE_m1 X ea a h1
  rcases dAnd_inv q with ⟨pos, rfl⟩ | ⟨eb, ec, es, pos, rfl, q2⟩
  · have g2 := iE_m2 X er a h2
    have v := snd_and (pos := pos) g1.v (pe_one (pos := pos) g2.v)
    have w : okT (.and m1 m2) = true → PW X (.BoolOp .And [ea, er] pos) (tTe Z T C (.and m1 m2)) := fun ok => snd_tand (g1.t (ba2 ok).1) (pw_and1 (g2.t (ba2 ok).2))
    exact ⟨v, snd_bor h v, fun ok => (w ok).pt, fun ok _ => w ok, fun z => nomatch z⟩
  · obtain rfl : er = .BoolOp .And (eb :: ec :: es) pos := q2
    have g2 := iE_m2 X (.BoolOp .And (eb :: ec :: es) pos) a h2
    have v := snd_and (pos := pos) g1.v g2.v
    have w : okT (.and m1 m2) = true → PW X (.BoolOp .And (ea :: eb :: ec :: es) pos) (tTe Z T C (.and m1 m2)) := fun ok => snd_tand (g1.t (ba2 ok).1) (g2.w (ba2 ok).2 rfl)
    exact ⟨v, snd_bor h v, fun ok => (w ok).pt, fun ok _ => w ok, fun z => nomatch z⟩
theorem gE_or {m1 : ME} {m2 : ME} (iE_m1 : TmE Z M T C CX fa fi k m1) (iE_m2 : TmE Z M T C CX fa fi k m2) : TmE Z M T C CX fa fi k (.or m1 m2 : ME) := fun X e a h => by
  obtain ⟨⟨ea, er⟩, q, h0⟩ := any_some (o := dOr e) h
  obtain ⟨h1, h2⟩ := ba2 h0
  have g1 := iE_m1 X ea a h1
  rcases dOr_inv q with ⟨pos, rfl⟩ | ⟨eb, ec, es, pos, rfl, q2⟩
  · have g2 := iE_m2 X er a h2
    have v := snd_or (pos := pos) g1.v (pe_one (pos := pos) g2.v)
    have w : okT (.or m1 m2) = true → PW X (.BoolOp .Or [ea, er] pos) (tTe Z T C (.or m1 m2)) := fun ok => snd_tor (g1.t (ba2 ok).1) (pw_or1 (g2.t (ba2 ok).2))
    exact ⟨v, snd_bor h v, fun ok => (w ok).pt, fun ok _ => w ok, fun z => nomatch z⟩
  · obtain rfl : er = .BoolOp .Or (eb :: ec :: es) pos := q2
    have g2 := iE_m2 X (.BoolOp .Or (eb :: ec :: es) pos) a h2
    have v := snd_or (pos := pos) g1.v g2.v
    have w : okT (.or m1 m2) = true → PW X (.BoolOp .Or (ea :: eb :: ec :: es) pos) (tTe Z T C (.or m1 m2)) := fun ok => snd_tor (g1.t (ba2 ok).1) (g2.w (ba2 ok).2 rfl)
    exact ⟨v, snd_bor h v, fun ok => (w ok).pt, fun ok _ => w ok, fun z => nomatch z⟩
theorem gE_not {m1 : ME} (iE_m1 : TmE Z M T C CX fa fi k m1) : TmE Z M T C CX fa fi k (.not m1 : ME) := fun X e a h => by
  obtain ⟨ea, q, h0⟩ := any_some (o := dNot e) h
  obtain ⟨pos, rfl⟩ := dNot_inv q
  have g1 := iE_m1 X ea a h
  have v := snd_not (pos := pos) g1.v
  exact ⟨v, snd_bor h v, fun ok => snd_tnot (g1.t ok), (fun _ z => by cases z), fun z => nomatch z⟩
theorem gE_ite {m1 : ME} {m2 : ME} {m3 : ME} (iE_m1 : TmE Z M T C CX fa fi k m1) (iE_m2 : TmE Z M T C CX fa fi k m2) (iE_m3 : TmE Z M T C CX fa fi k m3) : TmE Z M T C CX fa fi k (.ite m1 m2 m3 : ME) := fun X e a h => by
  obtain ⟨⟨et, ea, eb⟩, q, h0⟩ := any_some (o := dIte e) h
  obtain ⟨pos, rfl⟩ := dIte_inv q
  obtain ⟨h1, r1⟩ := ba2 h0
  obtain ⟨h2, r2⟩ := ba2 r1
  obtain ⟨h3, h4⟩ := ba2 r2
  have v := snd_ite (pos := pos) ((iE_m1 X et a h2).t h1) (iE_m2 X ea a h3).v (iE_m3 X eb a h4).v
  exact ⟨v, snd_bor h v, (fun z => by cases z), (fun z => by cases z), fun z => nomatch z⟩
theorem gE_tup_es {es : MA} (iA_es : TmA Z M T C CX fa fi k es) : TmE Z M T C CX fa fi k (.tup es : ME) := fun X e a h => by
  obtain ⟨xs, q, h0⟩ := any_some (o := dTup e) h
  obtain ⟨j, pos, rfl⟩ := dTup_inv q
  exact G1.plain a.c h rfl rfl (snd_tup (iA_es X xs a h0))
theorem gE_lst_es {es : MA} (iA_es : TmA Z M T C CX fa fi k es) : TmE Z M T C CX fa fi k (.lst es : ME) := fun X e a h => by
  obtain ⟨xs, q, h0⟩ := any_some (o := dLst e) h
  obtain ⟨pos, rfl⟩ := dLst_inv q
  exact G1.plain a.c h rfl rfl (snd_lst (iA_es X xs a h0)) fun _ => snd_allocL (iA_es X xs a h0)
theorem gE_idx {m1 : ME} {m2 : ME} (iE_m1 : TmE Z M T C CX fa fi k m1) (iE_m2 : TmE Z M T C CX fa fi k m2) : TmE Z M T C CX fa fi k (.idx m1 m2 : ME) := fun X e a h => by
  obtain ⟨⟨ea, ei⟩, q, h0⟩ := any_some (o := dSub e) h
  obtain ⟨pos, rfl⟩ := dSub_inv q
  obtain ⟨h1, r1⟩ := ba2 h0
  obtain ⟨h2, h3⟩ := ba2 r1
  exact G1.plain a.c h rfl rfl (snd_idx a.c.hK h1 (iE_m1 X ea a h2).b (iE_m2 X ei a h3).v)
theorem gE_sl {m1 : ME} {lo : MO1} {hi : MO1} (iE_m1 : TmE Z M T C CX fa fi k m1) (iO_lo : TmO Z M T C CX fa fi k lo) (iO_hi : TmO Z M T C CX fa fi k hi) : TmE Z M T C CX fa fi k (.sl m1 lo hi : ME) := fun X e a h => by
  obtain ⟨⟨ea, l, u⟩, q, h0⟩ := any_some (o := dSl e) h
  obtain ⟨p2, pos, rfl⟩ := dSl_inv q
  obtain ⟨h1, r1⟩ := ba2 h0
  obtain ⟨h2, h3⟩ := ba2 r1
  exact G1.plain a.c h rfl rfl (snd_sl a.c.hK (iE_m1 X ea a h1).b (iO_lo X l a h2) (iO_hi X u a h3))
theorem gE_call_f_es {f : Nat} {es : MA} (iArg_es : TmArg Z M T C CX fa fi k es) : TmE Z M T C CX fa fi k (.call f es : ME) := fun X e a h => by
  obtain ⟨⟨x, xs⟩, q, h0⟩ := any_some (o := dCallN e) h
  obtain ⟨p, pos, rfl⟩ := dCallN_inv q
  obtain ⟨h1, r1⟩ := ba2 h0
  obtain ⟨h2, r2⟩ := ba2 r1
  obtain ⟨h3, h4⟩ := ba2 r2
  exact G1.plain a.c h rfl rfl (snd_call a.c a.f a.r h1 h2 (iArg_es X xs a h3 h4))
theorem gE_make_c_es {c : Nat} {es : MA} (iArg_es : TmArg Z M T C CX fa fi k es) : TmE Z M T C CX fa fi k (.make c es : ME) := fun X e a h => by
  obtain ⟨⟨x, xs⟩, q, h0⟩ := any_some (o := dCallN e) h
  obtain ⟨p, pos, rfl⟩ := dCallN_inv q
  obtain ⟨h1, r1⟩ := ba2 h0
  obtain ⟨h2, r2⟩ := ba2 r1
  obtain ⟨h3, h4⟩ := ba2 r2
  exact G1.plain a.c h rfl rfl (snd_make a.c a.f a.r h1 h2 (iArg_es X xs a h3 h4)) fun _ => snd_makeA a.c a.f a.r h1 h2 (iArg_es X xs a h3 h4)
theorem gE_blt_b_es {b : Blt} {es : MA} (B : ∀ Y, CtxOk Z M k Y → BltOk Z Y) (iAB_es : TmAB Z M T C CX fa fi k es) : TmE Z M T C CX fa fi k (.blt b es : ME) := fun X e a h => by
  obtain ⟨⟨x, xs⟩, q, h0⟩ := any_some (o := dCallN e) h
  obtain ⟨p, pos, rfl⟩ := dCallN_inv q
  obtain ⟨h1, r1⟩ := ba2 h0
  obtain ⟨h2, r2⟩ := ba2 r1
  obtain ⟨h3, h4⟩ := ba2 r2
  obtain ⟨e0, es0, rfl⟩ := ne_nil h3
  exact G1.plain a.c h rfl rfl (snd_blt a.c (B X a.c) h1 h2 (iAB_es X _ a h2 h4))
theorem gE_isi {m1 : ME} {t : Ty} (iE_m1 : TmE Z M T C CX fa fi k m1) : TmE Z M T C CX fa fi k (.isi m1 t : ME) := fun X e a h => by
  obtain ⟨⟨x, ea, y⟩, q, h0⟩ := any_some (o := dIsi e) h
  obtain ⟨p, p2, pos, rfl⟩ := dIsi_inv q
  obtain ⟨h1, r1⟩ := ba2 h0
  obtain ⟨h2, r2⟩ := ba2 r1
  obtain ⟨h3, r3⟩ := ba2 r2
  obtain ⟨h4, h5⟩ := ba2 r3
  exact G1.plain a.c h rfl rfl (snd_isi a.c a.cl (cls_ok h4) h1 h2 h3 (iE_m1 X ea a h5).v)
theorem gE_attr {m1 : ME} {f : Nat} (iE_m1 : TmE Z M T C CX fa fi k m1) : TmE Z M T C CX fa fi k (.attr m1 f : ME) := fun X e a h => by
  obtain ⟨⟨ea, x⟩, q, h0⟩ := any_some (o := dAttr e) h
  obtain ⟨pos, rfl⟩ := dAttr_inv q
  obtain ⟨h1, r1⟩ := ba2 h0
  obtain ⟨h2, h3⟩ := ba2 r1
  have g1 := iE_m1 X ea a h3
  exact G1.plain a.c h rfl rfl (snd_attr a.c a.f a.r (of_decide_eq_true h1) h2 g1.v g1.b)
theorem gE_meth {m1 : ME} {m : Nat} {es : MA} (iE_m1 : TmE Z M T C CX fa fi k m1) (iArg_es : TmArg Z M T C CX fa fi k es) : TmE Z M T C CX fa fi k (.meth m1 m es : ME) := fun X e a h => by
  obtain ⟨⟨ea, x, ap, xs, pos⟩, q, h0⟩ := any_some (o := dMeth e) h
  obtain rfl := dMeth_inv q
  obtain ⟨h1, r1⟩ := ba2 h0
  obtain ⟨h2, r2⟩ := ba2 r1
  obtain ⟨h3, r3⟩ := ba2 r2
  obtain ⟨h4, r4⟩ := ba2 r3
  obtain ⟨h5, r5⟩ := ba2 r4
  obtain ⟨h6, h7⟩ := ba2 r5
  exact G1.plain a.c h rfl rfl (snd_meth a.c a.f a.r (of_decide_eq_true h1) h2 h5 h3 (of_decide_eq_true h4) (iE_m1 X ea a h6).v (iArg_es X xs a (plain_shape h3) h7))
theorem gE_smeth_o {o : Sm} {m1 : ME} {es : MA} (iE_m1 : TmE Z M T C CX fa fi k m1) (iAB_es : TmAB Z M T C CX fa fi k es) : TmE Z M T C CX fa fi k (.smeth o m1 es : ME) := fun X e a h => by
  obtain ⟨⟨ea, x, ap, xs, pos⟩, q, h0⟩ := any_some (o := dMeth e) h
  obtain rfl := dMeth_inv q
  obtain ⟨hx, r0⟩ := ba2 h0
  obtain ⟨h1, r1⟩ := ba2 r0
  obtain ⟨h2, r2⟩ := ba2 r1
  obtain ⟨h3, r3⟩ := ba2 r2
  obtain ⟨h4, r4⟩ := ba2 r3
  obtain ⟨h5, r5⟩ := ba2 r4
  obtain ⟨h6, r6⟩ := ba2 r5
  obtain ⟨h7, h8⟩ := ba2 r6
  obtain ⟨e0, es0, rfl⟩ := ne_nil h4
  exact G1.plain a.c h rfl rfl (snd_smeth a.c (of_decide_eq_true h1) hx h2 h3 (of_decide_eq_true h5) h6 (iE_m1 X ea a h7).v (iAB_es X _ a h3 h8))
theorem gE_cm_c {c : Nat} {m : Nat} {es : MA} (iA_es : TmA Z M T C CX fa fi k es) : TmE Z M T C CX fa fi k (.cm c m es : ME) := fun X e a h => by
  obtain ⟨⟨y, x, ap, xs, pos⟩, q, h0⟩ := any_some (o := dCm e) h
  obtain ⟨p1, rfl⟩ := dCm_inv q
  obtain ⟨h1, r1⟩ := ba2 h0
  obtain ⟨h2, r2⟩ := ba2 r1
  obtain ⟨h3, r3⟩ := ba2 r2
  obtain ⟨h4, r4⟩ := ba2 r3
  obtain ⟨h5, r5⟩ := ba2 r4
  obtain ⟨h6, r6⟩ := ba2 r5
  obtain ⟨h7, r7⟩ := ba2 r6
  obtain ⟨h8, h9⟩ := ba2 r7
  obtain ⟨e0, es0, rfl⟩ := ne_nil h5
  exact G1.plain a.c h rfl rfl (snd_cm a.c a.f a.r (of_decide_eq_true h1) h2 h3 h7 h4 (of_decide_eq_true h6) (cm_ok h8) (iA_es X _ a h9))
theorem gE_lc_it_tg_wp_ts {it : MI} {tg : Tg} {wp : List Nat} {ts : MA} {m1 : ME} (iIt_it : TmIt Z M T C CX fa fi k it) (iTs_ts : TmTs Z M T C CX fa fi k ts) (iE_m1 : TmE Z M T C CX fa fi k m1) : TmE Z M T C CX fa fi k (.lc it tg wp ts m1 : ME) := fun X e a h => by
  obtain ⟨⟨elt, t, i, fs, sco⟩, q, h0⟩ := any_some (o := dLc e) h
  obtain ⟨pos, rfl⟩ := dLc_inv q
  obtain ⟨h1, r1⟩ := ba2 h0
  obtain ⟨h2, r2⟩ := ba2 r1
  obtain ⟨h3, r3⟩ := ba2 r2
  obtain ⟨h4, r4⟩ := ba2 r3
  obtain ⟨h5, r5⟩ := ba2 r4
  obtain ⟨h6, h7⟩ := ba2 r5
  exact G1.plain a.c h rfl rfl (snd_lc a.c h3 h4 h2 (iIt_it true X t i a h1)
    (fun s H c cl fp => pg_of (X := X.blk s H sco (compEnvC sco cl c X.env) fp) a.c.nd a.c.calm h5)
    (fun s H c cl fp => iTs_ts (X.blk s H sco (compEnvC sco cl c X.env) fp) fs (a.blk s H sco _ fp) h6)
    (fun s H c cl fp => (iE_m1 (X.blk s H sco (compEnvC sco cl c X.env) fp) elt (a.blk s H sco _ fp) h7).v))
theorem gE_lcK_j_tg_wp_ts {j : Nat} {tg : Tg} {wp : List Nat} {ts : MA} {m1 : ME} (iTs_ts : TmTs Z M T C CX fa fi k ts) (iE_m1 : TmE Z M T C CX fa fi k m1) : TmE Z M T C CX fa fi k (.lcK j tg wp ts m1 : ME) := fun X e a h => by
  obtain ⟨⟨elt, t, y, fs, sco⟩, q, h0⟩ := any_some (o := dLcK e) h
  obtain ⟨py, pos, rfl⟩ := dLcK_inv q
  obtain ⟨h1, r1⟩ := ba2 h0
  obtain ⟨h3, r3⟩ := ba2 r1
  obtain ⟨h4, r4⟩ := ba2 r3
  obtain ⟨h5, r5⟩ := ba2 r4
  obtain ⟨h6, h7⟩ := ba2 r5
  exact G1.plain a.c h rfl rfl (snd_lcK a.c h3 h4 h1
    (fun s H c cl fp => pg_of (X := X.blk s H sco (compEnvC sco cl c X.env) fp) a.c.nd a.c.calm h5)
    (fun s H c cl fp => iTs_ts (X.blk s H sco (compEnvC sco cl c X.env) fp) fs (a.blk s H sco _ fp) h6)
    (fun s H c cl fp => (iE_m1 (X.blk s H sco (compEnvC sco cl c X.env) fp) elt (a.blk s H sco _ fp) h7).v))
theorem gE_rev {u0 : ME}  : TmE Z M T C CX fa fi k (.rev u0 : ME) := fun X e a h => by cases h
theorem gE_sortK_f {f : Nat} {m1 : ME} (iE_m1 : TmE Z M T C CX fa fi k m1) : TmE Z M T C CX fa fi k (.sortK f m1 : ME) := fun X e a h => by
  obtain ⟨⟨x, e1, kn, y⟩, q, h0⟩ := any_some (o := dSortK e) h
  obtain ⟨p, py, kp, pos, rfl⟩ := dSortK_inv q
  obtain ⟨h1, r1⟩ := ba2 h0
  obtain ⟨h2, r2⟩ := ba2 r1
  obtain ⟨h3, r3⟩ := ba2 r2
  obtain ⟨h4, r4⟩ := ba2 r3
  obtain ⟨h5, h6⟩ := ba2 r4
  exact G1.plain a.c h rfl rfl (snd_sortK a.c a.f a.r h1 h2 h3 (of_decide_eq_true h4) h5 (iE_m1 X e1 a h6).b)
theorem gE_lc2 {u0 : MI} {u1 : Tg} {u2 : MA} {u3 : MI} {u4 : Tg} {u5 : List Nat} {u6 : MA} {u7 : List Nat} {u8 : ME}  : TmE Z M T C CX fa fi k (.lc2 u0 u1 u2 u3 u4 u5 u6 u7 u8 : ME) := fun X e a h => by cases h
theorem gE_makeV_i_es {i : Nat} {es : MA} (iArg_es : TmArg Z M T C CX fa fi k es) : TmE Z M T C CX fa fi k (.makeV i es : ME) := fun X e a h => by
  obtain ⟨⟨x, xs⟩, q, h0⟩ := any_some (o := dCallN e) h
  obtain ⟨p, pos, rfl⟩ := dCallN_inv q
  obtain ⟨h1, r1⟩ := ba2 h0
  obtain ⟨h2, h3⟩ := ba2 r1
  exact G1.plain a.c h rfl rfl (snd_makeV a.c a.f a.r h1 (iArg_es X xs a h2 h3)) fun _ => snd_makeVA a.c a.f a.r h1 (iArg_es X xs a h2 h3)
theorem gE_col_t_rng {t : Bool} {m1 : ME} (iE_m1 : TmE Z M T C CX fa fi k m1) : TmE Z M T C CX fa fi k (.col t (.rng m1) : ME) := fun X e a h => by
  obtain ⟨⟨x, e1⟩, q, h0⟩ := any_some (o := dCall1 e) h
  obtain ⟨p, pos, rfl⟩ := dCall1_inv q
  obtain ⟨h1, r1⟩ := ba2 h0
  obtain ⟨_, h3⟩ := ba2 r1
  obtain ⟨⟨y, ea⟩, q2, h4⟩ := any_some (o := dCall1 e1) h3
  obtain ⟨p2, pos2, rfl⟩ := dCall1_inv q2
  obtain ⟨g1, r2⟩ := ba2 h4
  obtain ⟨g2, g3⟩ := ba2 r2
  exact G1.plain a.c h rfl rfl (snd_col1 a.c h1 g1 g2 (iE_m1 X ea a g3).v)
theorem gE_col_t_rng2 {t : Bool} {m1 : ME} {m2 : ME} (iE_m1 : TmE Z M T C CX fa fi k m1) (iE_m2 : TmE Z M T C CX fa fi k m2) : TmE Z M T C CX fa fi k (.col t (.rng2 m1 m2) : ME) := fun X e a h => by
  obtain ⟨⟨x, e1⟩, q, h0⟩ := any_some (o := dCall1 e) h
  obtain ⟨p, pos, rfl⟩ := dCall1_inv q
  obtain ⟨h1, r1⟩ := ba2 h0
  obtain ⟨_, h3⟩ := ba2 r1
  obtain ⟨⟨y, ea, eb⟩, q2, h4⟩ := any_some (o := dCall2 e1) h3
  obtain ⟨p2, pos2, rfl⟩ := dCall2_inv q2
  obtain ⟨g1, r2⟩ := ba2 h4
  obtain ⟨g2, r3⟩ := ba2 r2
  obtain ⟨g3, r4⟩ := ba2 r3
  obtain ⟨g4, g5⟩ := ba2 r4
  exact G1.plain a.c h rfl rfl (snd_col2 a.c h1 g1 g2 g3 (iE_m1 X ea a g4).v (iE_m2 X eb a g5).v)
theorem gE_col_t_seq {t : Bool} {m : ME}  : TmE Z M T C CX fa fi k (.col t (.seq m) : ME) := fun X e a h => by
  obtain ⟨⟨x, e1⟩, q, h0⟩ := any_some (o := dCall1 e) h
  obtain ⟨p, pos, rfl⟩ := dCall1_inv q
  cases (ba2 (ba2 h0).2).1
theorem gE_col_t_enm {t : Bool} {m : ME}  : TmE Z M T C CX fa fi k (.col t (.enm m) : ME) := fun X e a h => by
  obtain ⟨⟨x, e1⟩, q, h0⟩ := any_some (o := dCall1 e) h
  obtain ⟨p, pos, rfl⟩ := dCall1_inv q
  cases (ba2 (ba2 h0).2).1
theorem gE_col_t_zip {t : Bool} {m : ME} {m' : ME}  : TmE Z M T C CX fa fi k (.col t (.zip m m') : ME) := fun X e a h => by
  obtain ⟨⟨x, e1⟩, q, h0⟩ := any_some (o := dCall1 e) h
  obtain ⟨p, pos, rfl⟩ := dCall1_inv q
  cases (ba2 (ba2 h0).2).1
theorem gE_dnew   : TmE Z M T C CX fa fi k (.dnew : ME) := fun X e a h => by cases h
theorem gO_none   : TmO Z M T C CX fa fi k (.none : MO1) := fun X e a h => by
  cases e with
  | none => exact snd_noPart
  | some _ => cases h
theorem gO_some {m : ME} (iE_m : TmE Z M T C CX fa fi k m) : TmO Z M T C CX fa fi k (.some m : MO1) := fun X e a h => by
  cases e with
  | none => cases h
  | some x => exact snd_one (iE_m X x a h).v
theorem gA_nil   : TmA Z M T C CX fa fi k (.nil : MA) := fun X es a h => by
  cases es with
  | nil => exact snd_nil
  | cons _ _ => cases h
theorem gA_cons {m : ME} {r : MA} (iE_m : TmE Z M T C CX fa fi k m) (iA_r : TmA Z M T C CX fa fi k r) : TmA Z M T C CX fa fi k (.cons m r : MA) := fun X es a h => by
  cases es with
  | nil => cases h
  | cons e es =>
    obtain ⟨h1, r1⟩ := ba2 h
    obtain ⟨h2, h3⟩ := ba2 r1
    exact snd_cons h1 (iE_m X e a h2).v (iA_r X es a h3)
theorem gA_star {m : ME} {r : MA} (iE_m : TmE Z M T C CX fa fi k m) (iA_r : TmA Z M T C CX fa fi k r) : TmA Z M T C CX fa fi k (.star m r : MA) := fun X es a h => by
  match es, h with
  | .Starred e p :: es, h =>
    obtain ⟨h1, h2⟩ := ba2 h
    exact snd_star a.c.hK (iE_m X e a h1).b (iA_r X es a h2)
theorem gAB_nil   : TmAB Z M T C CX fa fi k (.nil : MA) := fun X es a hp h => by
  cases es with
  | nil => exact snd_bnil
  | cons _ _ => cases h
theorem gAB_cons {m : ME} {r : MA} (iE_m : TmE Z M T C CX fa fi k m) (iAB_r : TmAB Z M T C CX fa fi k r) : TmAB Z M T C CX fa fi k (.cons m r : MA) := fun X es a hp h => by
  cases es with
  | nil => cases h
  | cons e es =>
    obtain ⟨h1, r1⟩ := ba2 h
    obtain ⟨h2, h3⟩ := ba2 r1
    exact snd_bcons h1 (iE_m X e a h2).b (iAB_r X es a (ba2 (show (noStar e && plainArgs es) = true from hp)).2 h3)
theorem gAB_star {m : ME} {r : MA}  : TmAB Z M T C CX fa fi k (.star m r : MA) := fun X es a hp h => by
  match es, h, hp with
  | .Starred e p :: es, h, hp => cases hp
theorem gArg_nil   : TmArg Z M T C CX fa fi k (.nil : MA) := fun X es a hs h => by
  cases es with
  | nil => exact argm_nil
  | cons _ _ => cases h
theorem gArg_cons {m : ME} {r : MA} (iE_m : TmE Z M T C CX fa fi k m) (iA_r : TmA Z M T C CX fa fi k r) : TmArg Z M T C CX fa fi k (.cons m r : MA) := fun X es a hs h => by
  cases es with
  | nil => cases h
  | cons e es =>
    obtain ⟨h1, r1⟩ := ba2 h
    obtain ⟨h2, h3⟩ := ba2 r1
    exact arg_cons h1 (snd_cons h1 (iE_m X e a h2).v (iA_r X es a h3))
theorem gArg_star {m : ME} {r : MA} (iE_m : TmE Z M T C CX fa fi k m) : TmArg Z M T C CX fa fi k (.star m r : MA) := fun X es a hs h => by
  match es, hs, h with
  | [.Starred e p], hs, h =>
    obtain ⟨h1, h2⟩ := ba2 h
    cases r with
    | nil => exact argm_star (iE_m X e a h1).b
    | cons _ _ => cases h2
    | star _ _ => cases h2
  | .Starred e p :: e2 :: es, hs, h => cases hs
theorem gTs_nil   : TmTs Z M T C CX fa fi k (.nil : MA) := fun X es a h => by
  cases es with
  | nil => exact snd_tNil
  | cons _ _ => cases h
theorem gTs_cons {m : ME} (iE_m : TmE Z M T C CX fa fi k m) : TmTs Z M T C CX fa fi k (.cons m (.nil) : MA) := fun X es a h => by
  match es, h with
  | [e], h =>
    obtain ⟨h1, h2⟩ := ba2 h
    exact snd_tOne ((iE_m X e a h2).t h1)
theorem gTs_cons1 {m : ME} {u1 : ME} {u2 : MA}  : TmTs Z M T C CX fa fi k (.cons m (.cons u1 u2) : MA) := fun X es a h => by cases es <;> cases h
theorem gTs_cons2 {m : ME} {u1 : ME} {u2 : MA}  : TmTs Z M T C CX fa fi k (.cons m (.star u1 u2) : MA) := fun X es a h => by cases es <;> cases h
theorem gTs_star {m : ME} {r : MA}  : TmTs Z M T C CX fa fi k (.star m r : MA) := fun X es a h => by cases es <;> cases h
theorem gIt_seq {m : ME} (iE_m : TmE Z M T C CX fa fi k m) : TmIt Z M T C CX fa fi k (.seq m : MI) := fun b X t e a h => snd_iseq (snd_bb b (iE_m X e a h).v (iE_m X e a h).b)
theorem gIt_rng {m : ME} (iE_m : TmE Z M T C CX fa fi k m) : TmIt Z M T C CX fa fi k (.rng m : MI) := fun b X t e a h => by
  obtain ⟨⟨x, ea⟩, q, h0⟩ := any_some (o := dCall1 e) h
  obtain ⟨p, pos, rfl⟩ := dCall1_inv q
  obtain ⟨h1, r1⟩ := ba2 h0
  obtain ⟨h2, h3⟩ := ba2 r1
  exact snd_irng a.c h1 h2 (iE_m X ea a h3).v
theorem gIt_rng2 {m1 : ME} {m2 : ME} (iE_m1 : TmE Z M T C CX fa fi k m1) (iE_m2 : TmE Z M T C CX fa fi k m2) : TmIt Z M T C CX fa fi k (.rng2 m1 m2 : MI) := fun b X t e a h => by
  obtain ⟨⟨x, ea, eb⟩, q, h0⟩ := any_some (o := dCall2 e) h
  obtain ⟨p, pos, rfl⟩ := dCall2_inv q
  obtain ⟨h1, r1⟩ := ba2 h0
  obtain ⟨h2, r2⟩ := ba2 r1
  obtain ⟨h3, r3⟩ := ba2 r2
  obtain ⟨h4, h5⟩ := ba2 r3
  exact snd_irng2 a.c h1 h2 h3 (iE_m1 X ea a h4).v (iE_m2 X eb a h5).v
theorem gIt_enm {m : ME} (iE_m : TmE Z M T C CX fa fi k m) : TmIt Z M T C CX fa fi k (.enm m : MI) := fun b X t e a h => by
  obtain ⟨⟨x, ea⟩, q, h0⟩ := any_some (o := dCall1 e) h
  obtain ⟨p, pos, rfl⟩ := dCall1_inv q
  obtain ⟨h1, r1⟩ := ba2 h0
  obtain ⟨h2, r2⟩ := ba2 r1
  obtain ⟨h3, h4⟩ := ba2 r2
  cases t with
  | Tuple elts kk tp => exact snd_ienm a.c h1 a.enm h3 (snd_bb b (iE_m X ea a h4).v (iE_m X ea a h4).b)
  | _ => cases h2
theorem gIt_zip {m1 : ME} {m2 : ME} (iE_m1 : TmE Z M T C CX fa fi k m1) (iE_m2 : TmE Z M T C CX fa fi k m2) : TmIt Z M T C CX fa fi k (.zip m1 m2 : MI) := fun b X t e a h => by
  obtain ⟨⟨x, ea, eb⟩, q, h0⟩ := any_some (o := dCall2 e) h
  obtain ⟨p, pos, rfl⟩ := dCall2_inv q
  obtain ⟨h1, r1⟩ := ba2 h0
  obtain ⟨h2, r2⟩ := ba2 r1
  obtain ⟨h3, r3⟩ := ba2 r2
  obtain ⟨h4, r4⟩ := ba2 r3
  obtain ⟨h5, h6⟩ := ba2 r4
  cases t with
  | Tuple elts kk tp => exact snd_izip a.c h1 a.zip h3 h4 (iE_m1 X ea a h5).v (iE_m2 X eb a h6).v
  | _ => cases h2
theorem gE_alloc {m : ME} (i : TmE Z M T C CX fa fi k m) : TmE Z M T C CX fa fi k (.alloc m) := fun X e a h => by
  obtain ⟨h0, h1⟩ := ba2 (show (isAl m && mtE M T X.N m X.env.scope e) = true from h)
  have g := i X e a h1
  have hp : plainT e = true ∧ isBoolE e = false := by
    cases m with
    | lst _ =>
      obtain ⟨_, q, _⟩ := any_some (o := dLst e) h1
      obtain ⟨_, rfl⟩ := dLst_inv q
      exact ⟨rfl, rfl⟩
    | make _ _ =>
      obtain ⟨_, q, _⟩ := any_some (o := dCallN e) h1
      obtain ⟨_, _, rfl⟩ := dCallN_inv q
      exact ⟨rfl, rfl⟩
    | makeV _ _ =>
      obtain ⟨_, q, _⟩ := any_some (o := dCallN e) h1
      obtain ⟨_, _, rfl⟩ := dCallN_inv q
      exact ⟨rfl, rfl⟩
    | _ => cases h0
  exact G1.plain a.c h hp.1 hp.2 (g.al h0)
mutual
theorem snd_E (B : ∀ Y, CtxOk Z M k Y → BltOk Z Y) : ∀ m : ME, TmE Z M T C CX fa fi k m
  | .var i => gE_var_i
  | .glo x i => gE_glo_x_i
  | .con d => gE_con_d
  | .bin o m1 m2 => gE_bin_o (snd_E B m1) (snd_E B m2)
  | .neg m1 => gE_neg (snd_E B m1)
  | .inv m1 => gE_inv (snd_E B m1)
  | .cmp o m1 m2 => gE_cmp_o (snd_E B m1) (snd_E B m2)
  | .cmp2 o o' m1 m2 m3 => gE_cmp2_o_o (snd_E B m1) (snd_E B m2) (snd_E B m3)
  | .isn m1 => gE_isn (snd_E B m1)
  | .notn m1 => gE_notn (snd_E B m1)
  | .and m1 m2 => gE_and (snd_E B m1) (snd_E B m2)
  | .or m1 m2 => gE_or (snd_E B m1) (snd_E B m2)
  | .not m1 => gE_not (snd_E B m1)
  | .ite m1 m2 m3 => gE_ite (snd_E B m1) (snd_E B m2) (snd_E B m3)
  | .tup es => gE_tup_es (snd_A B es)
  | .lst es => gE_lst_es (snd_A B es)
  | .idx m1 m2 => gE_idx (snd_E B m1) (snd_E B m2)
  | .sl m1 lo hi => gE_sl (snd_E B m1) (snd_O B lo) (snd_O B hi)
  | .call f es => gE_call_f_es (snd_Arg B es)
  | .make c es => gE_make_c_es (snd_Arg B es)
  | .blt b es => gE_blt_b_es B (snd_B B es)
  | .isi m1 t => gE_isi (snd_E B m1)
  | .attr m1 f => gE_attr (snd_E B m1)
  | .meth m1 m es => gE_meth (snd_E B m1) (snd_Arg B es)
  | .smeth o m1 es => gE_smeth_o (snd_E B m1) (snd_B B es)
  | .cm c m es => gE_cm_c (snd_A B es)
  | .lc it tg wp ts m1 => gE_lc_it_tg_wp_ts (snd_I B it) (snd_Ts B ts) (snd_E B m1)
  | .lcK j tg wp ts m1 => gE_lcK_j_tg_wp_ts (snd_Ts B ts) (snd_E B m1)
  | .rev u0 => gE_rev
  | .sortK f m1 => gE_sortK_f (snd_E B m1)
  | .lc2 u0 u1 u2 u3 u4 u5 u6 u7 u8 => gE_lc2
  | .makeV i es => gE_makeV_i_es (snd_Arg B es)
  | .col t (.rng m1) => gE_col_t_rng (snd_E B m1)
  | .col t (.rng2 m1 m2) => gE_col_t_rng2 (snd_E B m1) (snd_E B m2)
  | .col t (.seq m) => gE_col_t_seq
  | .col t (.enm m) => gE_col_t_enm
  | .col t (.zip m m') => gE_col_t_zip
  | .dnew => gE_dnew
  | .alloc m => gE_alloc (snd_E B m)
theorem snd_O (B : ∀ Y, CtxOk Z M k Y → BltOk Z Y) : ∀ m : MO1, TmO Z M T C CX fa fi k m
  | .none => gO_none
  | .some m => gO_some (snd_E B m)
theorem snd_A (B : ∀ Y, CtxOk Z M k Y → BltOk Z Y) : ∀ m : MA, TmA Z M T C CX fa fi k m
  | .nil => gA_nil
  | .cons m r => gA_cons (snd_E B m) (snd_A B r)
  | .star m r => gA_star (snd_E B m) (snd_A B r)
theorem snd_B (B : ∀ Y, CtxOk Z M k Y → BltOk Z Y) : ∀ m : MA, TmAB Z M T C CX fa fi k m
  | .nil => gAB_nil
  | .cons m r => gAB_cons (snd_E B m) (snd_B B r)
  | .star m r => gAB_star
theorem snd_Arg (B : ∀ Y, CtxOk Z M k Y → BltOk Z Y) : ∀ m : MA, TmArg Z M T C CX fa fi k m
  | .nil => gArg_nil
  | .cons m r => gArg_cons (snd_E B m) (snd_A B r)
  | .star m r => gArg_star (snd_E B m)
theorem snd_Ts (B : ∀ Y, CtxOk Z M k Y → BltOk Z Y) : ∀ m : MA, TmTs Z M T C CX fa fi k m
  | .nil => gTs_nil
  | .cons m (.nil) => gTs_cons (snd_E B m)
  | .cons m (.cons u1 u2) => gTs_cons1
  | .cons m (.star u1 u2) => gTs_cons2
  | .star m r => gTs_star
theorem snd_I (B : ∀ Y, CtxOk Z M k Y → BltOk Z Y) : ∀ m : MI, TmIt Z M T C CX fa fi k m
  | .seq m => gIt_seq (snd_E B m)
  | .rng m => gIt_rng (snd_E B m)
  | .rng2 m1 m2 => gIt_rng2 (snd_E B m1) (snd_E B m2)
  | .enm m => gIt_enm (snd_E B m)
  | .zip m1 m2 => gIt_zip (snd_E B m1) (snd_E B m2)
end
end
end Mi
/-! MiNew: terms whose value is a new list or dict that a slot may own. -/
namespace Mi
open PySem PySem.Spec PyProof.Rows L2

section
variable {Z : NA} {M : NM} {T : CT} {C : Cl} {k : Nat} {X : Cx} {CX : CXT} {fa fi : Nat → Addr}
/-- a new thing at a: the list xs; the empty dict -/
def NewO (Z : NA) (H : Hp) (F' : Hp) (R' : List Addr) (H' : Hp) (a : Addr) (d : D) : Prop := H a = none ∧ ((∃ xs vs, d = .lst xs ∧ Trk F' R' H' a (.lst vs) ∧ RDs Z F' R' xs vs) ∨ (d = .dct [] ∧ Trk F' R' H' a (.dK [])))
def isNewD : D → Bool
  | .lst _ => true
  | .dct [] => true
  | _ => false
def tN (Z : NA) (T : CT) (C : Cl) (m : ME) : TE := fun σ H Q => ∃ N F R mh env, RH Z F R H mh ∧ RE Z N F R H env σ ∧ PO1 (evE T C m env mh) fun d mh' => isNewD d = true ∧ ∀ F' R' H' a, EX F R H F' R' H' → RH Z F' R' H' mh' → NewO Z H F' R' H' a d → Q (.ref a) H'
theorem new_lst {F1 H H1 : Hp} {R1 : List Addr} {m1 : MH} {p : Addr} {xs : List D} {vs : List V} (h0 : ∀ a o, H a = some o → ∃ u, H1 a = some u) (rh : RH Z F1 R1 H1 m1) (hp : H1 p = none) (rs : RDs Z F1 R1 xs vs) : EX F1 R1 H1 F1 R1 (upd H1 p (.lst vs)) ∧ RH Z F1 R1 (upd H1 p (.lst vs)) m1 ∧ NewO Z H F1 R1 (upd H1 p (.lst vs)) p (.lst xs) := by
  refine ⟨EX.own hp, rh.own hp, ?_, .inl ⟨xs, vs, rfl, ⟨upd_same, rh.none_F hp, rh.notin hp⟩, rs⟩⟩
  cases e : H p with
  | none => rfl
  | some o =>
    obtain ⟨u, hu⟩ := h0 p o e
    rw [hp] at hu
    cases hu
theorem new_nlst {es : MA} {xs : List Expr} {pos : Pos} (ha : PA X xs (tA Z T C es)) : PE X (.List xs pos) (tN Z T C (.lst es)) := by
  refine PE.imp (pe_lst ha) fun σ H Q q => ?_
  obtain ⟨N, F, R, mh, env, rh, re, q⟩ := q
  obtain ⟨ys, m1, e1, q⟩ := PO1.bd (show PO1 ((evA T C es env mh).bd fun xs h => if xs.length ≤ lim then Out.ok (D.lst xs) h else .no) _ from q)
  refine ⟨N, F, R, mh, env, rh, re, PO1.mk e1 fun F1 R1 H1 vs x1 rh1 rs => ?_⟩
  by_cases hl : ys.length ≤ lim
  · rw [if_pos hl] at q
    refine ⟨by rw [← rs.length]; exact lim_line hl, fun p hp => ?_⟩
    obtain ⟨k1, k2, k3⟩ := new_lst x1.there rh1 hp rs
    exact q.2 F1 R1 _ p (x1.trans k1) k2 k3
  · rw [if_neg hl] at q
    cases q
theorem new_ndct {pos : Pos} : PE X (.Dict [] [] pos) (tN Z T C .dnew) := by
  refine PE.imp pe_dnewK fun σ H Q q => ?_
  obtain ⟨N, F, R, mh, env, rh, re, q⟩ := q
  intro p hp
  exact q.2 F R _ p (EX.own hp) (rh.own hp) ⟨hp, .inr ⟨rfl, ⟨upd_same, rh.none_F hp, rh.notin hp⟩⟩⟩
/-- list(..) -/
def rNewL (Z : NA) : List V → Hp → VK → Prop := fun vs H Q => ∃ F R mh x ys, RH Z F R H mh ∧ (∃ v, vs = [v] ∧ RT Z F R H x v) ∧ items x = some ys ∧ ∀ p us, H p = none → RDs Z F R ys us → Q (.ref p) (upd H p (.lst us))
theorem cb_listN (hc : X.calm = true) : CallR X (.type "list") (rNewL Z) := by
  refine CallR.imp (CallR.or call_list_of (call_listD hc)) fun vs H Q q => ?_
  obtain ⟨F, R, mh, x, ys, rh, ⟨v, rfl, t⟩, e, kq⟩ := q
  cases x with
  | lst zs =>
    cases e
    obtain ⟨p, ws, rfl, hp, rw'⟩ := t.lst rh
    exact .inl ⟨p, ws, rfl, .inl (.inl hp), fun l hl => kq l ws hl rw'⟩
  | tup zs =>
    cases e
    obtain ⟨p, ws, rfl, hp, rw'⟩ := t.tup
    exact .inl ⟨p, ws, rfl, .inr (SqT.of (rh.sub _ _ hp)), fun l hl => kq l ws hl rw'⟩
  | dct kvs =>
    cases e
    obtain ⟨p, ws, rfl, hp, rw'⟩ := t.dct
    exact .inr ⟨p, ws, rfl, .inl hp, fun l hl => kq l _ hl (keys_rd rw')⟩
  | _ => cases e
theorem new_nlist (hc : CtxOk Z M k X) {a : ME} {x : Str} {e : Expr} {p pos : Pos} (hx : mtGlob X.env.scope x "list" = true) (hs : noStar e = true) (ha : PE X e (tB Z T C a)) : PE X (.Call (.Name x p) [e] [] pos) (tN Z T C (.blt .list (.cons a .nil))) := by
  obtain ⟨rfl, hg, hd⟩ := glob_of hx
  have args : PA X [e] (tCons (tB Z T C a) tNil) := pa_cons ha pa_nil (star_of hs _ _)
  refine PE.imp (pe_callTy (cb_listN (Z := Z) hc.calm) hg (hc.blt .list) (by decide +kernel) args (by decide +kernel) hd (star_of hs _ _)) fun σ H Q q => ?_
  obtain ⟨N, F, R, mh, env, rh, re, q⟩ := q
  obtain ⟨ys, m1, e1, q⟩ := PO1.bd (show PO1 ((evB T C (.cons a .nil) env mh).bd fun xs h => ofO (bltD .list xs) h) _ from q)
  obtain ⟨z, e2, q⟩ := PO1.ofO q
  obtain ⟨d, m2, e3, h0⟩ := PO1.bd (show PO1 ((bor env a mh (evE T C a env mh)).bd fun x h => (Out.ok ([] : List D) h).bd fun xs h => .ok (x :: xs) h) (fun w' m' => w' = ys ∧ m' = m1) from PO1.mk e1 ⟨rfl, rfl⟩)
  obtain ⟨h1, h2⟩ := (show [d] = ys ∧ m2 = m1 from h0)
  subst h1
  subst h2
  refine ⟨N, F, R, mh, env, rh, re, PO1.mk e3 fun F1 R1 H1 v x1 rh1 t1 => ?_⟩
  obtain ⟨zs, e4, rfl⟩ := mapS (show (items d).map D.lst = some z from e2)
  refine ⟨F1, R1, m2, d, zs, rh1, ⟨v, rfl, t1⟩, e4, fun p us hp rs => ?_⟩
  obtain ⟨k1, k2, k3⟩ := new_lst x1.there rh1 hp rs
  exact q.2 F1 R1 _ p (x1.trans k1) k2 k3
/-- list + list -/
def rAddN (Z : NA) : R2 := fun v u H Q => ∃ F R mh xs ys, RH Z F R H mh ∧ RT Z F R H (.lst xs) v ∧ RT Z F R H (.lst ys) u ∧ xs.length + ys.length ≤ lim ∧ ∀ p us, H p = none → RDs Z F R (xs ++ ys) us → Q (.ref p) (upd H p (.lst us))
theorem op_addN : OpR X (binaryOp .Add) (rAddN Z) := by
  intro pins s σ H x y v u Q I rx ry h
  obtain ⟨F, R, mh, xs, ys, rh, t1, t2, hl, q⟩ := h
  obtain ⟨a, vs, rfl, h1, r1⟩ := t1.lst rh
  obtain ⟨b, ws, rfl, h2, r2⟩ := t2.lst rh
  refine op_catR pins s σ H _ _ v u Q I rx ry ⟨a, b, vs, ws, rfl, rfl, h1, h2, ?_, fun p hp => q p _ hp (r1.append r2)⟩
  rw [← r1.length, ← r2.length]
  exact lim_line hl
theorem add_lst {x y : D} {zs : List D} (h : binD .add x y = some (.lst zs)) : ∃ xs ys, x = .lst xs ∧ y = .lst ys ∧ zs = xs ++ ys ∧ xs.length + ys.length ≤ lim := by
  cases x <;> cases y <;> first | cases h | skip
  · have h : (if _ then some (D.str _) else none) = some (D.lst zs) := h
    split at h <;> cases h
  · have h : (if _ then some (D.tup _) else none) = some (D.lst zs) := h
    split at h <;> cases h
  · have h : (if _ then some (D.lst _) else none) = some (D.lst zs) := h
    split at h
    · rename_i hl
      cases h
      exact ⟨_, _, rfl, rfl, rfl, hl⟩
    · cases h
theorem new_nadd {a b : ME} {ea eb : Expr} {pos : Pos} (ha : PE X ea (tB Z T C a)) (hb : PE X eb (tB Z T C b)) : PE X (.BinOp ea .Add eb pos) (tN Z T C (.bin .add a b)) := by
  refine PE.imp (pe_op (op_addN (Z := Z)) ha hb) fun σ H Q h => ?_
  obtain ⟨N, F, R, mh, env, rh, re, h⟩ := h
  obtain ⟨x, m1, e1, h⟩ := PO1.bd (show PO1 ((bor env a mh (evE T C a env mh)).bd fun x h => (bor env b h (evE T C b env h)).bd fun y h => ofO (binD .add x y) h) _ from h)
  obtain ⟨y, m2, e2, h⟩ := PO1.bd h
  obtain ⟨z, e3, h⟩ := PO1.ofO h
  have hz : ∃ zs, z = .lst zs := by
    have h1 := h.1
    cases z with
    | lst zs => exact ⟨zs, rfl⟩
    | dct kvs =>
      cases x <;> cases y <;> first | cases e3 | (have e3 : (if _ then some _ else none) = some (D.dct kvs) := e3; split at e3 <;> cases e3)
    | _ => cases h1
  obtain ⟨zs, rfl⟩ := hz
  obtain ⟨xs, ys, rfl, rfl, rfl, hl⟩ := add_lst e3
  refine ⟨N, F, R, mh, env, rh, re, PO1.mk e1 fun F1 R1 H1 v1 x1 rh1 t1 => ⟨N, F1, R1, m1, env, rh1, re.ext x1, PO1.mk e2 fun F2 R2 H2 v2 x2 rh2 t2 => ⟨F2, R2, m2, xs, ys, rh2, t1.ext x2, t2, hl, fun p us hp rs => ?_⟩⟩⟩
  obtain ⟨k1, k2, k3⟩ := new_lst (x1.trans x2).there rh2 hp rs
  exact h.2 F2 R2 _ p ((x1.trans x2).trans k1) k2 k3
/-- [e for ..] -/
theorem new_nlc (hc : CtxOk Z M k X) {it : MI} {tg : Tg} {wp : List Nat} {ts : MA} {e : ME} {elt tge iter : Expr} {ifs : List Expr} {scope : Scope} {pos : Pos} (bo : blkC X.N X.env.scope scope (ownOf X.N wp) = true) (hsub : tgSub wp tg = true) (hset : noSet iter = true)
    (hi : PI X tge iter (tI Z T C true it))
    (hg : ∀ (s : Shared) (H : Hp) (c : Addr) (cl : List (Str × Addr)) (fp : List Addr), PG (X.blk s H scope (compEnvC scope cl c X.env) fp) tge (gTg X.K tg))
    (ht : ∀ (s : Shared) (H : Hp) (c : Addr) (cl : List (Str × Addr)) (fp : List Addr), PTs (X.blk s H scope (compEnvC scope cl c X.env) fp) ifs (tTs Z T C ts))
    (he : ∀ (s : Shared) (H : Hp) (c : Addr) (cl : List (Str × Addr)) (fp : List Addr), PE (X.blk s H scope (compEnvC scope cl c X.env) fp) elt (tM Z T C e)) :
    PE X (.ListComp elt [⟨tge, iter, ifs, 0⟩] scope pos) (tN Z T C (.lc it tg wp ts e)) := by
  refine PE.imp (pe_lc hc.calm hc.nd hi (blkOk_by bo) hg ht he (fun x => noSet_of hset _ x)) fun σ H Q q => ?_
  rw [own_snd]
  obtain ⟨N, F, R, mh, env, rh, re, q⟩ := q
  obtain ⟨xs, m1, e1, q⟩ := PO1.bd (show PO1 ((evI T C true it env mh).bd fun xs h => (loopC (bodyC T C tg wp ts e env) xs h).bd fun ys h => if ys.length ≤ lim then Out.ok (D.lst ys) h else .no) _ from q)
  refine ⟨N, F, R, mh, env, rh, re, PO1.mk e1 fun F1 R1 H1 J x1 rh1 w => ?_⟩
  refine lc_core (X := X) (Q := Q) rfl rh1 (re.ext x1) w hsub ?_
  obtain ⟨ys, m2, e2, q⟩ := PO1.bd q
  refine PO1.mk e2 ?_
  by_cases hl : ys.length ≤ lim
  · rw [if_pos hl] at q
    refine ⟨hl, fun F' R' H' dd vs hd x rh' tk rs => q.2 F' R' H' dd (x1.trans x) rh' ⟨?_, .inl ⟨ys, vs, rfl, tk, rs⟩⟩⟩
    cases z : H dd with
    | none => rfl
    | some o =>
      obtain ⟨u, hu⟩ := x1.there dd o z
      rw [hd] at hu
      cases hu
  · rw [if_neg hl] at q
    cases q
end
end Mi
/-! MiStm: statements. -/
namespace Mi
open PySem PySem.Spec PyProof.Rows L2

section
variable {Z : NA} {M : NM} {T : CT} {C : Cl} {k : Nat} {X : Cx} {CX : CXT} {fa fi : Nat → Addr}
/-- what is asked behind a statement, the def's entry being N -/
def KS (Z : NA) (N : EN) (F0 : Hp) (R0 : List Addr) (E : Ends) (fl : Fl) (mh : MH) : Prop := match fl with
  | .nx e => ∀ F R H σ, FX F0 R0 F R → EX N.F N.R N.H F R H → RH Z F R H mh → RE Z N F R H e σ → E.nx σ H
  | .bk e => ∀ F R H σ, FX F0 R0 F R → EX N.F N.R N.H F R H → RH Z F R H mh → RE Z N F R H e σ → E.bk σ H
  | .ct e => ∀ F R H σ, FX F0 R0 F R → EX N.F N.R N.H F R H → RH Z F R H mh → RE Z N F R H e σ → E.ct σ H
  | .rt d => ∀ F R H v, FX F0 R0 F R → EX N.F N.R N.H F R H → RH Z F R H mh → RD Z F R d v → E.rt v H
theorem KS.up {Z : NA} {N : EN} {F0 F1 : Hp} {R0 R1 : List Addr} {E : Ends} {fl : Fl} {mh : MH} (h : KS Z N F0 R0 E fl mh) (f : FX F0 R0 F1 R1) : KS Z N F1 R1 E fl mh := by
  cases fl with
  | nx e => exact fun F R H σ g => h F R H σ (f.trans g)
  | bk e => exact fun F R H σ g => h F R H σ (f.trans g)
  | ct e => exact fun F R H σ g => h F R H σ (f.trans g)
  | rt d => exact fun F R H v g => h F R H v (f.trans g)
theorem KS.ups {Z : NA} {N : EN} {F0 F1 : Hp} {R0 R1 : List Addr} {E : Ends} {o : Out Fl} (h : PO1 o (KS Z N F0 R0 E)) (f : FX F0 R0 F1 R1) : PO1 o (KS Z N F1 R1 E) := by
  obtain ⟨a, m, e, h⟩ := PO1.get h
  exact PO1.mk e (h.up f)
def tS (Z : NA) (T : CT) (C : Cl) (m : MS) : TS := fun E σ H => ∃ N F R mh env, RH Z F R H mh ∧ RE Z N F R H env σ ∧ EX N.F N.R N.H F R H ∧ PO1 (evS T C m env mh) (KS Z N F R E)
def tSs (Z : NA) (T : CT) (C : Cl) (m : MSs) : TS := fun E σ H => ∃ N F R mh env, RH Z F R H mh ∧ RE Z N F R H env σ ∧ EX N.F N.R N.H F R H ∧ PO1 (evSs T C m env mh) (KS Z N F R E)
theorem PS.imp {st : Stmt} {t t' : TS} (h : PS X st t) (i : ∀ E σ H, t' E σ H → t E σ H) : PS X st t' := ⟨fun pins s σ H E I q => h.run pins s σ H E I (i E σ H q)⟩
theorem PSs.imp {st : List Stmt} {t t' : TS} (h : PSs X st t) (i : ∀ E σ H, t' E σ H → t E σ H) : PSs X st t' := ⟨fun pins s σ H E I q => h.run pins s σ H E I (i E σ H q)⟩
theorem stm_nil : PSs X [] (tSs Z T C .nil) := PSs.imp pss_nil fun E σ H q => by
  obtain ⟨N, F, R, mh, env, rh, re, ex, q⟩ := q
  exact q F R H σ FX.refl ex rh re
theorem cons_imp {m : MS} {r : MSs} {E : Ends} {σ : L2.St} {H : Hp} (q : tSs Z T C (.cons m r) E σ H) : tSeq (tS Z T C m) (tSs Z T C r) E σ H := by
  obtain ⟨N, F, R, mh, env, rh, re, ex, q⟩ := q
  obtain ⟨fl, m1, e1, q⟩ := PO1.bd (show PO1 ((evS T C m env mh).bd fun fl h => match fl with
    | .nx e => evSs T C r e h
    | _ => .ok fl h) _ from q)
  refine ⟨N, F, R, mh, env, rh, re, ex, PO1.mk e1 ?_⟩
  cases fl with
  | nx e => exact fun F1 R1 H1 σ1 f1 ex1 rh1 re1 => ⟨N, F1, R1, m1, e, rh1, re1, ex1, KS.ups q f1⟩
  | bk e => exact q
  | ct e => exact q
  | rt d => exact q
theorem stm_cons {m : MS} {r : MSs} {st : Stmt} {sts : List Stmt} (h1 : PS X st (tS Z T C m)) (h2 : PSs X sts (tSs Z T C r)) : PSs X (st :: sts) (tSs Z T C (.cons m r)) := PSs.imp (pss_cons h1 h2) fun _ _ _ q => cons_imp q
theorem stm_pass {pos : Pos} : PS X (.Pass pos) (tS Z T C .pass) := PS.imp ps_pass fun E σ H q => by
  obtain ⟨N, F, R, mh, env, rh, re, ex, q⟩ := q
  exact q F R H σ FX.refl ex rh re
theorem stm_brk {pos : Pos} : PS X (.Break pos) (tS Z T C .brk) := PS.imp ps_break fun E σ H q => by
  obtain ⟨N, F, R, mh, env, rh, re, ex, q⟩ := q
  exact q F R H σ FX.refl ex rh re
theorem stm_cont {pos : Pos} : PS X (.Continue pos) (tS Z T C .cont) := PS.imp ps_continue fun E σ H q => by
  obtain ⟨N, F, R, mh, env, rh, re, ex, q⟩ := q
  exact q F R H σ FX.refl ex rh re
theorem stm_retN {pos : Pos} : PS X (.Return none pos) (tS Z T C .retN) := PS.imp ps_retN fun E σ H q => by
  obtain ⟨N, F, R, mh, env, rh, re, ex, q⟩ := q
  exact q F R H _ FX.refl ex rh .non
theorem stm_ret {a : ME} {e : Expr} {pos : Pos} (he : PE X e (tM Z T C a)) : PS X (.Return (some e) pos) (tS Z T C (.ret a)) := PS.imp (ps_ret he) fun E σ H q => by
  obtain ⟨N, F, R, mh, env, rh, re, ex, q⟩ := q
  obtain ⟨d, m1, e1, q⟩ := PO1.bd (show PO1 ((evE T C a env mh).bd fun x h => .ok (Fl.rt x) h) _ from q)
  exact ⟨N, F, R, mh, env, rh, re, PO1.mk e1 fun F1 R1 H1 v x1 rh1 t1 => q F1 R1 H1 v (.of x1) (ex.trans x1) rh1 t1⟩
theorem stm_ex {a : ME} {e : Expr} {pos : Pos} (he : PE X e (tM Z T C a)) (hs : swapsWith e none pos.line X.env = pure false) : PS X (.Expr e pos) (tS Z T C (.ex a)) := PS.imp (ps_expr he hs) fun E σ H q => by
  obtain ⟨N, F, R, mh, env, rh, re, ex, q⟩ := q
  obtain ⟨d, m1, e1, q⟩ := PO1.bd (show PO1 ((evE T C a env mh).bd fun _ h => .ok (Fl.nx env) h) _ from q)
  exact ⟨N, F, R, mh, env, rh, re, PO1.mk e1 fun F1 R1 H1 v x1 rh1 t1 => q F1 R1 H1 σ (.of x1) (ex.trans x1) rh1 (re.ext x1)⟩
theorem stm_if {t : ME} {a b : MSs} {c : Expr} {sa sb : List Stmt} {pos : Pos} (hc : PT X c (tTe Z T C t)) (ha : PSs X sa (tSs Z T C a)) (hb : PSs X sb (tSs Z T C b)) : PS X (.If c sa sb pos) (tS Z T C (.ifs t a b)) := PS.imp (ps_if hc ha hb) fun E σ H q => by
  obtain ⟨N, F, R, mh, env, rh, re, ex, q⟩ := q
  obtain ⟨kb, m1, e1, q⟩ := PO1.bd (show PO1 ((evT T C t env mh).bd fun k h => if k then evSs T C a env h else evSs T C b env h) _ from q)
  refine ⟨N, F, R, mh, env, rh, re, PO1.mk e1 fun F1 R1 H1 x1 rh1 => ?_⟩
  cases kb with
  | true => exact ⟨N, F1, R1, m1, env, rh1, re.ext x1, ex.trans x1, KS.ups q (.of x1)⟩
  | false => exact ⟨N, F1, R1, m1, env, rh1, re.ext x1, ex.trans x1, KS.ups q (.of x1)⟩
/-- x = e, e not a comprehension (or one that is stored plainly) -/
theorem stm_set (hc : CtxOk Z M k X) {i : Nat} {a : ME} {x : Str} {e : Expr} {px pos : Pos} (hi : mgName X.N X.fn X.env.scope i (.Name x px) = true) (he : PE X e (tM Z T C a)) (hs : swapsWith e (some (.Name x px)) pos.line X.env = pure false) : PS X (.Assign [.Name x px] e pos) (tS Z T C (.set i a)) := by
  obtain ⟨h1, h2⟩ := ba2 (show (mtSlot X.N i x && tgOk X.fn X.env.scope x) = true from hi)
  obtain ⟨h3, h4⟩ := tgOk_of h2
  refine PS.imp (ps_set hc.nd (of_decide_eq_true h1) h3 he hs h4) fun E σ H q => ?_
  obtain ⟨N, F, R, mh, env, rh, re, ex, q⟩ := q
  obtain ⟨d, m1, e1, q⟩ := PO1.bd (show PO1 ((evE T C a env mh).bd fun x h => .ok (Fl.nx (env.set i (some (.val x)))) h) _ from q)
  exact ⟨N, F, R, mh, env, rh, re, PO1.mk e1 fun F1 R1 H1 v x1 rh1 t1 => q F1 R1 H1 _ (.of x1) (ex.trans x1) rh1 ((re.ext x1).set i t1)⟩
/-! ### slots that own -/
theorem RE.setOwn {N : EN} {F H : Hp} {R : List Addr} {env : Mi.Env} {σ : L2.St} {o : MO} {a : Addr} (i : Nat) (re : RE Z N F R H env σ) (ow : Own Z F R H o a) (hN : N.H a = none) (new : ∀ (j : Nat) u, j ≠ i → env[j]? = some (some (.own u)) → σ[j]? ≠ some (some (.ref a))) (hs : N.sf = none ∨ i ≠ 0) :
    RE Z N F R H (env.set i (some (.own o))) (σ.set i (some (.ref a))) where
  len := by rw [List.length_set, List.length_set]; exact re.len
  val := fun j d e => by
    rw [List.getElem?_set] at e ⊢
    by_cases h : i = j
    · rw [if_pos h] at e
      split at e <;> cases e
    · rw [if_neg h] at e ⊢
      exact re.val j d e
  own := fun j u e => by
    rw [List.getElem?_set] at e ⊢
    by_cases h : i = j
    · rw [if_pos h] at e ⊢
      split at e
      · rename_i hl
        rw [if_pos (by rw [← re.len]; exact hl)]
        cases e
        exact ⟨a, rfl, ow, hN⟩
      · cases e
    · rw [if_neg h] at e ⊢
      exact re.own j u e
  sep := fun j k u w b e1 e2 s1 s2 => by
    rw [List.getElem?_set] at e1 e2 s1 s2
    by_cases h : i = j
    · by_cases h' : i = k
      · rw [← h, ← h']
      · rw [if_pos h] at s1
        rw [if_neg h'] at e2 s2
        split at s1
        · cases s1
          exact absurd s2 (new k w (fun z => h' z.symm) e2)
        · cases s1
    · by_cases h' : i = k
      · rw [if_pos h'] at s2
        rw [if_neg h] at e1 s1
        split at s2
        · cases s2
          exact absurd s1 (new j u (fun z => h z.symm) e1)
        · cases s2
      · rw [if_neg h] at e1 s1
        rw [if_neg h'] at e2 s2
        exact re.sep j k u w b e1 e2 s1 s2
  self := fun b c fs hb e => by
    rcases hs with hs | hs
    · rw [hs] at hb
      cases hb
    · rw [List.getElem?_set, if_neg hs] at e ⊢
      exact re.self b c fs hb e
theorem own_there {N : EN} {F H : Hp} {R : List Addr} {env : Mi.Env} {σ : L2.St} {a : Addr} (re : RE Z N F R H env σ) (h : H a = none) (j : Nat) (u : MO) (e : env[j]? = some (some (.own u))) : σ[j]? ≠ some (some (.ref a)) := fun z => by
  obtain ⟨b, e1, ow, _⟩ := re.own j u e
  rw [z] at e1
  cases e1
  obtain ⟨w, hw⟩ := ow.1.there
  rw [h] at hw
  cases hw
/-- x = a new list, a new dict: the slot owns it -/
theorem stm_setO (hc : CtxOk Z M k X) {i : Nat} {a : ME} {x : Str} {e : Expr} {px pos : Pos} (h0 : i ≠ 0) (hi : mgName X.N X.fn X.env.scope i (.Name x px) = true) (he : PE X e (tN Z T C a)) (hs : swapsWith e (some (.Name x px)) pos.line X.env = pure false) : PS X (.Assign [.Name x px] e pos) (tS Z T C (.setO i a)) := by
  obtain ⟨h1, h2⟩ := ba2 (show (mtSlot X.N i x && tgOk X.fn X.env.scope x) = true from hi)
  obtain ⟨h3, h4⟩ := tgOk_of h2
  refine PS.imp (ps_set hc.nd (of_decide_eq_true h1) h3 he hs h4) fun E σ H q => ?_
  obtain ⟨N, F, R, mh, env, rh, re, ex, q⟩ := q
  obtain ⟨d, m1, e1, q⟩ := PO1.bd (show PO1 ((evE T C a env mh).bd fun x h => (match asO true x with
    | some v => .ok (Fl.nx (env.set i (some v))) h
    | none => .no)) _ from q)
  have hN : ∀ b, H b = none → N.H b = none := fun b hb => by
    cases z : N.H b with
    | none => rfl
    | some o =>
      obtain ⟨u, hu⟩ := ex.there b o z
      rw [hb] at hu
      cases hu
  refine ⟨N, F, R, mh, env, rh, re, PO1.mk e1 ⟨?_, fun F1 R1 H1 b x1 rh1 nw => ?_⟩⟩
  · cases d with
    | lst xs => rfl
    | dct kvs =>
      cases kvs with
      | nil => rfl
      | cons _ _ => cases q
    | _ => cases q
  · obtain ⟨hb, ho⟩ := nw
    have re1 := re.ext x1
    rcases ho with ⟨xs, vs, rfl, tk, rs⟩ | ⟨rfl, tk⟩
    · exact q F1 R1 H1 _ (.of x1) (ex.trans x1) rh1 (re1.setOwn (o := .lst xs) (a := b) i ⟨⟨vs, tk.1, rs⟩, tk.2.1, tk.2.2⟩ (hN b hb) (fun j u _ ej => own_there re hb j u ej) (.inr h0))
    · exact q F1 R1 H1 _ (.of x1) (ex.trans x1) rh1 (re1.setOwn (o := .dct []) (a := b) i ⟨⟨[], tk.1, .nil⟩, tk.2.1, tk.2.2⟩ (hN b hb) (fun j u _ ej => own_there re hb j u ej) (.inr h0))
theorem Own.thaw {F H : Hp} {R : List Addr} {a b : Addr} {o : MO} {u : HO} (h : Own Z F R H o b) (hF : F a = none) (ne : b ≠ a) : Own Z (upd F a u) R H o b := by
  obtain ⟨h1, h2, h3⟩ := h
  have e : ∀ c w, F c = some w → upd F a u c = some w := fun c w h => by
    rw [upd_ne (ne_of_none h hF)]
    exact h
  refine ⟨?_, by rw [upd_ne ne]; exact h2, h3⟩
  cases o with
  | lst xs =>
    obtain ⟨vs, q1, q2⟩ := h1
    exact ⟨vs, q1, q2.mono e (List.prefix_refl _)⟩
  | dct kvs =>
    obtain ⟨vs, q1, q2⟩ := h1
    exact ⟨vs, q1, q2.mono e (List.prefix_refl _)⟩
  | ndc kvs =>
    obtain ⟨vs, q1, q2⟩ := h1
    exact ⟨vs, q1, q2.mono e (List.prefix_refl _)⟩
  | ins c fs =>
    obtain ⟨dx, fv, q1, qg, q2⟩ := h1
    exact ⟨dx, fv, q1, qg, q2.mono e (List.prefix_refl _)⟩
/-- the slot's own thing stands still from here on -/
theorem RE.frz {N : EN} {F H : Hp} {R : List Addr} {env : Mi.Env} {σ : L2.St} {o : MO} {a : Addr} {u : HO} {d : D} {i : Nat} (re : RE Z N F R H env σ) (hi : env[i]? = some (some (.own o))) (hσ : σ[i]? = some (some (.ref a))) (hF : F a = none) (rd : RD Z (upd F a u) R d (.ref a)) :
    RE Z N (upd F a u) R H (env.set i (some (.val d))) σ := by
  have e : ∀ c w, F c = some w → upd F a u c = some w := fun c w h => by
    rw [upd_ne (ne_of_none h hF)]
    exact h
  have get : ∀ (j : Nat), i ≠ j → (env.set i (some (.val d)))[j]? = env[j]? := fun j h => by rw [List.getElem?_set, if_neg h]
  have same : ∀ (j : Nat), i = j → (env.set i (some (.val d)))[j]? = some (some (.val d)) := fun j h => by
    subst h
    rw [List.getElem?_set, if_pos rfl, if_pos (List.getElem?_eq_some_iff.mp hi).1]
  refine ⟨by rw [List.length_set]; exact re.len, fun j d' ej => ?_, fun j w ej => ?_, fun j l w x b e1 e2 s1 s2 => ?_, fun b c fs hb ej => ?_⟩
  · by_cases h : i = j
    · rw [same j h] at ej
      cases ej
      subst h
      exact ⟨_, hσ, rd⟩
    · rw [get j h] at ej
      obtain ⟨v, h1, h2⟩ := re.val j d' ej
      exact ⟨v, h1, h2.mono e (List.prefix_refl _)⟩
  · by_cases h : i = j
    · rw [same j h] at ej
      cases ej
    · rw [get j h] at ej
      obtain ⟨b, h1, h2, h3⟩ := re.own j w ej
      refine ⟨b, h1, h2.thaw hF fun z => ?_, h3⟩
      subst z
      exact h (re.sep i j _ _ b hi ej hσ h1)
  · by_cases h : i = j
    · rw [same j h] at e1
      cases e1
    · by_cases h' : i = l
      · rw [same l h'] at e2
        cases e2
      · rw [get j h] at e1
        rw [get l h'] at e2
        exact re.sep j l w x b e1 e2 s1 s2
  · by_cases h : i = 0
    · rw [same 0 h] at ej
      cases ej
    · rw [get 0 h] at ej
      exact re.self b c fs hb ej
/-- what is frozen -/
theorem frz_all {N : EN} {F H : Hp} {R : List Addr} {mh : MH} {env : Mi.Env} {σ : L2.St} {o : MO} {d : D} {i : Nat} (rh : RH Z F R H mh) (re : RE Z N F R H env σ) (ex : EX N.F N.R N.H F R H) (hi : env[i]? = some (some (.own o))) (hd : (∃ xs, o = .lst xs ∧ d = .lst xs) ∨ ∃ c fs, o = .ins c fs ∧ d = .obj c fs) :
    ∃ F2 v, FX F R F2 R ∧ EX N.F N.R N.H F2 R H ∧ RH Z F2 R H mh ∧ RE Z N F2 R H (env.set i (some (.val d))) σ ∧ σ[i]? = some (some v) ∧ RD Z F2 R d v := by
  obtain ⟨a, hσ, ⟨ro, hF, hR⟩, hN⟩ := re.own i o hi
  have e : ∀ u c w, F c = some w → upd F a u c = some w := fun u c w h => by
    rw [upd_ne (ne_of_none h hF)]
    exact h
  rcases hd with ⟨xs, rfl, rfl⟩ | ⟨c, fs, rfl, rfl⟩
  · obtain ⟨vs, h1, h2⟩ := ro
    have rd : RD Z (upd F a (.lst vs)) R (.lst xs) (.ref a) := .lst (.inl upd_same) (h2.mono (e _) (List.prefix_refl _))
    exact ⟨upd F a (.lst vs), _, ⟨e _, List.prefix_refl _⟩, ex.frz hF hN, rh.frz h1 hF hR, re.frz hi hσ hF rd, hσ, rd⟩
  · obtain ⟨dx, fv, h1, hg, h2⟩ := ro
    have rd : RD Z (upd F a (.ins (Z.ca c) dx fv)) R (.obj c fs) (.ref a) := .obj upd_same hg (RFs.mono (e _) (List.prefix_refl _) h2)
    exact ⟨upd F a (.ins (Z.ca c) dx fv), _, ⟨e _, List.prefix_refl _⟩, ex.frz hF hN, rh.frz h1 hF hR, re.frz hi hσ hF rd, hσ, rd⟩
theorem frz_imp {s : Nat} {r : MSs} {E : Ends} {σ : L2.St} {H : Hp} (q : tSs Z T C (.cons (.frz s) r) E σ H) : tSs Z T C r E σ H := by
  obtain ⟨N, F, R, mh, env, rh, re, ex, q⟩ := q
  obtain ⟨fl, m1, e1, q⟩ := PO1.bd (show PO1 ((evS T C (.frz s) env mh).bd fun fl h => match fl with
    | .nx e => evSs T C r e h
    | _ => .ok fl h) _ from q)
  have e1 : (match env[s]? with
    | some (some (.own (.lst xs))) => Out.ok (Fl.nx (env.set s (some (.val (.lst xs))))) mh
    | some (some (.own (.ins c fs))) => .ok (.nx (env.set s (some (.val (.obj c fs))))) mh
    | _ => .no) = .ok fl m1 := e1
  cases es : env[s]? with
  | none =>
    rw [es] at e1
    cases e1
  | some sv =>
    rw [es] at e1
    match sv, es, e1 with
    | some (.own (.lst xs)), es, e1 =>
      cases e1
      obtain ⟨F2, v, f1, k1, k2, k3, _, _⟩ := frz_all (d := .lst xs) rh re ex es (.inl ⟨xs, rfl, rfl⟩)
      exact ⟨N, F2, R, _, _, k2, k3, k1, KS.ups q f1⟩
    | some (.own (.ins c fs)), es, e1 =>
      cases e1
      obtain ⟨F2, v, f1, k1, k2, k3, _, _⟩ := frz_all (d := .obj c fs) rh re ex es (.inr ⟨c, fs, rfl, rfl⟩)
      exact ⟨N, F2, R, _, _, k2, k3, k1, KS.ups q f1⟩
/-! ### loops -/
def bodyF (T : CT) (C : Cl) (tg : Tg) (b : MSs) : D → Mi.Env → MH → Out Fl := fun x en h => match bindT tg x en with
  | some en => evSs T C b en h
  | none => .no
def stepF (T : CT) (C : Cl) (tg : Tg) (b : MSs) (xs : List D) (fl : Fl) (h : MH) : Out Fl := match fl with
  | .nx e => loopF (bodyF T C tg b) xs e h
  | .ct e => loopF (bodyF T C tg b) xs e h
  | .bk e => .ok (.nx e) h
  | .rt d => .ok (.rt d) h
theorem stm_frz {s : Nat} {r : MSs} {sts : List Stmt} (h : PSs X sts (tSs Z T C r)) : PSs X sts (tSs Z T C (.cons (.frz s) r)) := PSs.imp h fun _ _ _ q => frz_imp q
theorem stm_for (hc : CtxOk Z M k X) {it : MI} {tg : Tg} {b : MSs} {tge iter : Expr} {body : List Stmt} {pos : Pos} (po : PassesOwn (model X.prog X.w) X.A X.env X.xe) (hset : noSet iter = true) (hi : PI X tge iter (tI Z T C false it)) (hg : PG X tge (gTg X.K tg)) (hb : PSs X body (tSs Z T C b)) :
    PS X (.For tge iter body [] pos) (tS Z T C (.for tg it b)) := PS.imp (ps_for po hc.calm hi hg hb (fun x => noSet_of hset _ x)) fun E σ H q => by
  obtain ⟨N, F, R, mh, env, rh, re, ex, q⟩ := q
  obtain ⟨xs, m1, e1, q⟩ := PO1.bd (show PO1 ((evI T C false it env mh).bd fun xs h => loopF (bodyF T C tg b) xs env h) _ from q)
  refine ⟨N, F, R, mh, env, rh, re, PO1.mk e1 fun F1 R1 H1 J x1 rh1 w => ?_⟩
  obtain ⟨G, Y, walk, hG, hY⟩ := w
  let Pv : Nat → L2.St → Hp → Prop := fun i σ H => ∃ F' R' m en, FX F1 R1 F' R' ∧ EX N.F N.R N.H F' R' H ∧ RH Z F' R' H m ∧ RE Z N F' R' H en σ ∧ PO1 (loopF (bodyF T C tg b) (xs.drop i) en m) (KS Z N F' R' E)
  refine for_it walk Pv ?_ ?_ ?_ ?_
  · exact ⟨F1, R1, m1, env, FX.refl, ex.trans x1, rh1, re.ext x1, KS.ups q (.of x1)⟩
  · rintro i σ H _ ⟨F', R', m, en, fx, _, rh', _, _⟩
    exact hG F' R' H m fx rh'
  · rintro i x σ H H' hi ⟨F', R', m, en, fx, ex', rh', re', q⟩ hy
    obtain ⟨F2, ex2, rh2, d, hd, rd⟩ := hY i F' R' H m x H' fx rh' hi hy
    rw [drop_cons_get hd] at q
    obtain ⟨fl, m2, e2, q⟩ := PO1.bd (show PO1 ((bodyF T C tg b d en m).bd fun fl h => stepF T C tg b (xs.drop (i + 1)) fl h) _ from q)
    cases eb : bindT tg d en with
    | none =>
      simp only [bodyF, eb] at e2
      cases e2
    | some en2 =>
      simp only [bodyF, eb] at e2
      refine gTg_re rh2 (re'.ext ex2) rd eb fun σ' re2 _ => ⟨N, F2, R', m, en2, rh2, re2, ex'.trans ex2, PO1.mk e2 ?_⟩
      have fx2 : FX F1 R1 F2 R' := fx.trans (.of ex2)
      cases fl with
      | nx e => exact fun F3 R3 H3 σ3 f3 ex3 rh3 re3 => ⟨F3, R3, m2, e, fx2.trans f3, ex3, rh3, re3, KS.ups q ((FX.of ex2).trans f3)⟩
      | ct e => exact fun F3 R3 H3 σ3 f3 ex3 rh3 re3 => ⟨F3, R3, m2, e, fx2.trans f3, ex3, rh3, re3, KS.ups q ((FX.of ex2).trans f3)⟩
      | bk e => exact fun F3 R3 H3 σ3 f3 ex3 rh3 re3 => q F3 R3 H3 σ3 ((FX.of ex2).trans f3) ex3 rh3 re3
      | rt d => exact fun F3 R3 H3 v f3 ex3 rh3 rd3 => q F3 R3 H3 v ((FX.of ex2).trans f3) ex3 rh3 rd3
  · rintro σ H ⟨F', R', m, en, fx, ex', rh', re', q⟩
    rw [List.drop_length] at q
    exact q F' R' H σ FX.refl ex' rh' re'
def stepW (T : CT) (C : Cl) (t : ME) (b : MSs) (n : Nat) (fl : Fl) (h : MH) : Out Fl := match fl with
  | .nx e => loopW (fun en h => evT T C t en h) (fun en h => evSs T C b en h) n e h
  | .ct e => loopW (fun en h => evT T C t en h) (fun en h => evSs T C b en h) n e h
  | .bk e => .ok (.nx e) h
  | .rt d => .ok (.rt d) h
theorem stm_while {t : ME} {b : MSs} {c : Expr} {body : List Stmt} {pos : Pos} (po : PassesOwn (model X.prog X.w) X.A X.env X.xe) (ht : PT X c (tTe Z T C t)) (hb : PSs X body (tSs Z T C b)) : PS X (.While c body [] pos) (tS Z T C (.while t b)) := PS.imp (ps_while po ht hb) fun E σ H q => by
  obtain ⟨N, F, R, mh, env, rh, re, ex, q⟩ := q
  let W : Nat → L2.St → Hp → Prop := fun n σ H => ∃ F' R' m en, FX F R F' R' ∧ EX N.F N.R N.H F' R' H ∧ RH Z F' R' H m ∧ RE Z N F' R' H en σ ∧ PO1 (loopW (fun en h => evT T C t en h) (fun en h => evSs T C b en h) n en m) (KS Z N F' R' E)
  refine ⟨W, ⟨lim, F, R, mh, env, FX.refl, ex, rh, re, q⟩, ?_⟩
  rintro n σ H ⟨F', R', m, en, fx, ex', rh', re', q⟩
  cases n with
  | zero => cases q
  | succ n =>
    obtain ⟨kb, m2, e2, q⟩ := PO1.bd (show PO1 ((evT T C t en m).bd fun c h => if c then (evSs T C b en h).bd fun fl h => stepW T C t b n fl h else .ok (.nx en) h) _ from q)
    refine ⟨N, F', R', m, en, rh', re', PO1.mk e2 fun F1 R1 H1 x1 rh1 => ?_⟩
    cases kb with
    | true =>
      rw [if_pos rfl]
      obtain ⟨fl, m3, e3, q⟩ := PO1.bd (show PO1 ((evSs T C b en m2).bd fun fl h => stepW T C t b n fl h) _ from q)
      refine ⟨W n, fun σ' H' h => ⟨n, Nat.lt_succ_self n, h⟩, N, F1, R1, m2, en, rh1, re'.ext x1, ex'.trans x1, PO1.mk e3 ?_⟩
      have f1 : FX F R F1 R1 := fx.trans (.of x1)
      cases fl with
      | nx e => exact fun F3 R3 H3 σ3 f3 ex3 rh3 re3 => ⟨F3, R3, m3, e, f1.trans f3, ex3, rh3, re3, KS.ups q ((FX.of x1).trans f3)⟩
      | ct e => exact fun F3 R3 H3 σ3 f3 ex3 rh3 re3 => ⟨F3, R3, m3, e, f1.trans f3, ex3, rh3, re3, KS.ups q ((FX.of x1).trans f3)⟩
      | bk e => exact fun F3 R3 H3 σ3 f3 ex3 rh3 re3 => q F3 R3 H3 σ3 ((FX.of x1).trans f3) ex3 rh3 re3
      | rt d => exact fun F3 R3 H3 v f3 ex3 rh3 rd3 => q F3 R3 H3 v ((FX.of x1).trans f3) ex3 rh3 rd3
    | false =>
      rw [if_neg (by decide)]
      have q : KS Z N F' R' E (.nx en) m2 := q
      exact q F1 R1 H1 σ (.of x1) (ex'.trans x1) rh1 (re'.ext x1)
/-! ### a slot's own thing changes in place -/
theorem RO.off {F H : Hp} {R : List Addr} {o : MO} {a b : Addr} {u : HO} (h : RO Z F R H o b) (ne : b ≠ a) : RO Z F R (upd H a u) o b := by
  cases o with
  | lst xs =>
    obtain ⟨vs, q1, q2⟩ := h
    exact ⟨vs, by rw [upd_ne ne]; exact q1, q2⟩
  | dct kvs =>
    obtain ⟨vs, q1, q2⟩ := h
    exact ⟨vs, by rw [upd_ne ne]; exact q1, q2⟩
  | ndc kvs =>
    obtain ⟨vs, q1, q2⟩ := h
    exact ⟨vs, by rw [upd_ne ne]; exact q1, q2⟩
  | ins c fs =>
    obtain ⟨dx, fv, q1, qg, q2⟩ := h
    exact ⟨dx, fv, by rw [upd_ne ne]; exact q1, qg, q2⟩
theorem RE.mutOwn {N : EN} {F H : Hp} {R : List Addr} {env : Mi.Env} {σ : L2.St} {o o' : MO} {a : Addr} {u : HO} {i : Nat} (re : RE Z N F R H env σ) (hi : env[i]? = some (some (.own o))) (hσ : σ[i]? = some (some (.ref a))) (hF : F a = none) (hR : a ∉ R) (hN : N.H a = none) (ro : RO Z F R (upd H a u) o' a) (hins : ∀ c fs, o' = .ins c fs → ∃ fs0, o = .ins c fs0) :
    RE Z N F R (upd H a u) (env.set i (some (.own o'))) σ := by
  have hl := (List.getElem?_eq_some_iff.mp hi).1
  have get : ∀ (j : Nat), i ≠ j → (env.set i (some (.own o')))[j]? = env[j]? := fun j h => by rw [List.getElem?_set, if_neg h]
  have same : (env.set i (some (.own o')))[i]? = some (some (.own o')) := by rw [List.getElem?_set, if_pos rfl, if_pos hl]
  have old : ∀ (j : Nat) w, (env.set i (some (.own o')))[j]? = some (some (.own w)) → ∃ w', env[j]? = some (some (.own w')) := fun j w e => by
    by_cases h : i = j
    · subst h
      exact ⟨_, hi⟩
    · rw [get j h] at e
      exact ⟨w, e⟩
  refine ⟨by rw [List.length_set]; exact re.len, fun j d' ej => ?_, fun j w ej => ?_, fun j l w x b e1 e2 s1 s2 => ?_, fun b c fs hb ej => ?_⟩
  · by_cases h : i = j
    · subst h
      rw [same] at ej
      cases ej
    · rw [get j h] at ej
      exact re.val j d' ej
  · by_cases h : i = j
    · subst h
      rw [same] at ej
      cases ej
      exact ⟨a, hσ, ⟨ro, hF, hR⟩, hN⟩
    · rw [get j h] at ej
      obtain ⟨b, h1, ⟨h2, h3, h4⟩, h5⟩ := re.own j w ej
      refine ⟨b, h1, ⟨h2.off fun z => ?_, h3, h4⟩, h5⟩
      subst z
      exact h (re.sep i j _ _ b hi ej hσ h1)
  · obtain ⟨w', e1⟩ := old j w e1
    obtain ⟨x', e2⟩ := old l x e2
    exact re.sep j l w' x' b e1 e2 s1 s2
  · by_cases h : i = 0
    · subst h
      rw [same] at ej
      cases ej
      obtain ⟨fs0, rfl⟩ := hins c fs rfl
      exact re.self b c fs0 hb hi
    · rw [get 0 h] at ej
      exact re.self b c fs hb ej
/-- s.append(e) -/
theorem stm_app (hc : CtxOk Z M k X) {s : Nat} {a : ME} {x : Str} {e : Expr} {px ap cp pos : Pos} (hv : mtVar X.N X.env.scope s x = true) (hs : noStar e = true) (hl : (ap.endLine == cp.line) = true) (he : PE X e (tM Z T C a)) :
    PS X (.Expr (.Call (.Attribute (.Name x px) "append" ap) [e] [] cp) pos) (tS Z T C (.app s a)) := by
  have hp : plainArgs [e] = true := by
    show (noStar e && true) = true
    rw [hs] <;> rfl
  have hfew : ((backTo cp (starEach [e] X.env)).all (fun x => !x.1) && (backToKw cp (keywordEach [] X.env)).all (fun x => x.1.isSome)
      && decide ([e].length + ([] : List Keyword).length + (if ([] : List Keyword).isEmpty then 0 else 1) < 30)) = true := by
    rw [plain_few hp] <;> rfl
  have core : PE X (.Call (.Attribute (.Name x px) "append" ap) [e] [] cp) (tBM X.K "list" rAppend (tVar s) (tCons (tM Z T C a) tNil)) :=
    pe_bm F.plainAttrs_list F.slot_list_append F.type_list_append mt_append (snd_var0 hv) (pa_cons he pa_nil (star_of hs _ _)) rfl hfew hl (star_of hs _ _) (few_any hp)
  refine PS.imp (ps_expr core rfl) fun E σ H q => ?_
  obtain ⟨N, F, R, mh, env, rh, re, ex, q⟩ := q
  obtain ⟨d, m1, e1, q⟩ := PO1.bd (show PO1 ((evE T C a env mh).bd fun v h => (match env[s]? with
    | some (some (.own (.lst xs))) => if xs.length < lim then Out.ok (Fl.nx (env.set s (some (.own (.lst (xs ++ [v])))))) h else .no
    | _ => .no)) _ from q)
  cases es : env[s]? with
  | none =>
    rw [es] at q
    cases q
  | some sv =>
    rw [es] at q
    match sv, es, q with
    | some (.own (.lst xs)), es, q =>
      have q : PO1 (if xs.length < lim then Out.ok (Fl.nx (env.set s (some (.own (.lst (xs ++ [d])))))) m1 else .no) _ := q
      obtain ⟨b, hσ, ow, hN⟩ := re.own s _ es
      obtain ⟨⟨vs, hv', rs⟩, hF, hR⟩ := ow
      refine ⟨_, hσ, .inl ⟨rfl, vs, .inl (.inl hv')⟩, N, F, R, mh, env, rh, re, PO1.mk e1 fun F1 R1 H1 v x1 rh1 t1 => ?_⟩
      have tk : Trk F1 R1 H1 b (.lst vs) := Trk.ext ⟨hv', hF, hR⟩ x1
      by_cases hz : xs.length < lim
      · rw [if_pos hz] at q
        refine ⟨b, vs, v, rfl, rfl, tk.1, by rw [← rs.length]; exact lim_lt hz, ?_⟩
        refine q F1 R1 _ σ (.of x1) ((ex.trans x1).upd hN) (rh1.upd tk.2.1 tk.2.2) ?_
        exact (re.ext x1).mutOwn es hσ tk.2.1 tk.2.2 hN ⟨_, upd_same, (rs.mono x1.f x1.r).append (.cons t1 .nil)⟩ (fun c fs z => by cases z)
      · rw [if_neg hz] at q
        cases q
/-- x = s.pop() -/
theorem stm_popS (hc : CtxOk Z M k X) {i s : Nat} {x y : Str} {px py ap cp pos : Pos} (hne : i ≠ s) (hi : mgName X.N X.fn X.env.scope i (.Name y py) = true) (hv : mtVar X.N X.env.scope s x = true) (hl : (ap.endLine == cp.line) = true) :
    PS X (.Assign [.Name y py] (.Call (.Attribute (.Name x px) "pop" ap) [] [] cp) pos) (tS Z T C (.popS i s)) := by
  obtain ⟨h1, h2⟩ := ba2 (show (mtSlot X.N i y && tgOk X.fn X.env.scope y) = true from hi)
  obtain ⟨h3, h4⟩ := tgOk_of h2
  have core : PE X (.Call (.Attribute (.Name x px) "pop" ap) [] [] cp) (tBM0 X.K "list" rPop (tVar s)) :=
    pe_bm0 F.plainAttrs_list F.slot_list_pop F.type_list_pop mt_pop (snd_var0 hv) rfl hl
  refine PS.imp (ps_set hc.nd (of_decide_eq_true h1) h3 core rfl h4) fun E σ H q => ?_
  obtain ⟨N, F, R, mh, env, rh, re, ex, q⟩ := q
  have q : PO1 (match env[s]? with
    | some (some (.own (.lst xs))) => (match xs.getLast? with
      | some y => Out.ok (Fl.nx ((env.set s (some (.own (.lst xs.dropLast)))).set i (some (.val y)))) mh
      | none => .no)
    | _ => .no) _ := q
  cases es : env[s]? with
  | none =>
    rw [es] at q
    cases q
  | some sv =>
    rw [es] at q
    match sv, es, q with
    | some (.own (.lst xs)), es, q =>
      have q : PO1 (match xs.getLast? with
        | some y => Out.ok (Fl.nx ((env.set s (some (.own (.lst xs.dropLast)))).set i (some (.val y)))) mh
        | none => .no) _ := q
      obtain ⟨b, hσ, ow, hN⟩ := re.own s _ es
      obtain ⟨⟨vs, hv', rs⟩, hF, hR⟩ := ow
      cases eg : xs.getLast? with
      | none =>
        rw [eg] at q
        cases q
      | some d =>
        rw [eg] at q
        obtain ⟨v, e2, rd⟩ := rs.getLast eg
        refine ⟨_, hσ, .inl ⟨rfl, vs, .inl (.inl hv')⟩, b, vs, v, rfl, rfl, hv', by rw [← e2, List.getLast?_eq_getElem?], ?_⟩
        refine q F R _ _ FX.refl (ex.upd hN) (rh.upd hF hR) ?_
        exact (re.mutOwn (o' := .lst xs.dropLast) es hσ hF hR hN ⟨_, upd_same, rs.dropLast⟩ (fun c fs z => by cases z)).set i rd
/-! ### attributes are stored -/
theorem rf_put {F : Hp} {R : List Addr} {c f : Nat} {d : D} {v : V} (inj : ∀ g, Z.fld c g = true → Z.an g = Z.an f → g = f) (rd : RD Z F R d v) : ∀ {fs : List (Nat × D)} {fv : List (Str × V)}, RFs Z F R fs fv → (∀ p ∈ fs, Z.fld c p.1 = true) → RFs Z F R (putF f d fs) (L2.putF (Z.an f) v fv)
  | _, _, .nil, _ => .cons rd .nil
  | _, _, @RFs.cons _ _ _ g x w xs vs r rs, hf => by
    unfold putF L2.putF
    by_cases e : g = f
    · rw [if_pos e, if_pos (by rw [e])]
      subst e
      exact .cons rd rs
    · rw [if_neg e, if_neg fun z => e (inj g (hf _ List.mem_cons_self) z)]
      exact .cons r (rf_put inj rd rs fun p hp => hf p (List.mem_cons_of_mem _ hp))
theorem put_fld {c f : Nat} {d : D} (hf0 : Z.fld c f = true) : ∀ {fs : List (Nat × D)}, (∀ p ∈ fs, Z.fld c p.1 = true) → ∀ p ∈ putF f d fs, Z.fld c p.1 = true
  | [], _, p, hp => by
    obtain rfl : p = (f, d) := by simpa [putF] using hp
    exact hf0
  | (g, x) :: r, hf, p, hp => by
    unfold putF at hp
    by_cases e : g = f
    · rw [if_pos e] at hp
      rcases List.mem_cons.mp hp with h | h
      · subst h
        exact hf (g, x) List.mem_cons_self
      · exact hf p (List.mem_cons_of_mem _ h)
    · rw [if_neg e] at hp
      rcases List.mem_cons.mp hp with h | h
      · subst h
        exact hf _ List.mem_cons_self
      · exact put_fld hf0 (fun p hp => hf p (List.mem_cons_of_mem _ hp)) p h
theorem rf_len {F : Hp} {R : List Addr} : ∀ {fs : List (Nat × D)} {fv : List (Str × V)}, RFs Z F R fs fv → fs.length = fv.length
  | _, _, .nil => rfl
  | _, _, .cons _ r => congrArg (· + 1) (rf_len r)
theorem EX.setR {F H F' H' : Hp} {R R' : List Addr} {a : Addr} {u : HO} (x : EX F R H F' R' H') (h : a ∈ R') : EX F R H F' R' (L2.upd H' a u) where
  f := x.f
  nf := x.nf
  r := x.r
  nr := x.nr
  keep := fun b w q n => by
    have ne : b ≠ a := fun z => by
      subst z
      rcases x.nr b h with h | h
      · exact n h
      · rw [q] at h
        cases h
    rw [upd_ne ne]
    exact x.keep b w q n
  there := fun b w q => by
    by_cases z : b = a
    · subst z
      exact ⟨_, upd_same⟩
    · rw [upd_ne z]
      exact x.there b w q
theorem RH.setR {F H : Hp} {R : List Addr} {mh : MH} {n : Nat} {a : Addr} {u : HO} {o' : MO} (r : RH Z F R H mh) (hn : R[n]? = some a) (ro : RO Z F R (L2.upd H a u) o' a) : RH Z F R (L2.upd H a u) (mh.set n o') where
  sub := fun b w h => by
    have ne : b ≠ a := fun z => by
      subst z
      rw [r.dis b (List.mem_of_getElem? hn)] at h
      cases h
    rw [upd_ne ne]
    exact r.sub b w h
  len := by rw [List.length_set]; exact r.len
  obj := fun m b w h1 h2 => by
    rw [List.getElem?_set] at h2
    by_cases e : n = m
    · subst e
      rw [if_pos rfl] at h2
      rw [hn] at h1
      cases h1
      split at h2
      · cases h2
        exact ro
      · cases h2
    · rw [if_neg e] at h2
      refine (r.obj m b w h1 h2).off fun z => e ?_
      subst z
      exact r.inj n m b hn h1
  inj := r.inj
  dis := r.dis
theorem RE.setR {N : EN} {F H : Hp} {R : List Addr} {env : Mi.Env} {σ : L2.St} {a : Addr} {u : HO} (re : RE Z N F R H env σ) (ha : a ∈ R) : RE Z N F R (L2.upd H a u) env σ where
  len := re.len
  val := re.val
  own := fun j w ej => by
    obtain ⟨b, h1, ⟨h2, h3, h4⟩, h5⟩ := re.own j w ej
    exact ⟨b, h1, ⟨h2.off fun z => h4 (by rw [z]; exact ha), h3, h4⟩, h5⟩
  sep := re.sep
  self := re.self
/-- o.f = e, o an instance that a slot owns, or one of the heap -/
theorem stm_sattr (hc : CtxOk Z M k X) (co : CallOk Z M T C CX fa fi k X) {i f : Nat} {a : ME} {x y : Str} {e : Expr} {px ap pos : Pos} (hy : y = M.at_ f) (hv : mtVar X.N X.env.scope i x = true) (hs : swapsWith e (some (.Attribute (.Name x px) y ap)) pos.line X.env = pure false) (he : PE X e (tM Z T C a)) :
    PS X (.Assign [.Attribute (.Name x px) y ap] e pos) (tS Z T C (.sattr (.var i) f a)) := by
  subst hy
  refine PS.imp (ps_fld (snd_var0 hv) he hs) fun E σ H q => ?_
  obtain ⟨N, F, R, mh, env, rh, re, ex, q⟩ := q
  obtain ⟨d, m1, e1, q⟩ := PO1.bd (show PO1 ((evE T C a env mh).bd fun y h => (match env[i]? with
      | some (some (.own (.ins c fs))) => if T.fld c f && decide (fs.length < 900) then Out.ok (Fl.nx (env.set i (some (.own (.ins c (putF f y fs)))))) h else .no
      | some (some (.val (.ref n))) => (match h[n]? with
        | some (.ins c fs) => if T.fld c f && decide (fs.length < 900) then .ok (.nx env) (h.set n (.ins c (putF f y fs))) else .no
        | _ => .no)
      | _ => .no)) _ from q)
  refine ⟨N, F, R, mh, env, rh, re, PO1.mk e1 fun F1 R1 H1 v x1 rh1 t1 => ?_⟩
  cases es : env[i]? with
  | none =>
    rw [es] at q
    cases q
  | some sv =>
    rw [es] at q
    match sv, es, q with
    | some (.own (.ins c fs)), es, q =>
      have q : PO1 (if T.fld c f && decide (fs.length < 900) then Out.ok (Fl.nx (env.set i (some (.own (.ins c (putF f d fs)))))) m1 else .no) _ := q
      obtain ⟨b, hσ, ow, hN⟩ := re.own i _ es
      obtain ⟨⟨dx, fv, h1, hg, rf⟩, hF, hR⟩ := ow
      have tk : Trk F1 R1 H1 b (.ins (Z.ca c) dx fv) := Trk.ext ⟨h1, hF, hR⟩ x1
      cases hz : T.fld c f && decide (fs.length < 900) with
      | false =>
        rw [hz] at q
        cases q
      | true =>
        rw [hz] at q
        obtain ⟨z1, z2⟩ := ba2 hz
        obtain ⟨cl, na, zf⟩ := co.fd c f z1
        have z3 : fs.length < 900 := of_decide_eq_true z2
        refine ⟨_, hσ, b, Z.ca c, dx, fv, rfl, tk.1, cl, na, by rw [← rf_len rf]; omega, ?_⟩
        rw [co.an]
        refine q F1 R1 _ σ (.of x1) ((ex.trans x1).upd hN) (rh1.upd tk.2.1 tk.2.2) ?_
        exact (re.ext x1).mutOwn (o' := .ins c (putF f d fs)) es hσ tk.2.1 tk.2.2 hN ⟨dx, _, upd_same, put_fld zf hg, rf_put (c := c) (fun g g1 g2 => co.inj c g f g1 zf g2) t1 (RFs.mono x1.f x1.r rf) hg⟩ (fun c' fs' z => by
          cases z
          exact ⟨_, rfl⟩)
    | some (.val (.ref n)), es, q =>
      have q : PO1 (match m1[n]? with
        | some (.ins c fs) => if T.fld c f && decide (fs.length < 900) then Out.ok (Fl.nx env) (m1.set n (.ins c (putF f d fs))) else .no
        | _ => .no) _ := q
      obtain ⟨w, hσ, rw'⟩ := re.val i _ es
      cases rw' with
      | @ref _ b hn =>
        have hn1 := pre_get x1.r hn
        obtain ⟨o, ho, ro⟩ := rh1.objs hn1
        rw [ho] at q
        cases o with
        | ins c fs =>
          obtain ⟨dx, fv, h1, hg, rf⟩ := ro
          have q : PO1 (if T.fld c f && decide (fs.length < 900) then Out.ok (Fl.nx env) (m1.set n (.ins c (putF f d fs))) else .no) _ := q
          cases hz : T.fld c f && decide (fs.length < 900) with
          | false =>
            rw [hz] at q
            cases q
          | true =>
            rw [hz] at q
            obtain ⟨z1, z2⟩ := ba2 hz
            obtain ⟨cl, na, zf⟩ := co.fd c f z1
            have z3 : fs.length < 900 := of_decide_eq_true z2
            refine ⟨_, hσ, b, Z.ca c, dx, fv, rfl, h1, cl, na, by rw [← rf_len rf]; omega, ?_⟩
            rw [co.an]
            have hm := List.mem_of_getElem? hn1
            exact q F1 R1 _ σ (.of x1) ((ex.trans x1).setR hm) (rh1.setR hn1 ⟨dx, _, upd_same, put_fld zf hg, rf_put (c := c) (fun g g1 g2 => co.inj c g f g1 zf g2) t1 rf hg⟩) ((re.ext x1).setR hm)
        | _ => cases q
theorem swaps_sub {e o i : Expr} {p : Pos} {l : Nat} {env : PySem.Env} : swapsWith e (some (.Subscript o i p)) l env = pure false := by
  cases e <;> rfl
theorem swaps_attr {e o : Expr} {x : Str} {p : Pos} {l : Nat} {env : PySem.Env} : swapsWith e (some (.Attribute o x p)) l env = pure false := by
  cases e <;> rfl
def noComp : Expr → Bool
  | .ListComp _ _ _ _ => false
  | .SetComp _ _ _ _ => false
  | .DictComp _ _ _ _ _ => false
  | _ => true
theorem swaps_name {e : Expr} {t : Option Expr} {l : Nat} {env : PySem.Env} (h : noComp e = true) : swapsWith e t l env = pure false := by
  cases e <;> first | rfl | cases h
theorem asg_sub {o i : Expr} {p : Pos} {env : PySem.Env} (h : noSlice i = true) : ∀ v, assign (.Subscript o i p) env v = (do
      let ov ← holding [v] (eval o env)
      let iv ← holding [v, ov] (eval i env)
      standAt p
      holding [v, ov, iv] (setItem ov iv v)
      release [v, ov, iv] []) := fun v => by
  cases i <;> first | rfl | cases h
/-- o[i] = e, o a list of the heap -/
theorem stm_sidx (hc : CtxOk Z M k X) {o i a : ME} {eo ei e : Expr} {tp pos : Pos} (hn : noSlice ei = true) (ho : PE X eo (tM Z T C o)) (hi : PE X ei (tM Z T C i)) (he : PE X e (tM Z T C a)) :
    PS X (.Assign [.Subscript eo ei tp] e pos) (tS Z T C (.sidx o i a)) := by
  refine PS.imp (ps_asg he (pg_sub ho hi set_list (asg_sub hn)) (show swapsWith e (some (.Subscript eo ei tp)) pos.line X.env = pure false from swaps_sub) (show swappedStores [.Subscript eo ei tp] e X.env = pure none from rfl)) fun E σ H q => ?_
  obtain ⟨N, F, R, mh, env, rh, re, ex, q⟩ := q
  obtain ⟨d, m1, e1, q⟩ := PO1.bd (show PO1 ((evE T C a env mh).bd fun v h => (evE T C o env h).bd fun a h => (evE T C i env h).bd fun x h => (ofO (setAt a x v h) h).bd fun h' _ => .ok (Fl.nx env) h') _ from q)
  obtain ⟨dl, m2, e2, q⟩ := PO1.bd q
  obtain ⟨di, m3, e3, q⟩ := PO1.bd q
  obtain ⟨m4, m5, e4, q⟩ := PO1.bd q
  refine ⟨N, F, R, mh, env, rh, re, PO1.mk e1 fun F1 R1 H1 v1 x1 rh1 t1 => ⟨N, F1, R1, m1, env, rh1, re.ext x1, PO1.mk e2 fun F2 R2 H2 v2 x2 rh2 t2 => ⟨N, F2, R2, m2, env, rh2, (re.ext x1).ext x2, PO1.mk e3 fun F3 R3 H3 v3 x3 rh3 t3 => ?_⟩⟩⟩
  have x123 := (x1.trans x2).trans x3
  have t1 := (t1.mono x2.f x2.r).mono x3.f x3.r
  have t2 := t2.mono x3.f x3.r
  cases t2 with
  | @ref n b hn =>
    cases t3 with
    | int j =>
      obtain ⟨ob, h1, ro⟩ := rh3.objs hn
      have e4 : ofO (match m3[n]? with
        | some (.lst xs) => (L2.ixN xs.length j).map fun k => m3.set n (.lst (xs.set k d))
        | _ => none) m3 = .ok m4 m5 := e4
      rw [h1] at e4
      cases ob with
      | lst xs =>
        obtain ⟨vs, h2, rs⟩ := ro
        have e4 : ofO ((L2.ixN xs.length j).map fun k => m3.set n (.lst (xs.set k d))) m3 = .ok m4 m5 := e4
        cases ek : L2.ixN xs.length j with
        | none =>
          rw [ek] at e4
          cases e4
        | some kk =>
          rw [ek] at e4
          cases e4
          refine ⟨b, vs, j, kk, rfl, rfl, h2, by rw [← rs.length]; exact ek, ?_⟩
          have hm := List.mem_of_getElem? hn
          exact q F3 R3 _ σ (.of x123) ((ex.trans x123).setR hm) (rh3.setR hn ⟨_, upd_same, rs.set kk t1⟩) ((re.ext x123).setR hm)
      | _ => cases e4
    | _ => cases e4
  | _ => cases e4
end
end Mi
/-! MiStm2: statements, further. -/
namespace Mi
open PySem PySem.Spec PyProof.Rows L2

section
variable {Z : NA} {M : NM} {T : CT} {C : Cl} {k : Nat} {X : Cx} {CX : CXT} {fa fi : Nat → Addr}
/-! ### several values at once, some of them new things -/
inductive RP (Z : NA) (F : Hp) (R : List Addr) (H : Hp) : Hp → List (Nat × Bool) → List D → List V → Prop
  | nil {H0 : Hp} : RP Z F R H H0 [] [] []
  | v {H0 : Hp} {i : Nat} {ts : List (Nat × Bool)} {x : D} {v : V} {xs : List D} {vs : List V} : RD Z F R x v → RP Z F R H H0 ts xs vs → RP Z F R H H0 ((i, false) :: ts) (x :: xs) (v :: vs)
  | o {H0 H1 : Hp} {i : Nat} {ts : List (Nat × Bool)} {x : D} {a : Addr} {xs : List D} {vs : List V} : NewO Z H0 F R H a x → H1 a ≠ none → (∀ c, H0 c ≠ none → H1 c ≠ none) → RP Z F R H H1 ts xs vs → RP Z F R H H0 ((i, true) :: ts) (x :: xs) (.ref a :: vs)
theorem NewO.ext {H0 F R H F' R' H'} {a : Addr} {d : D} (n : NewO Z H0 F R H a d) (x : EX F R H F' R' H') : NewO Z H0 F' R' H' a d := by
  obtain ⟨h, n⟩ := n
  refine ⟨h, ?_⟩
  rcases n with ⟨xs, vs, h1, tk, rs⟩ | ⟨h1, tk⟩
  · exact .inl ⟨xs, vs, h1, tk.ext x, rs.mono x.f x.r⟩
  · exact .inr ⟨h1, tk.ext x⟩
theorem NewO.there {H0 F R H} {a : Addr} {d : D} (n : NewO Z H0 F R H a d) : H a ≠ none := by
  obtain ⟨h, n⟩ := n
  rcases n with ⟨xs, vs, h1, tk, rs⟩ | ⟨h1, tk⟩
  · rw [tk.1]; exact fun z => nomatch z
  · rw [tk.1]; exact fun z => nomatch z
theorem RP.ext {F R H F' R' H'} (x : EX F R H F' R' H') : ∀ {H0 ts xs vs}, RP Z F R H H0 ts xs vs → RP Z F' R' H' H0 ts xs vs
  | _, _, _, _, .nil => .nil
  | _, _, _, _, .v r p => .v (r.mono x.f x.r) (p.ext x)
  | _, _, _, _, .o n h g p => .o (n.ext x) h g (p.ext x)
theorem RP.down {F R H} : ∀ {H0 H1 : Hp} {ts xs vs}, RP Z F R H H1 ts xs vs → (∀ c, H0 c ≠ none → H1 c ≠ none) → RP Z F R H H0 ts xs vs
  | _, _, _, _, _, .nil, _ => .nil
  | _, _, _, _, _, .v r p, h => .v r (p.down h)
  | H0, H1, _, _, _, @RP.o _ _ _ _ _ _ _ _ _ a _ _ n g1 g2 p, h => .o ⟨by
      by_cases z : H0 a = none
      · exact z
      · exact absurd n.1 (h a z), n.2⟩ g1 (fun c hc => g2 c (h c hc)) p
theorem RP.length {F R H} : ∀ {H0 : Hp} {ts xs vs}, RP Z F R H H0 ts xs vs → ts.length = vs.length ∧ xs.length = vs.length
  | _, _, _, _, .nil => ⟨rfl, rfl⟩
  | _, _, _, _, .v _ p => ⟨congrArg (· + 1) p.length.1, congrArg (· + 1) p.length.2⟩
  | _, _, _, _, .o _ _ _ p => ⟨congrArg (· + 1) p.length.1, congrArg (· + 1) p.length.2⟩
def okOs : List (Nat × Bool) → List D → Bool
  | [], [] => true
  | (_, b) :: ts, x :: xs => (!b || isNewD x) && okOs ts xs
  | _, _ => false
def tP (Z : NA) (T : CT) (C : Cl) (ts : List (Nat × Bool)) (m : MA) : TA := fun σ H Q => ∃ N F R mh env, RH Z F R H mh ∧ RE Z N F R H env σ ∧ PO1 (evA T C m env mh) fun xs mh' => okOs ts xs = true ∧ ∀ F' R' H' vs, EX F R H F' R' H' → RH Z F' R' H' mh' → RP Z F' R' H' H ts xs vs → Q vs H'
theorem ne_none_of {F R H F' R' H'} (x : EX F R H F' R' H') : ∀ c, H c ≠ none → H' c ≠ none := fun c h z => by
  cases e : H c with
  | none => exact h e
  | some o =>
    obtain ⟨u, hu⟩ := x.there c o e
    rw [z] at hu
    cases hu
theorem pP_nil : PA X [] (tP Z T C [] .nil) := PA.imp pa_nil fun σ H Q ⟨N, F, R, mh, env, rh, re, q⟩ => q.2 F R H [] EX.refl rh .nil
theorem pP_v {a : ME} {r : MA} {e : Expr} {es : List Expr} {i : Nat} {ts : List (Nat × Bool)} (hs : noStar e = true) (ha : PE X e (tM Z T C a)) (hr : PA X es (tP Z T C ts r)) : PA X (e :: es) (tP Z T C ((i, false) :: ts) (.cons a r)) := by
  refine PA.imp (pa_cons ha hr (star_of hs es X.env)) fun σ H Q q => ?_
  obtain ⟨N, F, R, mh, env, rh, re, q⟩ := q
  obtain ⟨x, m1, e1, q⟩ := PO1.bd (show PO1 ((evE T C a env mh).bd fun x h => (evA T C r env h).bd fun xs h => .ok (x :: xs) h) _ from q)
  obtain ⟨xs, m2, e2, q⟩ := PO1.bd q
  obtain ⟨q0, q⟩ := q
  refine ⟨N, F, R, mh, env, rh, re, PO1.mk e1 fun F1 R1 H1 v1 x1 rh1 t1 => ⟨N, F1, R1, m1, env, rh1, re.ext x1, PO1.mk e2 ⟨(ba2 (show ((!false || isNewD x) && okOs ts xs) = true from q0)).2, fun F2 R2 H2 vs x2 rh2 rs => ?_⟩⟩⟩
  exact q F2 R2 H2 _ (x1.trans x2) rh2 (.v (t1.mono x2.f x2.r) (rs.down (ne_none_of x1)))
theorem pP_o {a : ME} {r : MA} {e : Expr} {es : List Expr} {i : Nat} {ts : List (Nat × Bool)} (hs : noStar e = true) (ha : PE X e (tN Z T C a)) (hr : PA X es (tP Z T C ts r)) : PA X (e :: es) (tP Z T C ((i, true) :: ts) (.cons a r)) := by
  refine PA.imp (pa_cons ha hr (star_of hs es X.env)) fun σ H Q q => ?_
  obtain ⟨N, F, R, mh, env, rh, re, q⟩ := q
  obtain ⟨x, m1, e1, q⟩ := PO1.bd (show PO1 ((evE T C a env mh).bd fun x h => (evA T C r env h).bd fun xs h => .ok (x :: xs) h) _ from q)
  obtain ⟨xs, m2, e2, q⟩ := PO1.bd q
  obtain ⟨q0, q⟩ := q
  obtain ⟨q1, q2⟩ := ba2 (show ((!true || isNewD x) && okOs ts xs) = true from q0)
  refine ⟨N, F, R, mh, env, rh, re, PO1.mk e1 ⟨q1, fun F1 R1 H1 a1 x1 rh1 n1 => ⟨N, F1, R1, m1, env, rh1, re.ext x1, PO1.mk e2 ⟨q2, fun F2 R2 H2 vs x2 rh2 rs => ?_⟩⟩⟩⟩
  exact q F2 R2 H2 _ (x1.trans x2) rh2 (.o (n1.ext x2) n1.there (ne_none_of x1) rs)
def setV : List (Nat × Bool) → List V → L2.St → L2.St
  | (i, _) :: ts, v :: vs, σ => setV ts vs (σ.set i (some v))
  | _, _, σ => σ
theorem asO_new {x : D} {sv : SV} (h : asO true x = some sv) : isNewD x = true := by
  cases x with
  | lst xs => rfl
  | dct kvs => cases kvs with
    | nil => rfl
    | cons _ _ => cases h
  | _ => cases h
theorem setAll_ok : ∀ {ts : List (Nat × Bool)} {xs : List D} {env en : Mi.Env}, setAll ts xs env = some en → okOs ts xs = true
  | [], [], _, _, _ => rfl
  | [], _ :: _, _, _, h => nomatch h
  | _ :: _, [], _, _, h => nomatch h
  | (i, o) :: ts, x :: xs, env, en, h => by
    have h : (match asO o x with
      | some v => setAll ts xs (env.set i (some v))
      | none => none) = some en := h
    cases e : asO o x with
    | none => rw [e] at h; cases h
    | some sv =>
      rw [e] at h
      show ((!o || isNewD x) && okOs ts xs) = true
      rw [setAll_ok h, Bool.and_true]
      cases o with
      | false => rfl
      | true => exact asO_new e
theorem own_at {N : EN} {F H : Hp} {R : List Addr} {env : Mi.Env} {σ : L2.St} (re : RE Z N F R H env σ) (j : Nat) (u : MO) (b : Addr) (e1 : env[j]? = some (some (.own u))) (e2 : σ[j]? = some (some (.ref b))) : H b ≠ none := by
  obtain ⟨a, h1, ow, _⟩ := re.own j u e1
  rw [h1] at e2
  cases e2
  obtain ⟨w, hw⟩ := ow.1.there
  rw [hw]
  exact fun z => nomatch z
def ts0 (ts : List (Nat × Bool)) : Bool := ts.all fun p => !p.2 || decide (p.1 ≠ 0)
theorem RP.sets {N : EN} {F H : Hp} {R : List Addr} : ∀ {H0 : Hp} {ts : List (Nat × Bool)} {xs : List D} {vs : List V} {env en : Mi.Env} {σ : L2.St}, RP Z F R H H0 ts xs vs → ts0 ts = true → RE Z N F R H env σ → setAll ts xs env = some en → (∀ c, N.H c ≠ none → H0 c ≠ none) →
    (∀ (j : Nat) u b, env[j]? = some (some (.own u)) → σ[j]? = some (some (.ref b)) → H0 b ≠ none) → RE Z N F R H en (setV ts vs σ)
  | _, _, _, _, env, en, σ, .nil, _, re, h, _, _ => by cases h; exact re
  | H0, _, _, _, env, en, σ, @RP.v _ _ _ _ _ i ts x w xs vs r p, t0, re, h, hN, ho => by
    have t1 := (ba2 (show ((!false || decide (i ≠ 0)) && ts0 ts) = true from t0)).2
    refine p.sets t1 (re.set i r) h hN fun j u b e1 e2 => ?_
    rw [List.getElem?_set] at e1 e2
    by_cases z : i = j
    · rw [if_pos z] at e1
      split at e1 <;> cases e1
    · rw [if_neg z] at e1 e2
      exact ho j u b e1 e2
  | H0, _, _, _, env, en, σ, @RP.o _ _ _ _ _ H1 i ts x a xs vs n g1 g2 p, t0, re, h, hN, ho => by
    obtain ⟨ti, t1⟩ := ba2 (show ((!true || decide (i ≠ 0)) && ts0 ts) = true from t0)
    have ti : i ≠ 0 := of_decide_eq_true ti
    have h : (match asO true x with
      | some sv => setAll ts xs (env.set i (some sv))
      | none => none) = some en := h
    obtain ⟨n0, n1⟩ := n
    have na : N.H a = none := by
      by_cases z : N.H a = none
      · exact z
      · exact absurd n0 (hN a z)
    have new : ∀ (j : Nat) u, j ≠ i → env[j]? = some (some (.own u)) → σ[j]? ≠ some (some (.ref a)) := fun j u _ e z => ho j u a e z n0
    obtain ⟨o, eo, ow⟩ : ∃ o, asO true x = some (.own o) ∧ Own Z F R H o a := by
      rcases n1 with ⟨ys, ws, rfl, tk, rs⟩ | ⟨rfl, tk⟩
      · exact ⟨_, rfl, ⟨ws, tk.1, rs⟩, tk.2.1, tk.2.2⟩
      · exact ⟨_, rfl, ⟨[], tk.1, .nil⟩, tk.2.1, tk.2.2⟩
    rw [eo] at h
    refine p.sets t1 (re.setOwn i ow na new (.inr ti)) h (fun c hc => g2 c (hN c hc)) fun j u b e1 e2 => ?_
    rw [List.getElem?_set] at e1 e2
    by_cases z : i = j
    · rw [if_pos z] at e2
      split at e2
      · cases e2
        exact g1
      · cases e2
    · rw [if_neg z] at e1 e2
      exact g2 b (ho j u b e1 e2)
/-- what a parallel store asks -/
theorem par_core {N : EN} {ts : List (Nat × Bool)} {es : MA} {F H : Hp} {R : List Addr} {mh : MH} {env : Mi.Env} {σ : L2.St} {E : Ends} (h0 : ts0 ts = true) (re : RE Z N F R H env σ) (ex : EX N.F N.R N.H F R H) (q : PO1 (evS T C (.par ts es) env mh) (KS Z N F R E)) :
    PO1 (evA T C es env mh) fun xs mh' => okOs ts xs = true ∧ ∀ F' R' H' vs, EX F R H F' R' H' → RH Z F' R' H' mh' → RP Z F' R' H' H ts xs vs → ∀ F2 H2, EX F' R' H' F2 R' H2 → RH Z F2 R' H2 mh' → E.nx (setV ts vs σ) H2 := by
  obtain ⟨xs, m1, e1, q⟩ := PO1.bd (show PO1 ((evA T C es env mh).bd fun xs h => (ofO (setAll ts xs env) h).bd fun en h => .ok (Fl.nx en) h) _ from q)
  obtain ⟨en, m2, e2, qq⟩ := PO1.bd q
  have e3 : setAll ts xs env = some en ∧ m2 = m1 := by
    cases e : setAll ts xs env with
    | none => rw [e] at e2; cases e2
    | some z => rw [e] at e2; cases e2; exact ⟨rfl, rfl⟩
  obtain ⟨e3, rfl⟩ := e3
  refine PO1.mk e1 ⟨setAll_ok e3, fun F' R' H' vs x1 rh1 rp F2 H2 x2 rh2 => ?_⟩
  have x12 := x1.trans x2
  have re2 := re.ext x12
  have qq : KS Z N F R E (.nx en) m2 := qq
  exact qq F2 R' H2 _ (.of x12) (ex.trans x12) rh2 ((rp.ext x2).sets h0 re2 e3 (ne_none_of ex) (fun j u b => own_at re j u b))
def lcl (sc : Scope) (x : Str) : Bool := decide (sc.names.lookup x = some .local)
/-- a, b = x, y; plain locals -/
theorem stm_par2 (hc : CtxOk Z M k X) {i j : Nat} {bi bj : Bool} {es : MA} {x y : Str} {a b : Expr} {px py pt pos : Pos} {kt k2 : Nat} {pt2 : Pos} (h0 : ts0 [(i, bi), (j, bj)] = true) (hi : X.N[i]? = some x) (hj : X.N[j]? = some y) (hij : i ≠ j)
    (hx : X.env.scope.names.lookup x = some .local) (hy : X.env.scope.names.lookup y = some .local) (ha : PA X [a, b] (tP Z T C [(i, bi), (j, bj)] es))
    (hw : swappedStores [.Tuple [.Name x px, .Name y py] kt pt] (.Tuple [a, b] k2 pt2) X.env = pure (some [x, y])) :
    PS X (.Assign [.Tuple [.Name x px, .Name y py] kt pt] (.Tuple [a, b] k2 pt2) pos) (tS Z T C (.par [(i, bi), (j, bj)] es)) := PS.imp (ps_par hc.calm hc.nd hi hj hij hx hy ha hw) fun E σ H q => by
  obtain ⟨N, F, R, mh, env, rh, re, ex, q⟩ := q
  obtain ⟨xs, m1, e1, q0, q⟩ := PO1.get (par_core h0 re ex q)
  refine ⟨N, F, R, mh, env, rh, re, PO1.mk e1 ⟨q0, fun F1 R1 H1 vs x1 rh1 rp => ?_⟩⟩
  have := q F1 R1 H1 vs x1 rh1 rp F1 H1 EX.refl rh1
  have hl := rp.length.1
  match vs, hl, this with
  | [v, w], _, this => exact ⟨v, w, rfl, this⟩
theorem stm_par3 (hc : CtxOk Z M k X) {i j l : Nat} {bi bj bl : Bool} {es : MA} {x y z : Str} {a b c : Expr} {px py pz pt pos : Pos} {kt k2 : Nat} {pt2 : Pos} (h0 : ts0 [(i, bi), (j, bj), (l, bl)] = true) (hi : X.N[i]? = some x) (hj : X.N[j]? = some y) (hl : X.N[l]? = some z) (hij : i ≠ j) (hil : i ≠ l) (hjl : j ≠ l)
    (hx : X.env.scope.names.lookup x = some .local) (hy : X.env.scope.names.lookup y = some .local) (hz : X.env.scope.names.lookup z = some .local) (ha : PA X [a, b, c] (tP Z T C [(i, bi), (j, bj), (l, bl)] es))
    (hw : swappedStores [.Tuple [.Name x px, .Name y py, .Name z pz] kt pt] (.Tuple [a, b, c] k2 pt2) X.env = pure (some [x, y, z])) :
    PS X (.Assign [.Tuple [.Name x px, .Name y py, .Name z pz] kt pt] (.Tuple [a, b, c] k2 pt2) pos) (tS Z T C (.par [(i, bi), (j, bj), (l, bl)] es)) := PS.imp (ps_par3 hc.calm hc.nd hi hj hl hij hil hjl hx hy hz ha hw) fun E σ H q => by
  obtain ⟨N, F, R, mh, env, rh, re, ex, q⟩ := q
  obtain ⟨xs, m1, e1, q0, q⟩ := PO1.get (par_core h0 re ex q)
  refine ⟨N, F, R, mh, env, rh, re, PO1.mk e1 ⟨q0, fun F1 R1 H1 vs x1 rh1 rp => ?_⟩⟩
  have := q F1 R1 H1 vs x1 rh1 rp F1 H1 EX.refl rh1
  have hl := rp.length.1
  match vs, hl, this with
  | [v, w, u], _, this => exact ⟨v, w, u, rfl, this⟩
/-- the same by way of the tuple -/
theorem setMany_V : ∀ (ts : List (Nat × Bool)) (vs : List V) (σ : L2.St), setMany (ts.map (·.1)) vs σ = setV ts vs σ
  | [], [], σ => rfl
  | [], _ :: _, _ => rfl
  | _ :: _, [], _ => rfl
  | (i, b) :: ts, v :: vs, σ => setMany_V ts vs _
theorem gMany_set (ts : List (Nat × Bool)) (vs : List V) (σ : L2.St) (H : Hp) (Q : L2.St → Hp → Prop) (h : ts.length = vs.length) (q : Q (setV ts vs σ) H) : gMany (ts.map (·.1)) vs σ H Q := ⟨by rw [List.length_map]; exact h, by rw [setMany_V]; exact q⟩
theorem stm_parU (hc : CtxOk Z M k X) {ts : List (Nat × Bool)} {es : MA} {tge : Expr} {as : List Expr} {pos pt2 : Pos} {k2 : Nat} (h0 : ts0 ts = true) (hl : decide (ts.length ≤ lim) = true) (hg : PG X tge (gTup X.K ts.length (gMany (ts.map (·.1))))) (ha : PA X as (tP Z T C ts es))
    (hs : swapsWithSole [tge] (.Tuple as k2 pt2) pos.line X.env = pure false) (hw : swappedStores [tge] (.Tuple as k2 pt2) X.env = pure none) (h1 : (assignEach [tge] X.env).map (·.2) = [assign tge X.env]) :
    PS X (.Assign [tge] (.Tuple as k2 pt2) pos) (tS Z T C (.par ts es)) := PS.imp (ps_asg (pe_tup ha) hg hs hw h1) fun E σ H q => by
  obtain ⟨N, F, R, mh, env, rh, re, ex, q⟩ := q
  obtain ⟨xs, m1, e1, q0, q⟩ := PO1.get (par_core h0 re ex q)
  refine ⟨N, F, R, mh, env, rh, re, PO1.mk e1 ⟨q0, fun F1 R1 H1 vs x1 rh1 rp => ?_⟩⟩
  refine ⟨by rw [← rp.length.1]; exact lim_line (of_decide_eq_true hl), fun p hp => ⟨p, vs, rfl, SqT.of upd_same, rp.length.1.symm, ?_⟩⟩
  exact gMany_set ts vs σ _ _ rp.length.1 (q F1 R1 H1 vs x1 rh1 rp F1 _ (EX.own hp) (rh1.own hp))
/-- a, b = e -/
theorem stm_unp (hc : CtxOk Z M k X) {is : List Nat} {m : ME} {tge e : Expr} {pos : Pos} (hg : PG X tge (gTg X.K (.many is))) (he : PE X e (tM Z T C m))
    (hs : swapsWithSole [tge] e pos.line X.env = pure false) (hw : swappedStores [tge] e X.env = pure none) (h1 : (assignEach [tge] X.env).map (·.2) = [assign tge X.env]) :
    PS X (.Assign [tge] e pos) (tS Z T C (.unp is m)) := PS.imp (ps_asg he hg hs hw h1) fun E σ H q => by
  obtain ⟨N, F, R, mh, env, rh, re, ex, q⟩ := q
  obtain ⟨d, m1, e1, q⟩ := PO1.bd (show PO1 ((evE T C m env mh).bd fun x h => (match x with
    | .tup xs => (ofO (bindMany is xs env) h).bd fun en h => .ok (Fl.nx en) h
    | _ => .no)) _ from q)
  refine ⟨N, F, R, mh, env, rh, re, PO1.mk e1 fun F1 R1 H1 v x1 rh1 t1 => ?_⟩
  cases d with
  | tup xs =>
    obtain ⟨en, m2, e2, qq⟩ := PO1.bd (show PO1 ((ofO (bindMany is xs env) m1).bd fun en h => .ok (Fl.nx en) h) _ from q)
    have e3 : bindMany is xs env = some en ∧ m2 = m1 := by
      cases e : bindMany is xs env with
      | none => rw [e] at e2; cases e2
      | some z => rw [e] at e2; cases e2; exact ⟨rfl, rfl⟩
    obtain ⟨e3, rfl⟩ := e3
    exact gTg_re rh1 (re.ext x1) t1 (show bindT (.many is) (.tup xs) env = some en from e3) fun σ' re' _ => (show KS Z N F R E (.nx en) m2 from qq) F1 R1 H1 σ' (.of x1) (ex.trans x1) rh1 re'
  | _ => cases q
/-! ### attributes, two at once -/
theorem pg_fld {o : Expr} {f : Str} {pos : Pos} {to : TE} (ho : PE X o to) : PG X (.Attribute o f pos) (fun v σ H Q => to σ H fun x H1 => ∃ a C' dx fs, x = V.ref a ∧ H1 a = some (.ins C' dx fs) ∧ Cls X.K C' ∧ NoAttr X.K C' f ∧ fs.length < 1000 ∧ Q σ (upd H1 a (.ins C' dx (L2.putF f v fs)))) := by
  refine ⟨fun pins s σ H v u Q I r h => ?_⟩
  have e : assign (.Attribute o f pos) X.env u = (do
    let ov ← holding [u] (eval o X.env)
    standAt pos.atName
    holding [u, ov] (setAttr ov f u)
    release [u, ov] []) := rfl
  rw [e]
  refine wpAny_bind (wpAny_holding (thn (ho.run pins s σ H _ I h) fun ov s1 ⟨x, H1, I1, r1, a, C', dx, fs, ex, ea, c, n, hl, q1⟩ => ?_))
  subst ex
  obtain rfl : ov = Value.ref a := r1
  refine wpAny_bind (wpAny_standAt (wpAny_bind (wpAny_holding ?_)))
  exact setattr_ok I1 ea c n hl r fun s3 I3 => wpAny_release ⟨σ, _, I3, q1⟩
theorem putF_len (f : Nat) (d : D) : ∀ fs : List (Nat × D), (putF f d fs).length ≤ fs.length + 1
  | [] => Nat.le_refl _
  | (g, u) :: r => by
    unfold putF
    split
    · exact Nat.le_succ _
    · exact Nat.succ_le_succ (putF_len f d r)
theorem stm_pattr (hc : CtxOk Z M k X) (co : CallOk Z M T C CX fa fi k X) {i f g : Nat} {m1 m2 : ME} {x x' y z : Str} {ea eb : Expr} {px px' ap ap' pt pos pt2 : Pos} {kt k2 : Nat} (hy : y = M.at_ f) (hz : z = M.at_ g) (hv : mtVar X.N X.env.scope i x = true) (hv' : mtVar X.N X.env.scope i x' = true)
    (sa : noStar ea = true) (sb : noStar eb = true) (ha : PE X ea (tM Z T C m1)) (hb : PE X eb (tM Z T C m2)) (hw : swappedStores [.Tuple [.Attribute (.Name x px) y ap, .Attribute (.Name x' px') z ap'] kt pt] (.Tuple [ea, eb] k2 pt2) X.env = pure none) :
    PS X (.Assign [.Tuple [.Attribute (.Name x px) y ap, .Attribute (.Name x' px') z ap'] kt pt] (.Tuple [ea, eb] k2 pt2) pos) (tS Z T C (.pattr (.var i) f g m1 m2)) := by
  subst hy
  subst hz
  refine PS.imp (ps_asg (pe_tup (pa_cons ha (pa_cons hb pa_nil (star_of sb _ _)) (star_of sa _ _))) (pg_tup hc.calm (pgs_cons (pg_fld (snd_var0 hv)) (pgs_cons (pg_fld (snd_var0 hv')) pgs_nil))) rfl hw rfl) fun E σ H q => ?_
  obtain ⟨N, F, R, mh, env, rh, re, ex, q⟩ := q
  obtain ⟨d1, n1, e1, q⟩ := PO1.bd (show PO1 ((evE T C m1 env mh).bd fun x h => (evE T C m2 env h).bd fun y h => (match env[i]? with
      | some (some (.own (.ins c fs))) => if T.fld c f && T.fld c g && decide (fs.length < 900) then Out.ok (Fl.nx (env.set i (some (.own (.ins c (putF g y (putF f x fs))))))) h else .no
      | _ => .no)) _ from q)
  obtain ⟨d2, n2, e2, q⟩ := PO1.bd q
  refine ⟨N, F, R, mh, env, rh, re, PO1.mk e1 fun F1 R1 H1 v1 x1 rh1 t1 => ⟨N, F1, R1, n1, env, rh1, re.ext x1, PO1.mk e2 fun F2 R2 H2 v2 x2 rh2 t2 => ?_⟩⟩
  have t1 := t1.mono x2.f x2.r
  have x12 := x1.trans x2
  refine ⟨lim_line (show 2 ≤ lim by decide), fun p hp => ⟨p, [v1, v2], rfl, SqT.of upd_same, rfl, ?_⟩⟩
  cases es : env[i]? with
  | none =>
    rw [es] at q
    cases q
  | some sv =>
    rw [es] at q
    match sv, es, q with
    | some (.own (.ins c fs)), es, q =>
      have q : PO1 (if T.fld c f && T.fld c g && decide (fs.length < 900) then Out.ok (Fl.nx (env.set i (some (.own (.ins c (putF g d2 (putF f d1 fs))))))) n2 else .no) _ := q
      obtain ⟨b, hσ, ow, hN⟩ := re.own i _ es
      obtain ⟨⟨dx, fv, h1, hg, rf⟩, hF, hR⟩ := ow
      have x3 : EX F R H F2 R2 (upd H2 p (.tup [v1, v2])) := x12.trans (EX.own hp)
      have tk : Trk F2 R2 (upd H2 p (.tup [v1, v2])) b (.ins (Z.ca c) dx fv) := Trk.ext ⟨h1, hF, hR⟩ x3
      cases hz : T.fld c f && T.fld c g && decide (fs.length < 900) with
      | false =>
        rw [hz] at q
        cases q
      | true =>
        rw [hz] at q
        obtain ⟨z0, z2⟩ := ba2 hz
        obtain ⟨z1, z1'⟩ := ba2 z0
        obtain ⟨cl, na, zf⟩ := co.fd c f z1
        obtain ⟨cl', na', zf'⟩ := co.fd c g z1'
        have z3 : fs.length < 900 := of_decide_eq_true z2
        have rf2 := RFs.mono x3.f x3.r rf
        have rp1 := rf_put (c := c) (fun g' g1 g2 => co.inj c g' f g1 zf g2) t1 rf2 hg
        have hg1 := put_fld (d := d1) zf hg
        refine ⟨v1, [v2], rfl, _, hσ, b, Z.ca c, dx, fv, rfl, tk.1, cl, na, by rw [← rf_len rf]; omega, ?_⟩
        refine ⟨v2, [], rfl, _, hσ, b, Z.ca c, dx, _, rfl, upd_same, cl', na', ?_, ?_⟩
        · have l1 := rf_len rp1
          have l2 := putF_len f d1 fs
          rw [co.an, ← l1]
          omega
        · refine ⟨rfl, ?_⟩
          rw [co.an, co.an, upd_upd]
          have hp2 : RH Z F2 R2 (upd H2 p (.tup [v1, v2])) n2 := rh2.own hp
          refine q F2 R2 _ σ (.of x12) ((ex.trans x3).upd hN) (hp2.upd tk.2.1 tk.2.2) ?_
          exact (re.ext x3).mutOwn (o' := .ins c (putF g d2 (putF f d1 fs))) es hσ tk.2.1 tk.2.2 hN ⟨dx, _, upd_same, put_fld zf' hg1, rf_put (c := c) (fun g' g1 g2 => co.inj c g' g g1 zf' g2) t2 rp1 hg1⟩ (fun c' fs' z => by
            cases z
            exact ⟨_, rfl⟩)
end
end Mi
/-! MiStm3: statements, further: extend, items of one's own things, comprehensions that are stored. -/
namespace Mi
open PySem PySem.Spec PyProof.Rows L2

section
variable {Z : NA} {M : NM} {T : CT} {C : Cl} {k : Nat} {X : Cx} {CX : CXT} {fa fi : Nat → Addr}
theorem stm_raise {st : Stmt} {c : Nat} {es : MA} : PS X st (tS Z T C (.raise c es)) := ⟨fun pins s σ H E I q => by
  obtain ⟨N, F, R, mh, env, rh, re, ex, q⟩ := q
  cases q⟩
theorem stm_retO (hc : CtxOk Z M k X) {s : Nat} {x : Str} {px pos : Pos} (hv : mtVar X.N X.env.scope s x = true) : PS X (.Return (some (.Name x px)) pos) (tS Z T C (.retO s)) := PS.imp (ps_ret (snd_var0 hv)) fun E σ H q => by
  obtain ⟨N, F, R, mh, env, rh, re, ex, q⟩ := q
  have q : PO1 (match env[s]? with
    | some (some (.own (.lst xs))) => Out.ok (Fl.rt (.lst xs)) mh
    | _ => .no) _ := q
  cases es : env[s]? with
  | none =>
    rw [es] at q
    cases q
  | some sv =>
    rw [es] at q
    match sv, es, q with
    | some (.own (.lst xs)), es, q =>
      obtain ⟨F2, v, f1, k1, k2, k3, k4, k5⟩ := frz_all (d := .lst xs) rh re ex es (.inl ⟨xs, rfl, rfl⟩)
      exact ⟨v, k4, q F2 R H v f1 k1 k2 k5⟩
def rExtendR : V → List V → Hp → VK → Prop := fun x vs H Q => ∃ l b xs zs, x = .ref l ∧ vs = [.ref b] ∧ H l = some (.lst xs) ∧ Rd H b (.lst zs) ∧ xs.length + zs.length ≤ sizeLine ∧ Q .non (upd H l (.lst (xs ++ zs)))
theorem mt_extendR : MtM X "list.extend" rExtendR := by
  intro pins s σ H x vs v us Q I rx rv h
  obtain ⟨l, b, xs, zs, rfl, rfl, hH, hB, hz, q⟩ := h
  cases rx
  obtain ⟨u, rfl, ru⟩ := rv.one
  cases ru
  obtain ⟨z, its, n, r, hl, e⟩ := I.lstM hH
  obtain ⟨z2, its2, n2, r2, e2⟩ := hB.ok I.hok
  have hl2 := r2.length
  have hsz : its.toArray.size + its2.toArray.size ≤ sizeLine := by rw [List.size_toArray, List.size_toArray]; omega
  have hlong : ¬ (!its.toArray.isEmpty && Builtin.List.listTooLong (its.toArray.size + its2.toArray.size)) = true := by
    rw [notLongL hsz, Bool.and_false]
    exact Bool.false_ne_true
  have hsl := line63
  refine call_meets F.slot_list_extend ⟨_, e, rfl⟩ F.entry_list_extend (F.args_list_extend_2 _ _)
    (AutoSeq1.list_extend_list_list_0 l its.toArray n b its2.toArray n2 hlong (by rw [List.size_toArray]; omega) (by omega)) ⟨e, e2, ?_⟩
  refine ⟨.non, _, I.lset (its' := its ++ its2) hH e (by simp) (r.append r2) ?_, rfl, q⟩
  rw [List.length_append]
  omega
/-- s.extend(e) -/
theorem stm_ext (hc : CtxOk Z M k X) {s : Nat} {a : ME} {x : Str} {e : Expr} {px ap cp pos : Pos} (hv : mtVar X.N X.env.scope s x = true) (hs : noStar e = true) (hl : (ap.endLine == cp.line) = true) (he : PE X e (tM Z T C a)) :
    PS X (.Expr (.Call (.Attribute (.Name x px) "extend" ap) [e] [] cp) pos) (tS Z T C (.ext s a)) := by
  have hp : plainArgs [e] = true := by
    show (noStar e && true) = true
    rw [hs] <;> rfl
  have hfew : ((backTo cp (starEach [e] X.env)).all (fun x => !x.1) && (backToKw cp (keywordEach [] X.env)).all (fun x => x.1.isSome)
      && decide ([e].length + ([] : List Keyword).length + (if ([] : List Keyword).isEmpty then 0 else 1) < 30)) = true := by
    rw [plain_few hp] <;> rfl
  have core : PE X (.Call (.Attribute (.Name x px) "extend" ap) [e] [] cp) (tBM X.K "list" rExtendR (tVar s) (tCons (tM Z T C a) tNil)) :=
    pe_bm F.plainAttrs_list F.slot_list_extend F.type_list_extend mt_extendR (snd_var0 hv) (pa_cons he pa_nil (star_of hs _ _)) rfl hfew hl (star_of hs _ _) (few_any hp)
  refine PS.imp (ps_expr core rfl) fun E σ H q => ?_
  obtain ⟨N, F, R, mh, env, rh, re, ex, q⟩ := q
  obtain ⟨d, m1, e1, q⟩ := PO1.bd (show PO1 ((evE T C a env mh).bd fun v h => (match v, env[s]? with
    | .lst ys, some (some (.own (.lst xs))) => if xs.length + ys.length ≤ lim then Out.ok (Fl.nx (env.set s (some (.own (.lst (xs ++ ys)))))) h else .no
    | _, _ => .no)) _ from q)
  cases d with
  | lst ys =>
    cases es : env[s]? with
    | none =>
      rw [es] at q
      cases q
    | some sv =>
      rw [es] at q
      match sv, es, q with
      | some (.own (.lst xs)), es, q =>
        have q : PO1 (if xs.length + ys.length ≤ lim then Out.ok (Fl.nx (env.set s (some (.own (.lst (xs ++ ys)))))) m1 else .no) _ := q
        obtain ⟨b, hσ, ow, hN⟩ := re.own s _ es
        obtain ⟨⟨vs, hv', rs⟩, hF, hR⟩ := ow
        refine ⟨_, hσ, .inl ⟨rfl, vs, .inl (.inl hv')⟩, N, F, R, mh, env, rh, re, PO1.mk e1 fun F1 R1 H1 v x1 rh1 t1 => ?_⟩
        have tk : Trk F1 R1 H1 b (.lst vs) := Trk.ext ⟨hv', hF, hR⟩ x1
        by_cases hz : xs.length + ys.length ≤ lim
        · rw [if_pos hz] at q
          cases t1 with
          | @lst ad _ ws hr rs2 =>
            refine ⟨b, ad, vs, ws, rfl, rfl, tk.1, rd_mono rh1.sub hr, by rw [← rs.length, ← rs2.length]; exact lim_line hz, ?_⟩
            refine q F1 R1 _ σ (.of x1) ((ex.trans x1).upd hN) (rh1.upd tk.2.1 tk.2.2) ?_
            exact (re.ext x1).mutOwn es hσ tk.2.1 tk.2.2 hN ⟨_, upd_same, (rs.mono x1.f x1.r).append rs2⟩ (fun c fs z => by cases z)
        · rw [if_neg hz] at q
          cases q
  | _ => cases q
/-! ### a dict of one's own, its keys ints and texts -/
theorem kyk_eq {g k : D} {p q : L2.Key} (hg : KyK g p) (hk : KyK k q) : eqd g k = decide (p = q) := by
  cases hg with
  | int i => cases hk with
    | int j =>
      show (i == j) = _
      by_cases h : i = j
      · subst h; simp
      · rw [decide_eq_false (fun z => h (Sum.inl.inj z))]; simp [h]
    | str y => simp [eqd]
  | str x => cases hk with
    | int j => simp [eqd]
    | str y =>
      show (x == y) = _
      by_cases h : x = y
      · subst h; simp
      · rw [decide_eq_false (fun z => h (Sum.inr.inj z))]; simp [h]
theorem rks_any {F : Hp} {R : List Addr} {k : D} {q : L2.Key} (hk : KyK k q) : ∀ {kvs : List (D × D)} {vs : List (L2.Key × V)}, RKs Z F R kvs vs → (kvs.any fun z => eqd z.1 k) = vs.any fun z => decide (z.1 = q)
  | _, _, .nil => rfl
  | _, _, .cons g r rs => by
    rw [List.any_cons, List.any_cons, rks_any hk rs, kyk_eq g hk]
theorem rks_append {F : Hp} {R : List Addr} : ∀ {a b : List (D × D)} {va vb : List (L2.Key × V)}, RKs Z F R a va → RKs Z F R b vb → RKs Z F R (a ++ b) (va ++ vb)
  | _, _, _, _, .nil, h => h
  | _, _, _, _, .cons g r rs, h => .cons g r (rks_append rs h)
theorem rks_map {F : Hp} {R : List Addr} {k x : D} {q : L2.Key} {v : V} (hk : KyK k q) (rd : RD Z F R x v) : ∀ {kvs : List (D × D)} {vs : List (L2.Key × V)}, RKs Z F R kvs vs → RKs Z F R (kvs.map (fun z => if eqd z.1 k then (z.1, x) else z)) (vs.map (fun kv => if kv.1 = q then (kv.1, v) else kv))
  | _, _, .nil => .nil
  | _, _, @RKs.cons _ _ _ g y p w xs vs hg rw' rs => by
    rw [List.map_cons, List.map_cons]
    show RKs Z F R ((if eqd g k then (g, x) else (g, y)) :: _) ((if p = q then (p, v) else (p, w)) :: _)
    rw [kyk_eq hg hk]
    by_cases z : p = q
    · rw [if_pos (by rw [decide_eq_true z]), if_pos z]
      exact .cons hg rd (rks_map hk rd rs)
    · rw [if_neg (by rw [decide_eq_false z]; decide), if_neg z]
      exact .cons hg rw' (rks_map hk rd rs)
theorem rks_put {F : Hp} {R : List Addr} {k x : D} {q : L2.Key} {v : V} (hk : KyK k q) (rd : RD Z F R x v) {kvs : List (D × D)} {vs : List (L2.Key × V)} (h : RKs Z F R kvs vs) : RKs Z F R (putD k x kvs) (putK vs q v) := by
  unfold putK putD
  rw [← rks_any hk h]
  split
  · exact rks_map hk rd h
  · exact rks_append h (.cons hk rd .nil)
theorem rks_len {F : Hp} {R : List Addr} : ∀ {kvs : List (D × D)} {vs : List (L2.Key × V)}, RKs Z F R kvs vs → kvs.length = vs.length
  | _, _, .nil => rfl
  | _, _, .cons _ _ r => congrArg (· + 1) (rks_len r)
end
end Mi
/-! MiNest: a dict of one's own whose keys are tuples of any depth; o[i] = v for every thing of one's own. -/
namespace Mi
open PySem PySem.Spec PyProof.Rows L2

section
variable {X : Cx}
def rSetN (P : Program) (w : World) : V → V → V → Hp → (Hp → Prop) → Prop := fun o i v H Q => ∃ a b q xs, o = .ref a ∧ i = .ref b ∧ (∀ h, HOk P w H h → (nestedKind P w).is h q b) ∧ (∀ x ∈ xs, ∀ h, HOk P w H h → (nestedKind P w).is h x.1 x.2.1) ∧ xs.length ≤ sizeLine ∧
  (H a = some (.ext (NDict P w a xs)) ∨ (xs = [] ∧ H a = some (.dK []))) ∧ ∀ u, RelV v u → Q (upd H a (.ext (NDict P w a (storedH xs q b u))))
theorem ndict_ok {P : Program} {w : World} {H : Hp} {h : Heap} {a : Addr} {xs : List (NestedKey × Addr × Value)} (hd : (a == sysModules) = false) (d : h.DictOfH (nestedKind P w) a xs) : ObjOk P w H h a (.ext (NDict P w a xs)) := by
  obtain ⟨o, es, ep, h1, h2, h3, h4, _, h5⟩ := d
  refine ⟨⟨hd, o, es, ep, h1, h2, h3, h4, h5⟩, ⟨o, h1⟩, fun g1 g2 q e => ?_⟩
  obtain ⟨hd', o', es', ep', q1, q2, q3, q4, q5⟩ := q
  exact ⟨hd', o', es', ep', e o' q1, q2, q3, q4, q5⟩
theorem set_nest (hu : X.A.units + 9 < cLine) : PSet X (rSetN X.prog X.w) := by
  intro pins s σ H o i v ov iv u Q I ro ri rv h
  obtain ⟨a, b, q, xs, rfl, rfl, hk, hx, hz, hH, hq⟩ := h
  obtain rfl : ov = Value.ref a := ro
  obtain rfl : iv = Value.ref b := ri
  have room : (nestedKind X.prog X.w).room X.A.in1 := by show X.A.units + 1 + 8 < cLine; omega
  have dd : (a == sysModules) = false ∧ s.heap.DictOfH (nestedKind X.prog X.w) a xs := by
    rcases hH with e | ⟨rfl, e⟩
    · obtain ⟨⟨hd, o, es, ep, h1, h2, h3, h4, h5⟩, _, _⟩ := (show ObjOk X.prog X.w H s.heap a (.ext (NDict X.prog X.w a xs)) from I.hok a _ e)
      exact ⟨hd, o, es, ep, h1, h2, h3, h4, fun x hm => hx x hm _ I.hok, h5⟩
    · obtain ⟨_, hd, vs, rel, o, es, ep, h1, h2, h3, _, h4, _⟩ := (show ObjOk X.prog X.w H s.heap a (.dK []) from I.hok a _ e)
      cases rel
      generalize hes : es.toList = el at h4
      cases h4
      exact ⟨hd, o, es, ep, h1, h2, h3, hes, (fun x hm => nomatch hm), List.nodup_nil⟩
  have mu : Mut (H a) := by
    rcases hH with e | ⟨_, e⟩ <;> rw [e] <;> exact True.intro
  refine wpAny_setItem_heap (hsz := hz) room (hk _ I.hok) dd.2 fun h' dd' hs => ⟨_, ?_, hq u rv⟩
  have he : ∃ q, h'.get? a = some q := let ⟨q, _, _, hq, _⟩ := dd'; ⟨q, hq⟩
  exact d_write I mu hs he (ndict_ok dd.1 dd')
theorem set_or {t1 t2 : TSet} (h1 : PSet X t1) (h2 : PSet X t2) : PSet X (fun o i v H Q => t1 o i v H Q ∨ t2 o i v H Q) := fun pins s σ H o i v ov iv u Q I ro ri rv h => by
  rcases h with h | h
  · exact h1 pins s σ H o i v ov iv u Q I ro ri rv h
  · exact h2 pins s σ H o i v ov iv u Q I ro ri rv h
end
section
variable {Z : NA} {M : NM} {T : CT} {C : Cl} {k : Nat} {X : Cx} {CX : CXT} {fa fi : Nat → Addr}
theorem key1_of {x : D} (h : key1 x = true) {F : Hp} {R : List Addr} {v : V} (r : RD Z F R x v) : ∃ q, KyK x q ∧ v = kV q := by
  cases x with
  | int i =>
    cases r
    exact ⟨.inl i, .int i, rfl⟩
  | str i =>
    cases r
    exact ⟨.inr i, .str i, rfl⟩
  | _ => cases h
theorem tupD_of {x : D} (h : isTupD x = true) {F : Hp} {R : List Addr} {v : V} (r : RD Z F R x v) : ∃ b, v = .ref b := by
  cases x with
  | tup xs =>
    cases r with
    | tup h r => exact ⟨_, rfl⟩
  | _ => cases h
/-- s[i] = e, s owning a list or a dict -/
theorem stm_oidx (hP : X.prog = Z.P) (hw : X.w = Z.w) (hc : CtxOk Z M k X) {s : Nat} {i a : ME} {x : Str} {px tp pos : Pos} {ei e : Expr} (hn : noSlice ei = true) (hv : mtVar X.N X.env.scope s x = true) (hi : PE X ei (tM Z T C i)) (he : PE X e (tM Z T C a)) :
    PS X (.Assign [.Subscript (.Name x px) ei tp] e pos) (tS Z T C (.oidx s i a)) := by
  have hu := hc.room.un
  refine PS.imp (ps_asg he (pg_sub (snd_var0 hv) hi (set_or set_list (set_or (set_dict (by omega)) (set_nest (by omega)))) (asg_sub hn)) (show swapsWith e (some (.Subscript (.Name x px) ei tp)) pos.line X.env = pure false from swaps_sub) (show swappedStores [.Subscript (.Name x px) ei tp] e X.env = pure none from rfl)) fun E σ H q => ?_
  obtain ⟨N, F, R, mh, env, rh, re, ex, q⟩ := q
  obtain ⟨d, m1, e1, q⟩ := PO1.bd (show PO1 ((evE T C a env mh).bd fun v h => (evE T C i env h).bd fun x h => (match env[s]? with
    | some (some (.own (.lst xs))) => (match x with
      | .int j => (match L2.ixN xs.length j with
        | some k => Out.ok (Fl.nx (env.set s (some (.own (.lst (xs.set k v)))))) h
        | none => .no)
      | _ => .no)
    | some (some (.own o)) => (match setK o x v with
      | some o' => .ok (.nx (env.set s (some (.own o')))) h
      | none => .no)
    | _ => .no)) _ from q)
  obtain ⟨di, m2, e2, q⟩ := PO1.bd q
  have step : ∀ o, env[s]? = some (some (.own o)) → (∃ o', PO1 (Out.ok (Fl.nx (env.set s (some (.own o')))) m2) (KS Z N F R E) ∧ (∀ c fs, o' ≠ .ins c fs) ∧
      ∀ F2 R2 H2 v1 v2 b, EX F R H F2 R2 H2 → RH Z F2 R2 H2 m2 → RO Z F2 R2 H2 o b → RD Z F2 R2 d v1 → RD Z F2 R2 di v2 → ∀ Q : Hp → Prop, (∀ u, RO Z F2 R2 (upd H2 b u) o' b → Q (upd H2 b u)) → rSetL (.ref b) v2 v1 H2 Q ∨ rSetD (.ref b) v2 v1 H2 Q ∨ rSetN X.prog X.w (.ref b) v2 v1 H2 Q) →
      tM Z T C a σ H fun x H1 => gSub (tVar s) (tM Z T C i) (fun o i v H Q => rSetL o i v H Q ∨ rSetD o i v H Q ∨ rSetN X.prog X.w o i v H Q) x σ H1 E.nx := by
    rintro o es ⟨o', q, no, g⟩
    obtain ⟨b, hσ, ⟨ro, hF, hR⟩, hN⟩ := re.own s _ es
    refine ⟨N, F, R, mh, env, rh, re, PO1.mk e1 fun F1 R1 H1 v1 x1 rh1 t1 => ⟨_, hσ, N, F1, R1, m1, env, rh1, re.ext x1, PO1.mk e2 fun F2 R2 H2 v2 x2 rh2 t2 => ?_⟩⟩
    have x12 := x1.trans x2
    have ow := Own.ext x12 ⟨ro, hF, hR⟩
    refine g F2 R2 H2 v1 v2 b x12 rh2 ow.1 (t1.mono x2.f x2.r) t2 _ fun u ro' => ?_
    exact q F2 R2 _ σ (.of x12) ((ex.trans x12).upd hN) (rh2.upd ow.2.1 ow.2.2) ((re.ext x12).mutOwn es hσ ow.2.1 ow.2.2 hN ro' fun c fs z => (no c fs z).elim)
  cases es : env[s]? with
  | none =>
    rw [es] at q
    cases q
  | some sv =>
    rw [es] at q
    match sv, es, q with
    | some (.own (.lst xs)), es, q =>
      cases di with
      | int j =>
        have q : PO1 (match L2.ixN xs.length j with
          | some k => Out.ok (Fl.nx (env.set s (some (.own (.lst (xs.set k d)))))) m2
          | none => .no) (KS Z N F R E) := q
        cases ek : L2.ixN xs.length j with
        | none =>
          rw [ek] at q
          cases q
        | some kk =>
          rw [ek] at q
          refine step _ es ⟨.lst (xs.set kk d), q, (fun _ _ z => nomatch z), fun F2 R2 H2 v1 v2 b x12 rh2 ro t1 t2 Q hQ => .inl ?_⟩
          cases t2
          obtain ⟨vs, h1, h2⟩ := ro
          exact ⟨b, vs, j, kk, rfl, rfl, h1, by rw [← h2.length]; exact ek, hQ _ ⟨_, upd_same, h2.set kk t1⟩⟩
      | _ => cases q
    | some (.own (.ins c fs)), es, q => cases q
    | some (.own (.dct kvs)), es, q =>
      have q : PO1 (match setK (.dct kvs) di d with
        | some o' => Out.ok (Fl.nx (env.set s (some (.own o')))) m2
        | none => .no) (KS Z N F R E) := q
      cases ek : setK (.dct kvs) di d with
      | none =>
        rw [ek] at q
        cases q
      | some o' =>
        rw [ek] at q
        have ek : (if key1 di && decide (kvs.length < lim) then some (MO.dct (putD di d kvs)) else if isTupD di && keyN 8 di && kvs.isEmpty then some (.ndc [(di, d)]) else none) = some o' := ek
        split at ek
        · rename_i hk
          cases ek
          obtain ⟨k1, k2⟩ := ba2 hk
          refine step _ es ⟨_, q, (fun _ _ z => nomatch z), fun F2 R2 H2 v1 v2 b x12 rh2 ro t1 t2 Q hQ => .inr (.inl ?_)⟩
          obtain ⟨vs, h1, h2⟩ := ro
          obtain ⟨qk, kk, rfl⟩ := key1_of k1 t2
          exact ⟨b, _, rfl, DPut.k h1 (by rw [← rks_len h2]; exact lim_lt (of_decide_eq_true k2)), hQ _ ⟨_, upd_same, rks_put kk t1 h2⟩⟩
        · split at ek
          · rename_i hk
            cases ek
            obtain ⟨k0, k3⟩ := ba2 hk
            obtain ⟨k1, k2⟩ := ba2 k0
            have hnil : kvs = [] := by cases kvs with
              | nil => rfl
              | cons _ _ => cases k3
            refine step _ es ⟨_, q, (fun _ _ z => nomatch z), fun F2 R2 H2 v1 v2 b x12 rh2 ro t1 t2 Q hQ => .inr (.inr ?_)⟩
            rw [hnil] at ro
            obtain ⟨vs, h1, h2⟩ := ro
            cases h2
            obtain ⟨bk, rfl⟩ := tupD_of k1 t2
            refine ⟨b, bk, nk di, [], rfl, rfl, fun h ok => ⟨key_is rh2.sub ok 8 di _ _ k2 t2 rfl, key_depth 8 di k2⟩, (fun _ z => nomatch z), Nat.zero_le _, .inr ⟨rfl, h1⟩, fun u ru => ?_⟩
            rw [hP, hw]
            exact hQ _ ⟨_, upd_same, rns_put k1 k2 t2 t1 ru .nil⟩
          · cases ek
    | some (.own (.ndc kvs)), es, q =>
      have q : PO1 (match setK (.ndc kvs) di d with
        | some o' => Out.ok (Fl.nx (env.set s (some (.own o')))) m2
        | none => .no) (KS Z N F R E) := q
      cases ek : setK (.ndc kvs) di d with
      | none =>
        rw [ek] at q
        cases q
      | some o' =>
        rw [ek] at q
        have ek : (if isTupD di && keyN 8 di && decide (kvs.length < lim) then some (MO.ndc (putD di d kvs)) else none) = some o' := ek
        split at ek
        · rename_i hk
          cases ek
          obtain ⟨k0, k3⟩ := ba2 hk
          obtain ⟨k1, k2⟩ := ba2 k0
          refine step _ es ⟨_, q, (fun _ _ z => nomatch z), fun F2 R2 H2 v1 v2 b x12 rh2 ro t1 t2 Q hQ => .inr (.inr ?_)⟩
          obtain ⟨vs, h1, h2⟩ := ro
          obtain ⟨bk, rfl⟩ := tupD_of k1 t2
          refine ⟨b, bk, nk di, vs, rfl, rfl, fun h ok => ⟨key_is rh2.sub ok 8 di _ _ k2 t2 rfl, key_depth 8 di k2⟩, rns_is rh2.sub h2, by rw [← rns_len h2]; exact Nat.le_of_lt (lim_lt (of_decide_eq_true k3)), .inl (by rw [hP, hw]; exact h1), fun u ru => ?_⟩
          rw [hP, hw]
          exact hQ _ ⟨_, upd_same, rns_put k1 k2 t2 t1 ru h2⟩
        · cases ek
end
end Mi
/-! MiMs: statements: the matcher, and that what it finds does what the small interpreter says. -/
namespace Mi
open PySem PySem.Spec PyProof.Rows L2

def isFun (sc : Scope) : Bool := match sc.kind with
  | .function => true
  | _ => false
def noOtherC : Expr → Bool
  | .SetComp _ _ _ _ => false
  | .DictComp _ _ _ _ _ => false
  | _ => true
/-- the store of a comprehension is swapped with the clean-up -/
def swB (sc : Scope) (v : Expr) (x : Str) (px : Pos) : Bool := match v with
  | .ListComp _ _ s p => lcl sc x && ((px.line == p.line) && !(s.names.any fun (n, k) => n == x && (k == .local || k == .cell)))
  | _ => false
theorem isFun_of {sc : Scope} (h : isFun sc = true) : sc.kind = .function := by
  unfold isFun at h
  split at h
  · assumption
  · cases h
theorem blk_of {env : PySem.Env} (h : isFun env.scope = true) : env.blockKind = .function := by
  unfold Env.blockKind
  rw [isFun_of h]
  rfl
theorem lcl_eq {sc : Scope} {x : Str} : (sc.names.lookup x == some NameKind.local) = lcl sc x := by
  unfold lcl
  cases e : sc.names.lookup x with
  | none => rfl
  | some k => cases k <;> rfl
theorem swB_eq {env : PySem.Env} {v : Expr} {x : Str} {px : Pos} {l : Nat} (hf : isFun env.scope = true) (hv : noOtherC v = true) : swapsWith v (some (.Name x px)) l env = pure (swB env.scope v x px) := by
  cases v with
  | ListComp elt gs s p =>
    have hb := blk_of hf
    have e : swapsWith (.ListComp elt gs s p) (some (.Name x px)) l env = pure (env.blockKind == .function && env.kindOf x == some .local && px.line == p.line && !(s.names.any fun (n, k) => n == x && (k == .local || k == .cell))) := rfl
    rw [e, hb]
    have k1 : (env.kindOf x == some NameKind.local) = lcl env.scope x := lcl_eq
    rw [k1]
    unfold swB
    congr 1
    show ((true && lcl env.scope x) && (px.line == p.line) && _) = _
    rw [Bool.true_and, Bool.and_assoc]
  | SetComp _ _ _ _ => cases hv
  | DictComp _ _ _ _ _ => cases hv
  | _ => rfl
/-! ### two names at once: are the stores swapped? -/
def isStar : Expr → Bool
  | .Starred _ _ => true
  | _ => false
def swNames (sc : Scope) (line : Nat) (ts : List Expr) : List Str := ts.filterMap fun
  | .Name id pos => if sc.names.lookup id == some .local && pos.line == line then some id else none
  | _ => none
/-- some none: not swapped; some (some names): swapped; none: the model does not say -/
def swR (sc : Scope) (ts vs : List Expr) : Option (Option (List Str)) :=
  if !(ts.length == 2 || ts.length == 3) || vs.length != ts.length then some none
  else if vs.any isStar then some none
  else
    let names := swNames sc ((ts.head?.map (·.pos.line)).getD 0) ts
    if names.length != ts.length || names.eraseDups.length != names.length then some none
    else if vs.all (foldedForSure 8) then some none
    else if vs.all (constantsAlone 8) then none
    else some (some names)
theorem swR_eq {env : PySem.Env} {ts vs : List Expr} {k k2 : Nat} {p p2 : Pos} {r : Option (List Str)} (hf : isFun env.scope = true) (h : swR env.scope ts vs = some r) : swappedStores [.Tuple ts k p] (.Tuple vs k2 p2) env = pure r := by
  have hb := blk_of hf
  have e : swappedStores [.Tuple ts k p] (.Tuple vs k2 p2) env = (do
    if !(ts.length == 2 || ts.length == 3) || vs.length != ts.length || env.blockKind != .function then return none
    if vs.any isStar then return none
    let line := (ts.head?.map (·.pos.line)).getD 0
    let names := swNames env.scope line ts
    if names.length != ts.length || names.eraseDups.length != names.length then return none
    if vs.all (foldedForSure 8) then return none
    if vs.all (constantsAlone 8) then unsupported "assign.tuple-of-constant-expressions:order-of-the-stores"
    return some names) := rfl
  rw [e, hb]
  unfold swR at h
  have ob : ∀ b : Bool, (b || (ScopeKind.function != ScopeKind.function)) = b := fun b => by cases b <;> rfl
  rw [ob]
  generalize (!(ts.length == 2 || ts.length == 3) || vs.length != ts.length) = b1 at h ⊢
  cases b1 with
  | true => cases h; rfl
  | false =>
    generalize vs.any isStar = b2 at h ⊢
    cases b2 with
    | true => cases h; rfl
    | false =>
      simp only [Bool.false_eq_true, if_false] at h ⊢
      generalize swNames env.scope ((ts.head?.map (·.pos.line)).getD 0) ts = nm at h ⊢
      generalize (nm.length != ts.length || nm.eraseDups.length != nm.length) = b3 at h ⊢
      cases b3 with
      | true => cases h; rfl
      | false =>
        generalize vs.all (foldedForSure 8) = b4 at h ⊢
        cases b4 with
        | true => cases h; rfl
        | false =>
          generalize vs.all (constantsAlone 8) = b5 at h ⊢
          cases b5 with
          | true => cases h
          | false => cases h; rfl
def isTupE : Expr → Bool
  | .Tuple _ _ _ => true
  | _ => false
def isLcM : ME → Bool
  | .lc _ _ _ _ _ => true
  | _ => false
def isFrz : MS → Bool
  | .frz _ => true
  | _ => false

theorem tgOk_mono {f g : Str → Bool} (h : ∀ x, f x = true → g x = true) {sc : Scope} {x : Str} (t : tgOk f sc x = true) : tgOk g sc x = true := by
  unfold tgOk at t ⊢
  split at t
  · rfl
  · exact h x t
  · cases t
theorem mgName_mono {f g : Str → Bool} (h : ∀ x, f x = true → g x = true) {Ns : List Str} {sc : Scope} {i : Nat} {e : Expr} (t : mgName Ns f sc i e = true) : mgName Ns g sc i e = true := by
  cases e with
  | Name x p =>
    obtain ⟨h1, h2⟩ := ba2 (show (mtSlot Ns i x && tgOk f sc x) = true from t)
    exact Bool.and_eq_true_iff.mpr ⟨h1, tgOk_mono h h2⟩
  | _ => cases t
theorem mgs_mono {f g : Str → Bool} (h : ∀ x, f x = true → g x = true) {Ns : List Str} {sc : Scope} : ∀ {is : List Nat} {es : List Expr}, mgs Ns f sc is es = true → mgs Ns g sc is es = true
  | [], [], _ => rfl
  | [], _ :: _, t => nomatch t
  | _ :: _, [], t => nomatch t
  | i :: is, e :: es, t => by
    obtain ⟨h1, h2⟩ := ba2 (show (mgName Ns f sc i e && mgs Ns f sc is es) = true from t)
    exact Bool.and_eq_true_iff.mpr ⟨mgName_mono h h1, mgs_mono h h2⟩
theorem mg_mono {f g : Str → Bool} (h : ∀ x, f x = true → g x = true) {Ns : List Str} {sc : Scope} {tg : Tg} {e : Expr} (t : mg Ns f sc tg e = true) : mg Ns g sc tg e = true := by
  cases tg with
  | one i => exact mgName_mono h t
  | many is =>
    cases e with
    | Tuple es k p => exact mgs_mono h t
    | _ => cases t
/-! ### shapes of statements -/
def sName : Stmt → Option (Str × Pos × Expr)
  | .Assign [.Name x px] u _ => some (x, px, u)
  | _ => none
theorem sName_inv {e : Stmt} {v : Str × Pos × Expr} (h : sName e = some v) : ∃ _h1, e = .Assign [.Name (v.1) (v.2.1)] (v.2.2) _h1 := by
  unfold sName at h
  split at h
  · cases h
    exact ⟨_, rfl⟩
  · cases h
def sTT : Stmt → Option (List Expr × List Expr)
  | .Assign [.Tuple tgs _ _] (.Tuple vs _ _) _ => some (tgs, vs)
  | _ => none
theorem sTT_inv {e : Stmt} {v : List Expr × List Expr} (h : sTT e = some v) : ∃ _h1 _h2 _h3 _h4 _h5, e = .Assign [.Tuple (v.1) _h1 _h2] (.Tuple (v.2) _h3 _h4) _h5 := by
  unfold sTT at h
  split at h
  · cases h
    exact ⟨_, _, _, _, _, rfl⟩
  · cases h
def sTup : Stmt → Option (List Expr × Expr)
  | .Assign [.Tuple tgs _ _] u _ => some (tgs, u)
  | _ => none
theorem sTup_inv {e : Stmt} {v : List Expr × Expr} (h : sTup e = some v) : ∃ _h1 _h2 _h3, e = .Assign [.Tuple (v.1) _h1 _h2] (v.2) _h3 := by
  unfold sTup at h
  split at h
  · cases h
    exact ⟨_, _, _, rfl⟩
  · cases h
def sAttr : Stmt → Option (Str × Str × Expr)
  | .Assign [.Attribute (.Name x _) y _] u _ => some (x, y, u)
  | _ => none
theorem sAttr_inv {e : Stmt} {v : Str × Str × Expr} (h : sAttr e = some v) : ∃ _h1 _h2 _h3, e = .Assign [.Attribute (.Name (v.1) _h1) (v.2.1) _h2] (v.2.2) _h3 := by
  unfold sAttr at h
  split at h
  · cases h
    exact ⟨_, _, _, rfl⟩
  · cases h
def sPat : Stmt → Option (Str × Pos × Str × Pos × Str × Pos × Str × Pos × Expr × Expr)
  | .Assign [.Tuple [.Attribute (.Name x px) y ap, .Attribute (.Name x2 px2) z ap2] _ _] (.Tuple [ea, eb] _ _) _ => some (x, px, y, ap, x2, px2, z, ap2, ea, eb)
  | _ => none
theorem sPat_inv {e : Stmt} {v : Str × Pos × Str × Pos × Str × Pos × Str × Pos × Expr × Expr} (h : sPat e = some v) : ∃ _h1 _h2 _h3 _h4 _h5, e = .Assign [.Tuple [.Attribute (.Name (v.1) (v.2.1)) (v.2.2.1) (v.2.2.2.1), .Attribute (.Name (v.2.2.2.2.1) (v.2.2.2.2.2.1)) (v.2.2.2.2.2.2.1) (v.2.2.2.2.2.2.2.1)] _h1 _h2] (.Tuple [(v.2.2.2.2.2.2.2.2.1), (v.2.2.2.2.2.2.2.2.2)] _h3 _h4) _h5 := by
  unfold sPat at h
  split at h
  · cases h
    exact ⟨_, _, _, _, _, rfl⟩
  · cases h
def sSub : Stmt → Option (Expr × Expr × Expr)
  | .Assign [.Subscript eo ei _] u _ => some (eo, ei, u)
  | _ => none
theorem sSub_inv {e : Stmt} {v : Expr × Expr × Expr} (h : sSub e = some v) : ∃ _h1 _h2, e = .Assign [.Subscript (v.1) (v.2.1) _h1] (v.2.2) _h2 := by
  unfold sSub at h
  split at h
  · cases h
    exact ⟨_, _, rfl⟩
  · cases h
def sSubN : Stmt → Option (Str × Expr × Expr)
  | .Assign [.Subscript (.Name x _) ei _] u _ => some (x, ei, u)
  | _ => none
theorem sSubN_inv {e : Stmt} {v : Str × Expr × Expr} (h : sSubN e = some v) : ∃ _h1 _h2 _h3, e = .Assign [.Subscript (.Name (v.1) _h1) (v.2.1) _h2] (v.2.2) _h3 := by
  unfold sSubN at h
  split at h
  · cases h
    exact ⟨_, _, _, rfl⟩
  · cases h
def sMeth : Stmt → Option (Str × Str × Pos × Expr × Pos)
  | .Expr (.Call (.Attribute (.Name x _) m ap) [a] [] cp) _ => some (x, m, ap, a, cp)
  | _ => none
theorem sMeth_inv {e : Stmt} {v : Str × Str × Pos × Expr × Pos} (h : sMeth e = some v) : ∃ _h1 _h2, e = .Expr (.Call (.Attribute (.Name (v.1) _h1) (v.2.1) (v.2.2.1)) [(v.2.2.2.1)] [] (v.2.2.2.2)) _h2 := by
  unfold sMeth at h
  split at h
  · cases h
    exact ⟨_, _, rfl⟩
  · cases h
def sPop : Stmt → Option (Str × Pos × Str × Str × Pos × Pos)
  | .Assign [.Name y py] (.Call (.Attribute (.Name x _) m ap) [] [] cp) _ => some (y, py, x, m, ap, cp)
  | _ => none
theorem sPop_inv {e : Stmt} {v : Str × Pos × Str × Str × Pos × Pos} (h : sPop e = some v) : ∃ _h1 _h2, e = .Assign [.Name (v.1) (v.2.1)] (.Call (.Attribute (.Name (v.2.2.1) _h1) (v.2.2.2.1) (v.2.2.2.2.1)) [] [] (v.2.2.2.2.2)) _h2 := by
  unfold sPop at h
  split at h
  · cases h
    exact ⟨_, _, rfl⟩
  · cases h
def sEx : Stmt → Option (Expr)
  | .Expr u _ => some (u)
  | _ => none
theorem sEx_inv {e : Stmt} {v : Expr} (h : sEx e = some v) : ∃ _h1, e = .Expr v _h1 := by
  unfold sEx at h
  split at h
  · cases h
    exact ⟨_, rfl⟩
  · cases h
def sIf : Stmt → Option (Expr × List Stmt × List Stmt)
  | .If c sa sb _ => some (c, sa, sb)
  | _ => none
theorem sIf_inv {e : Stmt} {v : Expr × List Stmt × List Stmt} (h : sIf e = some v) : ∃ _h1, e = .If (v.1) (v.2.1) (v.2.2) _h1 := by
  unfold sIf at h
  split at h
  · cases h
    exact ⟨_, rfl⟩
  · cases h
def sFor : Stmt → Option (Expr × Expr × List Stmt)
  | .For tge iter body [] _ => some (tge, iter, body)
  | _ => none
theorem sFor_inv {e : Stmt} {v : Expr × Expr × List Stmt} (h : sFor e = some v) : ∃ _h1, e = .For (v.1) (v.2.1) (v.2.2) [] _h1 := by
  unfold sFor at h
  split at h
  · cases h
    exact ⟨_, rfl⟩
  · cases h
def sWhile : Stmt → Option (Expr × List Stmt)
  | .While c body [] _ => some (c, body)
  | _ => none
theorem sWhile_inv {e : Stmt} {v : Expr × List Stmt} (h : sWhile e = some v) : ∃ _h1, e = .While (v.1) (v.2) [] _h1 := by
  unfold sWhile at h
  split at h
  · cases h
    exact ⟨_, rfl⟩
  · cases h
def sRet : Stmt → Option (Expr)
  | .Return (some u) _ => some (u)
  | _ => none
theorem sRet_inv {e : Stmt} {v : Expr} (h : sRet e = some v) : ∃ _h1, e = .Return (some v) _h1 := by
  unfold sRet at h
  split at h
  · cases h
    exact ⟨_, rfl⟩
  · cases h
def sRetO : Stmt → Option (Str)
  | .Return (some (.Name x _)) _ => some (x)
  | _ => none
theorem sRetO_inv {e : Stmt} {v : Str} (h : sRetO e = some v) : ∃ _h1 _h2, e = .Return (some (.Name v _h1)) _h2 := by
  unfold sRetO at h
  split at h
  · cases h
    exact ⟨_, _, rfl⟩
  · cases h
def sRetN : Stmt → Option (Unit)
  | .Return none _ => some (())
  | _ => none
theorem sRetN_inv {e : Stmt} {v : Unit} (h : sRetN e = some v) : ∃ _h1, e = .Return none _h1 := by
  unfold sRetN at h
  split at h
  · cases h
    exact ⟨_, rfl⟩
  · cases h
def sPass : Stmt → Option (Unit)
  | .Pass _ => some (())
  | _ => none
theorem sPass_inv {e : Stmt} {v : Unit} (h : sPass e = some v) : ∃ _h1, e = .Pass _h1 := by
  unfold sPass at h
  split at h
  · cases h
    exact ⟨_, rfl⟩
  · cases h
def sBrk : Stmt → Option (Unit)
  | .Break _ => some (())
  | _ => none
theorem sBrk_inv {e : Stmt} {v : Unit} (h : sBrk e = some v) : ∃ _h1, e = .Break _h1 := by
  unfold sBrk at h
  split at h
  · cases h
    exact ⟨_, rfl⟩
  · cases h
def sCont : Stmt → Option (Unit)
  | .Continue _ => some (())
  | _ => none
theorem sCont_inv {e : Stmt} {v : Unit} (h : sCont e = some v) : ∃ _h1, e = .Continue _h1 := by
  unfold sCont at h
  split at h
  · cases h
    exact ⟨_, rfl⟩
  · cases h
section
variable (M : NM) (T : CT) (Ns : List Str)
def fnT : Str → Bool := fun x => !(x == ("__class__" : Str))
/-- a term whose value is new -/
def mtN (m : ME) (sc : Scope) (e : Expr) : Bool := match m with
  | .dnew => (match e with
    | .Dict [] [] _ => true
    | _ => false)
  | .lst _ => mtE M T Ns m sc e
  | .blt .list (.cons _ .nil) => mtE M T Ns m sc e
  | .bin .add _ _ => mtE M T Ns m sc e
  | .lc _ _ _ _ _ => mtE M T Ns m sc e
  | _ => false
def mtP : List (Nat × Bool) → MA → Scope → List Expr → Bool
  | [], .nil, _, [] => true
  | (_, o) :: ts, .cons a r, sc, e :: es => noStar e && ((if o then mtN M T Ns a sc e else mtE M T Ns a sc e) && mtP ts r sc es)
  | _, _, _, _ => false
/-- the slots are those of the plain local names -/
def parN (sc : Scope) : List (Nat × Bool) → List Expr → List Str → Bool
  | [], [], [] => true
  | (i, _) :: ts, .Name x _ :: es, y :: ys => decide (x = y) && (mtSlot Ns i x && (lcl sc x && parN sc ts es ys))
  | _, _, _ => false
def ndSlots (ts : List (Nat × Bool)) : Bool := decide (ts.map (·.1)).Nodup
mutual
def mtS : MS → Scope → Stmt → Bool
  | .raise _ _, _, _ => true
  | .set i e, sc, e0 => (sName e0).any fun (x, px, v) => mgName Ns fnT sc i (.Name x px) && (noOtherC v && (isFun sc && ((!swB sc v x px || isLcM e) && mtE M T Ns e sc v)))
  | .setO i e, sc, e0 => (sName e0).any fun (x, px, v) => decide (i ≠ 0) && (mgName Ns fnT sc i (.Name x px) && (noOtherC v && (isFun sc && ((!swB sc v x px || isLcM e) && mtN M T Ns e sc v))))
  | .par ts es, sc, e0 => (sTT e0).any fun (tgs, vs) => ts0 ts && (decide (ts.length ≤ lim) && (isFun sc && (mtP M T Ns ts es sc vs && (match swR sc tgs vs with
    | some (some names) => parN Ns sc ts tgs names && ndSlots ts
    | some none => mgs Ns fnT sc (ts.map (·.1)) tgs
    | none => false))))
  | .unp is e, sc, e0 => (sTup e0).any fun (tgs, v) => !isTupE v && (noComp v && (mgs Ns fnT sc is tgs && mtE M T Ns e sc v))
  | .sattr o0 f e, sc, e0 => (sAttr e0).any fun (x, y, v) => (match o0 with
    | .var i => decide (y = M.at_ f) && (mtVar Ns sc i x && mtE M T Ns e sc v)
    | _ => false)
  | .pattr o0 f g a b, sc, e0 => (sPat e0).any fun (x, px, y, ap, x2, px2, z, ap2, ea, eb) => (match o0 with
    | .var i => decide (y = M.at_ f) && (decide (z = M.at_ g) && (mtVar Ns sc i x && (mtVar Ns sc i x2 && (noStar ea && (noStar eb && (isFun sc && (decide (swR sc [.Attribute (.Name x px) y ap, .Attribute (.Name x2 px2) z ap2] [ea, eb] = some none) && (mtE M T Ns a sc ea && mtE M T Ns b sc eb))))))))
    | _ => false)
  | .sidx o i e, sc, e0 => (sSub e0).any fun (eo, ei, v) => noSlice ei && (mtE M T Ns o sc eo && (mtE M T Ns i sc ei && mtE M T Ns e sc v))
  | .oidx s i e, sc, e0 => (sSubN e0).any fun (x, ei, v) => noSlice ei && (mtVar Ns sc s x && (mtE M T Ns i sc ei && mtE M T Ns e sc v))
  | .app s e, sc, e0 => (sMeth e0).any fun (x, m, ap, a, cp) => decide (m = "append") && (mtVar Ns sc s x && (noStar a && ((ap.endLine == cp.line) && mtE M T Ns e sc a)))
  | .ext s e, sc, e0 => (sMeth e0).any fun (x, m, ap, a, cp) => decide (m = "extend") && (mtVar Ns sc s x && (noStar a && ((ap.endLine == cp.line) && mtE M T Ns e sc a)))
  | .popS i s, sc, e0 => (sPop e0).any fun (y, py, x, m, ap, cp) => decide (m = "pop") && (decide (i ≠ s) && (mgName Ns fnT sc i (.Name y py) && (mtVar Ns sc s x && (ap.endLine == cp.line))))
  | .ex e, sc, e0 => (sEx e0).any fun v => noComp v && mtE M T Ns e sc v
  | .ifs t a b, sc, e0 => (sIf e0).any fun (c, sa, sb) => okT t && (mtE M T Ns t sc c && (mtSs a sc sa && mtSs b sc sb))
  | .for tg it b, sc, e0 => (sFor e0).any fun (tge, iter, body) => mtI M T Ns it sc tge iter && (noSet iter && (mg Ns fnT sc tg tge && mtSs b sc body))
  | .while t b, sc, e0 => (sWhile e0).any fun (c, body) => okT t && (mtE M T Ns t sc c && mtSs b sc body)
  | .ret e, sc, e0 => (sRet e0).any fun v => mtE M T Ns e sc v
  | .retO s, sc, e0 => (sRetO e0).any fun x => mtVar Ns sc s x
  | .retN, _, e0 => (sRetN e0).isSome
  | .pass, _, e0 => (sPass e0).isSome
  | .brk, _, e0 => (sBrk e0).isSome
  | .cont, _, e0 => (sCont e0).isSome
  | _, _, _ => false
def mtSs : MSs → Scope → List Stmt → Bool
  | .nil, _, [] => true
  | .nil, _, _ :: _ => false
  | .cons m r, sc, [] => isFrz m && mtSs r sc []
  | .cons m r, sc, st :: sts => if isFrz m then mtSs r sc (st :: sts) else mtS m sc st && mtSs r sc sts
end
end
end Mi
/-! MiSs: every statement that the matcher finds does what the small interpreter says. -/
namespace Mi
open PySem PySem.Spec PyProof.Rows L2

/-- what a def's own block has beside -/
structure SOk (Z : NA) (X : Cx) : Prop where
  hP : X.prog = Z.P
  hw : X.w = Z.w
  fn : ∀ x, fnT x = true → X.fn x = true
  po : PassesOwn (model X.prog X.w) X.A X.env X.xe
section
variable {Z : NA} {M : NM} {T : CT} {C : Cl} {k : Nat} {X : Cx} {CX : CXT} {fa fi : Nat → Addr}
theorem lc_tM {it : MI} {tg : Tg} {wp : List Nat} {ts : MA} {e : ME} {σ : L2.St} {H : Hp} {Q : VK} (hsub : tgSub wp tg = true) (q : tM Z T C (.lc it tg wp ts e) σ H Q) :
    tLc (tI Z T C true it) (gTg X.K tg) (tTs Z T C ts) (tM Z T C e) ((ownOf X.N wp).map (·.2)) σ H Q := by
  rw [own_snd]
  obtain ⟨N, F, R, mh, env, rh, re, q⟩ := q
  obtain ⟨xs, m1, e1, q⟩ := PO1.bd (show PO1 ((evI T C true it env mh).bd fun xs h => (loopC (bodyC T C tg wp ts e env) xs h).bd fun ys h => if ys.length ≤ lim then Out.ok (D.lst ys) h else .no) _ from q)
  refine ⟨N, F, R, mh, env, rh, re, PO1.mk e1 fun F1 R1 H1 J x1 rh1 w => ?_⟩
  refine lc_core (X := X) (Q := Q) rfl rh1 (re.ext x1) w hsub ?_
  obtain ⟨ys, m2, e2, q⟩ := PO1.bd q
  refine PO1.mk e2 ?_
  by_cases hl : ys.length ≤ lim
  · rw [if_pos hl] at q
    refine ⟨hl, fun F' R' H' dd vs hd x rh' tk rs => ?_⟩
    obtain ⟨k1, k2, k3⟩ := frozen hd x rh' tk rs
    exact q _ R' H' _ (x1.trans k1) k2 k3
  · rw [if_neg hl] at q
    cases q
theorem lc_tN {it : MI} {tg : Tg} {wp : List Nat} {ts : MA} {e : ME} {σ : L2.St} {H : Hp} {Q : VK} (hsub : tgSub wp tg = true) (q : tN Z T C (.lc it tg wp ts e) σ H Q) :
    tLc (tI Z T C true it) (gTg X.K tg) (tTs Z T C ts) (tM Z T C e) ((ownOf X.N wp).map (·.2)) σ H Q := by
  rw [own_snd]
  obtain ⟨N, F, R, mh, env, rh, re, q⟩ := q
  obtain ⟨xs, m1, e1, q⟩ := PO1.bd (show PO1 ((evI T C true it env mh).bd fun xs h => (loopC (bodyC T C tg wp ts e env) xs h).bd fun ys h => if ys.length ≤ lim then Out.ok (D.lst ys) h else .no) _ from q)
  refine ⟨N, F, R, mh, env, rh, re, PO1.mk e1 fun F1 R1 H1 J x1 rh1 w => ?_⟩
  refine lc_core (X := X) (Q := Q) rfl rh1 (re.ext x1) w hsub ?_
  obtain ⟨ys, m2, e2, q⟩ := PO1.bd q
  refine PO1.mk e2 ?_
  by_cases hl : ys.length ≤ lim
  · rw [if_pos hl] at q
    refine ⟨hl, fun F' R' H' dd vs hd x rh' tk rs => q.2 F' R' H' dd (x1.trans x) rh' ⟨?_, .inl ⟨ys, vs, rfl, tk, rs⟩⟩⟩
    cases z : H dd with
    | none => rfl
    | some o =>
      obtain ⟨u, hu⟩ := x1.there dd o z
      rw [hd] at hu
      cases hu
  · rw [if_neg hl] at q
    cases q
/-- what a store of a new thing asks of its term -/
theorem setO_tN {i : Nat} {a : ME} {E : Ends} {σ : L2.St} {H : Hp} (h0 : i ≠ 0) (q : tS Z T C (.setO i a) E σ H) : tN Z T C a σ H (fun x H1 => gName i x σ H1 E.nx) := by
  obtain ⟨N, F, R, mh, env, rh, re, ex, q⟩ := q
  obtain ⟨d, m1, e1, q⟩ := PO1.bd (show PO1 ((evE T C a env mh).bd fun x h => (match asO true x with
    | some v => .ok (Fl.nx (env.set i (some v))) h
    | none => .no)) _ from q)
  have hN : ∀ b, H b = none → N.H b = none := fun b hb => by
    cases z : N.H b with
    | none => rfl
    | some o =>
      obtain ⟨u, hu⟩ := ex.there b o z
      rw [hb] at hu
      cases hu
  refine ⟨N, F, R, mh, env, rh, re, PO1.mk e1 ⟨?_, fun F1 R1 H1 b x1 rh1 nw => ?_⟩⟩
  · cases d with
    | lst xs => rfl
    | dct kvs =>
      cases kvs with
      | nil => rfl
      | cons _ _ => cases q
    | _ => cases q
  · obtain ⟨hb, ho⟩ := nw
    have re1 := re.ext x1
    rcases ho with ⟨xs, vs, rfl, tk, rs⟩ | ⟨rfl, tk⟩
    · exact q F1 R1 H1 _ (.of x1) (ex.trans x1) rh1 (re1.setOwn (o := .lst xs) (a := b) i ⟨⟨vs, tk.1, rs⟩, tk.2.1, tk.2.2⟩ (hN b hb) (fun j u _ ej => own_there re hb j u ej) (.inr h0))
    · exact q F1 R1 H1 _ (.of x1) (ex.trans x1) rh1 (re1.setOwn (o := .dct []) (a := b) i ⟨⟨[], tk.1, .nil⟩, tk.2.1, tk.2.2⟩ (hN b hb) (fun j u _ ej => own_there re hb j u ej) (.inr h0))
theorem set_tM {i : Nat} {a : ME} {E : Ends} {σ : L2.St} {H : Hp} (q : tS Z T C (.set i a) E σ H) : tM Z T C a σ H (fun x H1 => gName i x σ H1 E.nx) := by
  obtain ⟨N, F, R, mh, env, rh, re, ex, q⟩ := q
  obtain ⟨d, m1, e1, q⟩ := PO1.bd (show PO1 ((evE T C a env mh).bd fun x h => .ok (Fl.nx (env.set i (some (.val x)))) h) _ from q)
  exact ⟨N, F, R, mh, env, rh, re, PO1.mk e1 fun F1 R1 H1 v x1 rh1 t1 => q F1 R1 H1 _ (.of x1) (ex.trans x1) rh1 ((re.ext x1).set i t1)⟩
theorem lcl_of {sc : Scope} {x : Str} (h : lcl sc x = true) : sc.names.lookup x = some .local := of_decide_eq_true h
/-- the parts of a comprehension, from what the matcher says -/
theorem lc_parts (B : ∀ Y, CtxOk Z M k Y → BltOk Z Y) (a : All Z M T C CX fa fi k X) {it : MI} {tg : Tg} {wp : List Nat} {ts : MA} {m1 : ME} {v : Expr} (h : mtE M T X.N (.lc it tg wp ts m1) X.env.scope v = true) :
    ∃ elt t i fs sco pos, v = .ListComp elt [⟨t, i, fs, 0⟩] sco pos ∧ blkC X.N X.env.scope sco (ownOf X.N wp) = true ∧ tgSub wp tg = true ∧ noSet i = true ∧ PI X t i (tI Z T C true it) ∧
      (∀ (s : Shared) (H : Hp) (c : Addr) (cl : List (Str × Addr)) (fp : List Addr), PG (X.blk s H sco (compEnvC sco cl c X.env) fp) t (gTg X.K tg)) ∧
      (∀ (s : Shared) (H : Hp) (c : Addr) (cl : List (Str × Addr)) (fp : List Addr), PTs (X.blk s H sco (compEnvC sco cl c X.env) fp) fs (tTs Z T C ts)) ∧
      (∀ (s : Shared) (H : Hp) (c : Addr) (cl : List (Str × Addr)) (fp : List Addr), PE (X.blk s H sco (compEnvC sco cl c X.env) fp) elt (tM Z T C m1)) := by
  cases v with
  | ListComp elt gs sco pos =>
    match gs, h with
    | [⟨t, i, fs, 0⟩], h =>
      obtain ⟨h1, r1⟩ := ba2 h
      obtain ⟨h2, r2⟩ := ba2 r1
      obtain ⟨h3, r3⟩ := ba2 r2
      obtain ⟨h4, r4⟩ := ba2 r3
      obtain ⟨h5, r5⟩ := ba2 r4
      obtain ⟨h6, h7⟩ := ba2 r5
      exact ⟨elt, t, i, fs, sco, pos, rfl, h3, h4, h2, snd_I B it true X t i a h1,
        (fun s H c cl fp => pg_of (X := X.blk s H sco (compEnvC sco cl c X.env) fp) a.c.nd a.c.calm h5),
        (fun s H c cl fp => snd_Ts B ts (X.blk s H sco (compEnvC sco cl c X.env) fp) fs (a.blk s H sco _ fp) h6),
        (fun s H c cl fp => (snd_E B m1 (X.blk s H sco (compEnvC sco cl c X.env) fp) elt (a.blk s H sco _ fp) h7).v)⟩
  | _ => cases h
theorem sw_split {v : Expr} {x : Str} {px : Pos} {m : ME} {sc : Scope} (h : (!swB sc v x px || isLcM m) = true) : swB sc v x px = false ∨ (swB sc v x px = true ∧ ∃ it tg wp ts e, m = .lc it tg wp ts e) := by
  cases e : swB sc v x px with
  | false => exact .inl rfl
  | true =>
    rw [e] at h
    refine .inr ⟨rfl, ?_⟩
    cases m with
    | lc it tg wp ts e => exact ⟨it, tg, wp, ts, e, rfl⟩
    | _ => cases h
theorem swB_lcl {v : Expr} {x : Str} {px : Pos} {sc : Scope} (h : swB sc v x px = true) : lcl sc x = true := by
  cases v with
  | ListComp elt gs s p => exact (ba2 h).1
  | _ => cases h
/-- terms whose value is new -/
theorem snd_N (B : ∀ Y, CtxOk Z M k Y → BltOk Z Y) (a : All Z M T C CX fa fi k X) (m : ME) (e : Expr) (h : mtN M T X.N m X.env.scope e = true) : PE X e (tN Z T C m) := by
  cases m with
  | dnew =>
    cases e with
    | Dict ks vs pos =>
      match ks, vs, h with
      | [], [], _ => exact new_ndct
    | _ => cases h
  | lst es =>
    have h : mtE M T X.N (.lst es) X.env.scope e = true := h
    cases e with
    | List xs pos => exact new_nlst (snd_A B es X xs a h)
    | _ => cases h
  | blt b es =>
    match b, es, h with
    | .list, .cons m1 .nil, h =>
      have h : mtE M T X.N (.blt .list (.cons m1 .nil)) X.env.scope e = true := h
      cases e with
      | Call fe xs ks pos =>
        match fe, ks, h with
        | .Name x p, [], h =>
          obtain ⟨h1, r1⟩ := ba2 h
          obtain ⟨h2, r2⟩ := ba2 r1
          obtain ⟨h3, h4⟩ := ba2 r2
          match xs, h4 with
          | [e1], h4 =>
            obtain ⟨g1, r3⟩ := ba2 h4
            obtain ⟨g2, _⟩ := ba2 r3
            exact new_nlist a.c h1 g1 (snd_E B m1 X e1 a g2).b
          | e1 :: e2 :: r, h4 => cases (ba2 (ba2 h4).2).2
      | _ => cases h
  | bin o m1 m2 =>
    cases o with
    | add =>
      have h : mtE M T X.N (.bin .add m1 m2) X.env.scope e = true := h
      cases e with
      | BinOp ea p eb pos =>
        obtain ⟨h1, r1⟩ := ba2 h
        obtain ⟨h2, h3⟩ := ba2 r1
        obtain rfl := all_eq h1
        exact new_nadd (snd_E B m1 X ea a h2).b (snd_E B m2 X eb a h3).b
      | _ => cases h
    | _ => cases h
  | lc it tg wp ts m1 =>
    have h : mtE M T X.N (.lc it tg wp ts m1) X.env.scope e = true := h
    obtain ⟨elt, t, i, fs, sco, pos, rfl, bo, hsub, hset, hi, hg, ht, he⟩ := lc_parts B a h
    exact new_nlc a.c bo hsub hset hi hg ht he
  | _ => cases h
theorem stm_setS (B : ∀ Y, CtxOk Z M k Y → BltOk Z Y) (a : All Z M T C CX fa fi k X) (so : SOk Z X) {i : Nat} {m : ME} {x : Str} {px pos : Pos} {v : Expr} (h : mtS M T X.N (.set i m) X.env.scope (.Assign [.Name x px] v pos) = true) : PS X (.Assign [.Name x px] v pos) (tS Z T C (.set i m)) := by
  obtain ⟨h1, r1⟩ := ba2 h
  obtain ⟨h2, r2⟩ := ba2 r1
  obtain ⟨h3, r3⟩ := ba2 r2
  obtain ⟨h4, h5⟩ := ba2 r3
  have h1 := mgName_mono so.fn h1
  rcases sw_split h4 with e | ⟨e, it, tg, wp, ts, el, rfl⟩
  · exact stm_set a.c h1 (snd_E B m X v a h5).v (by rw [swB_eq h3 h2, e])
  · obtain ⟨g1, g2⟩ := ba2 (show (mtSlot X.N i x && tgOk X.fn X.env.scope x) = true from h1)
    obtain ⟨elt, t, i', fs, sco, pos', rfl, bo, hsub, hset, hi, hg, ht, he⟩ := lc_parts B a h5
    exact PS.imp (ps_setLc a.c.calm a.c.nd (of_decide_eq_true g1) (lcl_of (swB_lcl e)) (by rw [swB_eq h3 h2, e]) hi (blkOk_by bo) hg ht he (fun x => noSet_of hset _ x)) fun E σ H q => lc_tM (X := X) hsub (set_tM q)
theorem stm_setOS (B : ∀ Y, CtxOk Z M k Y → BltOk Z Y) (a : All Z M T C CX fa fi k X) (so : SOk Z X) {i : Nat} {m : ME} {x : Str} {px pos : Pos} {v : Expr} (h : mtS M T X.N (.setO i m) X.env.scope (.Assign [.Name x px] v pos) = true) : PS X (.Assign [.Name x px] v pos) (tS Z T C (.setO i m)) := by
  obtain ⟨h0, r0⟩ := ba2 h
  obtain ⟨h1, r1⟩ := ba2 r0
  obtain ⟨h2, r2⟩ := ba2 r1
  obtain ⟨h3, r3⟩ := ba2 r2
  obtain ⟨h4, h5⟩ := ba2 r3
  have h1 := mgName_mono so.fn h1
  have h0 : i ≠ 0 := of_decide_eq_true h0
  rcases sw_split h4 with e | ⟨e, it, tg, wp, ts, el, rfl⟩
  · exact stm_setO a.c h0 h1 (snd_N B a m v h5) (by rw [swB_eq h3 h2, e])
  · obtain ⟨g1, g2⟩ := ba2 (show (mtSlot X.N i x && tgOk X.fn X.env.scope x) = true from h1)
    obtain ⟨elt, t, i', fs, sco, pos', rfl, bo, hsub, hset, hi, hg, ht, he⟩ := lc_parts B a (show mtE M T X.N (.lc it tg wp ts el) X.env.scope v = true from h5)
    exact PS.imp (ps_setLc a.c.calm a.c.nd (of_decide_eq_true g1) (lcl_of (swB_lcl e)) (by rw [swB_eq h3 h2, e]) hi (blkOk_by bo) hg ht he (fun x => noSet_of hset _ x)) fun E σ H q => lc_tN (X := X) hsub (setO_tN h0 q)
theorem snd_P (B : ∀ Y, CtxOk Z M k Y → BltOk Z Y) (a : All Z M T C CX fa fi k X) : ∀ (ts : List (Nat × Bool)) (es : MA) (xs : List Expr), mtP M T X.N ts es X.env.scope xs = true → PA X xs (tP Z T C ts es)
  | [], .nil, [], _ => pP_nil
  | [], .nil, _ :: _, h => nomatch h
  | [], .cons _ _, _, h => nomatch h
  | [], .star _ _, _, h => nomatch h
  | _ :: _, .nil, _, h => nomatch h
  | _ :: _, .star _ _, _, h => nomatch h
  | _ :: _, .cons _ _, [], h => nomatch h
  | (i, o) :: ts, .cons m r, e :: es, h => by
    obtain ⟨h1, r1⟩ := ba2 h
    obtain ⟨h2, h3⟩ := ba2 r1
    cases o with
    | true => exact pP_o h1 (snd_N B a m e h2) (snd_P B a ts r es h3)
    | false => exact pP_v h1 (snd_E B m X e a h2).v (snd_P B a ts r es h3)
theorem sws_tup {ts : List Expr} {v : Expr} {k' : Nat} {p : Pos} {l : Nat} {env : PySem.Env} (h : noComp v = true) : swapsWithSole [.Tuple ts k' p] v l env = pure false := by
  cases v <;> first | rfl | cases h
theorem sws_no {ts : List Expr} {v : Expr} {k' : Nat} {p : Pos} {env : PySem.Env} (h : isTupE v = false) : swappedStores [.Tuple ts k' p] v env = pure none := by
  cases v <;> first | rfl | cases h
theorem parN_nil {Ns : List Str} {sc : Scope} {es : List Expr} {ns : List Str} (h : parN Ns sc [] es ns = true) : es = [] ∧ ns = [] := by
  cases es with
  | nil => cases ns with
    | nil => exact ⟨rfl, rfl⟩
    | cons _ _ => cases h
  | cons _ _ => cases h
theorem parN_cons {Ns : List Str} {sc : Scope} {i : Nat} {b : Bool} {ts : List (Nat × Bool)} {es : List Expr} {ns : List Str} (h : parN Ns sc ((i, b) :: ts) es ns = true) : ∃ x p es' ns', es = .Name x p :: es' ∧ ns = x :: ns' ∧ Ns[i]? = some x ∧ sc.names.lookup x = some .local ∧ parN Ns sc ts es' ns' = true := by
  cases es with
  | nil => cases h
  | cons e es =>
    cases e with
    | Name x p =>
      cases ns with
      | nil => cases h
      | cons y ns =>
        obtain ⟨q1, q2⟩ := ba2 h
        obtain ⟨q3, q4⟩ := ba2 q2
        obtain ⟨q5, q6⟩ := ba2 q4
        obtain rfl := all_eq q1
        exact ⟨x, p, es, ns, rfl, rfl, of_decide_eq_true q3, lcl_of q5, q6⟩
    | _ => cases h
theorem mtP_nil {M : NM} {T : CT} {Ns : List Str} {sc : Scope} {es : MA} {xs : List Expr} (h : mtP M T Ns [] es sc xs = true) : xs = [] := by
  cases es with
  | nil => cases xs with
    | nil => rfl
    | cons _ _ => cases h
  | cons _ _ => cases h
  | star _ _ => cases h
theorem mtP_cons {M : NM} {T : CT} {Ns : List Str} {sc : Scope} {t : Nat × Bool} {ts : List (Nat × Bool)} {es : MA} {xs : List Expr} (h : mtP M T Ns (t :: ts) es sc xs = true) : ∃ e xs' es', xs = e :: xs' ∧ mtP M T Ns ts es' sc xs' = true := by
  cases es with
  | nil => cases h
  | cons a r => cases xs with
    | nil => cases h
    | cons e xs => exact ⟨e, xs, r, rfl, (ba2 (ba2 h).2).2⟩
  | star _ _ => cases h
theorem stm_parS (B : ∀ Y, CtxOk Z M k Y → BltOk Z Y) (a : All Z M T C CX fa fi k X) (so : SOk Z X) {ts : List (Nat × Bool)} {es : MA} {tgs vs : List Expr} {k1 k2 : Nat} {p1 p2 pos : Pos} (h : mtS M T X.N (.par ts es) X.env.scope (.Assign [.Tuple tgs k1 p1] (.Tuple vs k2 p2) pos) = true) :
    PS X (.Assign [.Tuple tgs k1 p1] (.Tuple vs k2 p2) pos) (tS Z T C (.par ts es)) := by
  obtain ⟨h0, r0⟩ := ba2 h
  obtain ⟨hl, r1⟩ := ba2 r0
  obtain ⟨h2, r2⟩ := ba2 r1
  obtain ⟨h3, h4⟩ := ba2 r2
  have ha := snd_P B a ts es vs h3
  cases er : swR X.env.scope tgs vs with
  | none =>
    rw [er] at h4
    cases h4
  | some r =>
    have hw := swR_eq (k := k1) (k2 := k2) (p := p1) (p2 := p2) h2 er
    rw [er] at h4
    cases r with
    | none =>
      have h4 : mgs X.N fnT X.env.scope (ts.map (·.1)) tgs = true := h4
      have h4 := mgs_mono so.fn h4
      obtain ⟨g1, g2, g3⟩ := pgs_many a.c.nd h4
      refine stm_parU a.c h0 hl ?_ ha (sws_tup rfl) hw rfl
      have := pg_tup (pos := p1) (k := k1) a.c.calm g1 g2 g3
      rw [List.length_map] at this
      exact this
    | some names =>
      obtain ⟨h5, h6⟩ := ba2 h4
      have nd : (ts.map (·.1)).Nodup := of_decide_eq_true h6
      have bad : ∀ n : List Str, tgs.length ≠ 2 → tgs.length ≠ 3 → False := fun _ n2 n3 => by
        have e0 : swR X.env.scope tgs vs = some none := by
          unfold swR
          rw [if_pos (by simp [n2, n3])]
        rw [e0] at er
        cases er
      cases ts with
      | nil =>
        obtain ⟨rfl, rfl⟩ := parN_nil h5
        exact (bad [] (by simp) (by simp)).elim
      | cons t ts =>
        obtain ⟨i, bi⟩ := t
        obtain ⟨x, px, tgs, names, rfl, rfl, s1, l1, h5⟩ := parN_cons h5
        obtain ⟨e1, vs, es1, rfl, g1⟩ := mtP_cons h3
        cases ts with
        | nil =>
          obtain ⟨rfl, rfl⟩ := parN_nil h5
          exact (bad [] (by simp) (by simp)).elim
        | cons t ts =>
          obtain ⟨j, bj⟩ := t
          obtain ⟨y, py, tgs, names, rfl, rfl, s2, l2, h5⟩ := parN_cons h5
          obtain ⟨e2, vs, es2, rfl, g2⟩ := mtP_cons g1
          cases ts with
          | nil =>
            obtain ⟨rfl, rfl⟩ := parN_nil h5
            obtain rfl := mtP_nil g2
            have hij : i ≠ j := fun z => by simp [z] at nd
            exact stm_par2 a.c h0 s1 s2 hij l1 l2 ha hw
          | cons t ts =>
            obtain ⟨l, bl⟩ := t
            obtain ⟨z, pz, tgs, names, rfl, rfl, s3, l3, h5⟩ := parN_cons h5
            obtain ⟨e3, vs, es3, rfl, g3⟩ := mtP_cons g2
            cases ts with
            | nil =>
              obtain ⟨rfl, rfl⟩ := parN_nil h5
              obtain rfl := mtP_nil g3
              have hij : i ≠ j := fun z => by simp [z] at nd
              have hil : i ≠ l := fun z => by simp [z] at nd
              have hjl : j ≠ l := fun z => by simp [z] at nd
              exact stm_par3 a.c h0 s1 s2 s3 hij hil hjl l1 l2 l3 ha hw
            | cons t ts =>
              obtain ⟨m, bm⟩ := t
              obtain ⟨w, pw, tgs, names, rfl, rfl, s4, l4, h5⟩ := parN_cons h5
              exact (bad [] (by simp) (by simp)).elim
end
end Mi
/-! MiSt: all statements by one mutual induction, an arm a lemma. -/
namespace Mi
open PySem PySem.Spec PyProof.Rows L2
section
variable {Z : NA} {M : NM} {T : CT} {C : Cl} {k : Nat} {X : Cx} {CX : CXT} {fa fi : Nat → Addr}
abbrev TmS (Z : NA) (M : NM) (T : CT) (C : Cl) (X : Cx) (m : MS) : Prop := ∀ st : Stmt, mtS M T X.N m X.env.scope st = true → PS X st (tS Z T C m)
abbrev TmSs (Z : NA) (M : NM) (T : CT) (C : Cl) (X : Cx) (m : MSs) : Prop := ∀ st : List Stmt, mtSs M T X.N m X.env.scope st = true → PSs X st (tSs Z T C m)
abbrev TmB (Z : NA) (M : NM) (k : Nat) : Prop := ∀ Y, CtxOk Z M k Y → BltOk Z Y
section
variable (B : TmB Z M k) (a : All Z M T C CX fa fi k X) (so : SOk Z X)
include B a so
theorem s_set {i : Nat} {e : ME} : TmS Z M T C X (.set i e) := fun st h => by
  obtain ⟨⟨x, px, v⟩, q, h0⟩ := any_some (o := sName st) h
  obtain ⟨pos, rfl⟩ := sName_inv q
  exact stm_setS B a so (x := x) (px := px) (v := v) (pos := pos) h
theorem s_setO {i : Nat} {e : ME} : TmS Z M T C X (.setO i e) := fun st h => by
  obtain ⟨⟨x, px, v⟩, q, h0⟩ := any_some (o := sName st) h
  obtain ⟨pos, rfl⟩ := sName_inv q
  exact stm_setOS B a so (x := x) (px := px) (v := v) (pos := pos) h
theorem s_par {ts : List (Nat × Bool)} {es : MA} : TmS Z M T C X (.par ts es) := fun st h => by
  obtain ⟨⟨tgs, vs⟩, q, h0⟩ := any_some (o := sTT st) h
  obtain ⟨k1, p1, k2, p2, pos, rfl⟩ := sTT_inv q
  exact stm_parS B a so (tgs := tgs) (vs := vs) h
theorem s_unp {is : List Nat} {e : ME} : TmS Z M T C X (.unp is e) := fun st h => by
  obtain ⟨⟨tgs, v⟩, q, h0⟩ := any_some (o := sTup st) h
  obtain ⟨k1, p1, pos, rfl⟩ := sTup_inv q
  obtain ⟨h1, r1⟩ := ba2 h0
  obtain ⟨h2, r2⟩ := ba2 r1
  obtain ⟨h3, h4⟩ := ba2 r2
  have h3 := mgs_mono so.fn h3
  obtain ⟨g1, g2, g3⟩ := pgs_many a.c.nd h3
  exact stm_unp a.c (pg_tup (pos := p1) (k := k1) a.c.calm g1 g2 g3) (snd_E B e X v a h4).v (sws_tup h2) (sws_no (bnot h1)) rfl
theorem s_sattr {o : ME} {f : Nat} {e : ME} : TmS Z M T C X (.sattr o f e) := fun st h => by
  obtain ⟨⟨x, y, v⟩, q, h0⟩ := any_some (o := sAttr st) h
  obtain ⟨px, ap, pos, rfl⟩ := sAttr_inv q
  cases o with
  | var i =>
    obtain ⟨h1, r1⟩ := ba2 h0
    obtain ⟨h2, h3⟩ := ba2 r1
    exact stm_sattr a.c a.f (of_decide_eq_true h1) h2 swaps_attr (snd_E B e X v a h3).v
  | _ => cases h0
theorem s_pattr {o : ME} {f g : Nat} {m1 m2 : ME} : TmS Z M T C X (.pattr o f g m1 m2) := fun st h => by
  obtain ⟨⟨x, px, y, ap, x', px', z, ap', ea, eb⟩, q, h0⟩ := any_some (o := sPat st) h
  obtain ⟨k1, p1, k2, p2, pos, rfl⟩ := sPat_inv q
  cases o with
  | var i =>
    obtain ⟨h1, r1⟩ := ba2 h0
    obtain ⟨h2, r2⟩ := ba2 r1
    obtain ⟨h3, r3⟩ := ba2 r2
    obtain ⟨h4, r4⟩ := ba2 r3
    obtain ⟨h5, r5⟩ := ba2 r4
    obtain ⟨h6, r6⟩ := ba2 r5
    obtain ⟨h7, r7⟩ := ba2 r6
    obtain ⟨h8, r8⟩ := ba2 r7
    obtain ⟨h9, h10⟩ := ba2 r8
    exact stm_pattr a.c a.f (of_decide_eq_true h1) (of_decide_eq_true h2) h3 h4 h5 h6 (snd_E B m1 X ea a h9).v (snd_E B m2 X eb a h10).v (swR_eq h7 (of_decide_eq_true h8))
  | _ => cases h0
theorem s_sidx {o i e : ME} : TmS Z M T C X (.sidx o i e) := fun st h => by
  obtain ⟨⟨eo, ei, v⟩, q, h0⟩ := any_some (o := sSub st) h
  obtain ⟨tp, pos, rfl⟩ := sSub_inv q
  obtain ⟨h1, r1⟩ := ba2 h0
  obtain ⟨h2, r2⟩ := ba2 r1
  obtain ⟨h3, h4⟩ := ba2 r2
  exact stm_sidx a.c h1 (snd_E B o X eo a h2).v (snd_E B i X ei a h3).v (snd_E B e X v a h4).v
theorem s_oidx {s : Nat} {i e : ME} : TmS Z M T C X (.oidx s i e) := fun st h => by
  obtain ⟨⟨x, ei, v⟩, q, h0⟩ := any_some (o := sSubN st) h
  obtain ⟨px, tp, pos, rfl⟩ := sSubN_inv q
  obtain ⟨h1, r1⟩ := ba2 h0
  obtain ⟨h2, r2⟩ := ba2 r1
  obtain ⟨h3, h4⟩ := ba2 r2
  exact stm_oidx so.hP so.hw a.c h1 h2 (snd_E B i X ei a h3).v (snd_E B e X v a h4).v
theorem s_app {s : Nat} {e : ME} : TmS Z M T C X (.app s e) := fun st h => by
  obtain ⟨⟨x, m, ap, v1, cp⟩, q, h0⟩ := any_some (o := sMeth st) h
  obtain ⟨px, pos, rfl⟩ := sMeth_inv q
  obtain ⟨h1, r1⟩ := ba2 h0
  obtain ⟨h2, r2⟩ := ba2 r1
  obtain ⟨h3, r3⟩ := ba2 r2
  obtain ⟨h4, h5⟩ := ba2 r3
  obtain rfl := all_eq h1
  exact stm_app a.c h2 h3 h4 (snd_E B e X v1 a h5).v
theorem s_ext {s : Nat} {e : ME} : TmS Z M T C X (.ext s e) := fun st h => by
  obtain ⟨⟨x, m, ap, v1, cp⟩, q, h0⟩ := any_some (o := sMeth st) h
  obtain ⟨px, pos, rfl⟩ := sMeth_inv q
  obtain ⟨h1, r1⟩ := ba2 h0
  obtain ⟨h2, r2⟩ := ba2 r1
  obtain ⟨h3, r3⟩ := ba2 r2
  obtain ⟨h4, h5⟩ := ba2 r3
  obtain rfl := all_eq h1
  exact stm_ext a.c h2 h3 h4 (snd_E B e X v1 a h5).v
theorem s_popS {i s : Nat} : TmS Z M T C X (.popS i s) := fun st h => by
  obtain ⟨⟨y, py, x, m, ap, cp⟩, q, h0⟩ := any_some (o := sPop st) h
  obtain ⟨px, pos, rfl⟩ := sPop_inv q
  obtain ⟨h1, r1⟩ := ba2 h0
  obtain ⟨h2, r2⟩ := ba2 r1
  obtain ⟨h3, r3⟩ := ba2 r2
  obtain ⟨h4, h5⟩ := ba2 r3
  obtain rfl := all_eq h1
  have h3 := mgName_mono so.fn h3
  exact stm_popS a.c (of_decide_eq_true h2) h3 h4 h5
theorem s_ex {e : ME} : TmS Z M T C X (.ex e) := fun st h => by
  obtain ⟨v, q, h0⟩ := any_some (o := sEx st) h
  obtain ⟨pos, rfl⟩ := sEx_inv q
  obtain ⟨h1, h2⟩ := ba2 h0
  exact stm_ex (snd_E B e X v a h2).v (swaps_name h1)
theorem s_ifs {t : ME} {b1 b2 : MSs} (i1 : TmSs Z M T C X b1) (i2 : TmSs Z M T C X b2) : TmS Z M T C X (.ifs t b1 b2) := fun st h => by
  obtain ⟨⟨c, sa, sb⟩, q, h0⟩ := any_some (o := sIf st) h
  obtain ⟨pos, rfl⟩ := sIf_inv q
  obtain ⟨h1, r1⟩ := ba2 h0
  obtain ⟨h2, r2⟩ := ba2 r1
  obtain ⟨h3, h4⟩ := ba2 r2
  exact stm_if ((snd_E B t X c a h2).t h1) (i1 sa h3) (i2 sb h4)
theorem s_for {tg : Tg} {it : MI} {b : MSs} (i1 : TmSs Z M T C X b) : TmS Z M T C X (.for tg it b) := fun st h => by
  obtain ⟨⟨tge, iter, body⟩, q, h0⟩ := any_some (o := sFor st) h
  obtain ⟨pos, rfl⟩ := sFor_inv q
  obtain ⟨h1, r1⟩ := ba2 h0
  obtain ⟨h2, r2⟩ := ba2 r1
  obtain ⟨h3, h4⟩ := ba2 r2
  have h3 := mg_mono so.fn h3
  exact stm_for a.c so.po h2 (snd_I B it false X tge iter a h1) (pg_of a.c.nd a.c.calm h3) (i1 body h4)
theorem s_while {t : ME} {b : MSs} (i1 : TmSs Z M T C X b) : TmS Z M T C X (.while t b) := fun st h => by
  obtain ⟨⟨c, body⟩, q, h0⟩ := any_some (o := sWhile st) h
  obtain ⟨pos, rfl⟩ := sWhile_inv q
  obtain ⟨h1, r1⟩ := ba2 h0
  obtain ⟨h2, h3⟩ := ba2 r1
  exact stm_while so.po ((snd_E B t X c a h2).t h1) (i1 body h3)
theorem s_ret {e : ME} : TmS Z M T C X (.ret e) := fun st h => by
  obtain ⟨v, q, h0⟩ := any_some (o := sRet st) h
  obtain ⟨pos, rfl⟩ := sRet_inv q
  exact stm_ret (snd_E B e X v a h0).v
theorem s_retO {s : Nat} : TmS Z M T C X (.retO s) := fun st h => by
  obtain ⟨x, q, h0⟩ := any_some (o := sRetO st) h
  obtain ⟨px, pos, rfl⟩ := sRetO_inv q
  exact stm_retO a.c h0
theorem s_retN : TmS Z M T C X .retN := fun st h => by
  obtain ⟨u, q⟩ := Option.isSome_iff_exists.mp (show (sRetN st).isSome = true from h)
  obtain ⟨pos, rfl⟩ := sRetN_inv q
  exact stm_retN
theorem s_pass : TmS Z M T C X .pass := fun st h => by
  obtain ⟨u, q⟩ := Option.isSome_iff_exists.mp (show (sPass st).isSome = true from h)
  obtain ⟨pos, rfl⟩ := sPass_inv q
  exact stm_pass
theorem s_brk : TmS Z M T C X .brk := fun st h => by
  obtain ⟨u, q⟩ := Option.isSome_iff_exists.mp (show (sBrk st).isSome = true from h)
  obtain ⟨pos, rfl⟩ := sBrk_inv q
  exact stm_brk
theorem s_cont : TmS Z M T C X .cont := fun st h => by
  obtain ⟨u, q⟩ := Option.isSome_iff_exists.mp (show (sCont st).isSome = true from h)
  obtain ⟨pos, rfl⟩ := sCont_inv q
  exact stm_cont
omit B a so in
theorem s_consF {s : Nat} {r : MSs} (i2 : TmSs Z M T C X r) : TmSs Z M T C X (.cons (.frz s) r) := fun st h => by
  have h : mtSs M T X.N r X.env.scope st = true := by
    cases st with
    | nil => exact (ba2 h).2
    | cons s sts => exact h
  exact stm_frz (i2 st h)
theorem s_cons {m : MS} {r : MSs} (ef : isFrz m = false) (i1 : TmS Z M T C X m) (i2 : TmSs Z M T C X r) : TmSs Z M T C X (.cons m r) := fun st h => by
  cases st with
  | nil =>
    have h : (isFrz m && mtSs M T X.N r X.env.scope []) = true := h
    rw [ef] at h
    cases h
  | cons s sts =>
    have h : (if isFrz m then mtSs M T X.N r X.env.scope (s :: sts) else mtS M T X.N m X.env.scope s && mtSs M T X.N r X.env.scope sts) = true := h
    rw [ef] at h
    obtain ⟨h1, h2⟩ := ba2 h
    exact stm_cons (i1 s h1) (i2 sts h2)
theorem s_conss {m : MS} {r : MSs} (i1 : TmS Z M T C X m) (i2 : TmSs Z M T C X r) : TmSs Z M T C X (.cons m r) := by
  cases ef : isFrz m with
  | true =>
    cases m with
    | frz s => exact s_consF i2
    | _ => cases ef
  | false => exact s_cons B a so ef i1 i2
end
mutual
theorem snd_S (B : TmB Z M k) (a : All Z M T C CX fa fi k X) (so : SOk Z X) : ∀ m : MS, TmS Z M T C X m
  | .raise c es => fun st h => stm_raise
  | .set i e => s_set B a so
  | .setO i e => s_setO B a so
  | .par ts es => s_par B a so
  | .unp is e => s_unp B a so
  | .sattr o f e => s_sattr B a so
  | .pattr o f g m1 m2 => s_pattr B a so
  | .sidx o i e => s_sidx B a so
  | .oidx s i e => s_oidx B a so
  | .app s e => s_app B a so
  | .ext s e => s_ext B a so
  | .popS i s => s_popS B a so
  | .popD _ _ => fun st h => nomatch h
  | .ex e => s_ex B a so
  | .ifs t b1 b2 => s_ifs B a so (snd_Ss B a so b1) (snd_Ss B a so b2)
  | .for tg it b => s_for B a so (snd_Ss B a so b)
  | .while t b => s_while B a so (snd_Ss B a so b)
  | .ret e => s_ret B a so
  | .retO s => s_retO B a so
  | .retN => s_retN B a so
  | .pass => s_pass B a so
  | .brk => s_brk B a so
  | .cont => s_cont B a so
  | .sini _ _ => fun st h => nomatch h
  | .frz _ => fun st h => nomatch h
theorem snd_Ss (B : TmB Z M k) (a : All Z M T C CX fa fi k X) (so : SOk Z X) : ∀ m : MSs, TmSs Z M T C X m
  | .nil => fun st h => by
    cases st with
    | nil => exact stm_nil
    | cons _ _ => cases h
  | .cons m r => s_conss B a so (snd_S B a so m) (snd_Ss B a so r)
end
end
end Mi
/-! MiDef: defs of the text: what a call of one does. -/
namespace Mi
open PySem PySem.Spec PyProof.Rows L2

/-! ### binding -/
theorem zip_app {α β : Type} : ∀ (ps : List α) (us rest : List β), us.length = ps.length → ps.zip (us ++ rest) = ps.zip us
  | [], [], rest, _ => rfl
  | [], _ :: _, _, h => nomatch h
  | _ :: _, [], _, h => nomatch h
  | p :: ps, u :: us, rest, h => by
    show (p, u) :: ps.zip (us ++ rest) = (p, u) :: ps.zip us
    rw [zip_app ps us rest (Nat.succ.inj h)]
theorem lookup_zip {β : Type} : ∀ (ps : List Str) (us : List β) (x : Str), us.length = ps.length → x ∈ ps → ((ps.zip us).lookup x).isSome = true
  | [], _, x, _, h => nomatch h
  | _ :: _, [], _, h, _ => nomatch h
  | p :: ps, u :: us, x, h, hx => by
    show (List.lookup x ((p, u) :: ps.zip us)).isSome = true
    rw [List.lookup_cons]
    split
    · rfl
    · rename_i hne
      rcases List.mem_cons.mp hx with e | e
      · subst e
        rw [beq_self_eq_true] at hne
        cases hne
      · exact lookup_zip ps us x (Nat.succ.inj h) e
theorem filter_zip {β : Type} : ∀ (ps : List Str) (us : List β), us.length = ps.length → ps.Nodup → ps.filterMap (fun n => ((ps.zip us).lookup n).map (n, ·)) = ps.zip us
  | [], [], _, _ => rfl
  | [], _ :: _, h, _ => nomatch h
  | _ :: _, [], h, _ => nomatch h
  | p :: ps, u :: us, h, nd => by
    rw [List.nodup_cons] at nd
    show List.filterMap (fun n => (List.lookup n ((p, u) :: ps.zip us)).map (n, ·)) (p :: ps) = (p, u) :: ps.zip us
    have e1 : (List.lookup p ((p, u) :: ps.zip us)).map (p, ·) = some (p, u) := by
      rw [List.lookup_cons, beq_self_eq_true]
      rfl
    rw [List.filterMap_cons, e1]
    have this : ∀ n ∈ ps, (fun n => (List.lookup n ((p, u) :: ps.zip us)).map (n, ·)) n = (fun n => ((ps.zip us).lookup n).map (n, ·)) n := fun n hn => by
      show (List.lookup n ((p, u) :: ps.zip us)).map (n, ·) = ((ps.zip us).lookup n).map (n, ·)
      rw [List.lookup_cons]
      have : (n == p) = false := beq_eq_false_iff_ne.mpr fun z => nd.1 (z ▸ hn)
      rw [this]
    have go : ∀ (l : List Str) (f g : Str → Option (Str × β)), (∀ n ∈ l, f n = g n) → l.filterMap f = l.filterMap g := by
      intro l f g
      induction l with
      | nil => exact fun _ => rfl
      | cons a r ih =>
        intro h
        rw [List.filterMap_cons, List.filterMap_cons, h a List.mem_cons_self, ih fun n hn => h n (List.mem_cons_of_mem _ hn)]
    exact congrArg ((p, u) :: ·) ((go ps _ _ this).trans (filter_zip ps us (Nat.succ.inj h) nd.2))
theorem miss_nil {β : Type} (ps : List Str) (us : List β) (h : us.length = ps.length) : ps.filter (fun n => ((ps.zip us).lookup n).isNone) = [] := by
  rw [List.filter_eq_nil_iff]
  intro x hx
  have := lookup_zip ps us x h hx
  cases e : (ps.zip us).lookup x with
  | none => rw [e] at this; cases this
  | some _ => simp
theorem bind_plain {fd : FuncData} {as : List Arg} (hp : fd.params = ⟨[], as, none, [], [], none, []⟩) (hd : fd.defaults = .none) (nd : (as.map (·.arg)).Nodup) (us : List Value) (hl : us.length = (as.map (·.arg)).length) :
    bindArgs fd ⟨us, []⟩ = pure ((as.map (·.arg)).zip us) := by
  unfold bindArgs
  rw [hp, hd]
  have e5 : seqItems? Value.none = pure none := rfl
  simp only [List.map_nil, List.nil_append, List.append_nil, e5, pure_bind, Option.getD_none, List.drop_nil, List.length_nil, Nat.sub_zero, List.forIn_nil]
  generalize as.map (·.arg) = ps at nd hl ⊢
  have e2 := miss_nil ps us hl
  have e3 := filter_zip ps us hl nd
  have e4 : decide (us.length > ps.length) = false := decide_eq_false (by omega)
  have e6 : (#[] : Array Value).toList = [] := rfl
  simp only [e4, Bool.false_and, Bool.false_eq_true, if_false, e6, List.drop_nil, List.length_nil, Nat.sub_zero, List.take_length, e2, List.isEmpty_nil, Bool.not_true, List.drop_length, List.zip_nil_left, List.forIn_nil, pure_bind, e3]
theorem bind_star {fd : FuncData} {as : List Arg} {va : Arg} (hp : fd.params = ⟨[], as, some va, [], [], none, []⟩) (hd : fd.defaults = .none) (nd : (as.map (·.arg)).Nodup) (us rest : List Value) (hl : us.length = (as.map (·.arg)).length) :
    bindArgs fd ⟨us ++ rest, []⟩ = (newTuple rest >>= fun t => pure ((as.map (·.arg)).zip us ++ [(va.arg, t)])) := by
  unfold bindArgs
  rw [hp, hd]
  have e5 : seqItems? Value.none = pure none := rfl
  simp only [List.map_nil, List.nil_append, List.append_nil, e5, pure_bind, Option.getD_none, List.drop_nil, List.length_nil, Nat.sub_zero, List.forIn_nil]
  generalize as.map (·.arg) = ps at nd hl ⊢
  have e2 := miss_nil ps us hl
  have e3 := filter_zip ps us hl nd
  have e7 := zip_app ps us rest hl
  have e8 : List.drop ps.length (us ++ rest) = rest := by rw [← hl, List.drop_left]
  have e6 : (#[] : Array Value).toList = [] := rfl
  have e9 : (some va : Option Arg).isNone = false := rfl
  simp only [e7, e8, e9, Bool.and_false, Bool.false_eq_true, if_false, e6, List.drop_nil, List.length_nil, Nat.sub_zero, List.take_length, e2, List.isEmpty_nil, Bool.not_true, List.drop_length, List.zip_nil_left, List.forIn_nil, pure_bind, e3]

/-! ### what the head gives -/
def CX0 : CXT := fun _ _ _ _ _ _ => False
structure GOk (Z : NA) (M : NM) (T : CT) (fa fi : Nat → Addr) (P : Program) (w : World) (K : PySem.W.Frag) (mg : Str → Option Value) : Prop where
  hK : K = Z.K
  hP : P = Z.P
  hw : w = Z.w
  blt : ∀ b, mg (bltName b) = none
  rng : mg "range" = none
  isi : mg "isinstance" = none
  tbl : mg "bool" = none
  zip : mg "zip" = none
  enm : mg "enumerate" = none
  gi : ∀ x i, M.gi.lookup x = some i → ∃ t, mg x = some (.int i t)
  cl : ClOk Z M T K mg
  gf : ∀ f, M.gf f = true → mg (M.fn f) = some (.ref (fa f)) ∧ PySem.W.keepIn K (.ref (fa f)) = true
  mke : ∀ c, M.gc c = true → mg (M.cl c) = some (.ref (Z.ca c)) ∧ Mk K (Z.ca c) (fi c)
  mkv : ∀ c, T.mkc c = true → Mk K (Z.ca c) (fi c)
  mt : ∀ c m f, T.meth c m = some f → Cls K (Z.ca c) ∧ Meth K (Z.ca c) (M.at_ m) (fa f) ∧ ∀ g, Z.fld c g = true → Z.an g ≠ M.at_ m
  pr : ∀ c m f, T.prop c m = some f → Cls K (Z.ca c) ∧ ∃ p, PropOf K (Z.ca c) (M.at_ m) p (fa f)
  fd : ∀ c m, T.fld c m = true → Cls K (Z.ca c) ∧ NoAttr K (Z.ca c) (M.at_ m) ∧ Z.fld c m = true
  an : ∀ m, M.at_ m = Z.an m
  inj : ∀ c f g, Z.fld c f = true → Z.fld c g = true → Z.an f = Z.an g → f = g
  cm : ∀ c m f, T.cmeth c m = some (f, true) → ∃ mc p, ClX.CRead K (Z.ca c) mc ∧ ClX.CMet K (Z.ca c) mc (M.at_ m) p (fa f)
section
variable {Z : NA} {M : NM} {T : CT} {C : Cl} {k : Nat} {fa fi : Nat → Addr} {P : Program} {w : World} {K : PySem.W.Frag} {mg : Str → Option Value} {base : Heap}
theorem GOk.all (g : GOk Z M T fa fi P w K mg) (fn : ∀ f, FnG P w K mg base CX0 k (fa f) (spF Z C f)) (ini : ∀ c, FnG P w K mg base CX0 k (fi c) (spI Z C c)) (same : ∀ c xs mh, C.ini c c [] xs mh = C.mke c xs mh)
    {N : List Str} {qual : Str} {scope : Scope} {f : Addr} {cd : Value} {A : Around} {outer : List PySem.Env} {s : Shared} {H : Hp} {E : XK} (nd : N.Nodup) (hr : Room (k + 1) (A.deeper (envOfC qual scope s.heap.objs.size f cd))) (hg : A.guards = some []) :
    All Z M T C CX0 fa fi k (cxOf CX0 P w K mg base N qual scope f cd A outer s H E).nox where
  c := ⟨g.hK, rfl, nd, hr.mono (Nat.le_succ _), hg, g.blt, g.rng, g.isi, g.tbl, g.gi⟩
  cl := g.cl
  f := ⟨fn, ini, same, (fun _ _ _ _ _ _ _ h => h), (fun _ _ _ _ _ _ _ h => h), (fun _ _ _ _ _ h => h), g.gf, g.mke, g.mkv, g.mt, g.pr, g.fd, g.an, g.inj, g.cm⟩
  r := hr
  zip := g.zip
  enm := g.enm
theorem GOk.so (g : GOk Z M T fa fi P w K mg) {N : List Str} {qual : Str} {scope : Scope} {f : Addr} {cd : Value} {A : Around} {outer : List PySem.Env} {s : Shared} {H : Hp} {E : XK} :
    SOk Z (cxOf CX0 P w K mg base N qual scope f cd A outer s H E).nox := ⟨g.hP, g.hw, fun _ _ => rfl, PassesOwn.never⟩

/-! ### the check of a def -/
def scB (N P : List Str) (sc : Scope) : Bool := isFun sc && (!sc.isCoroutine && (!sc.isGenerator && (decide N.Nodup && (decide (N.take P.length = P) && ((P.all fun x => isLoc sc x) && sc.names.all fun y => match y.2 with
  | .free => false
  | _ => true)))))
theorem isLoc_of {sc : Scope} {x : Str} (h : isLoc sc x = true) : sc.names.lookup x = some .local ∨ sc.names.lookup x = some .cell := by
  unfold isLoc at h
  split at h
  · rename_i e; exact .inl e
  · rename_i e; exact .inr e
  · cases h
theorem scB_ok {N P : List Str} {sc : Scope} (h : scB N P sc = true) : FnScope N P sc := by
  obtain ⟨h1, r1⟩ := ba2 h
  obtain ⟨h2, r2⟩ := ba2 r1
  obtain ⟨h3, r3⟩ := ba2 r2
  obtain ⟨h4, r4⟩ := ba2 r3
  obtain ⟨h5, r5⟩ := ba2 r4
  obtain ⟨h6, h7⟩ := ba2 r5
  refine ⟨isFun_of h1, bnot h2, bnot h3, of_decide_eq_true h4, of_decide_eq_true h5, fun x hx => isLoc_of (List.all_eq_true.mp h6 x hx), fun y hy e => ?_⟩
  have := List.all_eq_true.mp h7 y hy
  rw [e] at this
  cases this
def fnChk (M : NM) (T : CT) (fd : FD) (N : List Str) (params : Arguments) (scope : Scope) (body : List Stmt) : Bool := match params with
  | ⟨[], as, va, [], [], none, []⟩ => decide (as.length = fd.np) && ((va.isSome == fd.va) && (decide (N.length = fd.ns) && (scB N (as.map (·.arg) ++ va.toList.map (·.arg)) scope && (decide (as.map (·.arg)).Nodup && mtSs M T N fd.body scope body))))
  | _ => false
structure FnC (M : NM) (T : CT) (fd : FD) (N : List Str) (params : Arguments) (scope : Scope) (body : List Stmt) (as : List Arg) (va : Option Arg) : Prop where
  hp : params = ⟨[], as, va, [], [], none, []⟩
  np : as.length = fd.np
  hv : va.isSome = fd.va
  ns : N.length = fd.ns
  S : FnScope N (as.map (·.arg) ++ va.toList.map (·.arg)) scope
  nd : (as.map (·.arg)).Nodup
  mt : mtSs M T N fd.body scope body = true
theorem fnChk_ok {fd : FD} {N : List Str} {params : Arguments} {scope : Scope} {body : List Stmt} (h : fnChk M T fd N params scope body = true) : ∃ as va, FnC M T fd N params scope body as va := by
  unfold fnChk at h
  split at h
  · obtain ⟨h1, r1⟩ := ba2 h
    obtain ⟨h2, r2⟩ := ba2 r1
    obtain ⟨h3, r3⟩ := ba2 r2
    obtain ⟨h4, r4⟩ := ba2 r3
    obtain ⟨h5, h6⟩ := ba2 r4
    exact ⟨_, _, rfl, of_decide_eq_true h1, eq_of_beq h2, of_decide_eq_true h3, scB_ok h4, of_decide_eq_true h5, h6⟩
  · cases h

/-! ### the slots at the entry -/
theorem repl_none {α : Type} {n i : Nat} {x : α} (h : (List.replicate n (none : Option α))[i]? = some (some x)) : False := by
  rw [List.getElem?_replicate] at h
  split at h <;> cases h
theorem vals_get {xs : List D} {n i : Nat} {v : SV} (h : (xs.map (fun x => some (SV.val x)) ++ List.replicate n none)[i]? = some (some v)) : ∃ d, v = .val d ∧ xs[i]? = some d ∧ i < xs.length := by
  by_cases hi : i < xs.length
  · rw [List.getElem?_append_left (by rw [List.length_map]; exact hi), List.getElem?_map] at h
    rw [List.getElem?_eq_getElem hi] at h
    cases h
    exact ⟨_, rfl, List.getElem?_eq_getElem hi, hi⟩
  · rw [List.getElem?_append_right (by rw [List.length_map]; omega)] at h
    exact (repl_none h).elim
theorem re_start {F H : Hp} {R : List Addr} {N : EN} {xs : List D} {vs : List V} {Ns : List Str} {n : Nat} (rs : RDs Z F R xs vs) (hn : xs.length + n = Ns.length) : RE Z N F R H (xs.map (fun x => some (SV.val x)) ++ List.replicate n none) (L2.start Ns vs) where
  len := by
    unfold L2.start
    simp only [List.length_append, List.length_map, List.length_replicate]
    rw [← rs.length]
    omega
  val := fun i d h => by
    obtain ⟨d', e, hx, hi⟩ := vals_get h
    cases e
    obtain ⟨v, hv, rd⟩ := rs.get hx
    refine ⟨v, ?_, rd⟩
    unfold L2.start
    rw [List.getElem?_append_left (by rw [List.length_map]; exact (List.getElem?_eq_some_iff.mp hv).1), List.getElem?_map, hv]
    rfl
  own := fun i o h => by
    obtain ⟨d', e, _⟩ := vals_get h
    cases e
  sep := fun i j o u a h => by
    obtain ⟨d', e, _⟩ := vals_get h
    cases e
  self := fun a c fs _ h => by
    obtain ⟨d', e, _⟩ := vals_get h
    cases e
/-- what is asked of the body -/
theorem run_KS {F H : Hp} {R : List Addr} {o : Out Fl} {Q : VK} (q : PD Z F R H (o.bd fun fl h => (match fl with
    | .nx _ => .ok .non h
    | .rt d => .ok d h
    | _ => .no)) Q) : PO1 o (KS Z ⟨F, R, H, none⟩ F R { nx := fun _ H' => Q .non H', rt := Q }) := by
  obtain ⟨fl, m, e, q⟩ := PO1.bd q
  refine PO1.mk e ?_
  cases fl with
  | nx en => exact fun F' R' H' σ _ ex rh _ => q F' R' H' .non ex rh .non
  | rt d => exact fun F' R' H' v _ ex rh rd => q F' R' H' v ex rh rd
  | bk en => cases q
  | ct en => cases q
theorem RDs.split {F : Hp} {R : List Addr} : ∀ (n : Nat) {xs : List D} {vs : List V}, RDs Z F R xs vs → RDs Z F R (xs.take n) (vs.take n) ∧ RDs Z F R (xs.drop n) (vs.drop n)
  | 0, _, _, r => ⟨.nil, r⟩
  | n + 1, _, _, .nil => ⟨.nil, .nil⟩
  | n + 1, _, _, .cons r rs => ⟨.cons r (RDs.split n rs).1, (RDs.split n rs).2⟩
/-- what a def does -/
def spR (Z : NA) (T : CT) (C : Cl) (fd : FD) : Sp := fun vs H Q _ => ∃ F R mh xs, RH Z F R H mh ∧ RDs Z F R xs vs ∧ PD Z F R H (runF T C fd xs mh) Q
theorem def_sound (g : GOk Z M T fa fi P w K mg) (B : ∀ Y, CtxOk Z M k Y → BltOk Z Y) (fn : ∀ f, FnG P w K mg base CX0 k (fa f) (spF Z C f)) (ini : ∀ c, FnG P w K mg base CX0 k (fi c) (spI Z C c)) (same : ∀ c xs mh, C.ini c c [] xs mh = C.mke c xs mh)
    {f : Addr} {name qual : Str} {params : Arguments} {body : List Stmt} {scope : Scope} {kV doc pm cdv ct oc : Value} {an od : Option Addr} {osl : Array (Option Value)} {fd : FD} {N : List Str}
    (lk : K.lookup f = some ⟨oc, od, .func (PySem.W.fnOf name qual params body scope .none kV doc pm an cdv ct), osl⟩) (hcd : PySem.W.codeIn K cdv qual = true) (chk : fnChk M T fd N params scope body = true) :
    FnG P w K mg base CX0 (k + 2) f (spR Z T C fd) := by
  intro A outer s H us vs Q E hr hgd e0 r hsp
  obtain ⟨F, R, mh, xs, rh, rs, q⟩ := hsp
  obtain ⟨as, va, c⟩ := fnChk_ok chk
  have hpp : (PySem.W.fnOf name qual params body scope .none kV doc pm an cdv ct).params = ⟨[], as, va, [], [], none, []⟩ := c.hp
  have all : ∀ (s2 : Shared) (H2 : Hp), Room (k + 1) (A.deeper (envOfC qual scope s2.heap.objs.size f cdv)) → All Z M T C CX0 fa fi k (cxOf CX0 P w K mg base N qual scope f cdv A outer s2 H2 E).nox := fun s2 H2 hr2 => g.all fn ini same c.S.nd hr2 hgd
  have q : PD Z F R H (match bindA fd xs with
    | some env => (evSs T C fd.body env mh).bd fun fl h => (match fl with
      | .nx _ => .ok .non h
      | .rt d => .ok d h
      | _ => .no)
    | none => .no) Q := q
  cases va with
  | none =>
    have hva : fd.va = false := c.hv.symm
    have eb : bindA fd xs = if xs.length = fd.np then some (xs.map (fun x => some (SV.val x)) ++ List.replicate (fd.ns - fd.np) none) else none := by
      unfold bindA
      rw [hva]
      rfl
    rw [eb] at q
    by_cases hl : xs.length = fd.np
    · rw [if_pos hl] at q
      have hlu : us.length = (as.map (·.arg)).length := by
        rw [← r.length, ← rs.length, hl, List.length_map, c.np]
      have hS : FnScope N (as.map (·.arg)) scope := by
        have := c.S
        simpa using this
      refine StX.run_bnd lk hcd hS hr e0 (G := fun ws H2 => ws = vs ∧ H2 = H) (fun A' Ex Q' h => ?_) fun s2 H2 ws ⟨e1, e2⟩ hr2 => ?_
      · rw [bind_plain hpp rfl c.nd us hlu]
        exact wpAny_pure (h s H vs us e0 Un.refl rfl (fun _ _ z => z) r (by rw [r.length]; exact hlu) ⟨rfl, rfl⟩)
      · subst e1
        subst e2
        refine ⟨_, PSs.nox (snd_Ss B (all s2 _ hr2) g.so fd.body body c.mt), ⟨F, R, _, none⟩, F, R, mh, _, rh, re_start rs ?_, EX.refl, run_KS q⟩
        rw [c.ns, hl]
        have : as.length ≤ N.length := by
          have := congrArg List.length hS.pre
          rw [List.length_take, List.length_map] at this
          omega
        rw [c.np, c.ns] at this
        omega
    · rw [if_neg hl] at q
      cases q
  | some va =>
    have hva : fd.va = true := c.hv.symm
    have eb : bindA fd xs = if fd.np ≤ xs.length ∧ xs.length ≤ lim then some ((xs.take fd.np).map (fun x => some (SV.val x)) ++ some (.val (.tup (xs.drop fd.np))) :: List.replicate (fd.ns - (fd.np + 1)) none) else none := by
      unfold bindA
      rw [hva]
      rfl
    rw [eb] at q
    by_cases hl : fd.np ≤ xs.length ∧ xs.length ≤ lim
    · rw [if_pos hl] at q
      have hS : FnScope N (as.map (·.arg) ++ [va.arg]) scope := c.S
      have hlx := rs.length
      have hlv := r.length
      obtain ⟨u1, u2, eu, r1, r2⟩ := StX.vals_split (ws := vs.take fd.np) (rest := vs.drop fd.np) (us := us) (by rw [List.take_append_drop]; exact r)
      subst eu
      have l1 : (vs.take fd.np).length = fd.np := by
        rw [List.length_take]
        omega
      have hl1 : u1.length = (as.map (·.arg)).length := by
        rw [← r1.length, l1, List.length_map, c.np]
      have hl2 : u2.length ≤ sizeLine := by
        rw [← r2.length, List.length_drop]
        exact Nat.le_trans (Nat.sub_le _ _) (by rw [← hlx]; exact lim_line hl.2)
      have hn : H s.heap.objs.size = Option.none := e0.hok.fresh (Nat.le_refl _)
      refine StX.run_bnd lk hcd hS hr e0 (G := fun ws H2 => ∃ p, H p = Option.none ∧ ws = vs.take fd.np ++ [V.ref p] ∧ H2 = upd H p (.tup (vs.drop fd.np))) (fun A' Ex Q' h => ?_) fun s2 H2 ws ⟨p, hp, e1, e2⟩ hr2 => ?_
      · rw [bind_star hpp rfl c.nd u1 u2 hl1]
        refine wpAny_bind (wpAny_newTuple (wpAny_pure ?_) hl2)
        have new : ObjOk P w (upd H s.heap.objs.size (.tup (vs.drop fd.np))) (s.heap.push ({ cls := .type "tuple", data := .seq u2.toArray } : Obj)) s.heap.objs.size (.tup (vs.drop fd.np)) := ⟨by rw [r2.length]; exact hl2, u2, r2, ⟨_, Heap.get?_push_size _ rfl, rfl, _, rfl⟩⟩
        have un := StX.un_laid (fs := frs outer) (s := s) (o := ({ cls := .type "tuple", data := .seq u2.toArray } : Obj)) (u := .tup (vs.drop fd.np)) hn
        have z := h _ _ (vs.take fd.np ++ [V.ref s.heap.objs.size]) (u1 ++ [Value.ref s.heap.objs.size]) (StX.env0_laid e0 new) un rfl (fun _ _ z => z) (r1.append (.cons rfl .nil))
          (by rw [List.length_append, List.length_append, l1, List.length_map, c.np] <;> rfl) ⟨_, hn, rfl, rfl⟩
        rw [List.zip_append hl1.symm] at z
        exact z
      · subst e1
        subst e2
        have x1 := EX.new (R := R) (o := HO.tup (vs.drop fd.np)) hp rh.sub
        have q2 := PD.shift x1 q
        have rs1 : RDs Z (upd F p (.tup (vs.drop fd.np))) R (xs.take fd.np ++ [D.tup (xs.drop fd.np)]) (vs.take fd.np ++ [V.ref p]) :=
          ((RDs.split fd.np rs).1.mono x1.f x1.r).append (.cons (.tup upd_same ((RDs.split fd.np rs).2.mono x1.f x1.r)) .nil)
        have eenv : (xs.take fd.np).map (fun x => some (SV.val x)) ++ some (.val (.tup (xs.drop fd.np))) :: List.replicate (fd.ns - (fd.np + 1)) none = (xs.take fd.np ++ [D.tup (xs.drop fd.np)]).map (fun x => some (SV.val x)) ++ List.replicate (fd.ns - (fd.np + 1)) none := by
          rw [List.map_append, List.append_assoc]
          rfl
        rw [eenv] at q2
        refine ⟨_, PSs.nox (snd_Ss B (all s2 _ hr2) g.so fd.body body c.mt), ⟨_, R, _, none⟩, _, R, mh, _, rh.new hp, re_start rs1 ?_, EX.refl, run_KS q2⟩
        rw [c.ns, List.length_append, List.length_take]
        have h3 : as.length + 1 ≤ N.length := by
          have := congrArg List.length hS.pre
          rw [List.length_take, List.length_append, List.length_map] at this
          simp only [List.length_cons, List.length_nil] at this
          omega
        rw [c.np, c.ns] at h3
        simp only [List.length_cons, List.length_nil]
        omega
    · rw [if_neg hl] at q
      cases q
end
end Mi
/-! MiIni: __init__ of a class. -/
namespace Mi
open PySem PySem.Spec PyProof.Rows L2

section
variable {Z : NA} {M : NM} {T : CT} {C : Cl} {k : Nat} {fa fi : Nat → Addr} {P : Program} {w : World} {K : PySem.W.Frag} {mg : Str → Option Value} {base : Heap}
theorem ex_hole {F H : Hp} {R : List Addr} {x : Addr} : EX F R (hole H x) F R H := by
  have sub : ∀ a o, hole H x a = some o → H a = some o := fun a o h => by
    unfold hole at h
    split at h
    · cases h
    · exact h
  exact ⟨fun _ _ h => h, fun a o h n => n, List.prefix_refl _, fun a h => .inl h, fun a o h _ => sub a o h, fun a o h => ⟨o, sub a o h⟩⟩
/-- what is asked of the body of an __init__ -/
theorem run_KI {F H : Hp} {R : List Addr} {F1 : Hp} {R1 : List Addr} {x : Addr} {c0 : Nat} {o : Out Fl} {Kt : List (Nat × D) → MH → Prop} {Q Qr : VK} (q : PO1 (o.bd fun fl h => (match fl with
    | .nx en => ofO (selfOf c0 en) h
    | _ => .no)) Kt) (hQ : ∀ fs' m F' R' H' dx' fv', Kt fs' m → EX F R (hole H x) F' R' H' → RH Z F' R' H' m → Trk F' R' H' x (.ins (Z.ca c0) dx' fv') → (∀ p ∈ fs', Z.fld c0 p.1 = true) → RFs Z F' R' fs' fv' → Q .non H') :
    PO1 o (KS Z ⟨F, R, hole H x, some x⟩ F1 R1 { nx := fun _ H' => Q .non H', rt := Qr }) := by
  obtain ⟨fl, m, e, q⟩ := PO1.bd q
  refine PO1.mk e ?_
  cases fl with
  | nx en =>
    obtain ⟨fs', e2, qq⟩ := PO1.ofO q
    refine fun F' R' H' σ _ ex rh re => ?_
    unfold selfOf at e2
    split at e2
    · rename_i c fs e3
      by_cases hc : c = c0
      · rw [if_pos hc] at e2
        cases e2
        subst hc
        have h0 := re.self x c fs' rfl e3
        obtain ⟨a, h1, ⟨⟨dx, fv, h2, hg, rf⟩, hF, hR⟩, _⟩ := re.own 0 _ e3
        rw [h0] at h1
        cases h1
        exact hQ fs' m F' R' H' dx fv qq ex rh ⟨h2, hF, hR⟩ hg rf
      · rw [if_neg hc] at e2
        cases e2
    · cases e2
  | rt d => cases q
  | bk en => cases q
  | ct en => cases q
/-- the slots at the entry of an __init__ -/
theorem re_self {F H : Hp} {R : List Addr} {N : EN} {env : Mi.Env} {σ : L2.St} {x dx : Addr} {c0 : Nat} {fs : List (Nat × D)} {fv : List (Str × V)} (re : RE Z { N with sf := none } F R H env σ) (h0 : 0 < env.length) (hno : ∀ (j : Nat) u, env[j]? ≠ some (some (.own u))) (tk : Trk F R H x (.ins (Z.ca c0) dx fv)) (hg : ∀ p ∈ fs, Z.fld c0 p.1 = true) (rf : RFs Z F R fs fv) (hN : N.H x = none) (hs : N.sf = some x) :
    RE Z N F R H (env.set 0 (some (.own (.ins c0 fs)))) (σ.set 0 (some (.ref x))) := by
  have r1 := re.setOwn (o := .ins c0 fs) (a := x) 0 ⟨⟨dx, fv, tk.1, hg, rf⟩, tk.2.1, tk.2.2⟩ hN (fun j u _ e => (hno j u e).elim) (.inl rfl)
  refine ⟨r1.len, r1.val, r1.own, r1.sep, fun a c f ha _ => ?_⟩
  rw [hs] at ha
  cases ha
  rw [List.getElem?_set, if_pos rfl, if_pos (by rw [← re.len]; exact h0)]
/-- what an __init__ does -/
def spIR (Z : NA) (T : CT) (C : Cl) (fd : FD) : Sp := fun vs H Q _ => ∃ F R mh x dx c0 fs fv xs ws, vs = V.ref x :: ws ∧ RH Z F R H mh ∧ Trk F R H x (.ins (Z.ca c0) dx fv) ∧ (∀ p ∈ fs, Z.fld c0 p.1 = true) ∧ RFs Z F R fs fv ∧ RDs Z F R xs ws ∧
  PO1 (runI T C fd c0 fs xs mh) fun fs' mh' => ∀ F' R' H' dx' fv', EX F R (hole H x) F' R' H' → RH Z F' R' H' mh' → Trk F' R' H' x (.ins (Z.ca c0) dx' fv') → (∀ p ∈ fs', Z.fld c0 p.1 = true) → RFs Z F' R' fs' fv' → Q .non H'
theorem no_own {xs : List D} {n : Nat} (j : Nat) (u : MO) : (xs.map (fun x => some (SV.val x)) ++ List.replicate n (none : Option SV))[j]? ≠ some (some (.own u)) := fun h => by
  obtain ⟨d, e, _⟩ := vals_get h
  cases e
theorem start_set {N : List Str} {ws : List V} {x : V} : (L2.start N (.non :: ws)).set 0 (some x) = L2.start N (x :: ws) := by
  unfold L2.start
  rfl
theorem init_sound (g : GOk Z M T fa fi P w K mg) (B : ∀ Y, CtxOk Z M k Y → BltOk Z Y) (fn : ∀ f, FnG P w K mg base CX0 k (fa f) (spF Z C f)) (ini : ∀ c, FnG P w K mg base CX0 k (fi c) (spI Z C c)) (same : ∀ c xs mh, C.ini c c [] xs mh = C.mke c xs mh)
    {f : Addr} {name qual : Str} {params : Arguments} {body : List Stmt} {scope : Scope} {kV doc pm cdv ct oc : Value} {an od : Option Addr} {osl : Array (Option Value)} {fd : FD} {N : List Str}
    (lk : K.lookup f = some ⟨oc, od, .func (PySem.W.fnOf name qual params body scope .none kV doc pm an cdv ct), osl⟩) (hcd : PySem.W.codeIn K cdv qual = true) (chk : fnChk M T fd N params scope body = true) (hnp0 : fd.np ≠ 0) :
    FnG P w K mg base CX0 (k + 2) f (spIR Z T C fd) := by
  intro A outer s H us vs Q E hr hgd e0 r hsp
  obtain ⟨F, R, mh, x, dx, c0, fs, fv, xs, ws, rfl, rh, tk, hg, rf, rs, q⟩ := hsp
  obtain ⟨as, va, c⟩ := fnChk_ok chk
  have hpp : (PySem.W.fnOf name qual params body scope .none kV doc pm an cdv ct).params = ⟨[], as, va, [], [], none, []⟩ := c.hp
  have all : ∀ (s2 : Shared) (H2 : Hp), Room (k + 1) (A.deeper (envOfC qual scope s2.heap.objs.size f cdv)) → All Z M T C CX0 fa fi k (cxOf CX0 P w K mg base N qual scope f cdv A outer s2 H2 E).nox := fun s2 H2 hr2 => g.all fn ini same c.S.nd hr2 hgd
  have q : PO1 (match bindA fd (.non :: xs) with
    | some env => (evSs T C fd.body (env.set 0 (some (.own (.ins c0 fs)))) mh).bd fun fl h => (match fl with
      | .nx en => ofO (selfOf c0 en) h
      | _ => .no)
    | none => .no) _ := q
  cases va with
  | none =>
    have hva : fd.va = false := c.hv.symm
    have eb : bindA fd (.non :: xs) = if (D.non :: xs).length = fd.np then some ((D.non :: xs).map (fun x => some (SV.val x)) ++ List.replicate (fd.ns - fd.np) none) else none := by
      unfold bindA
      rw [hva]
      rfl
    rw [eb] at q
    by_cases hl : (D.non :: xs).length = fd.np
    · rw [if_pos hl] at q
      have hlv : (V.ref x :: ws).length = fd.np := by
        rw [List.length_cons, ← rs.length, ← List.length_cons (a := D.non), hl]
      have hlu : us.length = (as.map (·.arg)).length := by
        rw [← r.length, hlv, List.length_map, c.np]
      have hS : FnScope N (as.map (·.arg)) scope := by
        have := c.S
        simpa using this
      refine StX.run_bnd lk hcd hS hr e0 (G := fun us' H2 => us' = V.ref x :: ws ∧ H2 = H) (fun A' Ex Q' h => ?_) fun s2 H2 us' ⟨e1, e2⟩ hr2 => ?_
      · rw [bind_plain hpp rfl c.nd us hlu]
        exact wpAny_pure (h s H _ us e0 Un.refl rfl (fun _ _ z => z) r (by rw [r.length]; exact hlu) ⟨rfl, rfl⟩)
      · subst e1
        subst e2
        have h3 : as.length ≤ N.length := by
          have := congrArg List.length hS.pre
          rw [List.length_take, List.length_map] at this
          omega
        rw [c.np, c.ns] at h3
        have re0 : RE Z { (⟨F, R, hole H2 x, some x⟩ : EN) with sf := none } F R H2 ((D.non :: xs).map (fun x => some (SV.val x)) ++ List.replicate (fd.ns - fd.np) none) (L2.start N (.non :: ws)) := re_start (.cons .non rs) (by rw [c.ns, hl]; omega)
        have re1 := re_self (N := ⟨F, R, hole H2 x, some x⟩) re0 (by simp) no_own tk hg rf (if_pos rfl) rfl
        rw [start_set] at re1
        exact ⟨_, PSs.nox (snd_Ss B (all s2 _ hr2) g.so fd.body body c.mt), ⟨F, R, hole H2 x, some x⟩, F, R, mh, _, rh, re1, ex_hole, run_KI q fun fs' m F' R' H' dx' fv' hk => hk F' R' H' dx' fv'⟩
    · rw [if_neg hl] at q
      cases q
  | some va =>
    have hva : fd.va = true := c.hv.symm
    have eb : bindA fd (.non :: xs) = if fd.np ≤ (D.non :: xs).length ∧ (D.non :: xs).length ≤ lim then some (((D.non :: xs).take fd.np).map (fun x => some (SV.val x)) ++ some (.val (.tup ((D.non :: xs).drop fd.np))) :: List.replicate (fd.ns - (fd.np + 1)) none) else none := by
      unfold bindA
      rw [hva]
      rfl
    rw [eb] at q
    by_cases hl : fd.np ≤ (D.non :: xs).length ∧ (D.non :: xs).length ≤ lim
    · rw [if_pos hl] at q
      have hS : FnScope N (as.map (·.arg) ++ [va.arg]) scope := c.S
      -- the first parameter is the instance
      · obtain ⟨np, hnp⟩ : ∃ n, fd.np = n + 1 := ⟨fd.np - 1, by omega⟩
        rw [hnp] at q hl
        have rs0 : RDs Z F R (D.non :: xs) (V.non :: ws) := .cons .non rs
        have hlx := rs.length
        have hlv := r.length
        obtain ⟨u1, u2, eu, r1, r2⟩ := StX.vals_split (ws := (V.ref x :: ws).take (np + 1)) (rest := (V.ref x :: ws).drop (np + 1)) (us := us) (by rw [List.take_append_drop]; exact r)
        subst eu
        have l0 : (V.ref x :: ws).length = (D.non :: xs).length := by rw [List.length_cons, List.length_cons, hlx]
        have l1 : ((V.ref x :: ws).take (np + 1)).length = np + 1 := by
          rw [List.length_take, l0]
          omega
        have hl1 : u1.length = (as.map (·.arg)).length := by
          rw [← r1.length, l1, List.length_map, c.np, hnp]
        have hl2 : u2.length ≤ sizeLine := by
          rw [← r2.length, List.length_drop, l0]
          exact Nat.le_trans (Nat.sub_le _ _) (lim_line hl.2)
        have hn : H s.heap.objs.size = Option.none := e0.hok.fresh (Nat.le_refl _)
        refine StX.run_bnd lk hcd hS hr e0 (G := fun us' H2 => ∃ p, H p = Option.none ∧ us' = (V.ref x :: ws).take (np + 1) ++ [V.ref p] ∧ H2 = upd H p (.tup ((V.ref x :: ws).drop (np + 1)))) (fun A' Ex Q' h => ?_) fun s2 H2 us' ⟨p, hp, e1, e2⟩ hr2 => ?_
        · rw [bind_star hpp rfl c.nd u1 u2 hl1]
          refine wpAny_bind (wpAny_newTuple (wpAny_pure ?_) hl2)
          have new : ObjOk P w (upd H s.heap.objs.size (.tup ((V.ref x :: ws).drop (np + 1)))) (s.heap.push ({ cls := .type "tuple", data := .seq u2.toArray } : Obj)) s.heap.objs.size (.tup ((V.ref x :: ws).drop (np + 1))) := ⟨by rw [r2.length]; exact hl2, u2, r2, ⟨_, Heap.get?_push_size _ rfl, rfl, _, rfl⟩⟩
          have un := StX.un_laid (fs := frs outer) (s := s) (o := ({ cls := .type "tuple", data := .seq u2.toArray } : Obj)) (u := .tup ((V.ref x :: ws).drop (np + 1))) hn
          have z := h _ _ ((V.ref x :: ws).take (np + 1) ++ [V.ref s.heap.objs.size]) (u1 ++ [Value.ref s.heap.objs.size]) (StX.env0_laid e0 new) un rfl (fun _ _ z => z) (r1.append (.cons rfl .nil))
            (by rw [List.length_append, List.length_append, l1, List.length_map, c.np, hnp] <;> rfl) ⟨_, hn, rfl, rfl⟩
          rw [List.zip_append hl1.symm] at z
          exact z
        · subst e1
          subst e2
          have x1 := EX.new (R := R) (o := HO.tup ((V.ref x :: ws).drop (np + 1))) hp rh.sub
          have tk1 := tk.ext x1
          have rs1 : RDs Z (upd F p (.tup (ws.drop np))) R (D.non :: (xs.take np ++ [D.tup (xs.drop np)])) (V.non :: (ws.take np ++ [V.ref p])) :=
            .cons .non (((RDs.split np rs).1.mono x1.f x1.r).append (.cons (.tup upd_same ((RDs.split np rs).2.mono x1.f x1.r)) .nil))
          have eenv : ((D.non :: xs).take (np + 1)).map (fun x => some (SV.val x)) ++ some (.val (.tup ((D.non :: xs).drop (np + 1)))) :: List.replicate (fd.ns - (np + 1 + 1)) none = (D.non :: (xs.take np ++ [D.tup (xs.drop np)])).map (fun x => some (SV.val x)) ++ List.replicate (fd.ns - (np + 1 + 1)) none := by
            show some (SV.val D.non) :: (((xs.take np).map (fun x => some (SV.val x))) ++ some (.val (.tup (xs.drop np))) :: List.replicate (fd.ns - (np + 1 + 1)) none) = some (SV.val D.non) :: ((xs.take np ++ [D.tup (xs.drop np)]).map (fun x => some (SV.val x)) ++ List.replicate (fd.ns - (np + 1 + 1)) none)
            rw [List.map_append, List.append_assoc]
            rfl
          rw [eenv] at q
          have h3 : as.length + 1 ≤ N.length := by
            have := congrArg List.length hS.pre
            rw [List.length_take, List.length_append, List.length_map] at this
            simp only [List.length_cons, List.length_nil] at this
            omega
          rw [c.np, c.ns, hnp] at h3
          have hlx' : np ≤ xs.length := by
            have := hl.1
            rw [List.length_cons] at this
            omega
          have re0 : RE Z { (⟨F, R, hole H x, some x⟩ : EN) with sf := none } (upd F p (.tup (ws.drop np))) R (upd H p (.tup (ws.drop np))) ((D.non :: (xs.take np ++ [D.tup (xs.drop np)])).map (fun x => some (SV.val x)) ++ List.replicate (fd.ns - (np + 1 + 1)) none) (L2.start N (.non :: (ws.take np ++ [V.ref p]))) := re_start rs1 (by
            rw [c.ns, List.length_cons, List.length_append, List.length_take]
            simp only [List.length_cons, List.length_nil]
            omega)
          have re1 := re_self (N := ⟨F, R, hole H x, some x⟩) re0 (by simp) no_own tk1 hg (RFs.mono x1.f x1.r rf) (if_pos rfl) rfl
          rw [start_set] at re1
          exact ⟨_, PSs.nox (snd_Ss B (all s2 _ hr2) g.so fd.body body c.mt), ⟨F, R, hole H x, some x⟩, _, R, mh, _, rh.new hp, re1, ex_hole.trans x1, run_KI q fun fs' m F' R' H' dx' fv' hk => hk F' R' H' dx' fv'⟩
    · rw [if_neg hl] at q
      cases q
end
end Mi
/-! MiLvl: every def of the table, called as deep as the law needs; the law's call. -/
namespace Mi
open PySem PySem.Spec PyProof.Rows L2

/-- the def at f is that of the table -/
def DefIn (K : PySem.W.Frag) (M : NM) (T : CT) (fd : FD) (f : Addr) : Prop := ∃ (oc : Value) (od : Option Addr) (osl : Array (Option Value)) (name qual : Str) (params : Arguments) (body : List Stmt) (scope : Scope) (kV doc pm : Value) (an : Option Addr) (cdv ct : Value) (N : List Str),
  K.lookup f = some ⟨oc, od, .func (PySem.W.fnOf name qual params body scope .none kV doc pm an cdv ct), osl⟩ ∧ PySem.W.codeIn K cdv qual = true ∧ fnChk M T fd N params scope body = true
section
variable {Z : NA} {M : NM} {B : Tb} {fa fi : Nat → Addr} {P : Program} {w : World} {K : PySem.W.Frag} {mg : Str → Option Value} {base : Heap}
theorem FnG.no {k : Nat} {f : Addr} {sp : Sp} (h : ∀ vs H Q E, ¬ sp vs H Q E) : FnG P w K mg base CX0 k f sp := fun _ _ _ _ _ _ _ _ _ _ _ _ z => (h _ _ _ _ z).elim
theorem FnG.sp {k : Nat} {f : Addr} {sp sp' : Sp} (F : FnG P w K mg base CX0 k f sp) (h : ∀ vs H Q E, sp' vs H Q E → sp vs H Q E) : FnG P w K mg base CX0 k f sp' := fun A o s H us vs Q E hr hg e0 r z => F A o s H us vs Q E hr hg e0 r (h _ _ _ _ z)
theorem blts {k : Nat} (Y : Cx) (hc : CtxOk Z M k Y) : BltOk Z Y := ⟨cb_sorted hc, cb_repr hc⟩
/-! ### the law's call -/
/-- no object of the part looked at is a list -/
def NoLst (K : PySem.W.Frag) : Prop := ∀ a o, K.lookup a = some o → o.cls ≠ .type "list"
theorem rds_ints {F : Hp} {R : List Addr} : ∀ ns : List Int, RDs Z F R (ns.map D.int) (ns.map V.int)
  | [] => .nil
  | n :: r => .cons (.int n) (rds_ints r)
/-- the law's def, of the list of the script's numbers, says true -/
theorem law_end {s₁ : Shared} {vs : List Value} {ns : List Int} {k : Nat} {a : Addr} {mb : Str → Option Value} {C : Cl} {f : Nat} {fL : Addr} {h' : MH}
    (KX : K.In s₁.heap) (hns : s₁.heap.Ns mainGlobals mg) (hb : s₁.heap.Ns builtinsNs mb) (hbb : ∀ x : Str, x ≠ "__name__" → mb x = bootBuiltins x) (hlim : s₁.heap.NoLimit) (hgs : s₁.gens = #[])
    (ha : s₁.heap.get? a = some { cls := .type "list", data := .seq vs.toArray }) (hi : IntsAre vs ns) (hl : ns.length ≤ sizeLine) (hr : Room k callerA) (nl : NoLst K)
    (F : ∀ base : Heap, FnG P w K mg base CX0 k fL (spF Z C f)) (law : C.fn f [.lst (ns.map D.int)] [] = .ok (.bl true) h') :
    codeAny (model P w) callerA (.call (.ref fL) ⟨[.ref a], []⟩) (fun r s' => r = .ok (.ret (.bool true)) ∧ OldK s₁.heap s'.heap ∧ s'.os = s₁.os ∧ AllBare s'.gens) s₁ := by
  have rv := L2.vals_ints hi
  have lenV := hi.length
  have hk : K.lookup a = none := by
    cases e : K.lookup a with
    | none => rfl
    | some o =>
      have e2 := KX a o e
      rw [ha] at e2
      cases e2
      exact (nl a _ e rfl).elim
  let ob : Obj := { cls := .type "list", data := .seq vs.toArray }
  let H : Hp := fun b => if b = a then some (.frz ob (.lst (ns.map V.int))) else none
  have hO : L2.Only H := fun b => by
    by_cases hb : b = a
    · exact .inr ⟨_, _, if_pos hb⟩
    · exact .inl (if_neg hb)
  have hok : HOk P w H s₁.heap := fun b u z => by
    by_cases hb : b = a
    · have z' := (if_pos hb).symm.trans z
      cases z'
      subst hb
      exact ⟨ha, by rw [List.length_map]; exact hl, vs, _, rv, ha⟩
    · have z' := (if_neg hb).symm.trans z
      cases z'
  have hA : ∀ b, H b ≠ none → b = a := fun b z => by
    by_cases hb : b = a
    · exact hb
    · exact absurd (if_neg hb) z
  have base_of : ∀ {b : Addr} {o : Obj}, s₁.heap.get? b = some o → H b = none → (hidT s₁.heap H).get? b = some o := fun e n => hidT_get e n
  have noA : ∀ {b : Addr} {o : Obj} {es : Array DictEntry} {ep : Nat}, s₁.heap.get? b = some o → o.data = .dict es ep → H b = none := fun {b o es ep} e d => by
    cases q : H b with
    | none => rfl
    | some u =>
      have e' : b = a := hA b (by rw [q]; simp)
      subst e'
      rw [ha] at e; cases e
      have d' : Data.seq vs.toArray _ = Data.dict es ep := d
      cases d'
  have nsK : ∀ {b : Addr} {m : Str → Option Value}, s₁.heap.Ns b m → (hidT s₁.heap H).Ns b m := fun {b m} ⟨o, es, ep, e, d, r⟩ => ⟨o, es, ep, base_of e (noA e d), d, r⟩
  have hKb : K.In (hidT s₁.heap H) := fun b o e => base_of (KX b o e) (by
    cases q : H b with
    | none => rfl
    | some u =>
      have e' : b = a := hA b (by rw [q]; simp)
      subst e'
      rw [hk] at e; cases e)
  have hM : Mod K mg (hidT s₁.heap H) := ⟨hKb, nsK hns, ⟨mb, nsK hb, hbb⟩, let ⟨mc, h1, h2⟩ := hlim; ⟨mc, nsK h1, h2⟩⟩
  have e0 : Env0 P w K mg (hidT s₁.heap H) callerA [] s₁ H := ⟨rfl, hM, fun b o e => of_hidT e, Nat.le_of_eq (hidT_size _ _), trivial, fun b hb => absurd (show b ∈ ([] : List Addr) from hb) (by simp), hok, .of_eq hgs⟩
  have hsp : spF Z C f [.ref a] H (fun v _ => v = .bl true) fun _ _ _ => False := by
    refine ⟨H, [], [], [.lst (ns.map D.int)], ⟨fun _ _ e => e, rfl, fun n b o e => ?_, fun n m b e => ?_, fun b hb => ?_⟩, .cons (.lst (.inr ⟨ob, if_pos rfl⟩) (rds_ints ns)) .nil, ?_⟩
    · simp at e
    · simp at e
    · simp at hb
    · show PO1 (C.fn f [.lst (ns.map D.int)] []) _
      rw [law]
      intro F' R' H' v ex rh rd
      cases rd
      rfl
  refine codeAny_mono (F _ callerA [] s₁ H [.ref a] [.ref a] _ _ hr rfl e0 (.cons rfl .nil) hsp) fun r s' h => ?_
  cases r with
  | error e => exact h.elim
  | ok fl =>
    cases fl with
    | next => exact False.elim h
    | brk => exact False.elim h
    | cont => exact False.elim h
    | ret u =>
      obtain ⟨v, H', os, bare, un, hok', r', q⟩ := h
      have q' : v = .bl true := q
      subst q'
      obtain rfl : u = Value.bool true := r'
      refine ⟨rfl, OldK.of_keep fun b o e => ?_, os, bare⟩
      cases q : H b with
      | none => exact un.keep b o e q (by intro z; exact absurd (show b ∈ ([] : List Addr) from z) (by simp)) (by simp)
      | some u =>
        rcases hO b with z | ⟨ob, xs, z⟩
        · rw [q] at z; cases z
        · have z2 := un.frzs b ob _ z
          obtain ⟨e1, _⟩ := hok b _ z
          obtain ⟨e2, _⟩ := hok' b _ z2
          rw [e] at e1; cases e1
          exact e2
end
end Mi
/-! MiHead: what the head must show of the top's objects, as one equation. -/
namespace Mi
open PySem PySem.Spec PyProof.Rows L2

/-- where a def stands: a global, a class's method, property, classmethod -/
inductive Lo where
  | g (x : Str) | m (C m : Str) | p (C m : Str) | c (C m : Str)
def recHd (K : PySem.W.Frag) (p : Addr) (k : String) : Addr := match PySem.W.recIn K p k with
  | some (.ref g :: _) => g
  | _ => 0
def recOk (K : PySem.W.Frag) (p : Addr) (k : String) : Bool := match PySem.W.recIn K p k with
  | some (.ref _ :: _) => true
  | _ => false
theorem recOk_ok {K : PySem.W.Frag} {p : Addr} {k : String} (h : recOk K p k = true) : ∃ rest, PySem.W.recIn K p k = some (.ref (recHd K p k) :: rest) := by
  unfold recOk at h
  split at h
  · rename_i g rest e
    refine ⟨rest, ?_⟩
    unfold recHd
    rw [e]
  · cases h
def Lo.at (K : PySem.W.Frag) : Lo → Addr
  | Lo.g x => He.ga K x
  | Lo.m C y => He.ma K (He.ga K C) y
  | Lo.p C y => recHd K (He.ma K (He.ga K C) y) "property"
  | Lo.c C y => recHd K (He.ma K (He.ga K C) y) "classmethod"
/-- a def's row: where, its name, qualified name, parameters, body, scope; the names of its slots -/
structure DD where
  at_ : Lo
  name : Str
  qual : Str
  params : Arguments
  body : List Stmt
  scope : Scope
  N : List Str
structure HD where
  cls : List (Nat × Str)
  ats : List (Nat × Str)
  gfs : List (Nat × Str)
  gcs : List Nat
  mks : List Nat
  gi : List (Str × Int)
  kls : List Nat
  sub : List (Nat × Nat)
  meth : List ((Nat × Nat) × Nat)
  prop : List ((Nat × Nat) × Nat)
  fld : List (Nat × Nat)
  cme : List ((Nat × Nat) × (Nat × Bool))
  fns : List (Nat × FD)
  ins : List (Nat × FD)
  sup : List Nat := []
def nmL (l : List (Nat × Str)) (i : Nat) : Str := (l.lookup i).getD ""
def HD.ct (h : HD) : CT where
  meth := fun c m => h.meth.lookup (c, m)
  prop := fun c m => h.prop.lookup (c, m)
  fld := fun c m => h.fld.contains (c, m)
  cls := fun c => h.kls.contains c
  sub := fun c d => h.sub.contains (c, d)
  cmeth := fun c m => h.cme.lookup (c, m)
  mkc := fun c => h.mks.contains c
def HD.tb (h : HD) : Tb := ⟨h.ct, fun f => h.fns.lookup f, fun c => h.ins.lookup c⟩
def HD.nm (h : HD) : NM where
  fn := nmL h.gfs
  cl := nmL h.cls
  at_ := nmL h.ats
  gi := h.gi
  gf := fun f => (h.gfs.lookup f).isSome
  gc := fun c => h.gcs.contains c
def HD.ca (h : HD) (K : PySem.W.Frag) (c : Nat) : Addr := He.ga K (nmL h.cls c)
def HD.na (h : HD) (P : Program) (w : World) (K : PySem.W.Frag) : NA where
  P := P
  w := w
  K := K
  ca := h.ca K
  an := nmL h.ats
  fld := fun c m => h.fld.contains (c, m)
/-- the address of the def of number f -/
def adr (K : PySem.W.Frag) : List (Nat × FD) → List DD → Nat → Addr
  | (i, _) :: r, d :: s, f => if f = i then d.at_.at K else adr K r s f
  | _, _, _ => 0

/-! ### what is read of the heap -/
def fnV (K : PySem.W.Frag) (d : DD) : He.FnV := match K.lookup (d.at_.at K) with
  | some ⟨_, _, .func fd, _⟩ => some (fd.name, fd.qualname, fd.params, fd.body, fd.scope, fd.globals, fd.closure, fd.defaults, fd.builtins)
  | _ => none
def DD.val (d : DD) : He.FnV := some (d.name, d.qual, d.params, .stmts d.body, d.scope, mainGlobals, [], .none, builtinsNs)
def codeB (K : PySem.W.Frag) (d : DD) : Bool := match K.lookup (d.at_.at K) with
  | some ⟨_, _, .func fd, _⟩ => PySem.W.codeIn K fd.code d.qual
  | _ => false
def clsB (K : PySem.W.Frag) (C : Addr) : Bool := PySem.W.plainGet K C Str.empty && (PySem.W.hasDictIn K C && (PySem.W.plainOver K C && He.eqO (PySem.W.findIn K (.ref C) "__setattr__") (some (some (.builtin "object.__setattr__")))))
theorem clsB_ok {K : PySem.W.Frag} {C : Addr} (c : clsB K C = true) : Cls K C := by
  obtain ⟨c1, c⟩ := He.ba c
  obtain ⟨c2, c⟩ := He.ba c
  obtain ⟨c3, c4⟩ := He.ba c
  exact ⟨c1, c2, c3, He.eqO_ok c4⟩
def gloB (K : PySem.W.Frag) (x : Str) (a : Addr) : Bool := He.eqO (PySem.W.nsIn K mainGlobals x) (some (some (.ref a)))
def freeB (K : PySem.W.Frag) (x : Str) : Bool := He.eqO (PySem.W.nsIn K mainGlobals x) (some none)
def mkB (K : PySem.W.Frag) (C f : Addr) : Bool := PySem.W.makesIn K C && (He.eqO (PySem.W.findIn K (.ref C) "__init__") (some (some (.ref f))) && (PySem.W.isFn K (.ref f) && PySem.W.keepIn K (.ref C)))
theorem mkB_ok {K : PySem.W.Frag} {C f : Addr} (c : mkB K C f = true) : Mk K C f := by
  obtain ⟨c1, c⟩ := He.ba c
  obtain ⟨c2, c⟩ := He.ba c
  obtain ⟨c3, c4⟩ := He.ba c
  exact ⟨c1, He.eqO_ok c2, c3, c4⟩
def methB (K : PySem.W.Frag) (C : Addr) (m : Str) (f : Addr) : Bool := He.eqO (PySem.W.findIn K (.ref C) m) (some (some (.ref f))) && (PySem.W.isFn K (.ref f) && PySem.W.keepIn K (.ref f))
theorem methB_ok {K : PySem.W.Frag} {C f : Addr} {m : Str} (c : methB K C m f = true) : Meth K C m f := by
  obtain ⟨c1, c⟩ := He.ba c
  obtain ⟨c2, c3⟩ := He.ba c
  exact ⟨He.eqO_ok c1, c2, c3⟩
def propB (K : PySem.W.Frag) (C : Addr) (m : Str) (g : Addr) : Bool := He.eqO (PySem.W.findIn K (.ref C) m) (some (some (.ref (He.ma K C m)))) && (He.eqO (PySem.W.specialIn K (.ref (He.ma K C m)) "__get__") (some (some (.builtin "property.__get__"))) &&
  (decide (PySem.W.takesIn K (.ref (He.ma K C m)) = some true) && (recOk K (He.ma K C m) "property" && decide (recHd K (He.ma K C m) "property" = g))))
theorem propB_ok {K : PySem.W.Frag} {C g : Addr} {m : Str} (c : propB K C m g = true) : PropOf K C m (He.ma K C m) g := by
  obtain ⟨c1, c⟩ := He.ba c
  obtain ⟨c2, c⟩ := He.ba c
  obtain ⟨c3, c⟩ := He.ba c
  obtain ⟨c4, c5⟩ := He.ba c
  obtain ⟨rest, e⟩ := recOk_ok c4
  rw [of_decide_eq_true c5] at e
  exact ⟨He.eqO_ok c1, He.eqO_ok c2, of_decide_eq_true c3, rest, e⟩
def metB (K : PySem.W.Frag) (C : Addr) (m : Str) (g : Addr) : Bool := PySem.W.readsIn K C (.type "type") && (He.eqO (PySem.W.specialIn K (.ref C) "__getattribute__") (some (some (.builtin "type.__getattribute__"))) && ((match PySem.W.findCls K (.ref C) (.type "type") m with
  | some (.get (.builtin b) (.ref p) .none (.ref c)) => decide (b = "classmethod.__get__") && (decide (p = He.ma K C m) && decide (c = C))
  | _ => false) && (recOk K (He.ma K C m) "classmethod" && (decide (recHd K (He.ma K C m) "classmethod" = g) && PySem.W.fnIn K g))))
theorem metB_ok {K : PySem.W.Frag} {C g : Addr} {m : Str} (c : metB K C m g = true) : ∃ mc p, ClX.CRead K C mc ∧ ClX.CMet K C mc m p g := by
  obtain ⟨c1, c⟩ := He.ba c
  obtain ⟨c2, c⟩ := He.ba c
  obtain ⟨c3, c⟩ := He.ba c
  obtain ⟨c4, c⟩ := He.ba c
  obtain ⟨c5, c6⟩ := He.ba c
  obtain ⟨rest, e⟩ := recOk_ok c4
  rw [of_decide_eq_true c5] at e
  refine ⟨.type "type", He.ma K C m, ⟨c1, He.eqO_ok c2⟩, ?_, ⟨rest, e⟩, c6⟩
  split at c3
  · rename_i b p c' e3
    obtain ⟨d1, d⟩ := He.ba c3
    obtain ⟨d2, d3⟩ := He.ba d
    have f1 : b = "classmethod.__get__" := of_decide_eq_true d1
    have f2 : p = He.ma K C m := of_decide_eq_true d2
    have f3 : c' = C := of_decide_eq_true d3
    rw [e3, f1, f2, f3]
  · cases c3
def intB (K : PySem.W.Frag) (x : Str) (i : Int) : Bool := (He.Fa.int x i).ok K
def kdB (K : PySem.W.Frag) (a : Addr) : Bool := [0, 1, 2, 3, 4, 5].all fun n => decide (PySem.W.kitOne K (.ref a) (.type (kdName n)) = some false) && decide (PySem.W.kitOne K (.type (kdName n)) (.ref a) = some false)
theorem kdB_ok {K : PySem.W.Frag} {a : Addr} (c : kdB K a = true) (n : Nat) : PySem.W.kitOne K (.ref a) (.type (kdName n)) = some false ∧ PySem.W.kitOne K (.type (kdName n)) (.ref a) = some false := by
  have h : ∀ n, n ∈ [0, 1, 2, 3, 4, 5] → PySem.W.kitOne K (.ref a) (.type (kdName n)) = some false ∧ PySem.W.kitOne K (.type (kdName n)) (.ref a) = some false := fun n hn => by
    obtain ⟨c1, c2⟩ := He.ba (List.all_eq_true.mp c n hn)
    exact ⟨of_decide_eq_true c1, of_decide_eq_true c2⟩
  match n with
  | 0 => exact h 0 (by simp)
  | 1 => exact h 1 (by simp)
  | 2 => exact h 2 (by simp)
  | 3 => exact h 3 (by simp)
  | 4 => exact h 4 (by simp)
  | n + 5 => exact h 5 (by simp)
def freeNames : List Str := ["len", "sum", "all", "tuple", "list", "sorted", "max", "min", "str", "int", "repr", "range", "isinstance", "bool", "zip", "enumerate"]
/-- all that GOk asks, of the part looked at -/
def HD.ok (h : HD) (ds es : List DD) (K : PySem.W.Frag) : Bool :=
  let fa := adr K h.fns ds
  let fi := adr K h.ins es
  freeNames.all (freeB K) && (h.gi.all (fun q => intB K q.1 q.2) && (h.gfs.all (fun q => gloB K q.2 (fa q.1) && PySem.W.keepIn K (.ref (fa q.1))) &&
  (h.gcs.all (fun c => gloB K (nmL h.cls c) (h.ca K c) && mkB K (h.ca K c) (fi c)) && (h.mks.all (fun c => mkB K (h.ca K c) (fi c)) &&
  (h.meth.all (fun q => clsB K (h.ca K q.1.1) && methB K (h.ca K q.1.1) (nmL h.ats q.1.2) (fa q.2)) && (h.prop.all (fun q => clsB K (h.ca K q.1.1) && propB K (h.ca K q.1.1) (nmL h.ats q.1.2) (fa q.2)) &&
  (h.fld.all (fun q => clsB K (h.ca K q.1) && He.eqO (PySem.W.findIn K (.ref (h.ca K q.1)) (nmL h.ats q.2)) (some none)) && (h.cme.all (fun q => !q.2.2 || metB K (h.ca K q.1.1) (nmL h.ats q.1.2) (fa q.2.1)) &&
  (h.kls.all (fun c => gloB K (nmL h.cls c) (h.ca K c) && (clsB K (h.ca K c) && (He.eqO (PySem.W.findIn K (.ref (h.ca K c)) "__class__") (some (some (.builtin "object.__class__"))) && (decide (PySem.W.mroIn K (h.ca K c) (.type "object") = some true) && (kdB K (h.ca K c) &&
    h.kls.all fun d => decide (PySem.W.kitOne K (.ref (h.ca K c)) (.ref (h.ca K d)) = some (h.sub.contains (c, d)))))))) &&
  (He.eqO (PySem.W.specialIn K (.builtin "object.__class__") "__get__") (some (some (.builtin "getset_descriptor.__get__"))) && decide (PySem.W.takesIn K (.builtin "object.__class__") = some true)))))))))))
/-- what needs no heap: each def is the table's, names of fields are told apart -/
def rowOk (h : HD) : List (Nat × FD) → List DD → Bool
  | [], [] => true
  | (_, fd) :: r, d :: s => fnChk h.nm h.ct fd d.N d.params d.scope d.body && rowOk h r s
  | _, _ => false
def HD.chk (h : HD) (ds es : List DD) : Bool := rowOk h h.fns ds && (rowOk h h.ins es && (h.ins.all (fun q => decide (q.2.np ≠ 0)) && ((h.fld.all fun q => h.fld.all fun r => !(decide (q.1 = r.1)) || (!(decide (nmL h.ats q.2 = nmL h.ats r.2)) || decide (q.2 = r.2))) &&
  (h.meth.all fun q => h.fld.all fun r => !(decide (q.1.1 = r.1)) || !(decide (nmL h.ats r.2 = nmL h.ats q.1.2))))))

theorem mem_lk {α β : Type} [BEq α] [LawfulBEq α] {k : α} {v : β} : ∀ {l : List (α × β)}, l.lookup k = some v → (k, v) ∈ l
  | [], e => nomatch (show (none : Option β) = some v from e)
  | (a, b) :: r, e => by
    rw [List.lookup_cons] at e
    split at e
    · rename_i h
      have : k = a := eq_of_beq h
      cases e
      subst this
      exact List.mem_cons_self
    · exact List.mem_cons_of_mem _ (mem_lk e)
theorem mem_ct {α : Type} [BEq α] [LawfulBEq α] {a : α} {l : List α} (h : l.contains a = true) : a ∈ l := List.elem_iff.mp h
theorem free_ok {K : PySem.W.Frag} {h : Heap} {mg : Str → Option Value} (X : K.In h) (G : h.Ns mainGlobals mg) {x : Str} (c : freeB K x = true) : mg x = none := PySem.W.mg_none_of X G (He.eqO_ok c)
theorem glo_ok {K : PySem.W.Frag} {h : Heap} {mg : Str → Option Value} (X : K.In h) (G : h.Ns mainGlobals mg) {x : Str} {a : Addr} (c : gloB K x a = true) : mg x = some (.ref a) := PySem.W.mg_of X G (He.eqO_ok c)
theorem nb {a b : Bool} (h : (!a || b) = true) (ha : a = true) : b = true := by
  subst ha
  exact h
/-! ### each def -/
def obsDD (hd : HD) (ds es : List DD) (K : PySem.W.Frag) : Bool × List He.FnV := (hd.ok ds es K && (ds.all (codeB K) && es.all (codeB K)), (ds ++ es).map (fnV K))
def valDD (ds es : List DD) : Bool × List He.FnV := (true, (ds ++ es).map DD.val)
theorem map_app {α β : Type} {f g : α → β} : ∀ {a b : List α}, (a ++ b).map f = (a ++ b).map g → a.map f = a.map g ∧ b.map f = b.map g
  | [], _, h => ⟨rfl, h⟩
  | x :: a, b, h => by
    have h' : f x :: (a ++ b).map f = g x :: (a ++ b).map g := h
    injection h' with h1 h2
    obtain ⟨h3, h4⟩ := map_app h2
    exact ⟨by rw [List.map_cons, List.map_cons, h1, h3], h4⟩
/-! ### the Hook -/
def isLst (o : Obj) : Bool := match o.cls with
  | .type c => decide (c = "list")
  | _ => false
def frN (g : Addr → Option Obj) (as : List Addr) : PySem.W.Frag := (He.frG g as).filter fun p => !isLst p.2
theorem lk_mem {a : Addr} {o : Obj} {l : PySem.W.Frag} (e : l.lookup a = some o) : (a, o) ∈ l := mem_lk (l := l) e
theorem frN_mem {g : Addr → Option Obj} {as : List Addr} {a : Addr} {o : Obj} (e : (frN g as).lookup a = some o) : g a = some o ∧ isLst o = false := by
  obtain ⟨h1, h2⟩ := List.mem_filter.mp (lk_mem e)
  unfold He.frG at h1
  obtain ⟨b, _, h3⟩ := List.mem_filterMap.mp h1
  cases q : g b with
  | none =>
    rw [q] at h3
    cases h3
  | some o' =>
    rw [q] at h3
    cases h3
    exact ⟨q, by simpa using h2⟩
theorem frN_in {as : List Addr} {h : Heap} : (frN h.get? as).In h := fun _ _ e => (frN_mem e).1
theorem frN_no {as : List Addr} {g : Addr → Option Obj} : NoLst (frN g as) := fun a o e hc => by
  have := (frN_mem e).2
  unfold isLst at this
  rw [hc] at this
  cases this
def obsMG (n : Nat) (hd : HD) (ds es : List DD) (g : Addr → Option Obj) : Bool × List He.FnV := obsDD hd ds es (frN g (cStatics :: He.asD g n))
def hookM (n : Nat) (hd : HD) (ds es : List DD) : PySem.W.Hook where
  α := Bool × List He.FnV
  obs := fun s => obsMG n hd ds es s.heap.get?
  val := fun _ => valDD ds es
  says := fun _ h => ∃ K : PySem.W.Frag, K.In h ∧ NoLst K ∧ obsDD hd ds es K = valDD ds es
  of := fun _ _ e => ⟨_, frN_in, frN_no, e⟩
  keeps := fun _ _ _ ⟨K, hK, c⟩ k => ⟨K, PySem.W.Frag.In.keeps hK k, c⟩
/-! ### a law -/
end Mi
/-! MiEnv: the call of a def whose closure is the class's own cell. -/
namespace Mi
open PySem PySem.Spec PyProof.Rows L2

/-! ### cells: the def's own ahead of the closure's -/
theorem cells_app : ∀ (names : List (Str × NameKind)) (n : Nat) (acc : List (Str × Addr)), cellsFrom n names acc = cellsFrom n names [] ++ acc
  | [], _, _ => rfl
  | (x, k) :: r, n, acc => by
    unfold cellsFrom
    split
    · rw [cells_app r (n + 1) ((x, n) :: acc), cells_app r (n + 1) [(x, n)], List.append_assoc]
      rfl
    · exact cells_app r n acc
theorem cells_not {x : Str} : ∀ {names : List (Str × NameKind)} {n : Nat} {acc : List (Str × Addr)}, (∀ y ∈ names, y.1 = x → y.2 ≠ .cell) → (cellsFrom n names acc).lookup x = acc.lookup x
  | [], _, _, _ => rfl
  | (y, k) :: r, n, acc, h => by
    unfold cellsFrom
    have hr : ∀ z ∈ r, z.1 = x → z.2 ≠ .cell := fun z hz => h z (List.mem_cons_of_mem _ hz)
    split
    · rename_i hk
      rw [cells_not hr, List.lookup_cons]
      have hne : (x == y) = false := beq_eq_false_iff_ne.mpr fun e => h (y, k) List.mem_cons_self e.symm (eq_of_beq hk)
      rw [hne]
    · exact cells_not hr
def CLS : Str := "__class__"
def cellsS (n : Nat) (sc : Scope) (cc : Addr) : List (Str × Addr) := cellsFrom n sc.names [(CLS, cc)]
theorem cellsS_eq {n : Nat} {sc : Scope} {cc : Addr} : cellsS n sc cc = cellsFrom n sc.names [] ++ [(CLS, cc)] := cells_app _ _ _
structure SScope (N P : List Str) (sc : Scope) : Prop where
  kind : sc.kind = .function
  co : sc.isCoroutine = false
  gen : sc.isGenerator = false
  nd : N.Nodup
  pre : N.take P.length = P
  par : ∀ x ∈ P, sc.names.lookup x = some .local ∨ sc.names.lookup x = some .cell
  free : ∀ y ∈ sc.names, y.2 = .free → y.1 = CLS
  nocell : ∀ y ∈ sc.names, y.1 = CLS → y.2 ≠ .cell
theorem cells_cls {n : Nat} {sc : Scope} {cc : Addr} (h : ∀ y ∈ sc.names, y.1 = CLS → y.2 ≠ .cell) : (cellsS n sc cc).lookup CLS = some cc := by
  unfold cellsS
  rw [cells_not h]
  rfl
theorem cells_own {n : Nat} {sc : Scope} {cc c : Addr} {x : Str} (h : (cellsS n sc cc).lookup x = some c) (hx : x ≠ CLS) : (cellsFrom n sc.names []).lookup x = some c := by
  rw [cellsS_eq, List.lookup_append] at h
  cases e : (cellsFrom n sc.names []).lookup x with
  | some d =>
    rw [e] at h
    exact h
  | none =>
    rw [e] at h
    have h' : List.lookup x [(CLS, cc)] = some c := h
    rw [List.lookup_cons, beq_eq_false_iff_ne.mpr hx] at h'
    cases h'
theorem cells_up {n : Nat} {sc : Scope} {cc c : Addr} {x : Str} (h : (cellsFrom n sc.names []).lookup x = some c) : (cellsS n sc cc).lookup x = some c := by
  rw [cellsS_eq, List.lookup_append, h]
  rfl

/-! ### the frame -/
section
variable {M : Model} {A : Around} {E : Value → Shared → Prop} {s₀ s : Shared} {m cm : Str → Option Value} {env : PySem.Env} {cs : List (Str × Addr)}
theorem bindParamsS (f : Str × Value → PUnit → Sem (ForInStep PUnit)) (hf : ∀ n v u, f (n, v) u = (do storeName env n v; pure (.yield ⟨⟩))) (hk : env.scope.kind = .function) (hcs : ∀ n c, cs.lookup n = some c → env.cells.lookup n = some c) :
    ∀ (binds : List (Str × Value)) (m cm : Str → Option Value) (s : Shared) (Q : PUnit → Shared → Prop), InCallC s₀ env.locals m cs cm s →
      (∀ x ∈ binds, env.kindOf x.1 = some .local ∨ (env.kindOf x.1 = some .cell ∧ (cs.lookup x.1).isSome = true)) →
      (∀ s', InCallC s₀ env.locals (bindL env.kindOf binds m) cs (bindC env.kindOf binds cm) s' → Q ⟨⟩ s') → wpAny M A (forIn binds ⟨⟩ f) Q E s
  | [], m, cm, s, Q, x, _, h => by rw [List.forIn_nil]; exact wpAny_pure (h s x)
  | (n, v) :: r, m, cm, s, Q, x, hkd, h => by
    rw [List.forIn_cons, hf]
    have hr : ∀ y ∈ r, env.kindOf y.1 = some .local ∨ (env.kindOf y.1 = some .cell ∧ (cs.lookup y.1).isSome = true) := fun y hy => hkd y (List.mem_cons_of_mem _ hy)
    rcases hkd (n, v) List.mem_cons_self with hl | ⟨hl, hc⟩
    · refine wpAny_bind (wpAny_bind (wpAny_storeName_local hl x.toInCall.ns (fun h' hn' hs' => wpAny_pure (bindParamsS f hf hk hcs r (fun y => if y = n then some v else m y) cm _ Q ⟨⟨?_, hn', fun b o e => ?_, x.toInCall.fresh⟩, fun k c hc => ?_, x.apart, x.above⟩ hr fun s'' x'' => h s'' ?_)) (by rw [hk]; rfl)))
      · obtain ⟨h₁, tk, rfl⟩ := x.toInCall.same
        exact ⟨h', _, rfl⟩
      · exact hs'.extBut b o (Nat.ne_of_lt (Nat.lt_of_lt_of_le (Heap.lt_size e) x.toInCall.fresh)) (x.toInCall.keep b o e)
      · exact (x.cell k c hc).sameBut hs' (Nat.ne_of_gt (x.above k c (PySem.mem_of_lookup hc)))
      · unfold bindL bindC
        rw [if_pos hl, if_pos hl]
        exact x''
    · obtain ⟨c, hc⟩ := Option.isSome_iff_exists.mp hc
      have hnl : ¬ env.kindOf n = some .local := by rw [hl]; decide
      have hLc := x.above n c (PySem.mem_of_lookup hc)
      refine wpAny_bind (wpAny_bind (wpAny_storeName_cell hk hl (hcs n c hc) (x.cell n c hc) fun h' hc' hs' => wpAny_pure (bindParamsS f hf hk hcs r m (fun y => if y = n then some v else cm y) _ Q ⟨⟨?_, x.toInCall.ns.sameBut hs' (Nat.ne_of_lt hLc), fun b o e => ?_, x.toInCall.fresh⟩, fun k c' hk' => ?_, x.apart, x.above⟩ hr fun s'' x'' => h s'' ?_)))
      · obtain ⟨h₁, tk, rfl⟩ := x.toInCall.same
        exact ⟨h', _, rfl⟩
      · exact hs'.extBut b o (Nat.ne_of_lt (Nat.lt_trans (Nat.lt_of_lt_of_le (Heap.lt_size e) x.toInCall.fresh) hLc)) (x.toInCall.keep b o e)
      · by_cases hkn : k = n
        · subst hkn
          rw [hc] at hk'
          cases hk'
          simpa using hc'
        · rw [if_neg hkn]
          exact (x.cell k c' hk').sameBut hs' fun e => hkn (name_of_addr x.apart (PySem.mem_of_lookup hk') (e ▸ PySem.mem_of_lookup hc))
      · unfold bindL bindC
        rw [if_neg hnl, if_neg hnl]
        exact x''
theorem newEnvS {scope : Scope} {globals : Addr} {binds : List (Str × Value)} {qual : Str} {func : Option Addr} {code : Value} {builtins cc : Addr} {Q : PySem.Env → Shared → Prop}
    (hk : scope.kind = .function)
    (hkd : ∀ x ∈ binds, scope.names.lookup x.1 = some .local ∨ (scope.names.lookup x.1 = some .cell ∧ ((cellsFrom (s.heap.objs.size + 1) scope.names []).lookup x.1).isSome = true))
    (hQ : ∀ env : PySem.Env, env = newEnv scope s.heap.objs.size globals (cellsS (s.heap.objs.size + 1) scope cc) qual func code none builtins →
      ∀ s', InCallC s env.locals (bindL env.kindOf binds fun _ => none) (cellsFrom (s.heap.objs.size + 1) scope.names []) (bindC env.kindOf binds fun _ => none) s' → Q env s') :
    wpAny M A (newFunctionEnv scope globals [(CLS, cc)] binds qual func code none builtins) Q E s := by
  simp only [newFunctionEnv, Option.isSome_none, Bool.false_eq_true, if_false]
  refine wpAny_bind (wpAny_alloc ?_)
  refine wpAny_bind (wpAny_layCells _ (fun name kind cells => by cases hkc : kind == NameKind.cell <;> simp [hkc]) _ _ _ _ ?_)
  have ok := cellsFrom_ok scope.names (s.heap.push { cls := .type "frame", data := .dict #[] }) (s.heap.objs.size + 1) [] ⟨fun _ _ hm => (nomatch hm), List.Pairwise.nil⟩ (by rw [Heap.size_push]; exact Nat.le_refl _)
  rw [Heap.size_push] at ok
  rw [show ({ s with heap := s.heap.push { cls := .type "frame", data := .dict #[] } } : Shared).heap.objs.size = s.heap.objs.size + 1 from Heap.size_push ..]
  refine wpAny_bind (bindParamsS (s₀ := s) (env := newEnv scope s.heap.objs.size globals (cellsS (s.heap.objs.size + 1) scope cc) qual func code none builtins) (cs := cellsFrom (s.heap.objs.size + 1) scope.names [])
    _ (fun _ _ _ => rfl) hk (fun n c h => cells_up h) binds (fun _ => none) (fun _ => none) _ _
    ⟨⟨⟨_, _, rfl⟩, (Heap.Ns.new s.heap (.type "frame")).keeps (pushCells_keeps _ _), fun b o e => pushCells_keeps _ _ b o (Heap.get?_push_of_some _ e), Nat.le_refl _⟩,
      fun n c hc => (ok.empty n c (PySem.mem_of_lookup hc)).1, ok.apart, fun n c hm => (ok.empty n c hm).2⟩
    hkd fun s' x => wpAny_pure (hQ _ rfl s' x))
end
end Mi
/-! MiEnv2: the context of a def with the class's cell, and its run. -/
namespace Mi
open PySem PySem.Spec PyProof.Rows L2

def envS (qual : Str) (scope : Scope) (L f : Addr) (cd : Value) (cc : Addr) : PySem.Env := newEnv scope L mainGlobals (cellsS (L + 1) scope cc) (qual ++ ".<locals>.") (some f) cd none builtinsNs
def cxS (CX : CXT) (P : Program) (w : World) (K : PySem.W.Frag) (mg : Str → Option Value) (base : Heap) (N : List Str) (qual : Str) (scope : Scope) (f : Addr) (cd : Value) (cc : Addr) (A : Around) (outer : List PySem.Env) (s : Shared) (H : Hp) (E : XK) : Cx :=
  { cxOf CX P w K mg base N qual scope f cd A outer s H E with
    A := A.deeper (envS qual scope s.heap.objs.size f cd cc)
    env := envS qual scope s.heap.objs.size f cd cc
    stack := envS qual scope s.heap.objs.size f cd cc :: outer
    fn := fnT
    xe := fun e s' => wpAny (model P w) (A.deeper (envS qual scope s.heap.objs.size f cd cc)) (leaving (envS qual scope s.heap.objs.size f cd cc) e) (fun _ s'' => CX outer H s E e s'') (fun e' s'' => CX outer H s E e' s'') s' }
/-- where the class's cell stands -/
def CellK (K : PySem.W.Frag) (cc D : Addr) : Prop := ∃ (cl : Value) (cld : Option Addr) (csl : Array (Option Value)), K.lookup cc = some ⟨cl, cld, .cell (some (.ref D)), csl⟩
theorem fnT_ne {x : Str} (h : fnT x = true) : x ≠ CLS := fun e => by
  subst e
  cases h
section
variable {CX : CXT} {P : Program} {w : World} {K : PySem.W.Frag} {mg : Str → Option Value} {base : Heap} {N ps : List Str} {qual : Str} {scope : Scope} {f cc D : Addr} {cd : Value} {A : Around} {outer : List PySem.Env} {s s1 : Shared} {H : Hp} {E : XK} {us : List Value} {vs : List V}
theorem inv_startS (S : SScope N ps scope) (hd : A.handled = none) (e0 : Env0 P w K mg base A outer s H) (hcc : CellK K cc D) (hl : vs.length = ps.length) (r : Vals vs us)
    (x : InCallC s s.heap.objs.size (bindL (envS qual scope s.heap.objs.size f cd cc).kindOf (ps.zip us) fun _ => none) (cellsFrom (s.heap.objs.size + 1) scope.names []) (bindC (envS qual scope s.heap.objs.size f cd cc).kindOf (ps.zip us) fun _ => none) s1) :
    Inv (cxS CX P w K mg base N qual scope f cd cc A outer s H E) [] (L2.start N vs) H s1 := by
  have hpl : ps.length ≤ N.length := by
    have := congrArg List.length S.pre
    rw [List.length_take] at this
    omega
  obtain ⟨h1, tk, rfl, hk⟩ := x.done
  obtain ⟨cl, cld, csl, hcell⟩ := hcc
  have hb1 := e0.mod.kin cc _ hcell
  have hs1 := (e0.bs cc _ hb1).1
  have hlt : cc < s.heap.objs.size := Heap.lt_size hs1
  have hCls : ∀ {c : Addr}, (cellsS (s.heap.objs.size + 1) scope cc).lookup CLS = some c → c = cc := fun {c} q => by
    rw [cells_cls S.nocell] at q
    exact (Option.some.inj q).symm
  have hOwn : ∀ {y : Str} {c : Addr}, (cellsS (s.heap.objs.size + 1) scope cc).lookup y = some c → y ≠ CLS → s.heap.objs.size < c := fun {y c} q hy => x.above y c (PySem.mem_of_lookup (cells_own q hy))
  refine ⟨⟨e0.mod, S.kind, rfl, rfl, Nat.le_refl _, fun y z c q1 q2 => ?_, fun y hy => ?_, fun y c hf q => ?_, fun _ => hd, Around.frames_deeper e0.frames, .inr ⟨rfl, rfl⟩, fun b z => absurd (show b ∈ ([] : List Addr) from z) (by simp), e0.bs, e0.bsz, fun b _ _ z => absurd (show b ∈ ([] : List Addr) from z) (by simp), fun b z => absurd (show b ∈ ([] : List Addr) from z) (by simp), e0.funs, e0.frf⟩,
    rfl, e0.bare, Un.kept hk, ⟨_, x.toInCall.ns, fun i y v q1 q2 q3 => ?_⟩, fun y c q => ?_, e0.hok.fresh (Nat.le_refl _), fun y c q => ?_, fun p hp => absurd (show p ∈ ([] : List (Addr × Obj)) from hp) (by simp), e0.hok.kept hk, ?_⟩
  · have q1 : (cellsS (s.heap.objs.size + 1) scope cc).lookup y = some c := q1
    have q2 : (cellsS (s.heap.objs.size + 1) scope cc).lookup z = some c := q2
    by_cases hy : y = CLS
    · by_cases hz : z = CLS
      · rw [hy, hz]
      · subst hy
        have h3 := hCls q1
        have h4 := hOwn q2 hz
        rw [h3] at h4
        exact absurd h4 (Nat.not_lt.mpr (Nat.le_of_lt hlt))
    · by_cases hz : z = CLS
      · subst hz
        have h3 := hCls q2
        have h4 := hOwn q1 hy
        rw [h3] at h4
        exact absurd h4 (Nat.not_lt.mpr (Nat.le_of_lt hlt))
      · exact name_of_addr x.apart (PySem.mem_of_lookup (cells_own q1 hy)) (PySem.mem_of_lookup (cells_own q2 hz))
  · have hy : scope.names.lookup y = some .cell ∨ scope.names.lookup y = some .free := hy
    rcases hy with hy | hy
    · obtain ⟨c, q⟩ := cell_has (n := s.heap.objs.size + 1) hy
      exact ⟨c, cells_up q⟩
    · have : y = CLS := S.free _ (PySem.mem_of_lookup hy) rfl
      subst this
      exact ⟨cc, cells_cls S.nocell⟩
  · exact Nat.le_of_lt (hOwn q (fnT_ne hf))
  · have hi : i < vs.length := by
      unfold L2.start at q2
      by_cases hi : i < vs.length
      · exact hi
      · rw [List.getElem?_append_right (by simpa using hi), List.getElem?_replicate] at q2
        split at q2 <;> cases q2
    have ha : vs[i]? = some v := by
      unfold L2.start at q2
      rw [List.getElem?_append_left (by simpa using hi), List.getElem?_map] at q2
      cases e : vs[i]? with
      | none => rw [e] at q2; cases q2
      | some a => rw [e] at q2; cases q2; rfl
    obtain ⟨u, hu, rv⟩ := r.get ha
    have hp : ps[i]? = some y := by
      rw [← S.pre, List.getElem?_take_of_lt (by omega)]
      exact q1
    have ndP : ps.Nodup := by
      rw [← S.pre]
      exact S.nd.sublist (List.take_sublist _ _)
    refine ⟨u, rv, ?_⟩
    rcases S.par y (List.mem_of_getElem? hp) with k | k
    · exact .inl ⟨k, bindL_get ndP hp hu k⟩
    · obtain ⟨c, e⟩ := cell_has (n := s.heap.objs.size + 1) k
      refine .inr ⟨.inl k, c, cells_up e, ?_⟩
      have q := x.cell y c e
      rw [bindC_get ndP hp hu (by show scope.names.lookup y ≠ _; rw [k]; decide)] at q
      exact q
  · have q : (cellsS (s.heap.objs.size + 1) scope cc).lookup y = some c := q
    by_cases hy : y = CLS
    · subst hy
      have := hCls q
      subst this
      exact ⟨_, _, hk _ _ hs1, rfl⟩
    · exact ⟨_, x.cell y c (cells_own q hy)⟩
  · have q : (cellsS (s.heap.objs.size + 1) scope cc).lookup y = some c := q
    by_cases hy : y = CLS
    · subst hy
      have := hCls q
      subst this
      exact (e0.bs _ _ hb1).2
    · exact e0.hok.fresh (Nat.le_of_lt (hOwn q hy))
  · unfold L2.start
    show _ = N.length
    rw [List.length_append, List.length_map, List.length_replicate]
    omega
end
section
variable {CX : CXT} {P : Program} {w : World} {K : PySem.W.Frag} {mg : Str → Option Value} {base : Heap} {k : Nat} {f cc D : Addr} {name qual : Str} {params : Arguments} {body : List Stmt} {scope : Scope} {dV kV doc pm cdv ct oc : Value} {an od : Option Addr}
  {osl : Array (Option Value)} {N ps : List Str}
/-- what the body ends with: it goes on to its end -/
def EndN (X : Cx) (Q : VK) (fl : Flow) (s' : Shared) : Prop := match fl with
  | .next => ∃ σ' H', Inv X [] σ' H' s' ∧ Q .non H'
  | _ => False
theorem run_bndS {A : Around} {outer : List PySem.Env} {s : Shared} {H : Hp} {args : Args} {Q : VK} {E : XK} {G : List V → Hp → Prop} (lk : K.lookup f = some ⟨oc, od, .func (PySem.W.fnX name qual params body scope [(CLS, cc)] dV kV doc pm an cdv ct), osl⟩) (hcd : PySem.W.codeIn K cdv qual = true)
    (S : SScope N ps scope) (hcc : CellK K cc D) (hr : Room (k + 1) A) (e0 : Env0 P w K mg base A outer s H) (hb : StX.Bnd CX P w K mg base (PySem.W.fnX name qual params body scope [(CLS, cc)] dV kV doc pm an cdv ct) args ps A outer s H E G)
    (hbody : ∀ (s2 : Shared) (H2 : Hp) (vs : List V) (s1 : Shared), G vs H2 → Room k (A.deeper (envS qual scope s2.heap.objs.size f cdv cc)) → Inv (cxS CX P w K mg base N qual scope f cdv cc A outer s2 H2 E) [] (L2.start N vs) H2 s1 →
      PySem.wpAt (model P w) (A.deeper (envS qual scope s2.heap.objs.size f cdv cc)) (.func body (envS qual scope s2.heap.objs.size f cdv cc)) (execs body (envS qual scope s2.heap.objs.size f cdv cc)) (EndN (cxS CX P w K mg base N qual scope f cdv cc A outer s2 H2 E) Q) (cxS CX P w K mg base N qual scope f cdv cc A outer s2 H2 E).xe s1) :
    codeAny (model P w) A (.call (.ref f) args) (CR CX outer P w H s Q E) s := by
  have KX : K.In s.heap := e0.mod.kin.keeps fun b o e => (e0.bs b o e).1
  refine codeAny_call_function hr.depth (KX _ _ lk) rfl S.co S.gen rfl (PySem.W.codeRec_of KX hcd) ?_
  refine hb _ _ _ fun s2 H2 vs us e2 un ho hx r hl g => ?_
  have lim : s2.heap.NoLimit := e0.mod.nolimit.keeps fun b o e => (e2.bs b o e).1
  have hkd : ∀ y ∈ ps.zip us, scope.names.lookup y.1 = some .local ∨ (scope.names.lookup y.1 = some .cell ∧ ((cellsFrom (s2.heap.objs.size + 1) scope.names []).lookup y.1).isSome = true) := fun y hy => by
    rcases S.par y.1 (List.of_mem_zip hy).1 with q | q
    · exact .inl q
    · exact .inr ⟨q, PySem.W.cellsFrom_some _ _ _ (.inl q)⟩
  refine newEnvS (s := s2) S.kind hkd fun env he s1 x => ?_
  subst he
  refine ⟨lim.keeps x.toInCall.keep, ks_codeAny_funcAt ?_⟩
  have I : Inv (cxS CX P w K mg base N qual scope f cdv cc A outer s2 H2 E) [] (L2.start N vs) H2 s1 := inv_startS S hr.hd e2 hcc hl r x
  refine ks_wpAt_mono (hbody s2 H2 vs s1 g (hr.deeper _) I) (fun fl s' hs => ?_) fun e s' hs => ?_
  · cases fl with
    | next =>
      obtain ⟨σ', H', J, q⟩ := hs
      exact ⟨V.non, H', J.os.trans ho, J.bare, un.trans J.base, J.hok, rfl, q⟩
    | ret u' => exact False.elim hs
    | brk => exact False.elim hs
    | cont => exact False.elim hs
  · exact wpAny_mono hs (fun _ s'' z => hx e s'' z) fun e' s'' z => hx e' s'' z
end
end Mi
/-! MiSup: super().__init__(*e). -/
namespace Mi
open PySem PySem.Spec PyProof.Rows L2

/-- what the text and the head say of a def that calls super() -/
structure SupX (X : Cx) (cc D f : Addr) (sn : Str) : Prop where
  ks : X.env.scope.names.lookup ("super" : Str) = some .globalImplicit
  kc : X.env.scope.names.lookup CLS = some .free
  cl : X.env.cells.lookup CLS = some cc
  fu : X.env.func = some f
  fn : ∃ (oc : Value) (od : Option Addr) (osl : Array (Option Value)) (fd : FuncData) (ar : Arg), X.K.lookup f = some ⟨oc, od, .func fd, osl⟩ ∧ (fd.params.posonlyargs ++ fd.params.args).head? = some ar ∧ ar.arg = sn
  co : ∃ (cda : Addr) (c1 : Value) (c2 : Option Addr) (c3 : Array (Option Value)) (vs : Array Value) (file : Str) (tf : Tok), X.env.code = .ref cda ∧ X.K.lookup cda = some ⟨c1, c2, .fields vs, c3⟩ ∧ vs[2]? = some (.str file tf) ∧ ((X.prog.main.file : Str) == file) = true
  top : (X.prog.main.scope.names.lookup ("super" : Str)).isSome = false
  mg : X.mg "super" = none
  cell : CellK X.K cc D
  cls : ∃ cd, PySem.W.clsIn X.K D = some cd
  st : PySem.W.nsIn X.K cStatics "thirdparty.any" = some none
  vis : Vis X.env.scope sn
  n0 : X.N[(0 : Nat)]? = some sn
  ncd : (sn == ("__classdict__" : Str)) = false
/-- what super() finds in an instance of class C -/
structure SupC (K : PySem.W.Frag) (C D f2 : Addr) : Prop where
  mro : PySem.W.mroIn K C (.ref D) = some true
  cls : ∃ cd, PySem.W.clsIn K C = some cd
  at_ : PySem.W.ks_superIn K C D "__init__" = some (some (.ref f2))
  ty : PySem.W.typeIn K (.ref f2) = some (.type "function")
  fi : PySem.W.fnIn K f2 = true
section
variable {X : Cx} {cc D f C f2 x dx : Addr} {sn : Str} {pins : List (Addr × Obj)} {σ : L2.St} {H : Hp} {s : Shared} {fv : List (Str × V)}
theorem ld_self (I : Inv X pins σ H s) (S : SupX X cc D f sn) (h0 : σ[(0 : Nat)]? = some (some (.ref x))) {A : Around} {E : Value → Shared → Prop} {Q : Value → Shared → Prop} (h : Q (.ref x) s) : wpAny (model X.prog X.w) A (loadName X.env sn) Q E s := by
  obtain ⟨m, hn, hl⟩ := I.loc
  obtain ⟨u, r, l⟩ := hl 0 sn _ S.n0 h0 S.vis
  obtain rfl : u = Value.ref x := r
  rcases l with ⟨hk, hm⟩ | ⟨hk, c, hc, hcell⟩
  · exact wpAny_loadName_local I.ok.kind hk hn hm h
  · rcases hk with hk | hk
    · exact wpAny_loadName_cell I.ok.kind hk hc hcell h
    · exact wpAny_loadName_free I.ok.kind hk hc hcell h S.ncd
/-- the object that super() makes -/
theorem sup_base {body : List Stmt} {p0 p1 : Pos} {whole : Sem Value} {Q : Value → Shared → Prop} (I : Inv X pins σ H s) (S : SupX X cc D f sn) (SC : SupC X.K C D f2) (h0 : σ[(0 : Nat)]? = some (some (.ref x))) (hx : H x = some (.ins C dx fv))
    (h : ∀ so s', Inv X ((so, PySem.W.ks_superObj D x C) :: pins) σ H s' → Q (.ref so) s') :
    PySem.wpAt (model X.prog X.w) X.A (.func body X.env) (attributeBase (.Call (.Name "super" p0) [] [] p1) "__init__" X.env whole) Q X.xe s := by
  obtain ⟨oc, od, osl, fd, ar, lk, har, rfl⟩ := S.fn
  obtain ⟨cda, c1, c2, c3, vs, file, tf, hco, lkc, hvs, hfile⟩ := S.co
  obtain ⟨cl, cld, csl, hcell⟩ := S.cell
  obtain ⟨cdD, hD⟩ := S.cls
  have KX := I.kIn
  obtain ⟨_, _, hne, hinst, _⟩ := I.hok x _ hx
  obtain ⟨oD, hD1, hD2⟩ : ∃ oD, s.heap.get? D = some oD ∧ oD.data = .cls cdD := by
    unfold PySem.W.clsIn at hD
    split at hD
    · rename_i c d cd' sl ho
      cases hD
      exact ⟨_, KX _ _ ho, rfl⟩
    · cases hD
  refine ks_wpAt_super_base S.ks S.kc (by decide +kernel) S.fu (KX _ _ lk) rfl har hco (KX _ _ lkc) rfl hvs hfile S.top ?_
  obtain ⟨mb, h1, h2⟩ := I.mod.blt
  refine PySem.W.ks_loadName_global I.ok.kind S.ks (Calls.loadGlobal_builtin (by rw [I.ok.glob]; exact I.mod.glob.keeps I.bk) S.mg (by rw [I.ok.blt]; exact h1.keeps I.bk) ((h2 _ (by decide +kernel)).trans (by decide +kernel : bootBuiltins "super" = some (.type "super"))) ⟨rfl, ?_⟩)
  refine wpAny_loadName_free I.ok.kind S.kc S.cl ⟨_, KX _ _ hcell, rfl⟩ ?_
  refine ld_self I S h0 ?_
  refine ks_wpAny_isType_cls (h := s.heap) (g := s.gens) (d := s.drawn) (t := s.toks) (os := s.os) hD1 hD2 ⟨rfl, ?_⟩
  refine ks_wpAny_call_super (h := s.heap) (g := s.gens) (d := s.drawn) (t := s.toks) (os := s.os) hD1 hD2 hinst rfl (fun c e => nomatch e) (PySem.W.looks_mroIn KX SC.mro) (fun h' e k => ?_)
  exact h _ _ (ClX.pin_new (t' := s.toks) I k (Nat.le_refl _) e (fun v z => nomatch z))
/-- an attribute of what super() made, as a value -/
theorem super_attr {A : Around} {E : Value → Shared → Prop} {h : Heap} {g : Array GenState} {d : Drawn} {t : Nat} {os : OsState} {so D x C f : Addr} {of : Obj} {l₀ l : List Value} {K : PySem.W.Frag} {name : Str} {prog : Program} {w : World} {Q : Value → Shared → Prop}
    (hso : h.get? so = some { cls := .type "super", dict := none, data := .fields #[.ref D, .ref x, .ref C], slots := #[] }) (hno : PySem.W.Looks (model prog w) h (opaqueClassAbove (.ref C)) none)
    (hC : PySem.W.Looks (model prog w) h (mroOf (.ref C)) l₀) (hl : (l₀.dropWhile (· != .ref D)).drop 1 = l) (X : K.In h)
    (hf : PySem.W.alongIn K name l = some (some (.ref f))) (hfo : h.get? f = some of) (hfc : of.cls = .type "function") (hxC : x ≠ C) (hn : (name == ("__class__" : Str)) = false)
    (hq : Q (.ref h.objs.size) ⟨h.push { cls := .type "method", data := .fields #[.ref f, .ref x] }, g, d, t + 1, os⟩) :
    wpAny (model prog w) A (getAttr (.ref so) name true) Q E ⟨h, g, d, t, os⟩ := by
  have hlk := F.ks_slot_super_ga.lookup
  have hT : ∀ t', (⟨h, g, d, t', os⟩ : Shared).TypeIs (.ref so) "super" := fun _ => ⟨_, hso, rfl⟩
  unfold getAttr getAttrBy
  refine wpAny_bind (wpAny_mkText (wpAny_holding (wpAny_bind (wpAny_typeOf (hT _) (wpAny_bind (wpAny_of_eq hlk ?_))))))
  show wpAny _ _ (getAttrByItsOwn (.ref so) (.str name t) (.type "super") (.builtin "super.__getattribute__") true true) _ _ _
  unfold getAttrByItsOwn hookBefore callGetattribute boundAndCalled
  refine wpAny_bind (wpAny_of_eq (show (if onTheHeap (.type "super") then typeLookup (.type "super") "__getattr__" else pure none) = pure none from rfl) ?_)
  refine wpAny_bind (wpAny_attempt (wpAny_holding ?_))
  show wpAny _ _ (bindSpecial (.builtin "super.__getattribute__") (.ref so) >>= _) _ _ _
  refine wpAny_bind (wpAny_of_eq (F.ks_slot_super_ga.bind _) ?_)
  refine wpAny_mono (Q := fun v s' => v = .ref h.objs.size ∧ s' = ⟨h.push { cls := .type "method", data := .fields #[.ref f, .ref x] }, g, d, t + 1, os⟩) (E := fun _ _ => False)
    (wpAny_call_entry F.ks_slot_super_ga (hT _) F.ks_entry_super_ga (ks_wpAny_super_ga hso hno hC hl X hf hfo hfc hxC hn ⟨_, rfl, rfl, rfl⟩) (F.ks_gaArgs_super _ _)) (fun v s' hv => ?_) fun _ _ z => z.elim
  obtain ⟨rfl, rfl⟩ := hv
  exact wpAny_pure hq
/-- its __init__, bound -/
theorem sup_meth {so : Addr} {A : Around} {E : Value → Shared → Prop} {Q : Value → Shared → Prop} (I : Inv X ((so, PySem.W.ks_superObj D x C) :: pins) σ H s) (S : SupX X cc D f sn) (SC : SupC X.K C D f2) (hx : H x = some (.ins C dx fv))
    (h : ∀ q s', Inv X ((q, PySem.W.methodObj (.ref f2) (.ref x)) :: (so, PySem.W.ks_superObj D x C) :: pins) σ H s' → Q (.ref q) s') : wpAny (model X.prog X.w) A (getAttr (.ref so) "__init__" true) Q E s := by
  have KX := I.kIn
  obtain ⟨cd, hcd⟩ := SC.cls
  obtain ⟨_, _, hne, hinst, _⟩ := I.hok x _ hx
  have hm := SC.at_
  unfold PySem.W.ks_superIn at hm
  rw [hcd] at hm
  obtain ⟨of, hof, hofc⟩ : ∃ of, s.heap.get? f2 = some of ∧ of.cls = .type "function" := by
    have ht : (X.K.lookup f2).map (·.cls) = some (.type "function") := SC.ty
    cases z : X.K.lookup f2 with
    | none =>
      rw [z] at ht
      cases ht
    | some of =>
      rw [z] at ht
      exact ⟨of, KX _ _ z, Option.some.inj ht⟩
  have hxC : x ≠ C := by
    rintro rfl
    unfold PySem.W.clsIn at hcd
    split at hcd
    · rename_i c d cd' sl ho
      have e := KX _ _ ho
      rw [hinst] at e
      cases e
    · cases hcd
  refine super_attr (h := s.heap) (g := s.gens) (d := s.drawn) (t := s.toks) (os := s.os) (ClX.pin_at I) (PySem.W.looks_opaque KX S.st) (l₀ := cd.mro) ?_ rfl KX hm hof hofc hxC (by decide +kernel) ?_
  · exact fun A Q E s k q => wpAny_bind ((PySem.W.looks_clsIn KX hcd) A _ E s k (wpAny_pure q))
  · exact h _ _ (ClX.pin_new (t' := s.toks + 1) I (fun b o e => Heap.get?_push_of_some _ e) (Nat.le_refl _) (Heap.get?_push_at rfl rfl) (fun v z => nomatch z))
end
/-! ### at the code's own level -/
structure PSa (X : Cx) (c : Code) (st : Stmt) (t : TS) : Prop where
  run : ∀ (pins : List (Addr × Obj)) (s : Shared) (σ : L2.St) (H : Hp) (D : Ends), Inv X pins σ H s → t D σ H → PySem.wpAt (model X.prog X.w) X.A c (exec st X.env) (SP X pins D) X.xe s
structure PSt (X : Cx) (c : Code) (st : List Stmt) (t : TS) : Prop where
  run : ∀ (pins : List (Addr × Obj)) (s : Shared) (σ : L2.St) (H : Hp) (D : Ends), Inv X pins σ H s → t D σ H → PySem.wpAt (model X.prog X.w) X.A c (execs st X.env) (SP X pins D) X.xe s
section
variable {X : Cx} {c : Code} {t u : TS}
theorem PS.at {st : Stmt} (h : PS X st t) : PSa X c st t := ⟨fun pins s σ H D I q => wpAt_of_wpAny (h.run pins s σ H D I q)⟩
theorem PSs.at {st : List Stmt} (h : PSs X st t) : PSt X c st t := ⟨fun pins s σ H D I q => wpAt_of_wpAny (h.run pins s σ H D I q)⟩
theorem PSt.imp {st : List Stmt} {t' : TS} (h : PSt X c st t) (i : ∀ E σ H, t' E σ H → t E σ H) : PSt X c st t' := ⟨fun pins s σ H E I q => h.run pins s σ H E I (i E σ H q)⟩
theorem pst_cons {st : Stmt} {rest : List Stmt} (h1 : PSa X c st t) (h2 : PSt X c rest u) : PSt X c (st :: rest) (tSeq t u) := by
  refine ⟨fun pins s σ H D I h => ?_⟩
  refine ks_wpAt_execs_cons (ks_wpAt_mono (h1.run pins s σ H { D with nx := u D } I h) (fun f s1 q => ?_) fun _ _ z => z)
  cases f with
  | next =>
    obtain ⟨σ', H', I', q⟩ := q
    exact h2.run pins s1 σ' H' D I' q
  | ret v => exact q
  | brk => exact q
  | cont => exact q
end
section
variable {Z : NA} {M : NM} {T : CT} {C : Cl} {k : Nat} {X : Cx} {CX : CXT} {fa fi : Nat → Addr}
theorem star_imp {m : ME} {σ : L2.St} {H : Hp} {Q : List V → Hp → Prop} (q : tA Z T C (.star m .nil) σ H Q) : tB Z T C m σ H fun y H1 => ∃ a xs, y = V.ref a ∧ (SqT X.K H1 a xs ∨ SqL X.K H1 a xs) ∧ Q xs H1 := by
  obtain ⟨N, F, R, mh, env, rh, re, q⟩ := q
  obtain ⟨x, m1, e1, q1⟩ := PO1.bd (show PO1 ((bor env m mh (evE T C m env mh)).bd _) _ from q)
  obtain ⟨xs, m2, e2, q2⟩ := PO1.bd q1
  have h2 : seqD x = some xs ∧ m2 = m1 := by
    cases e : seqD x with
    | none =>
      rw [e] at e2
      cases e2
    | some zs =>
      rw [e] at e2
      cases e2
      exact ⟨rfl, rfl⟩
  obtain ⟨h2, rfl⟩ := h2
  refine ⟨N, F, R, mh, env, rh, re, PO1.mk e1 fun F1 R1 H1 v x1 rh1 t1 => ?_⟩
  obtain ⟨p, vs, rfl, rs, ho⟩ := seqD_rt rh1 t1 h2
  refine ⟨p, vs, rfl, ?_, ?_⟩
  · rcases ho with ho | ho
    · exact .inr (.inl ho)
    · exact .inl (SqT.of ho)
  · have q2 : ∀ F' R' H' vs, EX F R H F' R' H' → RH Z F' R' H' m2 → RDs Z F' R' (xs ++ []) vs → Q vs H' := q2
    rw [List.append_nil] at q2
    exact q2 F1 R1 H1 vs x1 rh1 rs
/-- the slots but the first, while the instance is away -/
theorem re_hole {N : EN} {F H : Hp} {R : List Addr} {env : Mi.Env} {σ : L2.St} {x : Addr} {o : MO} (re : RE Z N F R H env σ) (h0 : env[(0 : Nat)]? = some (some (.own o))) (hσ : σ[(0 : Nat)]? = some (some (.ref x))) : RE Z { N with sf := none } F R (hole H x) (env.set 0 none) σ where
  len := by rw [List.length_set]; exact re.len
  val := fun i d e => by
    rw [List.getElem?_set] at e
    by_cases hi : 0 = i
    · rw [if_pos hi] at e
      split at e <;> cases e
    · rw [if_neg hi] at e
      exact re.val i d e
  own := fun i u e => by
    rw [List.getElem?_set] at e
    by_cases hi : 0 = i
    · rw [if_pos hi] at e
      split at e <;> cases e
    · rw [if_neg hi] at e
      obtain ⟨a, h1, ⟨h2, h3, h4⟩, h5⟩ := re.own i u e
      have hax : a ≠ x := fun z => by
        subst z
        exact hi (re.sep 0 i o u a h0 e hσ h1)
      have hh : hole H x a = H a := if_neg hax
      refine ⟨a, h1, ⟨?_, h3, h4⟩, h5⟩
      cases u with
      | lst xs =>
        obtain ⟨vs, q1, q2⟩ := h2
        exact ⟨vs, hh.trans q1, q2⟩
      | dct kvs =>
        obtain ⟨vs, q1, q2⟩ := h2
        exact ⟨vs, hh.trans q1, q2⟩
      | ndc kvs =>
        obtain ⟨vs, q1, q2⟩ := h2
        exact ⟨vs, hh.trans q1, q2⟩
      | ins c fs =>
        obtain ⟨dx, fv, q1, q2⟩ := h2
        exact ⟨dx, fv, hh.trans q1, q2⟩
  sep := fun i j u w a e1 e2 s1 s2 => by
    rw [List.getElem?_set] at e1 e2
    by_cases hi : 0 = i
    · rw [if_pos hi] at e1
      split at e1 <;> cases e1
    · by_cases hj : 0 = j
      · rw [if_pos hj] at e2
        split at e2 <;> cases e2
      · rw [if_neg hi] at e1
        rw [if_neg hj] at e2
        exact re.sep i j u w a e1 e2 s1 s2
  self := fun a c fs ha _ => nomatch ha
theorem ex_hole2 {N : EN} {F H : Hp} {R : List Addr} {x : Addr} (ex : EX N.F N.R N.H F R H) (hN : N.H x = none) : EX N.F N.R N.H F R (hole H x) where
  f := ex.f
  nf := ex.nf
  r := ex.r
  nr := ex.nr
  keep := fun a o h n => by
    have hax : a ≠ x := fun z => by
      subst z
      rw [hN] at h
      cases h
    exact (if_neg hax).trans (ex.keep a o h n)
  there := fun a o h => by
    have hax : a ≠ x := fun z => by
      subst z
      rw [hN] at h
      cases h
    obtain ⟨u, hu⟩ := ex.there a o h
    exact ⟨u, (if_neg hax).trans hu⟩
theorem sup_stm (a : All Z M T C CX fa fi k X) {cc f : Addr} {d : Nat} {sn : Str} (S : SupX X cc (Z.ca d) f sn) (hS : ∀ c0 b, T.cmeth c0 (supK + d) = some (b, false) → SupC X.K (Z.ca c0) (Z.ca d) (fi b)) {body : List Stmt} {p0 p1 ap sp cp pos : Pos} {ea : Expr} {m : ME} (he : PE X ea (tB Z T C m)) :
    PSa X (.func body X.env) (.Expr (.Call (.Attribute (.Call (.Name "super" p0) [] [] p1) "__init__" ap) [.Starred ea sp] [] cp) pos) (tS Z T C (.sini d (.star m .nil))) := by
  refine ⟨fun pins s σ H D I q => ?_⟩
  obtain ⟨N, F, R, mh, env, rh, re, ex, q⟩ := q
  obtain ⟨xs, m1, e1, q⟩ := PO1.bd (show PO1 ((evA T C (.star m .nil) env mh).bd fun xs h => (match env[(0 : Nat)]? with
    | some (some (.own (.ins c0 fs))) => (match T.cmeth c0 (supK + d) with
      | some (b, false) => (C.ini b c0 fs xs h).bd fun fs' h => Out.ok (Fl.nx (env.set 0 (some (.own (.ins c0 fs'))))) h
      | _ => .no)
    | _ => .no)) (KS Z N F R D) from q)
  have hcase : ∃ c0 fs b, env[(0 : Nat)]? = some (some (.own (.ins c0 fs))) ∧ T.cmeth c0 (supK + d) = some (b, false) ∧ PO1 ((C.ini b c0 fs xs m1).bd fun fs' h => Out.ok (Fl.nx (env.set 0 (some (.own (.ins c0 fs'))))) h) (KS Z N F R D) := by
    revert q
    split
    · rename_i c0 fs e0
      split
      · rename_i b eb
        intro q
        exact ⟨c0, fs, b, e0, eb, q⟩
      · intro q
        exact q.elim
    · intro q
      exact q.elim
  obtain ⟨c0, fs, b, e0, eb, q⟩ := hcase
  obtain ⟨fs', m2, e2, q⟩ := PO1.bd q
  have q : KS Z N F R D (.nx (env.set 0 (some (.own (.ins c0 fs'))))) m2 := q
  obtain ⟨x, hσ, ⟨⟨dx, fv, hx, hfld, rfs⟩, hF, hR⟩, hN⟩ := re.own 0 _ e0
  have SC := hS c0 b eb
  have tk : Trk F R H x (.ins (Z.ca c0) dx fv) := ⟨hx, hF, hR⟩
  refine ks_wpAt_Expr_any ?_ I.quiet rfl
  rw [arm_eval_Call]
  refine PySem.wpAt_bind (sup_base I S SC hσ hx fun so s1 I1 => wpAt_of_wpAny (wpAny_bind (wpAny_standAt ?_)))
  unfold methodCall
  refine wpAny_bind (wpAny_holding ?_)
  show wpAny _ _ (calleeOf false _ _ _ _) _ _ _
  unfold calleeOf
  rw [if_neg (by decide)]
  refine wpAny_bind (sup_meth I1 S SC hx fun qa s2 I2 => wpAny_pure ?_)
  show wpAny _ _ (methodCallPos false _ _ _ _ >>= _) _ _ _
  unfold methodCallPos
  refine wpAny_bind ?_
  rw [if_pos (by rfl)]
  refine wpAny_pure ?_
  have tA1 : tA Z T C (.star m .nil) σ H fun vs H1 => ∃ F1 R1, EX F R H F1 R1 H1 ∧ RH Z F1 R1 H1 m1 ∧ RDs Z F1 R1 xs vs := ⟨N, F, R, mh, env, rh, re, PO1.mk e1 fun F1 R1 H1 vs x1 rh1 rs => ⟨F1, R1, x1, rh1, rs⟩⟩
  refine PySem.W.ks_call (P := PySem.W.MethP X.K qa (fi b) (.ref x)) rfl (PySem.W.keeps_M SC.fi) (PySem.W.ks_lone (thn (he.run _ s2 σ H _ I2 (star_imp (X := X) tA1)) fun v s3 ⟨y, H1, I3, ry, av, vs, ey, hxs, F1, R1, x1, rh1, rds⟩ => ?_))
  subst ey
  obtain rfl : v = Value.ref av := ry
  refine StX.star_any I3 hxs fun us s4 I4 rv => ⟨⟨ClX.pin_at I4, I4.kIn⟩, ?_⟩
  have tk1 := tk.ext x1
  have hsp : spI Z C b (V.ref x :: vs) H1 (fun v H' => v = .non ∧ D.nx σ H') (fun _ _ _ => False) := by
    refine ⟨F1, R1, m1, x, dx, c0, fs, fv, xs, vs, rfl, rh1, tk1, hfld, RFs.mono x1.f x1.r rfs, rds, PO1.mk e2 fun F' R' H' dx' fv' ex2 rh' tk' hg' rf' => ⟨rfl, ?_⟩⟩
    have exN : EX N.F N.R N.H F' R' H' := (ex_hole2 (ex.trans x1) hN).trans ex2
    have r0 := RE.ext ex2 (re_hole (RE.ext x1 re) e0 hσ)
    have hl := (List.getElem?_eq_some_iff.mp e0).1
    have r2 := r0.setOwn (o := .ins c0 fs') (a := x) 0 ⟨⟨dx', fv', tk'.1, hg', rf'⟩, tk'.2.1, tk'.2.2⟩ hN (fun j u hj ej => ?_) (.inl rfl)
    · have es : σ.set 0 (some (.ref x)) = σ := by
        have hl2 := (List.getElem?_eq_some_iff.mp hσ)
        obtain ⟨h3, h4⟩ := hl2
        rw [← h4, List.set_getElem_self]
      rw [es, List.set_set] at r2
      refine q F' R' H' σ ?_ exN rh' ⟨r2.len, r2.val, r2.own, r2.sep, fun aa c' fs2 ha ee => ?_⟩
      · exact ⟨fun a o h => ex2.f a o (x1.f a o h), x1.r.trans ex2.r⟩
      · rw [← re.self aa c0 fs ha e0, hσ]
    · rw [List.getElem?_set, if_neg (fun z => hj z.symm)] at ej
      intro z
      exact hj (re.sep j 0 u _ x ej e0 z hσ)
  refine thn (wpAny_call (PySem.W.method_call (ClX.pin_at I4) (run_g (us := .ref x :: us) (vs := V.ref x :: vs) (a.f.ini b) (a.r.mono (Nat.le_succ _)) a.c.gd a.f.px I4 (.cons rfl rv) hsp))) fun u s5 y => ?_
  obtain ⟨v, H', I5, _, _, q5⟩ := y
  exact ⟨σ, H', ClX.unpin (ClX.unpin I5), q5⟩
end
end Mi
/-! MiSup2: an __init__ that calls super().__init__(*e) at its own top. -/
namespace Mi
open PySem PySem.Spec PyProof.Rows L2

section
variable (M : NM) (T : CT) (Ns : List Str)
/-- the body of an __init__ of class d -/
def mtX (d : Nat) : MSs → Scope → List Stmt → Bool
  | .cons s r, sc, st :: sts => (match s, st with
    | .sini d' (.star m .nil), .Expr (.Call (.Attribute (.Call (.Name x _) [] [] _) y _) [.Starred ea _] [] _) _ => decide (x = "super") && (decide (y = "__init__") && (decide (d' = d) && (mtE M T Ns m sc ea && mtSs M T Ns r sc sts)))
    | _, _ => if isFrz s then mtX d r sc (st :: sts) else mtS M T Ns s sc st && mtX d r sc sts)
  | _, _, _ => false
end
section
variable {Z : NA} {M : NM} {T : CT} {C : Cl} {k : Nat} {X : Cx} {CX : CXT} {fa fi : Nat → Addr}
theorem snd_X (B : ∀ Y, CtxOk Z M k Y → BltOk Z Y) (a : All Z M T C CX fa fi k X) (so : SOk Z X) {cc f : Addr} {d : Nat} {sn : Str} (S : SupX X cc (Z.ca d) f sn) (hS : ∀ c0 b, T.cmeth c0 (supK + d) = some (b, false) → SupC X.K (Z.ca c0) (Z.ca d) (fi b)) (body : List Stmt) :
    ∀ (m : MSs) (sts : List Stmt), mtX M T X.N d m X.env.scope sts = true → PSt X (.func body X.env) sts (tSs Z T C m)
  | .nil, sts, h => by
    unfold mtX at h
    cases h
  | .cons s r, [], h => by
    unfold mtX at h
    cases h
  | .cons s r, st :: sts, h => by
    unfold mtX at h
    split at h
    · obtain ⟨h1, q1⟩ := ba2 h
      obtain ⟨h2, q2⟩ := ba2 q1
      obtain ⟨h3, q3⟩ := ba2 q2
      obtain ⟨h4, h5⟩ := ba2 q3
      obtain rfl := of_decide_eq_true h1
      obtain rfl := of_decide_eq_true h2
      obtain rfl := of_decide_eq_true h3
      exact (pst_cons (sup_stm a S hS (snd_E B _ X _ a h4).b) (PSs.at (snd_Ss B a so r sts h5))).imp fun _ _ _ q => cons_imp q
    · split at h
      · rename_i hf
        cases s with
        | frz i => exact (snd_X B a so S hS body r (st :: sts) h).imp fun _ _ _ q => frz_imp q
        | _ => cases hf
      · obtain ⟨h1, h2⟩ := ba2 h
        exact (pst_cons (PS.at (snd_S B a so s st h1)) (snd_X B a so S hS body r sts h2)).imp fun _ _ _ q => cons_imp q
end
/-! ### the check of such an __init__ -/
def scS (N P : List Str) (sc : Scope) : Bool := isFun sc && (!sc.isCoroutine && (!sc.isGenerator && (decide N.Nodup && (decide (N.take P.length = P) && ((P.all fun x => isLoc sc x) && ((sc.names.all fun y => (match y.2 with
  | .free => decide (y.1 = CLS)
  | .cell => !decide (y.1 = CLS)
  | _ => true)) && (decide (sc.names.lookup ("super" : Str) = some .globalImplicit) && (decide (sc.names.lookup CLS = some .free) && !decide (P = []))))))))) && (P.all fun x => !(x == ("__classdict__" : Str)))
theorem scS_ok {N P : List Str} {sc : Scope} (h : scS N P sc = true) : SScope N P sc ∧ sc.names.lookup ("super" : Str) = some .globalImplicit ∧ sc.names.lookup CLS = some .free ∧ P ≠ [] ∧ ∀ x ∈ P, (x == ("__classdict__" : Str)) = false := by
  obtain ⟨h0, hcd⟩ := ba2 h
  obtain ⟨h1, r1⟩ := ba2 h0
  obtain ⟨h2, r2⟩ := ba2 r1
  obtain ⟨h3, r3⟩ := ba2 r2
  obtain ⟨h4, r4⟩ := ba2 r3
  obtain ⟨h5, r5⟩ := ba2 r4
  obtain ⟨h6, r6⟩ := ba2 r5
  obtain ⟨h7, r7⟩ := ba2 r6
  obtain ⟨h8, r8⟩ := ba2 r7
  obtain ⟨h9, h10⟩ := ba2 r8
  refine ⟨⟨isFun_of h1, bnot h2, bnot h3, of_decide_eq_true h4, of_decide_eq_true h5, fun x hx => isLoc_of (List.all_eq_true.mp h6 x hx), fun y hy e => ?_, fun y hy e e2 => ?_⟩, of_decide_eq_true h8, of_decide_eq_true h9, of_decide_eq_false (bnot h10), fun x hx => bnot (List.all_eq_true.mp hcd x hx)⟩
  · have := List.all_eq_true.mp h7 y hy
    rw [e] at this
    exact of_decide_eq_true this
  · have := List.all_eq_true.mp h7 y hy
    rw [e2] at this
    exact of_decide_eq_false (bnot this) e
def fnChkS (M : NM) (T : CT) (d : Nat) (fd : FD) (N : List Str) (params : Arguments) (scope : Scope) (body : List Stmt) : Bool := match params with
  | ⟨[], as, va, [], [], none, []⟩ => decide (as.length = fd.np) && ((va.isSome == fd.va) && (decide (N.length = fd.ns) && (scS N (as.map (·.arg) ++ va.toList.map (·.arg)) scope && (decide (as.map (·.arg)).Nodup && (!as.isEmpty && mtX M T N d fd.body scope body)))))
  | _ => false
structure FnCS (M : NM) (T : CT) (d : Nat) (fd : FD) (N : List Str) (params : Arguments) (scope : Scope) (body : List Stmt) (as : List Arg) (va : Option Arg) : Prop where
  hp : params = ⟨[], as, va, [], [], none, []⟩
  np : as.length = fd.np
  hv : va.isSome = fd.va
  ns : N.length = fd.ns
  S : SScope N (as.map (·.arg) ++ va.toList.map (·.arg)) scope
  ks : scope.names.lookup ("super" : Str) = some .globalImplicit
  kc : scope.names.lookup CLS = some .free
  ncd : ∀ x ∈ as.map (·.arg) ++ va.toList.map (·.arg), (x == ("__classdict__" : Str)) = false
  nd : (as.map (·.arg)).Nodup
  ne : as ≠ []
  mt : mtX M T N d fd.body scope body = true
theorem fnChkS_ok {M : NM} {T : CT} {d : Nat} {fd : FD} {N : List Str} {params : Arguments} {scope : Scope} {body : List Stmt} (h : fnChkS M T d fd N params scope body = true) : ∃ as va, FnCS M T d fd N params scope body as va := by
  unfold fnChkS at h
  split at h
  · obtain ⟨h1, r1⟩ := ba2 h
    obtain ⟨h2, r2⟩ := ba2 r1
    obtain ⟨h3, r3⟩ := ba2 r2
    obtain ⟨h4, r4⟩ := ba2 r3
    obtain ⟨h5, r5⟩ := ba2 r4
    obtain ⟨h6, h7⟩ := ba2 r5
    obtain ⟨g1, g2, g3, _, g5⟩ := scS_ok h4
    refine ⟨_, _, rfl, of_decide_eq_true h1, eq_of_beq h2, of_decide_eq_true h3, g1, g2, g3, g5, of_decide_eq_true h5, fun e => ?_, h7⟩
    rw [e] at h6
    cases h6
  · cases h
/-- what the head says of such a def -/
structure SupH (P : Program) (K : PySem.W.Frag) (mg : Str → Option Value) (cc D : Addr) (cdv : Value) : Prop where
  co : ∃ (cda : Addr) (c1 : Value) (c2 : Option Addr) (c3 : Array (Option Value)) (vs : Array Value) (file : Str) (tf : Tok), cdv = .ref cda ∧ K.lookup cda = some ⟨c1, c2, .fields vs, c3⟩ ∧ vs[2]? = some (.str file tf) ∧ ((P.main.file : Str) == file) = true
  top : (P.main.scope.names.lookup ("super" : Str)).isSome = false
  mg : mg "super" = none
  cell : CellK K cc D
  cls : ∃ cd, PySem.W.clsIn K D = some cd
  st : PySem.W.nsIn K cStatics "thirdparty.any" = some none
section
variable {Z : NA} {M : NM} {T : CT} {C : Cl} {k : Nat} {fa fi : Nat → Addr} {P : Program} {w : World} {K : PySem.W.Frag} {mg : Str → Option Value} {base : Heap}
theorem GOk.allS (g : GOk Z M T fa fi P w K mg) (fn : ∀ f, FnG P w K mg base CX0 k (fa f) (spF Z C f)) (ini : ∀ c, FnG P w K mg base CX0 k (fi c) (spI Z C c)) (same : ∀ c xs mh, C.ini c c [] xs mh = C.mke c xs mh)
    {N : List Str} {qual : Str} {scope : Scope} {f cc : Addr} {cd : Value} {A : Around} {outer : List PySem.Env} {s : Shared} {H : Hp} {E : XK} (nd : N.Nodup) (hr : Room (k + 1) (A.deeper (envS qual scope s.heap.objs.size f cd cc))) (hg : A.guards = some []) :
    All Z M T C CX0 fa fi k (cxS CX0 P w K mg base N qual scope f cd cc A outer s H E).nox where
  c := ⟨g.hK, rfl, nd, hr.mono (Nat.le_succ _), hg, g.blt, g.rng, g.isi, g.tbl, g.gi⟩
  cl := g.cl
  f := ⟨fn, ini, same, (fun _ _ _ _ _ _ _ h => h), (fun _ _ _ _ _ _ _ h => h), (fun _ _ _ _ _ h => h), g.gf, g.mke, g.mkv, g.mt, g.pr, g.fd, g.an, g.inj, g.cm⟩
  r := hr
  zip := g.zip
  enm := g.enm
theorem GOk.soS (g : GOk Z M T fa fi P w K mg) {N : List Str} {qual : Str} {scope : Scope} {f cc : Addr} {cd : Value} {A : Around} {outer : List PySem.Env} {s : Shared} {H : Hp} {E : XK} : SOk Z (cxS CX0 P w K mg base N qual scope f cd cc A outer s H E).nox :=
  ⟨g.hP, g.hw, fun _ h => h, PassesOwn.never⟩
theorem FnCS.supX {d : Nat} {fd : FD} {N : List Str} {params : Arguments} {scope : Scope} {body : List Stmt} {as : List Arg} {va : Option Arg} (c : FnCS M T d fd N params scope body as va) {D f cc : Addr} {name qual : Str} {kV doc pm cdv ct oc : Value} {an od : Option Addr} {osl : Array (Option Value)}
    (lk : K.lookup f = some ⟨oc, od, .func (PySem.W.fnX name qual params body scope [(CLS, cc)] .none kV doc pm an cdv ct), osl⟩) (sh : SupH P K mg cc D cdv) {A : Around} {outer : List PySem.Env} {s : Shared} {H : Hp} {E : XK} :
    SupX (cxS CX0 P w K mg base N qual scope f cdv cc A outer s H E).nox cc D f ((as.map (·.arg)).headD "") := by
  have hp := c.hp
  subst hp
  obtain ⟨a0, ar, e⟩ : ∃ a0 ar, as = a0 :: ar := by
    cases e : as with
    | nil => exact (c.ne e).elim
    | cons a0 ar => exact ⟨a0, ar, rfl⟩
  subst e
  have hm : a0.arg ∈ (a0 :: ar).map (·.arg) ++ va.toList.map (·.arg) := List.mem_append_left _ List.mem_cons_self
  have hn0 : N[(0 : Nat)]? = some a0.arg := by
    have := c.S.pre
    have h2 : (N.take (((a0 :: ar).map (·.arg) ++ va.toList.map (·.arg)).length))[(0 : Nat)]? = some a0.arg := by
      rw [this]
      rfl
    rw [List.getElem?_take_of_lt (by simp)] at h2
    exact h2
  exact ⟨c.ks, c.kc, cells_cls c.S.nocell, rfl, ⟨_, _, _, _, a0, lk, rfl, rfl⟩, sh.co, sh.top, sh.mg, sh.cell, sh.cls, sh.st, (by
    rcases c.S.par a0.arg hm with h | h
    · exact .inl h
    · exact .inr (.inl h)), hn0, c.ncd a0.arg hm⟩
/-- the end of such a body -/
theorem endX {X : Cx} {Q : VK} {body : List Stmt} {t : TS} {σ : L2.St} {H : Hp} {s : Shared} (I : Inv X [] σ H s) (h : PSt X.nox (.func body X.env) body t) (q : t { nx := fun _ H' => Q .non H', rt := fun _ _ => False } σ H) :
    PySem.wpAt (model X.prog X.w) X.A (.func body X.env) (execs body X.env) (EndN X Q) X.xe s := by
  refine ks_wpAt_mono (h.run [] s σ H _ (I.wish _) q) (fun fl s' hs => ?_) fun _ _ z => z.elim
  cases fl with
  | next =>
    obtain ⟨σ', H', J, q⟩ := hs
    exact ⟨σ', H', J.unwish, q⟩
  | ret v =>
    obtain ⟨_, _, _, _, _, q⟩ := hs
    exact q
  | brk =>
    obtain ⟨_, _, _, q⟩ := hs
    exact q
  | cont =>
    obtain ⟨_, _, _, q⟩ := hs
    exact q
theorem init_soundS (g : GOk Z M T fa fi P w K mg) (B : ∀ Y, CtxOk Z M k Y → BltOk Z Y) (fn : ∀ f, FnG P w K mg base CX0 k (fa f) (spF Z C f)) (ini : ∀ c, FnG P w K mg base CX0 k (fi c) (spI Z C c)) (same : ∀ c xs mh, C.ini c c [] xs mh = C.mke c xs mh)
    {f cc : Addr} {d : Nat} {name qual : Str} {params : Arguments} {body : List Stmt} {scope : Scope} {kV doc pm cdv ct oc : Value} {an od : Option Addr} {osl : Array (Option Value)} {fd : FD} {N : List Str}
    (lk : K.lookup f = some ⟨oc, od, .func (PySem.W.fnX name qual params body scope [(CLS, cc)] .none kV doc pm an cdv ct), osl⟩) (hcd : PySem.W.codeIn K cdv qual = true) (chk : fnChkS M T d fd N params scope body = true) (hnp0 : fd.np ≠ 0) (sh : SupH P K mg cc (Z.ca d) cdv) (hS : ∀ c0 b, T.cmeth c0 (supK + d) = some (b, false) → SupC K (Z.ca c0) (Z.ca d) (fi b)) :
    FnG P w K mg base CX0 (k + 2) f (spIR Z T C fd) := by
  intro A outer s H us vs Q E hr hgd e0 r hsp
  obtain ⟨F, R, mh, x, dx, c0, fs, fv, xs, ws, rfl, rh, tk, hg, rf, rs, q⟩ := hsp
  obtain ⟨as, va, c⟩ := fnChkS_ok chk
  have hpp : (PySem.W.fnX name qual params body scope [(CLS, cc)] .none kV doc pm an cdv ct).params = ⟨[], as, va, [], [], none, []⟩ := c.hp
  have all : ∀ (s2 : Shared) (H2 : Hp), Room (k + 1) (A.deeper (envS qual scope s2.heap.objs.size f cdv cc)) → All Z M T C CX0 fa fi k (cxS CX0 P w K mg base N qual scope f cdv cc A outer s2 H2 E).nox := fun s2 H2 hr2 => g.allS fn ini same c.S.nd hr2 hgd
  have q : PO1 (match bindA fd (.non :: xs) with
    | some env => (evSs T C fd.body (env.set 0 (some (.own (.ins c0 fs)))) mh).bd fun fl h => (match fl with
      | .nx en => ofO (selfOf c0 en) h
      | _ => .no)
    | none => .no) _ := q
  cases va with
  | none =>
    have hva : fd.va = false := c.hv.symm
    have eb : bindA fd (.non :: xs) = if (D.non :: xs).length = fd.np then some ((D.non :: xs).map (fun x => some (SV.val x)) ++ List.replicate (fd.ns - fd.np) none) else none := by
      unfold bindA
      rw [hva]
      rfl
    rw [eb] at q
    by_cases hl : (D.non :: xs).length = fd.np
    · rw [if_pos hl] at q
      have hlv : (V.ref x :: ws).length = fd.np := by
        rw [List.length_cons, ← rs.length, ← List.length_cons (a := D.non), hl]
      have hlu : us.length = (as.map (·.arg)).length := by
        rw [← r.length, hlv, List.length_map, c.np]
      have hSc : SScope N (as.map (·.arg)) scope := by
        have := c.S
        simpa using this
      refine run_bndS (D := Z.ca d) lk hcd hSc sh.cell hr e0 (G := fun us' H2 => us' = V.ref x :: ws ∧ H2 = H) (fun A' Ex Q' h => ?_) fun s2 H2 us' s1 ⟨e1, e2⟩ hr2 I => ?_
      · rw [bind_plain hpp rfl c.nd us hlu]
        exact wpAny_pure (h s H _ us e0 Un.refl rfl (fun _ _ z => z) r (by rw [r.length]; exact hlu) ⟨rfl, rfl⟩)
      · subst e1
        subst e2
        have h3 : as.length ≤ N.length := by
          have := congrArg List.length hSc.pre
          rw [List.length_take, List.length_map] at this
          omega
        rw [c.np, c.ns] at h3
        have re0 : RE Z { (⟨F, R, hole H2 x, some x⟩ : EN) with sf := none } F R H2 ((D.non :: xs).map (fun x => some (SV.val x)) ++ List.replicate (fd.ns - fd.np) none) (L2.start N (.non :: ws)) := re_start (.cons .non rs) (by rw [c.ns, hl]; omega)
        have re1 := re_self (N := ⟨F, R, hole H2 x, some x⟩) re0 (by simp) no_own tk hg rf (if_pos rfl) rfl
        rw [start_set] at re1
        exact endX I (snd_X B (all s2 _ hr2) g.soS (c.supX lk sh) hS body fd.body body c.mt) ⟨⟨F, R, hole H2 x, some x⟩, F, R, mh, _, rh, re1, ex_hole, run_KI q fun fs' m F' R' H' dx' fv' hk => hk F' R' H' dx' fv'⟩
    · rw [if_neg hl] at q
      cases q
  | some va =>
    have hva : fd.va = true := c.hv.symm
    have eb : bindA fd (.non :: xs) = if fd.np ≤ (D.non :: xs).length ∧ (D.non :: xs).length ≤ lim then some (((D.non :: xs).take fd.np).map (fun x => some (SV.val x)) ++ some (.val (.tup ((D.non :: xs).drop fd.np))) :: List.replicate (fd.ns - (fd.np + 1)) none) else none := by
      unfold bindA
      rw [hva]
      rfl
    rw [eb] at q
    by_cases hl : fd.np ≤ (D.non :: xs).length ∧ (D.non :: xs).length ≤ lim
    · rw [if_pos hl] at q
      have hSc : SScope N (as.map (·.arg) ++ [va.arg]) scope := c.S
      -- the first parameter is the instance
      · obtain ⟨np, hnp⟩ : ∃ n, fd.np = n + 1 := ⟨fd.np - 1, by omega⟩
        rw [hnp] at q hl
        have rs0 : RDs Z F R (D.non :: xs) (V.non :: ws) := .cons .non rs
        have hlx := rs.length
        have hlv := r.length
        obtain ⟨u1, u2, eu, r1, r2⟩ := StX.vals_split (ws := (V.ref x :: ws).take (np + 1)) (rest := (V.ref x :: ws).drop (np + 1)) (us := us) (by rw [List.take_append_drop]; exact r)
        subst eu
        have l0 : (V.ref x :: ws).length = (D.non :: xs).length := by rw [List.length_cons, List.length_cons, hlx]
        have l1 : ((V.ref x :: ws).take (np + 1)).length = np + 1 := by
          rw [List.length_take, l0]
          omega
        have hl1 : u1.length = (as.map (·.arg)).length := by
          rw [← r1.length, l1, List.length_map, c.np, hnp]
        have hl2 : u2.length ≤ sizeLine := by
          rw [← r2.length, List.length_drop, l0]
          exact Nat.le_trans (Nat.sub_le _ _) (lim_line hl.2)
        have hn : H s.heap.objs.size = Option.none := e0.hok.fresh (Nat.le_refl _)
        refine run_bndS (D := Z.ca d) lk hcd hSc sh.cell hr e0 (G := fun us' H2 => ∃ p, H p = Option.none ∧ us' = (V.ref x :: ws).take (np + 1) ++ [V.ref p] ∧ H2 = upd H p (.tup ((V.ref x :: ws).drop (np + 1)))) (fun A' Ex Q' h => ?_) fun s2 H2 us' s1 ⟨p, hp, e1, e2⟩ hr2 I => ?_
        · rw [bind_star hpp rfl c.nd u1 u2 hl1]
          refine wpAny_bind (wpAny_newTuple (wpAny_pure ?_) hl2)
          have new : ObjOk P w (upd H s.heap.objs.size (.tup ((V.ref x :: ws).drop (np + 1)))) (s.heap.push ({ cls := .type "tuple", data := .seq u2.toArray } : Obj)) s.heap.objs.size (.tup ((V.ref x :: ws).drop (np + 1))) := ⟨by rw [r2.length]; exact hl2, u2, r2, ⟨_, Heap.get?_push_size _ rfl, rfl, _, rfl⟩⟩
          have un := StX.un_laid (fs := frs outer) (s := s) (o := ({ cls := .type "tuple", data := .seq u2.toArray } : Obj)) (u := .tup ((V.ref x :: ws).drop (np + 1))) hn
          have z := h _ _ ((V.ref x :: ws).take (np + 1) ++ [V.ref s.heap.objs.size]) (u1 ++ [Value.ref s.heap.objs.size]) (StX.env0_laid e0 new) un rfl (fun _ _ z => z) (r1.append (.cons rfl .nil))
            (by rw [List.length_append, List.length_append, l1, List.length_map, c.np, hnp] <;> rfl) ⟨_, hn, rfl, rfl⟩
          rw [List.zip_append hl1.symm] at z
          exact z
        · subst e1
          subst e2
          have x1 := EX.new (R := R) (o := HO.tup ((V.ref x :: ws).drop (np + 1))) hp rh.sub
          have tk1 := tk.ext x1
          have rs1 : RDs Z (upd F p (.tup (ws.drop np))) R (D.non :: (xs.take np ++ [D.tup (xs.drop np)])) (V.non :: (ws.take np ++ [V.ref p])) :=
            .cons .non (((RDs.split np rs).1.mono x1.f x1.r).append (.cons (.tup upd_same ((RDs.split np rs).2.mono x1.f x1.r)) .nil))
          have eenv : ((D.non :: xs).take (np + 1)).map (fun x => some (SV.val x)) ++ some (.val (.tup ((D.non :: xs).drop (np + 1)))) :: List.replicate (fd.ns - (np + 1 + 1)) none = (D.non :: (xs.take np ++ [D.tup (xs.drop np)])).map (fun x => some (SV.val x)) ++ List.replicate (fd.ns - (np + 1 + 1)) none := by
            show some (SV.val D.non) :: (((xs.take np).map (fun x => some (SV.val x))) ++ some (.val (.tup (xs.drop np))) :: List.replicate (fd.ns - (np + 1 + 1)) none) = some (SV.val D.non) :: ((xs.take np ++ [D.tup (xs.drop np)]).map (fun x => some (SV.val x)) ++ List.replicate (fd.ns - (np + 1 + 1)) none)
            rw [List.map_append, List.append_assoc]
            rfl
          rw [eenv] at q
          have h3 : as.length + 1 ≤ N.length := by
            have := congrArg List.length hSc.pre
            rw [List.length_take, List.length_append, List.length_map] at this
            simp only [List.length_cons, List.length_nil] at this
            omega
          rw [c.np, c.ns, hnp] at h3
          have hlx' : np ≤ xs.length := by
            have := hl.1
            rw [List.length_cons] at this
            omega
          have re0 : RE Z { (⟨F, R, hole H x, some x⟩ : EN) with sf := none } (upd F p (.tup (ws.drop np))) R (upd H p (.tup (ws.drop np))) ((D.non :: (xs.take np ++ [D.tup (xs.drop np)])).map (fun x => some (SV.val x)) ++ List.replicate (fd.ns - (np + 1 + 1)) none) (L2.start N (.non :: (ws.take np ++ [V.ref p]))) := re_start rs1 (by
            rw [c.ns, List.length_cons, List.length_append, List.length_take]
            simp only [List.length_cons, List.length_nil]
            omega)
          have re1 := re_self (N := ⟨F, R, hole H x, some x⟩) re0 (by simp) no_own tk1 hg (RFs.mono x1.f x1.r rf) (if_pos rfl) rfl
          rw [start_set] at re1
          exact endX I (snd_X B (all s2 _ hr2) g.soS (c.supX lk sh) hS body fd.body body c.mt) ⟨⟨F, R, hole H x, some x⟩, _, R, mh, _, rh.new hp, re1, ex_hole.trans x1, run_KI q fun fs' m F' R' H' dx' fv' hk => hk F' R' H' dx' fv'⟩
    · rw [if_neg hl] at q
      cases q
end
end Mi
/-! MiTop: levels and head where some __init__ calls super().__init__. -/
namespace Mi
open PySem PySem.Spec PyProof.Rows L2

/-- the __init__ at f calls super() at class d -/
def DefInS (P : Program) (K : PySem.W.Frag) (mg : Str → Option Value) (M : NM) (T : CT) (ca : Nat → Addr) (fi : Nat → Addr) (d : Nat) (fd : FD) (f : Addr) : Prop := ∃ (oc : Value) (od : Option Addr) (osl : Array (Option Value)) (name qual : Str) (params : Arguments) (body : List Stmt) (scope : Scope) (kV doc pm : Value) (an : Option Addr) (cdv ct : Value) (N : List Str) (cc : Addr),
  K.lookup f = some ⟨oc, od, .func (PySem.W.fnX name qual params body scope [(CLS, cc)] .none kV doc pm an cdv ct), osl⟩ ∧ PySem.W.codeIn K cdv qual = true ∧ fnChkS M T d fd N params scope body = true ∧ SupH P K mg cc (ca d) cdv ∧ ∀ c0 b, T.cmeth c0 (supK + d) = some (b, false) → SupC K (ca c0) (ca d) (fi b)
section
variable {Z : NA} {M : NM} {B : Tb} {fa fi : Nat → Addr} {P : Program} {w : World} {K : PySem.W.Frag} {mg : Str → Option Value} {base : Heap}
theorem lvl2 (g : GOk Z M B.ct fa fi P w K mg) (hd : ∀ f fd, B.fn f = some fd → DefIn K M B.ct fd (fa f)) (hi : ∀ c fd, B.ini c = some fd → (DefIn K M B.ct fd (fi c) ∨ ∃ d, DefInS P K mg M B.ct Z.ca fi d fd (fi c)) ∧ fd.np ≠ 0) : ∀ j : Nat,
    (∀ f, FnG P w K mg base CX0 (2 * j) (fa f) (spF Z (lv B j) f)) ∧ (∀ c, FnG P w K mg base CX0 (2 * j) (fi c) (spI Z (lv B j) c))
  | 0 => ⟨fun f => .no fun vs H Q E ⟨F, R, mh, xs, rh, rs, q⟩ => q.elim, fun c => .no fun vs H Q E ⟨F, R, mh, x, dx, c0, fs, fv, xs, ws, e, rh, tk, hg, rf, rs, q⟩ => q.elim⟩
  | j + 1 => by
    obtain ⟨fn, ini⟩ := lvl2 g hd hi j
    have same : ∀ c xs mh, (lv B j).ini c c [] xs mh = (lv B j).mke c xs mh := by
      intro c xs mh
      cases j <;> rfl
    refine ⟨fun f => ?_, fun c => ?_⟩
    · cases e : B.fn f with
      | none =>
        refine .no fun vs H Q E ⟨F, R, mh, xs, rh, rs, q⟩ => ?_
        have q : PO1 (match B.fn f with
          | some fd => runF B.ct (lv B j) fd xs mh
          | none => .no) _ := q
        rw [e] at q
        exact q.elim
      | some fd =>
        obtain ⟨oc, od, osl, name, qual, params, body, scope, kV, doc, pm, an, cdv, ct, N, lk, hcd, chk⟩ := hd f fd e
        refine (def_sound g blts fn ini same lk hcd chk).sp fun vs H Q E ⟨F, R, mh, xs, rh, rs, q⟩ => ⟨F, R, mh, xs, rh, rs, ?_⟩
        have q : PD Z F R H (match B.fn f with
          | some fd => runF B.ct (lv B j) fd xs mh
          | none => .no) Q := q
        rw [e] at q
        exact q
    · cases e : B.ini c with
      | none =>
        refine .no fun vs H Q E ⟨F, R, mh, x, dx, c0, fs, fv, xs, ws, ev, rh, tk, hg, rf, rs, q⟩ => ?_
        have q : PO1 (match B.ini c with
          | some fd => runI B.ct (lv B j) fd c0 fs xs mh
          | none => .no) _ := q
        rw [e] at q
        exact q.elim
      | some fd =>
        obtain ⟨hx, hnp⟩ := hi c fd e
        have snd : FnG P w K mg base CX0 (2 * j + 2) (fi c) (spIR Z B.ct (lv B j) fd) := by
          rcases hx with ⟨oc, od, osl, name, qual, params, body, scope, kV, doc, pm, an, cdv, ct, N, lk, hcd, chk⟩ | ⟨d, oc, od, osl, name, qual, params, body, scope, kV, doc, pm, an, cdv, ct, N, cc, lk, hcd, chk, sh, hS⟩
          · exact init_sound g blts fn ini same lk hcd chk hnp
          · exact init_soundS g blts fn ini same lk hcd chk hnp sh hS
        refine snd.sp fun vs H Q E ⟨F, R, mh, x, dx, c0, fs, fv, xs, ws, ev, rh, tk, hg, rf, rs, q⟩ => ⟨F, R, mh, x, dx, c0, fs, fv, xs, ws, ev, rh, tk, hg, rf, rs, ?_⟩
        have q : PO1 (match B.ini c with
          | some fd => runI B.ct (lv B j) fd c0 fs xs mh
          | none => .no) _ := q
        rw [e] at q
        exact q
end

/-! ### what is read of the heap -/
def noClos : He.FnV → He.FnV
  | some (a, b, c, d, e, f, _, g, h) => some (a, b, c, d, e, f, [], g, h)
  | none => none
def fnV2 (K : PySem.W.Frag) (d : DD) : He.FnV := noClos (fnV K d)
def FILE : Str := "/claim/cut.py"
/-- the closure is empty -/
def closB (K : PySem.W.Frag) (d : DD) : Bool := match K.lookup (d.at_.at K) with
  | some ⟨_, _, .func fd, _⟩ => fd.closure.isEmpty
  | _ => false
/-- the closure is the cell of the class at D -/
def closS (K : PySem.W.Frag) (D : Addr) (d : DD) : Bool := match K.lookup (d.at_.at K) with
  | some ⟨_, _, .func fd, _⟩ => (match fd.closure with
    | [(x, cc)] => decide (x = CLS) && (match K.lookup cc with
      | some ⟨_, _, .cell (some (.ref a)), _⟩ => decide (a = D)
      | _ => false)
    | _ => false) && (match fd.code with
    | .ref cda => (match K.lookup cda with
      | some ⟨_, _, .fields vs, _⟩ => (match vs[2]? with
        | some (Value.str file _) => decide (file = FILE)
        | _ => false)
      | _ => false)
    | _ => false)
  | _ => false
theorem dd_ok2 {K : PySem.W.Frag} {d : DD} (e : fnV2 K d = d.val) (c : codeB K d = true) (z : closB K d = true) :
    ∃ oc od osl kV doc pm an cdv ct, K.lookup (d.at_.at K) = some ⟨oc, od, .func (PySem.W.fnOf d.name d.qual d.params d.body d.scope .none kV doc pm an cdv ct), osl⟩ ∧ PySem.W.codeIn K cdv d.qual = true := by
  unfold codeB at c
  unfold fnV2 fnV at e
  unfold closB at z
  cases q : K.lookup (d.at_.at K) with
  | none =>
    rw [q] at c
    cases c
  | some o =>
    obtain ⟨oc, od, dt, osl⟩ := o
    rw [q] at c e z
    cases dt with
    | func fd =>
      obtain ⟨n1, n2, n3, n4, n5, n6, n7, n8, n9, n10, n11, n12, n13, n14, n15⟩ := fd
      have e2 : (some (n1, n2, n3, n4, n5, n6, [], n8, n15) : He.FnV) = some (d.name, d.qual, d.params, .stmts d.body, d.scope, mainGlobals, [], .none, builtinsNs) := e
      have e3 : n7 = [] := List.isEmpty_iff.mp z
      subst e3
      simp only [Option.some.injEq, Prod.mk.injEq] at e2
      obtain ⟨h1, h2, h3, h4, h5, h6, h7, h8, h9⟩ := e2
      subst h1 h2 h3 h4 h5 h6 h8 h9
      exact ⟨oc, od, osl, n9, n10, n11, n12, n13, n14, rfl, c⟩
    | _ => cases c
theorem dd_okS {K : PySem.W.Frag} {d : DD} {D : Addr} (e : fnV2 K d = d.val) (c : codeB K d = true) (z : closS K D d = true) :
    ∃ oc od osl kV doc pm an cdv ct cc, K.lookup (d.at_.at K) = some ⟨oc, od, .func (PySem.W.fnX d.name d.qual d.params d.body d.scope [(CLS, cc)] .none kV doc pm an cdv ct), osl⟩ ∧ PySem.W.codeIn K cdv d.qual = true ∧ CellK K cc D ∧
      ∃ (cda : Addr) (c1 : Value) (c2 : Option Addr) (c3 : Array (Option Value)) (vs : Array Value) (file : Str) (tf : Tok), cdv = .ref cda ∧ K.lookup cda = some ⟨c1, c2, .fields vs, c3⟩ ∧ vs[2]? = some (.str file tf) ∧ file = FILE := by
  unfold codeB at c
  unfold fnV2 fnV at e
  unfold closS at z
  cases q : K.lookup (d.at_.at K) with
  | none =>
    rw [q] at c
    cases c
  | some o =>
    obtain ⟨oc, od, dt, osl⟩ := o
    rw [q] at c e z
    cases dt with
    | func fd =>
      obtain ⟨n1, n2, n3, n4, n5, n6, n7, n8, n9, n10, n11, n12, n13, n14, n15⟩ := fd
      have e2 : (some (n1, n2, n3, n4, n5, n6, [], n8, n15) : He.FnV) = some (d.name, d.qual, d.params, .stmts d.body, d.scope, mainGlobals, [], .none, builtinsNs) := e
      simp only [Option.some.injEq, Prod.mk.injEq] at e2
      obtain ⟨h1, h2, h3, h4, h5, h6, h7, h8, h9⟩ := e2
      subst h1 h2 h3 h4 h5 h6 h8 h9
      obtain ⟨z1, z2⟩ := He.ba z
      dsimp only at z1 z2
      split at z1
      · rename_i x cc
        obtain ⟨z3, z4⟩ := He.ba z1
        obtain rfl : x = CLS := of_decide_eq_true z3
        refine ⟨oc, od, osl, n9, n10, n11, n12, n13, n14, cc, rfl, c, ?_, ?_⟩
        · split at z4
          · rename_i u1 u2 a u3 lk
            obtain rfl : a = D := of_decide_eq_true z4
            exact ⟨u1, u2, u3, lk⟩
          · cases z4
        · split at z2
          · rename_i cda
            split at z2
            · rename_i c1 c2 vs c3 lk
              split at z2
              · rename_i file tf hv
                exact ⟨cda, c1, c2, c3, vs, file, tf, rfl, lk, hv, of_decide_eq_true z2⟩
              · cases z2
            · cases z2
          · cases z2
      · cases z1
    | _ => cases c
def supCB (K : PySem.W.Frag) (C D f2 : Addr) : Bool := decide (PySem.W.mroIn K C (.ref D) = some true) && ((PySem.W.clsIn K C).isSome && (He.eqO (PySem.W.ks_superIn K C D "__init__") (some (some (.ref f2))) && ((match PySem.W.typeIn K (.ref f2) with
  | some (.type t) => decide (t = "function")
  | _ => false) && PySem.W.fnIn K f2)))
theorem supCB_ok {K : PySem.W.Frag} {C D f2 : Addr} (c : supCB K C D f2 = true) : SupC K C D f2 := by
  obtain ⟨c1, c⟩ := He.ba c
  obtain ⟨c2, c⟩ := He.ba c
  obtain ⟨c3, c⟩ := He.ba c
  obtain ⟨c4, c5⟩ := He.ba c
  refine ⟨of_decide_eq_true c1, Option.isSome_iff_exists.mp c2, He.eqO_ok c3, ?_, c5⟩
  split at c4
  · rename_i t e
    rw [e, of_decide_eq_true c4]
  · cases c4
/-- each pair (c0, supK + d) of the table is right -/
def HD.supOk (h : HD) (es : List DD) (K : PySem.W.Frag) : Bool :=
  (h.cme.all fun q => q.2.2 || h.sup.all fun d => !(decide (q.1.2 = supK + d)) || supCB K (h.ca K q.1.1) (h.ca K d) (adr K h.ins es q.2.1)) && (h.sup.isEmpty || (freeB K "super" && He.eqO (PySem.W.nsIn K cStatics "thirdparty.any") (some none)))
/-- the closures -/
def closes (h : HD) (K : PySem.W.Frag) : List (Nat × FD) → List DD → Bool
  | (c, _) :: r, d :: s => (if h.sup.contains c then closS K (h.ca K c) d && (PySem.W.clsIn K (h.ca K c)).isSome else closB K d) && closes h K r s
  | _, _ => true
/-- what needs no heap -/
def rowOkS (h : HD) : List (Nat × FD) → List DD → Bool
  | [], [] => true
  | (c, fd) :: r, d :: s => (if h.sup.contains c then fnChkS h.nm h.ct c fd d.N d.params d.scope d.body else fnChk h.nm h.ct fd d.N d.params d.scope d.body) && rowOkS h r s
  | _, _ => false
def HD.chk2 (h : HD) (ds es : List DD) : Bool := rowOk h h.fns ds && (rowOkS h h.ins es && (h.ins.all (fun q => decide (q.2.np ≠ 0)) && ((h.fld.all fun q => h.fld.all fun r => !(decide (q.1 = r.1)) || (!(decide (nmL h.ats q.2 = nmL h.ats r.2)) || decide (q.2 = r.2))) &&
  (h.meth.all fun q => h.fld.all fun r => !(decide (q.1.1 = r.1)) || !(decide (nmL h.ats r.2 = nmL h.ats q.1.2))))))
/-- the program's own facts -/
def topOk (P : Program) : Bool := !(P.main.scope.names.lookup ("super" : Str)).isSome && decide ((P.main.file : Str) = FILE)
theorem HD.gok2 {hd : HD} {ds es : List DD} {P : Program} {w : World} {K : PySem.W.Frag} {h : Heap} {mg : Str → Option Value} (X : K.In h) (G : h.Ns mainGlobals mg) (c : hd.ok ds es K = true) (k : hd.chk2 ds es = true) :
    GOk (hd.na P w K) hd.nm hd.ct (adr K hd.fns ds) (adr K hd.ins es) P w K mg := by
  obtain ⟨c1, c⟩ := He.ba c
  obtain ⟨c2, c⟩ := He.ba c
  obtain ⟨c3, c⟩ := He.ba c
  obtain ⟨c4, c⟩ := He.ba c
  obtain ⟨c5, c⟩ := He.ba c
  obtain ⟨c6, c⟩ := He.ba c
  obtain ⟨c7, c⟩ := He.ba c
  obtain ⟨c8, c⟩ := He.ba c
  obtain ⟨c9, c⟩ := He.ba c
  obtain ⟨c10, c⟩ := He.ba c
  obtain ⟨c11, c12⟩ := He.ba c
  obtain ⟨k1, k⟩ := He.ba k
  obtain ⟨k2, k⟩ := He.ba k
  obtain ⟨k3, k⟩ := He.ba k
  obtain ⟨k4, k5⟩ := He.ba k
  have fr : ∀ x, x ∈ freeNames → mg x = none := fun x hx => free_ok X G (List.all_eq_true.mp c1 x hx)
  have kl := fun c (hc : hd.kls.contains c = true) => List.all_eq_true.mp c10 c (mem_ct hc)
  have fl := fun c m (hm : hd.fld.contains (c, m) = true) => List.all_eq_true.mp c8 (c, m) (mem_ct hm)
  exact {
    hK := rfl
    hP := rfl
    hw := rfl
    blt := fun b => by cases b <;> exact fr _ (by simp [freeNames, bltName])
    rng := fr _ (by simp [freeNames])
    isi := fr _ (by simp [freeNames])
    tbl := fr _ (by simp [freeNames])
    zip := fr _ (by simp [freeNames])
    enm := fr _ (by simp [freeNames])
    gi := fun x i e => He.int_ok X G (List.all_eq_true.mp c2 (x, i) (mem_lk e))
    cl := {
      gl := fun c hc => glo_ok X G (He.ba (kl c hc)).1
      cl := fun c hc => clsB_ok (He.ba (He.ba (kl c hc)).2).1
      ha := fun c hc => He.eqO_ok (He.ba (He.ba (He.ba (kl c hc)).2).2).1
      hn := He.eqO_ok c11
      htk := of_decide_eq_true c12
      hm := fun c hc => of_decide_eq_true (He.ba (He.ba (He.ba (He.ba (kl c hc)).2).2).2).1
      oo := fun c d hc hd' => of_decide_eq_true (List.all_eq_true.mp (He.ba (He.ba (He.ba (He.ba (He.ba (kl c hc)).2).2).2).2).2 d (mem_ct hd'))
      ob := fun c n hc => (kdB_ok (He.ba (He.ba (He.ba (He.ba (He.ba (kl c hc)).2).2).2).2).1 n).1
      bo := fun c n hc => (kdB_ok (He.ba (He.ba (He.ba (He.ba (He.ba (kl c hc)).2).2).2).2).1 n).2 }
    gf := fun f hf => by
      obtain ⟨x, e⟩ := Option.isSome_iff_exists.mp hf
      obtain ⟨g1, g2⟩ := He.ba (List.all_eq_true.mp c3 (f, x) (mem_lk e))
      refine ⟨?_, g2⟩
      have en : hd.nm.fn f = x := by
        show (hd.gfs.lookup f).getD "" = x
        rw [e]
        rfl
      rw [en]
      exact glo_ok X G g1
    mke := fun c hc => by
      obtain ⟨g1, g2⟩ := He.ba (List.all_eq_true.mp c4 c (mem_ct hc))
      exact ⟨glo_ok X G g1, mkB_ok g2⟩
    mkv := fun c hc => mkB_ok (List.all_eq_true.mp c5 c (mem_ct hc))
    mt := fun c m f e => by
      obtain ⟨g1, g2⟩ := He.ba (List.all_eq_true.mp c6 ((c, m), f) (mem_lk e))
      refine ⟨clsB_ok g1, methB_ok g2, fun g hg ea => ?_⟩
      have := nb (List.all_eq_true.mp (List.all_eq_true.mp k5 ((c, m), f) (mem_lk e)) (c, g) (mem_ct hg)) (decide_eq_true rfl)
      rw [show decide (nmL hd.ats g = nmL hd.ats m) = true from decide_eq_true ea] at this
      cases this
    pr := fun c m f e => by
      obtain ⟨g1, g2⟩ := He.ba (List.all_eq_true.mp c7 ((c, m), f) (mem_lk e))
      exact ⟨clsB_ok g1, _, propB_ok g2⟩
    fd := fun c m e => ⟨clsB_ok (He.ba (fl c m e)).1, He.eqO_ok (He.ba (fl c m e)).2, e⟩
    an := fun _ => rfl
    inj := fun c f g hf hg ea => of_decide_eq_true (nb (nb (List.all_eq_true.mp (List.all_eq_true.mp k4 (c, f) (mem_ct hf)) (c, g) (mem_ct hg)) (decide_eq_true rfl)) (decide_eq_true ea))
    cm := fun c m f e => metB_ok (nb (List.all_eq_true.mp c9 ((c, m), (f, true)) (mem_lk e)) rfl) }

/-! ### each def -/
def obsD2 (hd : HD) (ds es : List DD) (K : PySem.W.Frag) : Bool × List He.FnV := (hd.ok ds es K && (ds.all (codeB K) && (es.all (codeB K) && (hd.supOk es K && (ds.all (closB K) && closes hd K hd.ins es)))), (ds ++ es).map (fnV2 K))
theorem rows_in2 {hd : HD} {K : PySem.W.Frag} : ∀ {l : List (Nat × FD)} {ds : List DD}, rowOk hd l ds = true → ds.map (fnV2 K) = ds.map DD.val → ds.all (codeB K) = true → ds.all (closB K) = true → ∀ f fd, l.lookup f = some fd → DefIn K hd.nm hd.ct fd (adr K l ds f)
  | [], _, _, _, _, _, f, fd, e => nomatch (show (none : Option FD) = some fd from e)
  | (i, gd) :: r, [], h, _, _, _, _, _, _ => nomatch h
  | (i, gd) :: r, d :: s, h, v, c, z, f, fd, e => by
    obtain ⟨h1, h2⟩ := He.ba h
    obtain ⟨c1, c2⟩ := He.ba c
    obtain ⟨z1, z2⟩ := He.ba z
    have v' : fnV2 K d :: s.map (fnV2 K) = d.val :: s.map DD.val := v
    injection v' with v1 v2
    rw [List.lookup_cons] at e
    show DefIn K hd.nm hd.ct fd (if f = i then d.at_.at K else adr K r s f)
    by_cases hf : f = i
    · rw [if_pos hf]
      rw [show (f == i) = true from beq_iff_eq.mpr hf] at e
      cases e
      obtain ⟨oc, od, osl, kV, doc, pm, an, cdv, ct, q1, q2⟩ := dd_ok2 v1 c1 z1
      exact ⟨oc, od, osl, _, _, _, _, _, kV, doc, pm, an, cdv, ct, d.N, q1, q2, h1⟩
    · rw [if_neg hf]
      rw [show (f == i) = false from beq_eq_false_iff_ne.mpr hf] at e
      exact rows_in2 h2 v2 c2 z2 f fd e
theorem rows_inS {hd : HD} {P : Program} {K : PySem.W.Frag} {mg : Str → Option Value} {fi : Nat → Addr} (tp : topOk P = true)
    (hS : ∀ d, hd.sup.contains d = true → (mg "super" = none ∧ PySem.W.nsIn K cStatics "thirdparty.any" = some none) ∧ ∀ c0 b, hd.ct.cmeth c0 (supK + d) = some (b, false) → SupC K (hd.ca K c0) (hd.ca K d) (fi b)) :
    ∀ {l : List (Nat × FD)} {es : List DD}, rowOkS hd l es = true → es.map (fnV2 K) = es.map DD.val → es.all (codeB K) = true → closes hd K l es = true → ∀ c fd, l.lookup c = some fd →
      DefIn K hd.nm hd.ct fd (adr K l es c) ∨ ∃ d, DefInS P K mg hd.nm hd.ct (hd.ca K) fi d fd (adr K l es c)
  | [], _, _, _, _, _, f, fd, e => nomatch (show (none : Option FD) = some fd from e)
  | (i, gd) :: r, [], h, _, _, _, _, _, _ => nomatch h
  | (i, gd) :: r, d :: s, h, v, c, z, f, fd, e => by
    obtain ⟨h1, h2⟩ := He.ba h
    obtain ⟨c1, c2⟩ := He.ba c
    obtain ⟨z1, z2⟩ := He.ba z
    have v' : fnV2 K d :: s.map (fnV2 K) = d.val :: s.map DD.val := v
    injection v' with v1 v2
    rw [List.lookup_cons] at e
    show DefIn K hd.nm hd.ct fd (if f = i then d.at_.at K else adr K r s f) ∨ ∃ d', DefInS P K mg hd.nm hd.ct (hd.ca K) fi d' fd (if f = i then d.at_.at K else adr K r s f)
    by_cases hf : f = i
    · rw [if_pos hf]
      rw [show (f == i) = true from beq_iff_eq.mpr hf] at e
      cases e
      by_cases hs : hd.sup.contains i = true
      · rw [if_pos hs] at h1 z1
        obtain ⟨z3, z4⟩ := He.ba z1
        obtain ⟨oc, od, osl, kV, doc, pm, an, cdv, ct, cc, q1, q2, q3, cda, u1, u2, u3, vs, file, tf, q4, q5, q6, q7⟩ := dd_okS v1 c1 z3
        obtain ⟨t1, t2⟩ := He.ba tp
        obtain ⟨⟨s1, s2⟩, s3⟩ := hS i hs
        refine .inr ⟨i, oc, od, osl, _, _, _, _, _, kV, doc, pm, an, cdv, ct, d.N, cc, q1, q2, h1, ⟨⟨cda, u1, u2, u3, vs, file, tf, q4, q5, q6, ?_⟩, bnot t1, s1, q3, Option.isSome_iff_exists.mp z4, s2⟩, s3⟩
        rw [q7, show (P.main.file : Str) = FILE from of_decide_eq_true t2]
        exact beq_self_eq_true _
      · rw [if_neg hs] at h1 z1
        obtain ⟨oc, od, osl, kV, doc, pm, an, cdv, ct, q1, q2⟩ := dd_ok2 v1 c1 z1
        exact .inl ⟨oc, od, osl, _, _, _, _, _, kV, doc, pm, an, cdv, ct, d.N, q1, q2, h1⟩
    · rw [if_neg hf]
      rw [show (f == i) = false from beq_eq_false_iff_ne.mpr hf] at e
      exact rows_inS tp hS h2 v2 c2 z2 f fd e
theorem HD.lvl2 {hd : HD} {ds es : List DD} {P : Program} {w : World} {K : PySem.W.Frag} {h : Heap} {mg : Str → Option Value} (X : K.In h) (G : h.Ns mainGlobals mg) (c : obsD2 hd ds es K = valDD ds es) (k : hd.chk2 ds es = true) (tp : topOk P = true) (base : Heap) (j f : Nat) :
    FnG P w K mg base CX0 (2 * j) (adr K hd.fns ds f) (spF (hd.na P w K) (lv hd.tb j) f) := by
  have c1 := congrArg Prod.fst c
  have c2 : (ds ++ es).map (fnV2 K) = (ds ++ es).map DD.val := congrArg Prod.snd c
  obtain ⟨d1, d⟩ := He.ba c1
  obtain ⟨d2, d⟩ := He.ba d
  obtain ⟨d3, d⟩ := He.ba d
  obtain ⟨d4, d⟩ := He.ba d
  obtain ⟨d5, d6⟩ := He.ba d
  obtain ⟨s1, s2⟩ := He.ba d4
  obtain ⟨e1, e2⟩ := map_app c2
  have k0 := k
  obtain ⟨k1, k'⟩ := He.ba k
  obtain ⟨k2, k'⟩ := He.ba k'
  obtain ⟨k3, _⟩ := He.ba k'
  have hS : ∀ d, hd.sup.contains d = true → (mg "super" = none ∧ PySem.W.nsIn K cStatics "thirdparty.any" = some none) ∧ ∀ c0 b, hd.ct.cmeth c0 (supK + d) = some (b, false) → SupC K (hd.ca K c0) (hd.ca K d) (adr K hd.ins es b) := fun d hd' => by
    refine ⟨?_, fun c0 b e => ?_⟩
    · have ne : hd.sup.isEmpty = false := by
        cases q : hd.sup with
        | nil =>
          rw [q] at hd'
          cases hd'
        | cons _ _ => rfl
      have s2' : (hd.sup.isEmpty || (freeB K "super" && He.eqO (PySem.W.nsIn K cStatics "thirdparty.any") (some none))) = true := s2
      rw [ne] at s2'
      obtain ⟨a1, a2⟩ := He.ba s2'
      exact ⟨free_ok X G a1, He.eqO_ok a2⟩
    · have hm := mem_lk (show hd.cme.lookup (c0, supK + d) = some (b, false) from e)
      have s3 : ((false || hd.sup.all fun d' => !(decide (supK + d = supK + d')) || supCB K (hd.ca K c0) (hd.ca K d') (adr K hd.ins es b)) = true) := List.all_eq_true.mp s1 _ hm
      have s4 := List.all_eq_true.mp s3 d (mem_ct hd')
      exact supCB_ok (nb s4 (decide_eq_true rfl))
  exact (Mi.lvl2 (B := hd.tb) (HD.gok2 X G d1 k0) (fun f fd e => rows_in2 k1 e1 d2 d5 f fd e) (fun c fd e => ⟨rows_inS tp hS k2 e2 d3 d6 c fd e, of_decide_eq_true (List.all_eq_true.mp k3 (c, fd) (mem_lk e))⟩) j).1 f

/-! ### the Hook -/
/-- the new ones of some addresses; vis: a number whose bits are those seen -/
def visB : List Addr → Nat → List Addr → Nat × List Addr
  | [], vis, acc => (vis, acc)
  | r :: rs, vis, acc => if vis.testBit r then visB rs vis acc else visB rs (vis ||| (1 <<< r)) (r :: acc)
def layB (g : Addr → Option Obj) : List Addr → Nat → List Addr → Nat × List Addr
  | [], vis, acc => (vis, acc)
  | a :: as, vis, acc => (match g a with
    | some o => (match visB (He.refsD o) vis acc with
      | (v, c) => layB g as v c)
    | none => layB g as vis acc)
/-- what is reached in so many steps, layer by layer -/
def asB (g : Addr → Option Obj) : Nat → List Addr → Nat → List Addr
  | 0, front, _ => front
  | n + 1, front, vis => front ++ (match layB g front vis [] with
    | (v, c) => asB g n c v)
def obsMG2 (n : Nat) (hd : HD) (ds es : List DD) (g : Addr → Option Obj) : Bool × List He.FnV := obsD2 hd ds es (frN g (cStatics :: asB g n [mainGlobals] ((1 <<< mainGlobals) ||| (1 <<< cStatics))))
def hookM2 (n : Nat) (hd : HD) (ds es : List DD) : PySem.W.Hook where
  α := Bool × List He.FnV
  obs := fun s => obsMG2 n hd ds es s.heap.get?
  val := fun _ => valDD ds es
  says := fun _ h => ∃ K : PySem.W.Frag, K.In h ∧ NoLst K ∧ obsD2 hd ds es K = valDD ds es
  of := fun _ _ e => ⟨_, frN_in, frN_no, e⟩
  keeps := fun _ _ _ ⟨K, hK, c⟩ k => ⟨K, PySem.W.Frag.In.keeps hK k, c⟩
theorem obsMG2_eq {n : Nat} {hd : HD} {ds es : List DD} {g : Addr → Option Obj} {s : Shared} (h : ∀ a, g a = s.heap.get? a) : obsMG2 n hd ds es g = (hookM2 n hd ds es).obs s := by
  have e : g = s.heap.get? := funext h
  rw [e] <;> rfl

/-! ### a law -/
theorem walk_mi2 {l : PySem.W.OpenLaw} {n j f : Nat} {q : Program} {loose : List Str} {XP : (Str → Option Value) → Heap → Prop} {m : Nat} {hd : HD} {ds es : List DD} {d : DefRec} {x : Str}
    (hn : l.most = some n) (hn2 : n ≤ sizeLine) (hdf : d.params.defaults = []) (hr : Room (2 * j) callerA) (hx : d.name = x) (hg : hd.gfs.lookup f = some x) (hc : hd.chk2 ds es = true) (tp : topOk l.prog = true)
    (law : ∀ ns : List Int, ns.length ≤ n → ∃ h', (lv hd.tb j).fn f [.lst (ns.map D.int)] [] = .ok (.bl true) h') :
    PySem.W.WalkO q loose XP (hookM2 m hd ds es).says l.row.toRowW d [] (fun f vs => PySem.call f vs) := by
  refine Att.attach_call hn hdf fun w s₀ s₁ mg mb fa o pm cd doc a vs ns G Y ho hd' hcd hmg hobj hints hlen hgs => ?_
  obtain ⟨K, KX, nl, c⟩ := Y
  have c1 := congrArg Prod.fst c
  have g := HD.gok2 (P := l.prog) (w := w) KX G.T.g (He.ba c1).1 hc
  have hf : hd.nm.gf f = true := by
    show (hd.gfs.lookup f).isSome = true
    rw [hg]
    rfl
  have e1 := (g.gf f hf).1
  have e2 : hd.nm.fn f = x := by
    show (hd.gfs.lookup f).getD "" = x
    rw [hg]
    rfl
  rw [e2, ← hx, hmg] at e1
  cases e1
  obtain ⟨h', hl⟩ := law ns hlen
  exact law_end KX G.T.g G.T.b G.T.builtins G.T.nolimit hgs hobj hints (Nat.le_trans hlen hn2) hr nl (fun base => HD.lvl2 KX G.T.g c hc tp base j f) hl
end Mi
/-! MiFd: the defs that the laws share, in the small syntax (printed by fds.py). -/
namespace Mi
/-- self parts rows state bits part -/
def fd_Choice___init__ : FD := ⟨1, true, 6, .cons (.ex (.call 77 (.cons (.var 1) (.nil)))) (.cons (.setO 2 (.lst (.nil))) (.cons (.for (.one 3) (.rng (.attr (.idx (.var 1) (.con (.int 0))) 1)) (.cons (.set 4 (.con (.int 0))) (.cons (.for (.one 5) (.seq (.var 1)) (.cons (.set 4 (.bin .bor (.var 4) (.idx (.attr (.var 5) 26) (.var 3)))) (.nil))) (.cons (.app 2 (.call 5 (.cons (.var 4) (.nil)))) (.nil))))) (.cons (.sini 14 (.star (.var 2) (.nil))) (.cons (.sattr (.var 0) 27 (.var 1)) (.nil)))))⟩
/-- self scale bits found number part loss more -/
def fd_Choice_follow : FD := ⟨3, false, 8, .cons (.set 3 (.con (.int 0))) (.cons (.for (.many [4, 5]) (.enm (.attr (.var 0) 27)) (.cons (.unp [6, 7] (.meth (.var 5) 37 (.cons (.var 1) (.cons (.var 2) (.nil))))) (.cons (.ifs (.notn (.var 6)) (.cons (.ret (.tup (.cons (.tup (.cons (.bin .add (.tup (.cons (.var 4) (.nil))) (.idx (.var 6) (.con (.int 0)))) (.cons (.idx (.var 6) (.con (.int 1))) (.nil)))) (.cons (.con (.int 0)) (.nil))))) (.nil)) (.nil)) (.cons (.set 3 (.bin .bor (.var 3) (.var 7))) (.nil))))) (.cons (.ret (.tup (.cons (.con .non) (.cons (.var 3) (.nil))))) (.nil)))⟩
/-- self scale bits found part -/
def fd_Choice_run : FD := ⟨3, false, 5, .cons (.set 3 (.con (.int 0))) (.cons (.for (.one 4) (.seq (.attr (.var 0) 27)) (.cons (.set 3 (.bin .bor (.var 3) (.meth (.var 4) 35 (.cons (.var 1) (.cons (.var 2) (.nil)))))) (.nil))) (.cons (.ret (.meth (.var 1) 17 (.cons (.var 3) (.nil)))) (.nil)))⟩
/-- self many states rows state -/
def fd_Guard___init__ : FD := ⟨3, false, 5, .cons (.ex (.call 1 (.cons (.var 1) (.nil)))) (.cons (.ex (.call 3 (.cons (.var 1) (.cons (.var 2) (.nil))))) (.cons (.set 3 (.lc (.rng (.var 1)) (.one 4) [4] (.nil) (.ite (.cmp .isin (.var 4) (.var 2)) (.tup (.cons (.var 4) (.nil))) (.tup (.nil))))) (.cons (.sini 9 (.star (.var 3) (.nil))) (.nil))))⟩
/-- self part rows state bits before -/
def fd_Loop___init__ : FD := ⟨2, false, 6, .cons (.ex (.call 71 (.cons (.var 1) (.nil)))) (.cons (.setO 2 (.lst (.nil))) (.cons (.for (.one 3) (.rng (.attr (.var 1) 1)) (.cons (.par [(4, false), (5, false)] (.cons (.bin .shl (.con (.int 1)) (.var 3)) (.cons (.con (.int 0)) (.nil)))) (.cons (.while (.cmp .ne (.var 4) (.var 5)) (.cons (.par [(5, false), (4, false)] (.cons (.var 4) (.cons (.bin .bor (.var 4) (.meth (.var 1) 28 (.cons (.var 4) (.nil)))) (.nil)))) (.nil))) (.cons (.app 2 (.call 5 (.cons (.var 4) (.nil)))) (.nil))))) (.cons (.sini 12 (.star (.var 2) (.nil))) (.cons (.sattr (.var 0) 27 (.tup (.cons (.var 1) (.nil)))) (.nil)))))⟩
/-- self scale bits number before loss more -/
def fd_Loop_follow : FD := ⟨3, false, 7, .cons (.par [(3, false), (4, false)] (.cons (.con (.int 0)) (.cons (.con .non) (.nil)))) (.cons (.while (.cmp .ne (.var 2) (.var 4)) (.cons (.unp [5, 6] (.meth (.idx (.attr (.var 0) 27) (.con (.int 0))) 37 (.cons (.var 1) (.cons (.var 2) (.nil))))) (.cons (.ifs (.notn (.var 5)) (.cons (.ret (.tup (.cons (.tup (.cons (.bin .add (.tup (.cons (.var 3) (.nil))) (.idx (.var 5) (.con (.int 0)))) (.cons (.idx (.var 5) (.con (.int 1))) (.nil)))) (.cons (.con (.int 0)) (.nil))))) (.nil)) (.nil)) (.cons (.par [(3, false), (4, false), (2, false)] (.cons (.bin .add (.var 3) (.con (.int 1))) (.cons (.var 2) (.cons (.bin .bor (.var 2) (.var 6)) (.nil))))) (.nil))))) (.cons (.ret (.tup (.cons (.con .non) (.cons (.var 2) (.nil))))) (.nil)))⟩
/-- self scale bits found before -/
def fd_Loop_run : FD := ⟨3, false, 5, .cons (.par [(3, false), (4, false)] (.cons (.meth (.var 1) 17 (.cons (.var 2) (.nil))) (.cons (.con .non) (.nil)))) (.cons (.while (.cmp .ne (.var 3) (.var 4)) (.cons (.par [(4, false), (3, false)] (.cons (.var 3) (.cons (.meth (.var 1) 17 (.cons (.bin .bor (.var 3) (.meth (.idx (.attr (.var 0) 27) (.con (.int 0))) 35 (.cons (.var 1) (.cons (.var 3) (.nil))))) (.nil))) (.nil)))) (.nil))) (.cons (.ret (.var 3)) (.nil)))⟩
/-- self first second -/
def fd_NotClosed___init__ : FD := ⟨3, false, 3, .cons (.sini 5 (.cons (.con (.str "common states are missing")) (.nil))) (.cons (.pattr (.var 0) 4 5 (.var 1) (.var 2)) (.nil))⟩
/-- self many sets some states -/
def fd_Scale___init__ : FD := ⟨2, true, 5, .cons (.ex (.call 1 (.cons (.var 1) (.nil)))) (.cons (.set 3 (.lc (.seq (.var 2)) (.one 4) [4] (.nil) (.call 3 (.cons (.var 1) (.cons (.var 4) (.nil)))))) (.cons (.pattr (.var 0) 6 7 (.var 1) (.call 8 (.cons (.call 9 (.cons (.bin .add (.lst (.cons (.call 6 (.cons (.var 1) (.nil))) (.nil))) (.var 3)) (.nil))) (.nil)))) (.nil)))⟩
/-- self bits found other -/
def fd_Scale_above : FD := ⟨2, false, 4, .cons (.set 2 (.call 6 (.cons (.attr (.var 0) 6) (.nil)))) (.cons (.for (.one 3) (.seq (.attr (.var 0) 7)) (.cons (.ifs (.and (.cmp .ne (.var 3) (.var 1)) (.cmp .eq (.bin .band (.var 1) (.var 3)) (.var 1))) (.cons (.set 2 (.bin .band (.var 2) (.var 3))) (.nil)) (.nil)) (.nil))) (.cons (.ret (.var 2)) (.nil)))⟩
/-- self bits -/
def fd_Scale_allowed : FD := ⟨1, false, 2, .cons (.ret (.blt .tuple (.cons (.lc (.seq (.attr (.var 0) 7)) (.one 1) [1] (.nil) (.call 5 (.cons (.var 1) (.nil)))) (.nil)))) (.nil)⟩
/-- self states -/
def fd_Scale_allows : FD := ⟨2, false, 2, .cons (.ret (.cmp .isin (.call 3 (.cons (.attr (.var 0) 6) (.cons (.var 1) (.nil)))) (.attr (.var 0) 7))) (.nil)⟩
/-- self sets -/
def fd_Scale_assign_allowed : FD := ⟨2, false, 2, .cons (.sattr (.var 0) 2 (.var 1)) (.nil)⟩
/-- self deeds deed -/
def fd_Scale_change : FD := ⟨1, true, 3, .cons (.raise 0 .nil) (.cons (.ret (.blt .len (.cons (.var 1) (.nil)))) (.nil))⟩
/-- self bits -/
def fd_Scale_edge_bits : FD := ⟨1, false, 2, .cons (.ret (.lc (.seq (.attr (.var 0) 7)) (.one 1) [1] (.cons (.and (.cmp .ne (.var 1) (.call 6 (.cons (.attr (.var 0) 6) (.nil)))) (.cmp .ne (.meth (.var 0) 16 (.cons (.var 1) (.nil))) (.var 1))) (.nil)) (.var 1))) (.nil)⟩
/-- self bits -/
def fd_Scale_edges : FD := ⟨1, false, 2, .cons (.ret (.blt .tuple (.cons (.lc (.seq (.meth (.var 0) 15 (.nil))) (.one 1) [1] (.nil) (.call 5 (.cons (.var 1) (.nil)))) (.nil)))) (.nil)⟩
/-- self states bits other -/
def fd_Scale_forbid : FD := ⟨2, false, 4, .cons (.set 2 (.call 3 (.cons (.attr (.var 0) 6) (.cons (.var 1) (.nil))))) (.cons (.ifs (.cmp .notin (.var 2) (.meth (.var 0) 15 (.nil))) (.cons (.raise 18 (.cons (.con (.str "not an edge")) (.nil))) (.nil)) (.nil)) (.cons (.sattr (.var 0) 7 (.blt .tuple (.cons (.lc (.seq (.attr (.var 0) 7)) (.one 3) [3] (.cons (.cmp .ne (.var 3) (.var 2)) (.nil)) (.var 3)) (.nil)))) (.nil)))⟩
/-- self other -/
def fd_Scale_join : FD := ⟨2, false, 2, .cons (.ex (.meth (.var 0) 8 (.cons (.var 1) (.nil)))) (.cons (.ret (.call 15 (.cons (.attr (.var 0) 6) (.cons (.bin .add (.attr (.var 0) 7) (.attr (.var 1) 7)) (.nil))))) (.nil))⟩
/-- self -/
def fd_Scale_many : FD := ⟨1, false, 1, .cons (.ret (.attr (.var 0) 6)) (.nil)⟩
/-- self other bits -/
def fd_Scale_meet : FD := ⟨2, false, 3, .cons (.ex (.meth (.var 0) 8 (.cons (.var 1) (.nil)))) (.cons (.ret (.call 15 (.cons (.attr (.var 0) 6) (.cons (.lc (.seq (.attr (.var 0) 7)) (.one 2) [2] (.cons (.cmp .isin (.var 2) (.attr (.var 1) 7)) (.nil)) (.var 2)) (.nil))))) (.nil))⟩
/-- self other -/
def fd_Scale_need_other : FD := ⟨2, false, 2, .cons (.ifs (.not (.isi (.var 1) (.cls 3))) (.cons (.raise 6 (.cons (.con (.str "not a scale")) (.nil))) (.nil)) (.nil)) (.cons (.ifs (.cmp .ne (.attr (.var 1) 6) (.attr (.var 0) 6)) (.cons (.raise 7 (.cons (.con (.str "other numbers of states")) (.nil))) (.nil)) (.nil)) (.nil))⟩
/-- self deed -/
def fd_Scale_perform : FD := ⟨2, false, 2, .cons (.ifs (.not (.isi (.var 1) (.tuple))) (.cons (.raise 17 (.cons (.con (.str "a deed is a tuple")) (.nil))) (.nil)) (.nil)) (.cons (.raise 0 .nil) (.nil))⟩
/-- self sets some before states -/
def fd_Scale_permit : FD := ⟨1, true, 5, .cons (.set 2 (.lc (.seq (.var 1)) (.one 4) [4] (.nil) (.call 3 (.cons (.attr (.var 0) 6) (.cons (.var 4) (.nil)))))) (.cons (.set 3 (.blt .len (.cons (.attr (.var 0) 7) (.nil)))) (.cons (.sattr (.var 0) 7 (.call 8 (.cons (.call 9 (.cons (.bin .add (.blt .list (.cons (.attr (.var 0) 7) (.nil))) (.var 2)) (.nil))) (.nil)))) (.cons (.ret (.bin .sub (.blt .len (.cons (.attr (.var 0) 7) (.nil))) (.var 3))) (.nil))))⟩
/-- cls text many sets -/
def fd_Scale_read : FD := ⟨2, false, 4, .cons (.unp [2, 3] (.call 14 (.cons (.var 1) (.nil)))) (.cons (.ret (.makeV 0 (.cons (.var 2) (.star (.var 3) (.nil))))) (.nil))⟩
/-- self states -/
def fd_Scale_round : FD := ⟨2, false, 2, .cons (.ret (.call 5 (.cons (.meth (.var 0) 17 (.cons (.call 3 (.cons (.attr (.var 0) 6) (.cons (.var 1) (.nil)))) (.nil))) (.nil)))) (.nil)⟩
/-- self bits found other -/
def fd_Scale_round_bits : FD := ⟨2, false, 4, .cons (.set 2 (.call 6 (.cons (.attr (.var 0) 6) (.nil)))) (.cons (.for (.one 3) (.seq (.attr (.var 0) 7)) (.cons (.ifs (.cmp .eq (.bin .band (.var 1) (.var 3)) (.var 1)) (.cons (.set 2 (.bin .band (.var 2) (.var 3))) (.nil)) (.nil)) (.nil))) (.cons (.ret (.var 2)) (.nil)))⟩
/-- self -/
def fd_Scale_text : FD := ⟨1, false, 1, .cons (.ret (.call 12 (.cons (.attr (.var 0) 6) (.cons (.attr (.var 0) 2) (.nil))))) (.nil)⟩
/-- self -/
def fd_Scale_trial : FD := ⟨1, false, 1, .cons (.ret (.make 19 (.cons (.var 0) (.nil)))) (.nil)⟩
/-- self parts rows state bits part -/
def fd_Sequence___init__ : FD := ⟨1, true, 6, .cons (.ex (.call 77 (.cons (.var 1) (.nil)))) (.cons (.setO 2 (.lst (.nil))) (.cons (.for (.one 3) (.rng (.attr (.idx (.var 1) (.con (.int 0))) 1)) (.cons (.set 4 (.bin .shl (.con (.int 1)) (.var 3))) (.cons (.for (.one 5) (.seq (.var 1)) (.cons (.set 4 (.meth (.var 5) 28 (.cons (.var 4) (.nil)))) (.nil))) (.cons (.app 2 (.call 5 (.cons (.var 4) (.nil)))) (.nil))))) (.cons (.sini 13 (.star (.var 2) (.nil))) (.cons (.sattr (.var 0) 27 (.var 1)) (.nil)))))⟩
/-- self scale bits number part loss -/
def fd_Sequence_follow : FD := ⟨3, false, 6, .cons (.for (.many [3, 4]) (.enm (.attr (.var 0) 27)) (.cons (.unp [5, 2] (.meth (.var 4) 37 (.cons (.var 1) (.cons (.var 2) (.nil))))) (.cons (.ifs (.notn (.var 5)) (.cons (.ret (.tup (.cons (.tup (.cons (.bin .add (.tup (.cons (.var 3) (.nil))) (.idx (.var 5) (.con (.int 0)))) (.cons (.idx (.var 5) (.con (.int 1))) (.nil)))) (.cons (.con (.int 0)) (.nil))))) (.nil)) (.nil)) (.nil)))) (.cons (.ret (.tup (.cons (.con .non) (.cons (.var 2) (.nil))))) (.nil))⟩
/-- self scale bits part -/
def fd_Sequence_run : FD := ⟨3, false, 4, .cons (.for (.one 3) (.seq (.attr (.var 0) 27)) (.cons (.set 2 (.meth (.var 3) 35 (.cons (.var 1) (.cons (.var 2) (.nil))))) (.nil))) (.cons (.ret (.var 2)) (.nil))⟩
/-- self rows row -/
def fd_Step___init__ : FD := ⟨1, true, 3, .cons (.ifs (.or (.not (.cmp2 .le .le (.con (.int 1)) (.blt .len (.cons (.var 1) (.nil))) (.glo "MOST" 7))) (.not (.blt .all (.cons (.lc (.seq (.var 1)) (.one 2) [2] (.nil) (.call 114 (.cons (.blt .len (.cons (.var 1) (.nil))) (.cons (.var 2) (.nil))))) (.nil))))) (.cons (.raise 11 (.cons (.con (.str "a set of states for each of 1 to 7 states")) (.nil))) (.nil)) (.nil)) (.cons (.pattr (.var 0) 26 27 (.lc (.seq (.var 1)) (.one 2) [2] (.nil) (.call 4 (.cons (.var 2) (.nil)))) (.tup (.nil))) (.nil))⟩
/-- self states -/
def fd_Step_apply : FD := ⟨2, false, 2, .cons (.ret (.call 5 (.cons (.meth (.var 0) 28 (.cons (.call 3 (.cons (.attr (.var 0) 1) (.cons (.var 1) (.nil)))) (.nil))) (.nil)))) (.nil)⟩
/-- self states -/
def fd_Step_back : FD := ⟨2, false, 2, .cons (.ret (.call 5 (.cons (.meth (.var 0) 29 (.cons (.call 3 (.cons (.attr (.var 0) 1) (.cons (.var 1) (.nil)))) (.nil))) (.nil)))) (.nil)⟩
/-- self bits state line -/
def fd_Step_before : FD := ⟨2, false, 4, .cons (.ret (.blt .sum (.cons (.lc (.enm (.attr (.var 0) 26)) (.many [2, 3]) [2, 3] (.cons (.cmp .eq (.bin .band (.var 3) (.var 1)) (.var 3)) (.nil)) (.bin .shl (.con (.int 1)) (.var 2))) (.nil)))) (.nil)⟩
/-- self scale states -/
def fd_Step_coarse : FD := ⟨3, false, 3, .cons (.ex (.call 84 (.cons (.var 1) (.cons (.var 0) (.nil))))) (.cons (.ret (.call 5 (.cons (.meth (.var 0) 35 (.cons (.var 1) (.cons (.call 3 (.cons (.attr (.var 0) 1) (.cons (.var 2) (.nil)))) (.nil)))) (.nil)))) (.nil))⟩
/-- self scale states loss found -/
def fd_Step_first_loss : FD := ⟨3, false, 5, .cons (.ex (.call 84 (.cons (.var 1) (.cons (.var 0) (.nil))))) (.cons (.unp [3, 4] (.meth (.var 0) 37 (.cons (.var 1) (.cons (.call 3 (.cons (.attr (.var 0) 1) (.cons (.var 2) (.nil)))) (.nil))))) (.cons (.ret (.ite (.isn (.var 3)) (.con .non) (.tup (.cons (.idx (.var 3) (.con (.int 0))) (.cons (.call 5 (.cons (.idx (.var 3) (.con (.int 1))) (.nil))) (.nil)))))) (.nil)))⟩
/-- self scale bits found -/
def fd_Step_follow : FD := ⟨3, false, 4, .cons (.set 3 (.meth (.var 0) 28 (.cons (.var 2) (.nil)))) (.cons (.ifs (.cmp .ne (.meth (.var 0) 35 (.cons (.var 1) (.cons (.var 2) (.nil)))) (.meth (.var 1) 17 (.cons (.var 3) (.nil)))) (.cons (.ret (.tup (.cons (.tup (.cons (.tup (.nil)) (.cons (.var 2) (.nil)))) (.cons (.con (.int 0)) (.nil))))) (.nil)) (.nil)) (.cons (.ret (.tup (.cons (.con .non) (.cons (.var 3) (.nil))))) (.nil)))⟩
/-- self bits found state line -/
def fd_Step_image : FD := ⟨2, false, 5, .cons (.set 2 (.con (.int 0))) (.cons (.for (.many [3, 4]) (.enm (.attr (.var 0) 26)) (.cons (.ifs (.bin .band (.bin .shr (.var 1) (.var 3)) (.con (.int 1))) (.cons (.set 2 (.bin .bor (.var 2) (.var 4))) (.nil)) (.nil)) (.nil))) (.cons (.ret (.var 2)) (.nil)))⟩
/-- self -/
def fd_Step_many : FD := ⟨1, false, 1, .cons (.ret (.blt .len (.cons (.attr (.var 0) 26) (.nil)))) (.nil)⟩
/-- self -/
def fd_Step_parts : FD := ⟨1, false, 1, .cons (.ret (.attr (.var 0) 27)) (.nil)⟩
/-- cls text rows -/
def fd_Step_read : FD := ⟨2, false, 3, .cons (.set 2 (.call 58 (.cons (.var 1) (.nil)))) (.cons (.ret (.make 10 (.star (.var 2) (.nil)))) (.nil))⟩
/-- self line -/
def fd_Step_rows : FD := ⟨1, false, 2, .cons (.ret (.blt .tuple (.cons (.lc (.seq (.attr (.var 0) 26)) (.one 1) [1] (.nil) (.call 5 (.cons (.var 1) (.nil)))) (.nil)))) (.nil)⟩
/-- self scale bits -/
def fd_Step_run : FD := ⟨3, false, 3, .cons (.ret (.meth (.var 1) 17 (.cons (.meth (.var 0) 28 (.cons (.meth (.var 1) 17 (.cons (.var 2) (.nil))) (.nil))) (.nil)))) (.nil)⟩
/-- self -/
def fd_Step_text : FD := ⟨1, false, 1, .cons (.ret (.call 57 (.cons (.attr (.var 0) 23) (.nil)))) (.nil)⟩
/-- self amount limit -/
def fd_TooMany___init__ : FD := ⟨3, false, 3, .cons (.sini 16 (.cons (.con (.str "more than the limit")) (.nil))) (.cons (.pattr (.var 0) 31 32 (.var 1) (.var 2)) (.nil))⟩
/-- self scale -/
def fd_Trial___init__ : FD := ⟨2, false, 2, .cons (.pattr (.var 0) 42 43 (.var 1) (.attr (.var 1) 7)) (.nil)⟩
/-- _law_rows_here _law_one _law_state _law_other -/
def fd__law_apply : FD := ⟨2, false, 4, .cons (.ret (.blt .tuple (.cons (.lc (.rng (.blt .len (.cons (.var 0) (.nil)))) (.one 2) [2] (.cons (.cmp .ne (.lc (.seq (.var 1)) (.one 3) [3] (.cons (.cmp .isin (.var 2) (.idx (.var 0) (.var 3))) (.nil)) (.con (.int 1))) (.lst (.nil))) (.nil)) (.var 2)) (.nil)))) (.nil)⟩
/-- _law_scale_here _law_some _law_one -/
def fd__law_are_exact : FD := ⟨2, false, 3, .cons (.ret (.blt .all (.cons (.lc (.seq (.var 1)) (.one 2) [2] (.nil) (.call 159 (.cons (.var 0) (.cons (.var 2) (.nil))))) (.nil)))) (.nil)⟩
/-- _law_rows_here _law_one _law_state _law_row -/
def fd__law_back : FD := ⟨2, false, 4, .cons (.ret (.blt .tuple (.cons (.lc (.enm (.var 0)) (.many [2, 3]) [2, 3] (.cons (.cmp .eq (.call 21 (.cons (.var 3) (.cons (.var 1) (.nil)))) (.var 3)) (.nil)) (.var 2)) (.nil)))) (.nil)⟩
/-- _law_script _law_k -/
def fd__law_cell_at : FD := ⟨2, false, 2, .cons (.ifs (.cmp .lt (.var 1) (.blt .len (.cons (.var 0) (.nil)))) (.cons (.ret (.idx (.var 0) (.var 1))) (.nil)) (.nil)) (.cons (.ret (.con (.int 0))) (.nil))⟩
/-- _law_parts -/
def fd__law_choice : FD := ⟨1, false, 1, .cons (.ifs (.cmp .eq (.blt .len (.cons (.var 0) (.nil))) (.con (.int 1))) (.cons (.ret (.make 14 (.cons (.idx (.var 0) (.con (.int 0))) (.nil)))) (.nil)) (.nil)) (.cons (.ifs (.cmp .eq (.blt .len (.cons (.var 0) (.nil))) (.con (.int 2))) (.cons (.ret (.make 14 (.cons (.idx (.var 0) (.con (.int 0))) (.cons (.idx (.var 0) (.con (.int 1))) (.nil))))) (.nil)) (.nil)) (.cons (.ret (.make 14 (.cons (.idx (.var 0) (.con (.int 0))) (.cons (.idx (.var 0) (.con (.int 1))) (.cons (.idx (.var 0) (.con (.int 2))) (.nil)))))) (.nil)))⟩
/-- _law_size _law_some _law_found _law_one _law_other -/
def fd__law_closed : FD := ⟨2, false, 5, .cons (.set 2 (.lst (.nil))) (.cons (.for (.one 3) (.seq (.bin .add (.lst (.cons (.call 20 (.cons (.var 0) (.nil))) (.nil))) (.blt .list (.cons (.var 1) (.nil))))) (.cons (.set 2 (.bin .add (.bin .add (.var 2) (.lst (.cons (.var 3) (.nil)))) (.lc (.seq (.var 2)) (.one 4) [4] (.nil) (.call 21 (.cons (.var 3) (.cons (.var 4) (.nil))))))) (.cons (.set 2 (.call 22 (.cons (.var 2) (.nil)))) (.nil)))) (.cons (.ret (.var 2)) (.nil)))⟩
/-- _law_one _law_other _law_state -/
def fd__law_common : FD := ⟨2, false, 3, .cons (.ret (.blt .tuple (.cons (.lc (.seq (.var 0)) (.one 2) [2] (.cons (.cmp .isin (.var 2) (.var 1)) (.nil)) (.var 2)) (.nil)))) (.nil)⟩
/-- _law_pen_here _law_size _law_family_here _law_way _law_odd -/
def fd__law_deed : FD := ⟨3, false, 5, .cons (.set 3 (.call 18 (.cons (.var 0) (.cons (.con (.int 10)) (.nil))))) (.cons (.ifs (.cmp .lt (.var 3) (.con (.int 4))) (.cons (.ret (.tup (.cons (.con (.str "permit")) (.cons (.call 19 (.cons (.var 0) (.cons (.var 1) (.nil)))) (.nil))))) (.nil)) (.nil)) (.cons (.ifs (.cmp .lt (.var 3) (.con (.int 6))) (.cons (.ret (.tup (.cons (.con (.str "forbid")) (.cons (.call 47 (.cons (.var 0) (.cons (.bin .add (.call 40 (.cons (.var 2) (.nil))) (.lst (.cons (.call 47 (.cons (.var 0) (.cons (.var 2) (.nil)))) (.nil)))) (.nil)))) (.nil))))) (.nil)) (.nil)) (.cons (.ifs (.cmp .lt (.var 3) (.con (.int 8))) (.cons (.ret (.tup (.cons (.con (.str "allowed")) (.cons (.call 132 (.cons (.var 0) (.cons (.var 1) (.cons (.var 2) (.nil))))) (.nil))))) (.nil)) (.nil)) (.cons (.ifs (.cmp .eq (.var 3) (.con (.int 8))) (.cons (.ret (.tup (.cons (.call 47 (.cons (.var 0) (.cons (.lst (.cons (.con (.str "permit")) (.cons (.con (.str "forbid")) (.nil)))) (.nil)))) (.cons (.call 47 (.cons (.var 0) (.cons (.call 180 (.cons (.var 1) (.nil))) (.nil)))) (.nil))))) (.nil)) (.nil)) (.cons (.set 4 (.lst (.cons (.con .non) (.cons (.tup (.nil)) (.cons (.lst (.nil)) (.cons (.con (.str "permit")) (.cons (.lst (.cons (.con (.str "permit")) (.cons (.tup (.nil)) (.nil)))) (.cons (.tup (.cons (.con (.str "permit")) (.nil))) (.cons (.tup (.cons (.con (.str "permit")) (.cons (.tup (.nil)) (.cons (.tup (.nil)) (.nil))))) (.cons (.tup (.cons (.con (.str "Permit")) (.cons (.tup (.nil)) (.nil)))) (.cons (.tup (.cons (.con (.int 0)) (.cons (.tup (.nil)) (.nil)))) (.nil)))))))))))) (.cons (.ret (.call 47 (.cons (.var 0) (.cons (.bin .add (.var 4) (.lst (.cons (.tup (.cons (.con .non) (.cons (.con .non) (.nil)))) (.cons (.tup (.cons (.con (.str "trial")) (.cons (.tup (.nil)) (.nil)))) (.cons (.tup (.cons (.con (.str "allow")) (.cons (.tup (.nil)) (.nil)))) (.cons (.tup (.cons (.tup (.cons (.con (.str "permit")) (.cons (.tup (.nil)) (.nil)))) (.nil))) (.cons (.dnew) (.nil)))))))) (.nil))))) (.nil)))))))⟩
/-- _law_size _law_family_here _law_deed_here _law_fault_here _law_one -/
def fd__law_done : FD := ⟨3, false, 5, .cons (.ifs (.or (.not (.isi (.var 2) (.tuple))) (.or (.cmp .ne (.blt .len (.cons (.var 2) (.nil))) (.con (.int 2))) (.not (.isi (.idx (.var 2) (.con (.int 0))) (.str))))) (.cons (.ret (.tup (.cons (.con (.str "! NoDeed")) (.cons (.var 1) (.nil))))) (.nil)) (.nil)) (.cons (.ifs (.cmp .eq (.idx (.var 2) (.con (.int 0))) (.con (.str "allowed"))) (.cons (.set 3 (.call 183 (.cons (.var 0) (.cons (.idx (.var 2) (.con (.int 1))) (.nil))))) (.cons (.ret (.tup (.cons (.var 3) (.cons (.ite (.cmp .ne (.var 3) (.con (.str ""))) (.var 1) (.call 22 (.cons (.idx (.var 2) (.con (.int 1))) (.nil)))) (.nil))))) (.nil))) (.nil)) (.cons (.ifs (.and (.cmp .ne (.idx (.var 2) (.con (.int 0))) (.con (.str "permit"))) (.cmp .ne (.idx (.var 2) (.con (.int 0))) (.con (.str "forbid")))) (.cons (.ret (.tup (.cons (.con (.str "! NoDeed")) (.cons (.var 1) (.nil))))) (.nil)) (.nil)) (.cons (.ifs (.not (.call 181 (.cons (.var 0) (.cons (.idx (.var 2) (.con (.int 1))) (.nil))))) (.cons (.ret (.tup (.cons (.con (.str "! NoSet")) (.cons (.var 1) (.nil))))) (.nil)) (.nil)) (.cons (.ifs (.cmp .eq (.idx (.var 2) (.con (.int 0))) (.con (.str "permit"))) (.cons (.ret (.tup (.cons (.con (.str "")) (.cons (.call 23 (.cons (.var 0) (.cons (.bin .add (.blt .list (.cons (.var 1) (.nil))) (.lst (.cons (.idx (.var 2) (.con (.int 1))) (.nil)))) (.nil)))) (.nil))))) (.nil)) (.nil)) (.cons (.ifs (.cmp .notin (.idx (.var 2) (.con (.int 1))) (.call 40 (.cons (.var 1) (.nil)))) (.cons (.ret (.tup (.cons (.con (.str "! NoEdge")) (.cons (.var 1) (.nil))))) (.nil)) (.nil)) (.cons (.ret (.tup (.cons (.con (.str "")) (.cons (.lc (.seq (.var 1)) (.one 4) [4] (.cons (.cmp .ne (.var 4) (.idx (.var 2) (.con (.int 1)))) (.nil)) (.var 4)) (.nil))))) (.nil)))))))⟩
/-- _law_pen_here _law_count _law_stir _law_digit -/
def fd__law_draw : FD := ⟨2, false, 4, .cons (.ifs (.cmp .gt (.idx (.var 0) (.con (.int 0))) (.con (.int 0))) (.cons (.set 3 (.bin .mod (.idx (.var 0) (.con (.int 0))) (.var 1))) (.cons (.sidx (.var 0) (.con (.int 0)) (.bin .fdiv (.idx (.var 0) (.con (.int 0))) (.var 1))) (.cons (.ret (.var 3)) (.nil)))) (.nil)) (.cons (.sidx (.var 0) (.con (.int 2)) (.bin .add (.idx (.var 0) (.con (.int 2))) (.con (.int 1)))) (.cons (.set 2 (.bin .mod (.bin .mul (.bin .add (.idx (.var 0) (.con (.int 1))) (.bin .mul (.con (.int 17)) (.idx (.var 0) (.con (.int 2))))) (.bin .add (.con (.int 69621)) (.bin .mul (.con (.int 2)) (.idx (.var 0) (.con (.int 2)))))) (.con (.int 2147483647)))) (.cons (.set 2 (.bin .mod (.bin .add (.bin .add (.bin .mul (.var 2) (.var 2)) (.bin .mul (.con (.int 40503)) (.idx (.var 0) (.con (.int 2))))) (.con (.int 5))) (.con (.int 2147483629)))) (.cons (.ret (.bin .mod (.bin .fdiv (.bin .mod (.bin .mul (.var 2) (.con (.int 48271))) (.con (.int 2147483647))) (.con (.int 32))) (.var 1))) (.nil)))))⟩
/-- _law_size _law_family_here -/
def fd__law_due : FD := ⟨2, false, 2, .cons (.ret (.lst (.cons (.var 0) (.cons (.blt .tuple (.cons (.var 1) (.nil))) (.cons (.blt .tuple (.cons (.call 40 (.cons (.var 1) (.nil))) (.nil))) (.nil)))))) (.nil)⟩
/-- _law_family_here _law_found _law_one _law_larger _law_other -/
def fd__law_edges : FD := ⟨1, false, 5, .cons (.setO 1 (.lst (.nil))) (.cons (.for (.one 2) (.seq (.sl (.var 0) .none (.some (.neg (.con (.int 1)))))) (.cons (.set 3 (.lc (.seq (.var 0)) (.one 4) [4] (.cons (.and (.cmp .ne (.var 4) (.var 2)) (.cmp .eq (.call 21 (.cons (.var 2) (.cons (.var 4) (.nil)))) (.var 2))) (.nil)) (.var 4))) (.cons (.ifs (.cmp .ne (.call 39 (.cons (.var 3) (.cons (.var 2) (.nil)))) (.var 2)) (.cons (.app 1 (.var 2)) (.nil)) (.nil)) (.nil)))) (.cons (.retO 1) (.nil)))⟩
/-- _law_size _law_found _law_state _law_length _law_one -/
def fd__law_every_set : FD := ⟨1, false, 5, .cons (.set 1 (.lst (.cons (.tup (.nil)) (.nil)))) (.cons (.for (.one 2) (.rng (.var 0)) (.cons (.set 1 (.bin .add (.var 1) (.lc (.seq (.var 1)) (.one 4) [4] (.nil) (.bin .add (.var 4) (.tup (.cons (.var 2) (.nil))))))) (.nil))) (.cons (.ret (.lc (.seq (.blt .sorted (.cons (.lc (.seq (.var 1)) (.one 4) [4] (.nil) (.tup (.cons (.blt .len (.cons (.var 4) (.nil))) (.cons (.var 4) (.nil))))) (.nil)))) (.many [3, 4]) [3, 4] (.nil) (.var 4))) (.nil)))⟩
/-- _law_pen_here _law_size _law_way _law_some _law_start _law_labels _law_state _law_label _law_turn _law_end -/
def fd__law_family : FD := ⟨2, false, 10, .cons (.set 2 (.call 18 (.cons (.var 0) (.cons (.con (.int 6)) (.nil))))) (.cons (.ifs (.cmp .eq (.var 2) (.con (.int 0))) (.cons (.set 3 (.lst (.cons (.tup (.nil)) (.nil)))) (.cons (.for (.one 4) (.rng (.var 1)) (.cons (.set 3 (.bin .add (.var 3) (.lc (.rng2 (.var 4) (.var 1)) (.one 9) [9] (.nil) (.col true (.rng2 (.var 4) (.bin .add (.var 9) (.con (.int 1)))))))) (.nil))) (.nil))) (.cons (.ifs (.cmp .eq (.var 2) (.con (.int 1))) (.cons (.set 5 (.lc (.rng (.var 1)) (.one 6) [6] (.nil) (.call 18 (.cons (.var 0) (.cons (.con (.int 3)) (.nil)))))) (.cons (.set 3 (.lc (.seq (.var 5)) (.one 7) [7] (.nil) (.blt .tuple (.cons (.lc (.rng (.var 1)) (.one 6) [6] (.cons (.cmp .ne (.idx (.var 5) (.var 6)) (.var 7)) (.nil)) (.var 6)) (.nil))))) (.nil))) (.cons (.set 3 (.lc (.rng (.call 18 (.cons (.var 0) (.cons (.con (.int 7)) (.nil))))) (.one 8) [8] (.nil) (.call 19 (.cons (.var 0) (.cons (.var 1) (.nil)))))) (.nil))) (.nil))) (.cons (.ret (.call 23 (.cons (.var 1) (.cons (.var 3) (.nil))))) (.nil)))⟩
/-- _law_size _law_sets_here _law_some _law_at _law_one _law_other -/
def fd__law_fault : FD := ⟨2, false, 6, .cons (.ifs (.or (.not (.isi (.var 1) (.tuple))) (.cmp .ne (.lc (.seq (.var 1)) (.one 4) [4] (.cons (.not (.call 181 (.cons (.var 0) (.cons (.var 4) (.nil))))) (.nil)) (.con (.int 1))) (.lst (.nil)))) (.cons (.ret (.con (.str "! NoSet"))) (.nil)) (.nil)) (.cons (.set 2 (.call 22 (.cons (.var 1) (.nil)))) (.cons (.ifs (.or (.cmp .ne (.blt .len (.cons (.var 2) (.nil))) (.blt .len (.cons (.var 1) (.nil)))) (.cmp .notin (.call 20 (.cons (.var 0) (.nil))) (.var 2))) (.cons (.ret (.con (.str "! NoSet"))) (.nil)) (.nil)) (.cons (.for (.many [3, 4]) (.enm (.var 2)) (.cons (.for (.one 5) (.seq (.sl (.var 2) (.some (.bin .add (.var 3) (.con (.int 1)))) .none)) (.cons (.ifs (.cmp .notin (.call 21 (.cons (.var 4) (.cons (.var 5) (.nil)))) (.var 2)) (.cons (.ret (.bin .add (.con (.str "! NotClosed ")) (.blt .repr (.cons (.tup (.cons (.var 4) (.cons (.var 5) (.nil)))) (.nil))))) (.nil)) (.nil)) (.nil))) (.nil))) (.cons (.ret (.con (.str ""))) (.nil)))))⟩
/-- _law_size_here _law_family_here _law_all_rows _law_found _law_at _law_rows_here _law_one -/
def fd__law_finer : FD := ⟨3, false, 7, .cons (.par [(3, true), (4, false)] (.cons (.blt .list (.cons (.var 1) (.nil))) (.cons (.con (.int 0)) (.nil)))) (.cons (.while (.cmp .lt (.var 4) (.blt .len (.cons (.var 3) (.nil)))) (.cons (.for (.one 5) (.seq (.var 2)) (.cons (.set 6 (.call 74 (.cons (.var 5) (.cons (.idx (.var 3) (.var 4)) (.nil))))) (.cons (.ifs (.cmp .notin (.var 6) (.var 3)) (.cons (.app 3 (.var 6)) (.nil)) (.nil)) (.nil)))) (.cons (.set 4 (.bin .add (.var 4) (.con (.int 1)))) (.nil)))) (.cons (.frz 3) (.cons (.ret (.call 23 (.cons (.var 0) (.cons (.var 3) (.nil))))) (.nil))))⟩
/-- _law_size_here _law_family_here _law_rows_here _law_one _law_lost -/
def fd__law_first : FD := ⟨3, false, 5, .cons (.for (.one 3) (.seq (.call 25 (.cons (.var 0) (.nil)))) (.cons (.set 4 (.call 100 (.cons (.var 1) (.cons (.var 2) (.cons (.var 3) (.nil)))))) (.cons (.ifs (.cmp .ne (.var 4) (.tup (.nil))) (.cons (.ret (.tup (.cons (.con (.str "lost")) (.cons (.var 3) (.cons (.idx (.var 4) (.con (.int 0))) (.nil)))))) (.nil)) (.nil)) (.nil)))) (.cons (.ret (.con .non)) (.nil))⟩
/-- _law_tree_here _law_one _law_kind _law_inner _law_found _law_part -/
def fd__law_image : FD := ⟨2, false, 6, .cons (.unp [2, 3] (.var 0)) (.cons (.ifs (.cmp .eq (.var 2) (.con (.str "step"))) (.cons (.ret (.call 73 (.cons (.var 3) (.cons (.var 1) (.nil))))) (.nil)) (.nil)) (.cons (.ifs (.cmp .eq (.var 2) (.con (.str "guard"))) (.cons (.ret (.call 21 (.cons (.var 1) (.cons (.var 3) (.nil))))) (.nil)) (.nil)) (.cons (.ifs (.cmp .eq (.var 2) (.con (.str "sequence"))) (.cons (.for (.one 5) (.seq (.var 3)) (.cons (.set 1 (.call 128 (.cons (.var 5) (.cons (.var 1) (.nil))))) (.nil))) (.cons (.ret (.var 1)) (.nil))) (.nil)) (.cons (.ifs (.cmp .eq (.var 2) (.con (.str "choice"))) (.cons (.set 4 (.tup (.nil))) (.cons (.for (.one 5) (.seq (.var 3)) (.cons (.set 4 (.call 78 (.cons (.var 4) (.cons (.call 128 (.cons (.var 5) (.cons (.var 1) (.nil)))) (.nil))))) (.nil))) (.cons (.ret (.var 4)) (.nil)))) (.nil)) (.cons (.set 4 (.call 78 (.cons (.var 1) (.cons (.call 128 (.cons (.idx (.var 3) (.con (.int 0))) (.cons (.var 1) (.nil)))) (.nil))))) (.cons (.while (.cmp .ne (.var 4) (.var 1)) (.cons (.par [(1, false), (4, false)] (.cons (.var 4) (.cons (.call 78 (.cons (.var 4) (.cons (.call 128 (.cons (.idx (.var 3) (.con (.int 0))) (.cons (.var 4) (.nil)))) (.nil)))) (.nil)))) (.nil))) (.cons (.ret (.var 4)) (.nil))))))))⟩
/-- _law_scale _law_program _law_found -/
def fd__law_is_exact : FD := ⟨2, false, 3, .cons (.set 2 (.call 149 (.cons (.var 0) (.cons (.var 1) (.nil))))) (.cons (.ret (.and (.isi (.var 2) (.tuple)) (.call 24 (.cons (.sl (.var 2) .none (.some (.con (.int 1)))) (.cons (.tup (.cons (.con (.str "exact")) (.nil))) (.nil)))))) (.nil))⟩
/-- _law_one _law_other _law_state -/
def fd__law_is_in : FD := ⟨2, false, 3, .cons (.ret (.cmp .eq (.lc (.seq (.var 0)) (.one 2) [2] (.cons (.cmp .notin (.var 2) (.var 1)) (.nil)) (.var 2)) (.lst (.nil)))) (.nil)⟩
/-- _law_size _law_thing _law_state -/
def fd__law_is_set : FD := ⟨2, false, 3, .cons (.ifs (.not (.isi (.var 1) (.tuple))) (.cons (.ret (.con (.bl false))) (.nil)) (.nil)) (.cons (.ifs (.cmp .ne (.lc (.seq (.var 1)) (.one 2) [2] (.cons (.or (.not (.isi (.var 2) (.int))) (.isi (.var 2) (.bool))) (.nil)) (.con (.int 1))) (.lst (.nil))) (.cons (.ret (.con (.bl false))) (.nil)) (.nil)) (.cons (.ret (.cmp .eq (.blt .list (.cons (.var 1) (.nil))) (.lc (.rng (.var 0)) (.one 2) [2] (.cons (.cmp .isin (.var 2) (.var 1)) (.nil)) (.var 2)))) (.nil)))⟩
/-- _law_one _law_other -/
def fd__law_joint : FD := ⟨2, false, 2, .cons (.raise 0 .nil) (.nil)⟩
/-- _law_family_here _law_pairs _law_pair_here -/
def fd__law_keeps : FD := ⟨2, false, 3, .cons (.ret (.cmp .eq (.lc (.seq (.var 1)) (.one 2) [2] (.cons (.cmp .notin (.idx (.var 2) (.con (.int 1))) (.var 0)) (.nil)) (.con (.int 1))) (.lst (.nil)))) (.nil)⟩
/-- _law_error _law_marks _law_names -/
def fd__law_kind : FD := ⟨1, false, 3, .cons (.set 1 (.lst (.cons (.isi (.var 0) (.cls 0)) (.cons (.isi (.var 0) (.cls 1)) (.cons (.isi (.var 0) (.cls 8)) (.nil)))))) (.cons (.set 1 (.bin .add (.var 1) (.lst (.cons (.isi (.var 0) (.cls 18)) (.cons (.isi (.var 0) (.cls 17)) (.cons (.isi (.var 0) (.cls 6)) (.nil))))))) (.cons (.set 1 (.bin .add (.var 1) (.lst (.cons (.isi (.var 0) (.cls 11)) (.cons (.isi (.var 0) (.cls 7)) (.cons (.isi (.var 0) (.cls 15)) (.nil))))))) (.cons (.set 1 (.bin .add (.var 1) (.lst (.cons (.isi (.var 0) (.cls 2)) (.cons (.isi (.var 0) (.cls 5)) (.cons (.isi (.var 0) (.cls 16)) (.nil))))))) (.cons (.set 2 (.lst (.cons (.con (.str "NoMany")) (.cons (.con (.str "NoSet")) (.cons (.con (.str "NoLabels")) (.cons (.con (.str "NoEdge")) (.cons (.con (.str "NoDeed")) (.cons (.con (.str "NoScale")) (.nil))))))))) (.cons (.set 2 (.bin .add (.var 2) (.lst (.cons (.con (.str "NoStep")) (.cons (.con (.str "OtherStates")) (.cons (.con (.str "NotBelow")) (.cons (.con (.str "NoText")) (.cons (.con (.str "NotClosed")) (.cons (.con (.str "TooMany")) (.nil)))))))))) (.cons (.raise 0 .nil) (.cons (.ret (.idx (.var 2) (.smeth .index (.var 1) (.cons (.con (.bl true)) (.nil))))) (.nil))))))))⟩
/-- _law_pen_here _law_size _law_inner _law_part -/
def fd__law_long : FD := ⟨2, false, 4, .cons (.setO 2 (.lst (.nil))) (.cons (.for (.one 3) (.rng (.bin .add (.con (.int 4)) (.call 18 (.cons (.var 0) (.cons (.con (.int 3)) (.nil)))))) (.cons (.app 2 (.ite (.cmp .gt (.call 18 (.cons (.var 0) (.cons (.con (.int 3)) (.nil)))) (.con (.int 0))) (.tup (.cons (.con (.str "step")) (.cons (.call 72 (.cons (.var 0) (.cons (.var 1) (.nil)))) (.nil)))) (.tup (.cons (.con (.str "guard")) (.cons (.call 19 (.cons (.var 0) (.cons (.var 1) (.nil)))) (.nil)))))) (.nil))) (.cons (.ifs (.cmp .eq (.call 18 (.cons (.var 0) (.cons (.con (.int 2)) (.nil)))) (.con (.int 0))) (.cons (.setO 2 (.bin .add (.lc (.seq (.sl (.var 2) (.some (.con (.int 1))) .none)) (.one 3) [3] (.nil) (.tup (.cons (.con (.str "guard")) (.cons (.call 20 (.cons (.var 1) (.nil))) (.nil))))) (.sl (.var 2) (.some (.neg (.con (.int 1)))) .none))) (.nil)) (.nil)) (.cons (.ret (.tup (.cons (.idx (.lst (.cons (.con (.str "sequence")) (.cons (.con (.str "choice")) (.nil)))) (.call 18 (.cons (.var 0) (.cons (.con (.int 2)) (.nil))))) (.cons (.blt .tuple (.cons (.var 2) (.nil))) (.nil))))) (.nil))))⟩
/-- _law_family_here _law_rows_here _law_one _law_there _law_told _law_state -/
def fd__law_loss : FD := ⟨3, false, 6, .cons (.set 3 (.call 39 (.cons (.var 0) (.cons (.call 73 (.cons (.var 1) (.cons (.var 2) (.nil)))) (.nil))))) (.cons (.set 4 (.call 39 (.cons (.var 0) (.cons (.call 73 (.cons (.var 1) (.cons (.call 39 (.cons (.var 0) (.cons (.var 2) (.nil)))) (.nil)))) (.nil))))) (.cons (.ret (.blt .tuple (.cons (.lc (.seq (.var 4)) (.one 5) [5] (.cons (.cmp .notin (.var 5) (.var 3)) (.nil)) (.var 5)) (.nil)))) (.nil)))⟩
/-- _law_size _law_tree_here _law_kind _law_inner _law_some _law_part -/
def fd__law_made : FD := ⟨2, false, 6, .cons (.unp [2, 3] (.var 1)) (.cons (.ifs (.cmp .eq (.var 2) (.con (.str "step"))) (.cons (.ret (.cm 10 11 (.cons (.call 60 (.cons (.var 3) (.nil))) (.nil)))) (.nil)) (.nil)) (.cons (.ifs (.cmp .eq (.var 2) (.con (.str "guard"))) (.cons (.ret (.make 9 (.cons (.var 0) (.cons (.var 3) (.nil))))) (.nil)) (.nil)) (.cons (.set 4 (.lc (.seq (.var 3)) (.one 5) [5] (.nil) (.call 83 (.cons (.var 0) (.cons (.var 5) (.nil)))))) (.cons (.ifs (.cmp .eq (.var 2) (.con (.str "loop"))) (.cons (.ret (.make 12 (.cons (.idx (.var 4) (.con (.int 0))) (.nil)))) (.nil)) (.nil)) (.cons (.ret (.ite (.cmp .eq (.var 2) (.con (.str "sequence"))) (.call 81 (.cons (.var 4) (.nil))) (.call 82 (.cons (.var 4) (.nil))))) (.nil))))))⟩
/--  -/
def fd__law_no_manys : FD := ⟨0, false, 0, .cons (.ret (.lst (.cons (.con .non) (.cons (.con (.bl true)) (.cons (.con (.bl false)) (.cons (.con (.int 0)) (.cons (.neg (.con (.int 1))) (.cons (.con (.int 8)) (.cons (.bin .pow (.con (.int 10)) (.con (.int 12))) (.cons (.con (.str "3")) (.cons (.con (.str "")) (.cons (.tup (.cons (.con (.int 3)) (.nil))) (.cons (.lst (.cons (.con (.int 3)) (.nil))) (.cons (.dnew) (.cons (.tup (.nil)) (.nil)))))))))))))))) (.nil)⟩
/-- _law_size _law_found -/
def fd__law_no_sets : FD := ⟨1, false, 2, .cons (.set 1 (.lst (.cons (.con .non) (.cons (.con (.bl true)) (.cons (.con (.int 0)) (.cons (.con (.str "0")) (.cons (.lst (.nil)) (.cons (.lst (.cons (.con (.int 0)) (.nil))) (.cons (.dnew) (.cons (.tup (.cons (.var 0) (.nil))) (.cons (.tup (.cons (.neg (.con (.int 1))) (.nil))) (.cons (.tup (.cons (.con (.int 0)) (.cons (.con (.int 0)) (.nil)))) (.cons (.tup (.cons (.con (.int 0)) (.cons (.con (.bl true)) (.nil)))) (.cons (.tup (.cons (.con (.bl false)) (.nil))) (.cons (.tup (.cons (.con (.bl true)) (.nil))) (.cons (.tup (.cons (.con (.str "0")) (.nil))) (.cons (.tup (.cons (.con .non) (.nil))) (.nil)))))))))))))))))) (.cons (.set 1 (.bin .add (.var 1) (.lst (.cons (.tup (.cons (.tup (.cons (.con (.int 0)) (.nil))) (.nil))) (.cons (.tup (.cons (.con (.int 0)) (.cons (.var 0) (.nil)))) (.cons (.tup (.cons (.bin .pow (.con (.int 10)) (.con (.int 12))) (.nil))) (.cons (.tup (.cons (.lst (.cons (.con (.int 0)) (.nil))) (.nil))) (.cons (.con (.str "")) (.cons (.tup (.cons (.con (.int 0)) (.cons (.neg (.con (.int 1))) (.nil)))) (.nil)))))))))) (.cons (.ret (.bin .add (.var 1) (.ite (.cmp .gt (.var 0) (.con (.int 1))) (.lst (.cons (.tup (.cons (.con (.int 1)) (.cons (.con (.int 0)) (.nil)))) (.cons (.lst (.cons (.con (.int 0)) (.cons (.con (.int 1)) (.nil)))) (.cons (.tup (.cons (.con (.int 0)) (.cons (.con (.int 1)) (.cons (.con (.int 1)) (.nil))))) (.cons (.tup (.cons (.con (.int 1)) (.cons (.con (.bl false)) (.nil)))) (.nil)))))) (.lst (.nil))))) (.nil)))⟩
/-- _law_some _law_kept _law_one _law_length -/
def fd__law_ordered : FD := ⟨1, false, 4, .cons (.setO 1 (.dnew)) (.cons (.for (.one 2) (.seq (.var 0)) (.cons (.oidx 1 (.tup (.cons (.blt .len (.cons (.var 2) (.nil))) (.cons (.var 2) (.nil)))) (.con (.bl true))) (.nil))) (.cons (.ret (.lc (.seq (.blt .sorted (.cons (.var 1) (.nil)))) (.many [3, 2]) [3, 2] (.nil) (.var 2))) (.nil)))⟩
/-- _law_pen_here _law_size_here _law_family_here _law_program_here _law_rows_here -/
def fd__law_pair : FD := ⟨1, false, 5, .cons (.set 1 (.call 92 (.cons (.var 0) (.nil)))) (.cons (.set 2 (.call 37 (.cons (.var 0) (.cons (.var 1) (.nil))))) (.cons (.unp [3, 4] (.call 95 (.cons (.var 0) (.cons (.var 1) (.nil))))) (.cons (.ifs (.cmp .eq (.call 18 (.cons (.var 0) (.cons (.con (.int 3)) (.nil)))) (.con (.int 0))) (.cons (.set 2 (.call 96 (.cons (.var 1) (.cons (.var 2) (.cons (.lst (.cons (.var 4) (.nil))) (.nil)))))) (.nil)) (.nil)) (.cons (.ret (.tup (.cons (.var 1) (.cons (.var 2) (.cons (.var 3) (.cons (.var 4) (.nil))))))) (.nil)))))⟩
/-- _law_cell -/
def fd__law_pen : FD := ⟨1, false, 1, .cons (.ret (.alloc (.lst (.cons (.blt .max (.cons (.con (.int 0)) (.cons (.bin .sub (.var 0) (.bin .pow (.con (.int 10)) (.con (.int 18)))) (.nil)))) (.cons (.bin .mod (.var 0) (.con (.int 1000000007))) (.cons (.con (.int 0)) (.nil))))))) (.nil)⟩
/-- _law_pen_here _law_some -/
def fd__law_pick : FD := ⟨2, false, 2, .cons (.ret (.idx (.var 1) (.call 18 (.cons (.var 0) (.cons (.blt .len (.cons (.var 1) (.nil))) (.nil)))))) (.nil)⟩
/-- _law_pen_here _law_size_here _law_way _law_one _law_other _law_first _law_second _law_row _law_state -/
def fd__law_program : FD := ⟨2, false, 9, .cons (.par [(2, false), (3, false), (4, false)] (.cons (.call 18 (.cons (.var 0) (.cons (.con (.int 6)) (.nil)))) (.cons (.call 72 (.cons (.var 0) (.cons (.var 1) (.nil)))) (.cons (.call 72 (.cons (.var 0) (.cons (.var 1) (.nil)))) (.nil))))) (.cons (.par [(5, false), (6, false)] (.cons (.call 75 (.cons (.var 3) (.nil))) (.cons (.call 75 (.cons (.var 4) (.nil))) (.nil)))) (.cons (.ifs (.cmp .eq (.var 2) (.con (.int 3))) (.cons (.ret (.tup (.cons (.make 13 (.cons (.var 5) (.cons (.var 6) (.nil)))) (.cons (.blt .tuple (.cons (.lc (.seq (.var 3)) (.one 7) [7] (.nil) (.call 73 (.cons (.var 4) (.cons (.var 7) (.nil))))) (.nil))) (.nil))))) (.nil)) (.nil)) (.cons (.ifs (.cmp .eq (.var 2) (.con (.int 4))) (.cons (.ret (.tup (.cons (.make 14 (.cons (.var 5) (.cons (.var 6) (.nil)))) (.cons (.blt .tuple (.cons (.lc (.rng (.var 1)) (.one 8) [8] (.nil) (.call 93 (.cons (.idx (.var 3) (.var 8)) (.cons (.idx (.var 4) (.var 8)) (.nil))))) (.nil))) (.nil))))) (.nil)) (.nil)) (.cons (.ifs (.cmp .eq (.var 2) (.con (.int 5))) (.cons (.ret (.tup (.cons (.make 12 (.cons (.var 5) (.nil))) (.cons (.call 94 (.cons (.var 3) (.nil))) (.nil))))) (.nil)) (.nil)) (.cons (.ret (.tup (.cons (.var 5) (.cons (.var 3) (.nil))))) (.nil))))))⟩
/-- _law_family_here _law_one _law_found _law_other -/
def fd__law_round : FD := ⟨2, false, 4, .cons (.set 2 (.idx (.var 0) (.neg (.con (.int 1))))) (.cons (.for (.one 3) (.seq (.var 0)) (.cons (.ifs (.cmp .eq (.call 21 (.cons (.var 1) (.cons (.var 3) (.nil)))) (.var 1)) (.cons (.set 2 (.call 21 (.cons (.var 2) (.cons (.var 3) (.nil))))) (.nil)) (.nil)) (.nil))) (.cons (.ret (.var 2)) (.nil)))⟩
/-- _law_pen_here _law_size _law_way _law_rows_here _law_state _law_one _law_more -/
def fd__law_rows : FD := ⟨2, false, 7, .cons (.par [(2, false), (3, true)] (.cons (.call 18 (.cons (.var 0) (.cons (.con (.int 4)) (.nil)))) (.cons (.lst (.nil)) (.nil)))) (.cons (.for (.one 4) (.rng (.var 1)) (.cons (.set 5 (.tup (.cons (.call 18 (.cons (.var 0) (.cons (.var 1) (.nil)))) (.nil)))) (.cons (.ifs (.and (.cmp .eq (.var 2) (.con (.int 1))) (.cmp .eq (.call 18 (.cons (.var 0) (.cons (.con (.int 3)) (.nil)))) (.con (.int 0)))) (.cons (.set 5 (.tup (.nil))) (.nil)) (.nil)) (.cons (.ifs (.and (.cmp .eq (.var 2) (.con (.int 2))) (.cmp .eq (.call 18 (.cons (.var 0) (.cons (.con (.int 2)) (.nil)))) (.con (.int 0)))) (.cons (.set 6 (.call 18 (.cons (.var 0) (.cons (.var 1) (.nil))))) (.cons (.set 5 (.ite (.cmp .isin (.var 6) (.var 5)) (.var 5) (.blt .tuple (.cons (.blt .sorted (.cons (.bin .add (.var 5) (.tup (.cons (.var 6) (.nil)))) (.nil))) (.nil))))) (.nil))) (.nil)) (.cons (.app 3 (.ite (.cmp .eq (.var 2) (.con (.int 3))) (.call 19 (.cons (.var 0) (.cons (.var 1) (.nil)))) (.var 5))) (.nil)))))) (.cons (.ret (.blt .tuple (.cons (.var 3) (.nil)))) (.nil)))⟩
/-- _law_family_here _law_tree_here _law_one _law_kind _law_inner _law_found _law_before _law_part -/
def fd__law_run : FD := ⟨3, false, 8, .cons (.unp [3, 4] (.var 1)) (.cons (.ifs (.or (.cmp .eq (.var 3) (.con (.str "step"))) (.cmp .eq (.var 3) (.con (.str "guard")))) (.cons (.ret (.call 39 (.cons (.var 0) (.cons (.call 128 (.cons (.var 1) (.cons (.call 39 (.cons (.var 0) (.cons (.var 2) (.nil)))) (.nil)))) (.nil))))) (.nil)) (.nil)) (.cons (.ifs (.cmp .eq (.var 3) (.con (.str "sequence"))) (.cons (.for (.one 7) (.seq (.var 4)) (.cons (.set 2 (.call 133 (.cons (.var 0) (.cons (.var 7) (.cons (.var 2) (.nil)))))) (.nil))) (.cons (.ret (.var 2)) (.nil))) (.nil)) (.cons (.ifs (.cmp .eq (.var 3) (.con (.str "choice"))) (.cons (.set 5 (.tup (.nil))) (.cons (.for (.one 7) (.seq (.var 4)) (.cons (.set 5 (.call 78 (.cons (.var 5) (.cons (.call 133 (.cons (.var 0) (.cons (.var 7) (.cons (.var 2) (.nil))))) (.nil))))) (.nil))) (.cons (.ret (.call 39 (.cons (.var 0) (.cons (.var 5) (.nil))))) (.nil)))) (.nil)) (.cons (.par [(5, false), (6, false)] (.cons (.call 39 (.cons (.var 0) (.cons (.var 2) (.nil)))) (.cons (.con .non) (.nil)))) (.cons (.while (.cmp .ne (.var 5) (.var 6)) (.cons (.par [(6, false), (5, false)] (.cons (.var 5) (.cons (.call 39 (.cons (.var 0) (.cons (.call 78 (.cons (.var 5) (.cons (.call 133 (.cons (.var 0) (.cons (.idx (.var 4) (.con (.int 0))) (.cons (.var 5) (.nil))))) (.nil)))) (.nil)))) (.nil)))) (.nil))) (.cons (.ret (.var 5)) (.nil)))))))⟩
/-- _law_call _law_error _law_name -/
def fd__law_said : FD := ⟨1, false, 3, .cons (.raise 0 .nil) (.nil)⟩
/-- _law_found _law_due -/
def fd__law_same : FD := ⟨2, false, 2, .cons (.ret (.cmp .eq (.blt .repr (.cons (.var 0) (.nil))) (.blt .repr (.cons (.var 1) (.nil))))) (.nil)⟩
/-- _law_size_here _law_family_here -/
def fd__law_scale : FD := ⟨2, false, 2, .cons (.ret (.cm 3 11 (.cons (.call 91 (.cons (.var 0) (.cons (.var 1) (.nil)))) (.nil)))) (.nil)⟩
/-- _law_size _law_family_here _law_one -/
def fd__law_scale_text : FD := ⟨2, false, 3, .cons (.ret (.bin .add (.bin .add (.bin .add (.con (.str "states ")) (.blt .str (.cons (.var 0) (.nil)))) (.con (.str "\n"))) (.smeth .join (.con (.str "")) (.cons (.lc (.seq (.var 1)) (.one 2) [2] (.nil) (.bin .add (.call 59 (.cons (.var 2) (.nil))) (.con (.str "\n")))) (.nil))))) (.nil)⟩
/-- _law_thing -/
def fd__law_seen : FD := ⟨1, false, 1, .cons (.ret (.lst (.cons (.attr (.var 0) 1) (.cons (.attr (.var 0) 2) (.cons (.attr (.var 0) 13) (.nil)))))) (.nil)⟩
/-- _law_parts -/
def fd__law_sequence : FD := ⟨1, false, 1, .cons (.ifs (.cmp .eq (.blt .len (.cons (.var 0) (.nil))) (.con (.int 1))) (.cons (.ret (.make 13 (.cons (.idx (.var 0) (.con (.int 0))) (.nil)))) (.nil)) (.nil)) (.cons (.ifs (.cmp .eq (.blt .len (.cons (.var 0) (.nil))) (.con (.int 2))) (.cons (.ret (.make 13 (.cons (.idx (.var 0) (.con (.int 0))) (.cons (.idx (.var 0) (.con (.int 1))) (.nil))))) (.nil)) (.nil)) (.cons (.ret (.make 13 (.cons (.idx (.var 0) (.con (.int 0))) (.cons (.idx (.var 0) (.con (.int 1))) (.cons (.idx (.var 0) (.con (.int 2))) (.nil)))))) (.nil)))⟩
/-- _law_pen_here _law_size _law_state -/
def fd__law_set : FD := ⟨2, false, 3, .cons (.ret (.blt .tuple (.cons (.lc (.rng (.var 1)) (.one 2) [2] (.cons (.cmp .eq (.call 18 (.cons (.var 0) (.cons (.con (.int 2)) (.nil)))) (.con (.int 1))) (.nil)) (.var 2)) (.nil)))) (.nil)⟩
/-- _law_one _law_state -/
def fd__law_set_text : FD := ⟨1, false, 2, .cons (.ret (.ite (.cmp .eq (.var 0) (.tup (.nil))) (.con (.str "-")) (.smeth .join (.con (.str " ")) (.cons (.lc (.seq (.var 0)) (.one 1) [1] (.nil) (.blt .str (.cons (.var 1) (.nil)))) (.nil))))) (.nil)⟩
/-- _law_pen_here _law_size_here _law_many _law_some _law_turn _law_program_here _law_rows_here -/
def fd__law_several : FD := ⟨2, false, 7, .cons (.set 2 (.idx (.lst (.cons (.con (.int 0)) (.cons (.con (.int 1)) (.cons (.con (.int 1)) (.cons (.con (.int 2)) (.cons (.con (.int 2)) (.cons (.con (.int 3)) (.cons (.con (.int 3)) (.cons (.con (.int 6)) (.nil)))))))))) (.call 18 (.cons (.var 0) (.cons (.con (.int 8)) (.nil)))))) (.cons (.set 3 (.lc (.rng (.blt .min (.cons (.var 2) (.cons (.con (.int 3)) (.nil))))) (.one 4) [4] (.nil) (.call 95 (.cons (.var 0) (.cons (.var 1) (.nil)))))) (.cons (.ifs (.cmp .eq (.var 2) (.con (.int 6))) (.cons (.set 3 (.bin .add (.bin .mul (.sl (.var 3) .none (.some (.con (.int 1)))) (.con (.int 5))) (.sl (.var 3) (.some (.con (.int 1))) (.some (.con (.int 2)))))) (.nil)) (.nil)) (.cons (.ret (.tup (.cons (.lc (.seq (.var 3)) (.many [5, 6]) [5, 6] (.nil) (.var 5)) (.cons (.lc (.seq (.var 3)) (.many [5, 6]) [5, 6] (.nil) (.var 6)) (.nil))))) (.nil))))⟩
/-- _law_pen_here _law_some _law_left _law_found -/
def fd__law_shuffled : FD := ⟨2, false, 4, .cons (.par [(2, true), (3, true)] (.cons (.blt .list (.cons (.var 1) (.nil))) (.cons (.lst (.nil)) (.nil)))) (.cons (.while (.cmp .ne (.var 2) (.lst (.nil))) (.cons (.frz 2) (.cons (.app 3 (.meth (.var 2) 33 (.cons (.call 18 (.cons (.var 0) (.cons (.blt .len (.cons (.var 2) (.nil))) (.nil)))) (.nil)))) (.nil)))) (.cons (.ret (.blt .tuple (.cons (.var 3) (.nil)))) (.nil)))⟩
/-- _law_pen_here -/
def fd__law_size : FD := ⟨1, false, 1, .cons (.ret (.idx (.lst (.cons (.con (.int 1)) (.cons (.con (.int 2)) (.cons (.con (.int 3)) (.cons (.con (.int 3)) (.cons (.con (.int 4)) (.cons (.con (.int 4)) (.cons (.con (.int 4)) (.cons (.con (.int 5)) (.cons (.con (.int 5)) (.cons (.con (.int 6)) (.cons (.con (.int 7)) (.nil))))))))))))) (.call 18 (.cons (.var 0) (.cons (.con (.int 11)) (.nil)))))) (.nil)⟩
/-- _law_rows_here _law_found _law_state _law_one _law_before -/
def fd__law_star : FD := ⟨1, false, 5, .cons (.setO 1 (.lst (.nil))) (.cons (.for (.one 2) (.rng (.blt .len (.cons (.var 0) (.nil)))) (.cons (.par [(3, false), (4, false)] (.cons (.tup (.cons (.var 2) (.nil))) (.cons (.tup (.nil)) (.nil)))) (.cons (.while (.cmp .ne (.var 3) (.var 4)) (.cons (.par [(4, false), (3, false)] (.cons (.var 3) (.cons (.call 93 (.cons (.var 3) (.cons (.call 73 (.cons (.var 0) (.cons (.var 3) (.nil)))) (.nil)))) (.nil)))) (.nil))) (.cons (.app 1 (.var 3)) (.nil))))) (.cons (.ret (.blt .tuple (.cons (.var 1) (.nil)))) (.nil)))⟩
/-- _law_rows_here -/
def fd__law_step : FD := ⟨1, false, 1, .cons (.ret (.cm 10 11 (.cons (.call 60 (.cons (.var 0) (.nil))) (.nil)))) (.nil)⟩
/-- _law_rows_here _law_state _law_row -/
def fd__law_step_text : FD := ⟨1, false, 3, .cons (.ret (.smeth .join (.con (.str "")) (.cons (.lc (.enm (.var 0)) (.many [1, 2]) [1, 2] (.nil) (.bin .add (.bin .add (.bin .add (.blt .str (.cons (.var 1) (.nil))) (.con (.str ": "))) (.call 59 (.cons (.var 2) (.nil)))) (.con (.str "\n")))) (.nil)))) (.nil)⟩
/-- _law_family_here _law_rows_here _law_one -/
def fd__law_table : FD := ⟨2, false, 3, .cons (.ret (.blt .tuple (.cons (.lc (.seq (.call 40 (.cons (.var 0) (.nil)))) (.one 2) [2] (.nil) (.tup (.cons (.var 2) (.cons (.call 74 (.cons (.var 1) (.cons (.var 2) (.nil)))) (.nil))))) (.nil)))) (.nil)⟩
/-- _law_pen_here _law_size _law_depth _law_way _law_inner _law_turn -/
def fd__law_tree : FD := ⟨3, false, 6, .cons (.set 3 (.ite (.cmp .gt (.var 2) (.con (.int 0))) (.call 18 (.cons (.var 0) (.cons (.con (.int 7)) (.nil)))) (.call 18 (.cons (.var 0) (.cons (.con (.int 2)) (.nil)))))) (.cons (.ifs (.cmp .eq (.var 3) (.con (.int 0))) (.cons (.ret (.tup (.cons (.con (.str "step")) (.cons (.call 72 (.cons (.var 0) (.cons (.var 1) (.nil)))) (.nil))))) (.nil)) (.nil)) (.cons (.ifs (.cmp .eq (.var 3) (.con (.int 1))) (.cons (.ret (.tup (.cons (.con (.str "guard")) (.cons (.call 19 (.cons (.var 0) (.cons (.var 1) (.nil)))) (.nil))))) (.nil)) (.nil)) (.cons (.ifs (.cmp .eq (.var 3) (.con (.int 2))) (.cons (.ret (.tup (.cons (.con (.str "loop")) (.cons (.tup (.cons (.call 80 (.cons (.var 0) (.cons (.var 1) (.cons (.bin .sub (.var 2) (.con (.int 1))) (.nil))))) (.nil))) (.nil))))) (.nil)) (.nil)) (.cons (.set 4 (.blt .tuple (.cons (.lc (.rng (.bin .add (.con (.int 1)) (.call 18 (.cons (.var 0) (.cons (.con (.int 3)) (.nil)))))) (.one 5) [5] (.nil) (.call 80 (.cons (.var 0) (.cons (.var 1) (.cons (.bin .sub (.var 2) (.con (.int 1))) (.nil)))))) (.nil)))) (.cons (.ret (.tup (.cons (.ite (.cmp .lt (.var 3) (.con (.int 5))) (.con (.str "sequence")) (.con (.str "choice"))) (.cons (.var 4) (.nil))))) (.nil))))))⟩
/-- _law_one _law_other _law_state -/
def fd__law_union : FD := ⟨2, false, 3, .cons (.ret (.blt .tuple (.cons (.blt .sorted (.cons (.bin .add (.var 0) (.blt .tuple (.cons (.lc (.seq (.var 1)) (.one 2) [2] (.cons (.cmp .notin (.var 2) (.var 0)) (.nil)) (.var 2)) (.nil)))) (.nil))) (.nil)))) (.nil)⟩
/-- _law_size -/
def fd__law_whole : FD := ⟨1, false, 1, .cons (.ret (.col true (.rng (.var 0)))) (.nil)⟩
/-- _law_some _law_all_sets _law_one -/
def fd__law_within : FD := ⟨2, false, 3, .cons (.ret (.cmp .eq (.lc (.seq (.var 0)) (.one 2) [2] (.cons (.cmp .notin (.var 2) (.var 1)) (.nil)) (.con (.int 1))) (.lst (.nil)))) (.nil)⟩
/-- states state -/
def fd_bits_of : FD := ⟨1, false, 2, .cons (.ret (.blt .sum (.cons (.lc (.seq (.var 0)) (.one 1) [1] (.nil) (.bin .shl (.con (.int 1)) (.var 1))) (.nil)))) (.nil)⟩
/-- some found fresh one other -/
def fd_closed : FD := ⟨1, false, 5, .cons (.par [(1, true), (2, true)] (.cons (.dnew) (.cons (.blt .list (.cons (.var 0) (.nil))) (.nil)))) (.cons (.while (.cmp .ne (.var 2) (.lst (.nil))) (.cons (.popS 3 2) (.cons (.ifs (.cmp .notin (.var 3) (.var 1)) (.cons (.ext 2 (.lcK 1 (.one 4) [4] (.nil) (.bin .band (.var 3) (.var 4)))) (.cons (.oidx 1 (.var 3) (.con (.bl true))) (.nil))) (.nil)) (.nil)))) (.cons (.ret (.blt .list (.cons (.var 1) (.nil)))) (.nil)))⟩
/-- scale steps found before bits step -/
def fd_coarsened : FD := ⟨1, true, 6, .cons (.ex (.call 86 (.cons (.var 0) (.cons (.var 1) (.nil))))) (.cons (.par [(2, false), (3, false)] (.cons (.attr (.var 0) 7) (.cons (.con .non) (.nil)))) (.cons (.while (.cmp .ne (.var 2) (.var 3)) (.cons (.set 3 (.var 2)) (.cons (.set 2 (.blt .tuple (.cons (.lc (.seq (.var 3)) (.one 4) [4] (.cons (.blt .all (.cons (.lc (.seq (.var 1)) (.one 5) [5] (.nil) (.cmp .isin (.meth (.var 5) 29 (.cons (.var 4) (.nil))) (.var 3))) (.nil))) (.nil)) (.var 4)) (.nil)))) (.nil)))) (.cons (.ret (.call 15 (.cons (.attr (.var 0) 1) (.cons (.var 2) (.nil))))) (.nil))))⟩
/-- scale step bits lost -/
def fd_exact : FD := ⟨2, false, 4, .cons (.ex (.call 86 (.cons (.var 0) (.cons (.tup (.cons (.var 1) (.nil))) (.nil))))) (.cons (.ifs (.call 89 (.cons (.var 0) (.cons (.var 1) (.nil)))) (.cons (.ret (.tup (.cons (.con (.str "exact")) (.cons (.call 88 (.cons (.var 0) (.cons (.var 1) (.nil)))) (.nil))))) (.nil)) (.nil)) (.cons (.for (.one 2) (.seq (.call 8 (.cons (.col false (.rng (.bin .add (.call 6 (.cons (.attr (.var 0) 1) (.nil))) (.con (.int 1))))) (.nil)))) (.cons (.set 3 (.call 87 (.cons (.var 0) (.cons (.var 1) (.cons (.var 2) (.nil)))))) (.cons (.ifs (.cmp .ne (.var 3) (.con (.int 0))) (.cons (.ret (.tup (.cons (.con (.str "lost")) (.cons (.call 5 (.cons (.var 2) (.nil))) (.cons (.idx (.call 5 (.cons (.var 3) (.nil))) (.con (.int 0))) (.nil)))))) (.nil)) (.nil)) (.nil)))) (.nil)))⟩
/-- many -/
def fd_full : FD := ⟨1, false, 1, .cons (.ret (.bin .sub (.bin .shl (.con (.int 1)) (.var 0)) (.con (.int 1)))) (.nil)⟩
/-- some kept bits -/
def fd_in_order : FD := ⟨1, false, 3, .cons (.setO 1 (.dnew)) (.cons (.for (.one 2) (.seq (.var 0)) (.cons (.oidx 1 (.var 2) (.con (.bl true))) (.nil))) (.cons (.ret (.blt .tuple (.cons (.sortK 7 (.var 1)) (.nil)))) (.nil)))⟩
/-- scale step bits -/
def fd_is_exact : FD := ⟨2, false, 3, .cons (.ret (.blt .all (.cons (.lc (.seq (.meth (.var 0) 15 (.nil))) (.one 2) [2] (.nil) (.cmp .isin (.meth (.var 1) 29 (.cons (.var 2) (.nil))) (.attr (.var 0) 7))) (.nil)))) (.nil)⟩
/-- thing -/
def fd_is_integer : FD := ⟨1, false, 1, .cons (.ret (.and (.isi (.var 0) (.int)) (.not (.isi (.var 0) (.bool))))) (.nil)⟩
/-- many thing state one other -/
def fd_is_set : FD := ⟨2, false, 5, .cons (.ifs (.not (.isi (.var 1) (.tuple))) (.cons (.ret (.con (.bl false))) (.nil)) (.nil)) (.cons (.for (.one 2) (.seq (.var 1)) (.cons (.ifs (.or (.not (.call 0 (.cons (.var 2) (.nil)))) (.not (.cmp2 .le .lt (.con (.int 0)) (.var 2) (.var 0)))) (.cons (.ret (.con (.bl false))) (.nil)) (.nil)) (.nil))) (.cons (.ret (.blt .all (.cons (.lc (.zip (.var 1) (.sl (.var 1) (.some (.con (.int 1))) .none)) (.many [3, 4]) [3, 4] (.nil) (.cmp .lt (.var 3) (.var 4))) (.nil)))) (.nil)))⟩
/-- _law_script _law_k _law_pen_here _law_turn -/
def fd_law : FD := ⟨1, false, 4, .cons (.for (.one 1) (.rng (.blt .max (.cons (.con (.int 1)) (.cons (.blt .min (.cons (.blt .len (.cons (.var 0) (.nil))) (.cons (.con (.int 3)) (.nil)))) (.nil))))) (.cons (.set 2 (.call 17 (.cons (.call 16 (.cons (.var 0) (.cons (.var 1) (.nil)))) (.nil)))) (.cons (.for (.one 3) (.rng (.con (.int 2))) (.cons (.ifs (.not (.call 61 (.cons (.var 2) (.nil)))) (.cons (.ret (.con (.bl false))) (.nil)) (.nil)) (.nil))) (.nil)))) (.cons (.ret (.con (.bl true))) (.nil))⟩
/-- scale step bits shown -/
def fd_lost_bits : FD := ⟨3, false, 4, .cons (.set 3 (.meth (.var 0) 17 (.cons (.meth (.var 1) 28 (.cons (.meth (.var 0) 17 (.cons (.var 2) (.nil))) (.nil))) (.nil)))) (.cons (.ret (.bin .band (.var 3) (.inv (.meth (.var 0) 17 (.cons (.meth (.var 1) 28 (.cons (.var 2) (.nil))) (.nil)))))) (.nil))⟩
/-- many family sets bits -/
def fd_made : FD := ⟨2, false, 4, .cons (.set 2 (.lc (.seq (.var 1)) (.one 3) [3] (.nil) (.call 5 (.cons (.var 3) (.nil))))) (.cons (.ret (.make 3 (.cons (.var 0) (.star (.var 2) (.nil))))) (.nil))⟩
/-- scale steps step -/
def fd_need_all : FD := ⟨2, false, 3, .cons (.ex (.call 85 (.cons (.var 0) (.nil)))) (.cons (.for (.one 2) (.seq (.var 1)) (.cons (.ex (.call 71 (.cons (.var 2) (.nil)))) (.nil))) (.cons (.for (.one 2) (.seq (.var 1)) (.cons (.ex (.call 84 (.cons (.var 0) (.cons (.var 2) (.nil))))) (.nil))) (.nil)))⟩
/-- many thing -/
def fd_need_bits : FD := ⟨2, false, 2, .cons (.ifs (.not (.call 114 (.cons (.var 0) (.cons (.var 1) (.nil))))) (.cons (.raise 1 (.cons (.con (.str "an ascending tuple of states")) (.nil))) (.nil)) (.nil)) (.cons (.ret (.call 4 (.cons (.var 1) (.nil)))) (.nil))⟩
/-- scale step -/
def fd_need_fit : FD := ⟨2, false, 2, .cons (.ifs (.not (.isi (.var 0) (.cls 3))) (.cons (.raise 6 (.cons (.con (.str "not a scale")) (.nil))) (.nil)) (.nil)) (.cons (.ifs (.cmp .ne (.attr (.var 0) 1) (.attr (.var 1) 1)) (.cons (.raise 7 (.cons (.con (.str "other numbers of states")) (.nil))) (.nil)) (.nil)) (.nil))⟩
/-- text -/
def fd_need_lines : FD := ⟨1, false, 1, .cons (.ifs (.or (.not (.isi (.var 0) (.str))) (.not (.smeth .endswith (.var 0) (.cons (.con (.str "\n")) (.nil))))) (.cons (.raise 2 (.cons (.con (.str "each line ends with a line feed")) (.nil))) (.nil)) (.nil)) (.cons (.ret (.smeth .split (.sl (.var 0) .none (.some (.neg (.con (.int 1))))) (.cons (.con (.str "\n")) (.nil)))) (.nil))⟩
/-- thing -/
def fd_need_many : FD := ⟨1, false, 1, .cons (.ifs (.or (.not (.call 0 (.cons (.var 0) (.nil)))) (.not (.cmp2 .le .le (.con (.int 1)) (.var 0) (.glo "MOST" 7)))) (.cons (.raise 0 (.cons (.con (.str "1 to 7 states")) (.nil))) (.nil)) (.nil)) (.nil)⟩
/-- parts part -/
def fd_need_parts : FD := ⟨1, false, 2, .cons (.for (.one 1) (.seq (.var 0)) (.cons (.ex (.call 71 (.cons (.var 1) (.nil)))) (.nil))) (.cons (.ifs (.not (.cmp2 .le .le (.con (.int 1)) (.blt .len (.cons (.var 0) (.nil))) (.glo "MOST_PARTS" 6))) (.cons (.raise 11 (.cons (.con (.str "1 to 6 parts")) (.nil))) (.nil)) (.nil)) (.cons (.for (.one 1) (.seq (.var 0)) (.cons (.ifs (.cmp .ne (.attr (.var 1) 1) (.attr (.idx (.var 0) (.con (.int 0))) 1)) (.cons (.raise 7 (.cons (.con (.str "other numbers of states")) (.nil))) (.nil)) (.nil)) (.nil))) (.nil)))⟩
/-- thing -/
def fd_need_scale : FD := ⟨1, false, 1, .cons (.ifs (.not (.isi (.var 0) (.cls 3))) (.cons (.raise 6 (.cons (.con (.str "not a scale")) (.nil))) (.nil)) (.nil)) (.nil)⟩
/-- thing -/
def fd_need_step : FD := ⟨1, false, 1, .cons (.ifs (.not (.isi (.var 0) (.cls 10))) (.cons (.raise 11 (.cons (.con (.str "not a step")) (.nil))) (.nil)) (.nil)) (.nil)⟩
/-- bits states -/
def fd_place : FD := ⟨1, false, 2, .cons (.set 1 (.call 5 (.cons (.var 0) (.nil)))) (.cons (.ret (.tup (.cons (.blt .len (.cons (.var 1) (.nil))) (.cons (.var 1) (.nil))))) (.nil))⟩
/-- text lines rows state line label -/
def fd_read_rows : FD := ⟨1, false, 6, .cons (.set 1 (.call 13 (.cons (.var 0) (.nil)))) (.cons (.ifs (.cmp .gt (.blt .len (.cons (.var 1) (.nil))) (.glo "MOST" 7)) (.cons (.raise 2 (.cons (.con (.str "1 to 7 states")) (.nil))) (.nil)) (.nil)) (.cons (.setO 2 (.lst (.nil))) (.cons (.for (.many [3, 4]) (.enm (.var 1)) (.cons (.set 5 (.bin .add (.blt .str (.cons (.var 3) (.nil))) (.con (.str ": ")))) (.cons (.ifs (.not (.smeth .startswith (.var 4) (.cons (.var 5) (.nil)))) (.cons (.raise 2 (.cons (.con (.str "the state ahead of its set")) (.nil))) (.nil)) (.nil)) (.cons (.app 2 (.call 11 (.cons (.blt .len (.cons (.var 1) (.nil))) (.cons (.sl (.var 4) (.some (.blt .len (.cons (.var 5) (.nil)))) .none) (.nil))))) (.nil))))) (.cons (.retO 2) (.nil)))))⟩
/-- text lines many sets some word states -/
def fd_read_scale : FD := ⟨1, false, 7, .cons (.set 1 (.call 13 (.cons (.var 0) (.nil)))) (.cons (.ifs (.cmp .notin (.idx (.var 1) (.con (.int 0))) (.lc (.rng2 (.con (.int 1)) (.bin .add (.glo "MOST" 7) (.con (.int 1)))) (.one 2) [2] (.nil) (.bin .add (.con (.str "states ")) (.blt .str (.cons (.var 2) (.nil)))))) (.cons (.raise 2 (.cons (.con (.str "the number of states")) (.nil))) (.nil)) (.nil)) (.cons (.set 2 (.blt .int (.cons (.sl (.idx (.var 1) (.con (.int 0))) (.some (.con (.int 7))) .none) (.nil)))) (.cons (.set 3 (.lc (.seq (.sl (.var 1) (.some (.con (.int 1))) .none)) (.one 5) [5] (.nil) (.call 11 (.cons (.var 2) (.cons (.var 5) (.nil)))))) (.cons (.set 4 (.lc (.seq (.var 3)) (.one 6) [6] (.nil) (.call 4 (.cons (.var 6) (.nil))))) (.cons (.ifs (.or (.cmp .ne (.blt .tuple (.cons (.var 4) (.nil))) (.call 8 (.cons (.call 9 (.cons (.var 4) (.nil))) (.nil)))) (.cmp .notin (.call 6 (.cons (.var 2) (.nil))) (.var 4))) (.cons (.raise 2 (.cons (.con (.str "the allowed sets of a scale, in order")) (.nil))) (.nil)) (.nil)) (.cons (.ret (.tup (.cons (.var 2) (.cons (.var 3) (.nil))))) (.nil)))))))⟩
/-- many word states part -/
def fd_read_set : FD := ⟨2, false, 4, .cons (.set 2 (.tup (.nil))) (.cons (.ifs (.cmp .ne (.var 1) (.con (.str "-"))) (.cons (.for (.one 3) (.seq (.smeth .split (.var 1) (.cons (.con (.str " ")) (.nil)))) (.cons (.ifs (.or (.cmp .ne (.blt .len (.cons (.var 3) (.nil))) (.con (.int 1))) (.cmp .notin (.var 3) (.con (.str "0123456")))) (.cons (.raise 2 (.cons (.con (.str "a state from 0 to 6")) (.nil))) (.nil)) (.nil)) (.cons (.set 2 (.bin .add (.var 2) (.tup (.cons (.blt .int (.cons (.var 3) (.nil))) (.nil))))) (.nil)))) (.cons (.ifs (.or (.cmp .eq (.var 2) (.tup (.nil))) (.not (.call 114 (.cons (.var 0) (.cons (.var 2) (.nil)))))) (.cons (.raise 2 (.cons (.con (.str "ascending states")) (.nil))) (.nil)) (.nil)) (.nil))) (.nil)) (.cons (.ret (.var 2)) (.nil)))⟩
/-- scale steps found fresh bits step before -/
def fd_refined : FD := ⟨1, true, 7, .cons (.ex (.call 86 (.cons (.var 0) (.cons (.var 1) (.nil))))) (.cons (.par [(2, true), (3, true)] (.cons (.blt .list (.cons (.attr (.var 0) 7) (.nil))) (.cons (.blt .list (.cons (.attr (.var 0) 7) (.nil))) (.nil)))) (.cons (.while (.cmp .ne (.var 3) (.lst (.nil))) (.cons (.popS 4 3) (.cons (.for (.one 5) (.seq (.var 1)) (.cons (.set 6 (.meth (.var 5) 29 (.cons (.var 4) (.nil)))) (.cons (.ifs (.cmp .notin (.var 6) (.var 2)) (.cons (.app 2 (.var 6)) (.cons (.app 3 (.var 6)) (.nil))) (.nil)) (.nil)))) (.nil)))) (.cons (.frz 2) (.cons (.ret (.call 15 (.cons (.attr (.var 0) 1) (.cons (.var 2) (.nil))))) (.nil)))))⟩
/-- many allowed states -/
def fd_scale_text : FD := ⟨2, false, 3, .cons (.ret (.bin .add (.bin .add (.bin .add (.con (.str "states ")) (.blt .str (.cons (.var 0) (.nil)))) (.con (.str "\n"))) (.smeth .join (.con (.str "")) (.cons (.lc (.seq (.var 1)) (.one 2) [2] (.nil) (.bin .add (.call 10 (.cons (.var 2) (.nil))) (.con (.str "\n")))) (.nil))))) (.nil)⟩
/-- states state -/
def fd_set_text : FD := ⟨1, false, 2, .cons (.ret (.ite (.cmp .eq (.var 0) (.tup (.nil))) (.con (.str "-")) (.smeth .join (.con (.str " ")) (.cons (.lc (.seq (.var 0)) (.one 1) [1] (.nil) (.blt .str (.cons (.var 1) (.nil)))) (.nil))))) (.nil)⟩
/-- scale step thing -/
def fd_shows : FD := ⟨3, false, 3, .cons (.ex (.call 86 (.cons (.var 0) (.cons (.tup (.cons (.var 1) (.nil))) (.nil))))) (.cons (.ifs (.or (.not (.isi (.var 2) (.tuple))) (.or (.cmp .notin (.blt .len (.cons (.var 2) (.nil))) (.tup (.cons (.con (.int 2)) (.cons (.con (.int 3)) (.nil))))) (.not (.isi (.idx (.var 2) (.con (.int 0))) (.str))))) (.cons (.ret (.con (.bl false))) (.nil)) (.nil)) (.cons (.ifs (.cmp .eq (.idx (.var 2) (.con (.int 0))) (.con (.str "exact"))) (.cons (.ret (.and (.cmp .eq (.blt .len (.cons (.var 2) (.nil))) (.con (.int 2))) (.and (.call 89 (.cons (.var 0) (.cons (.var 1) (.nil)))) (.cmp .eq (.blt .repr (.cons (.idx (.var 2) (.con (.int 1))) (.nil))) (.blt .repr (.cons (.call 88 (.cons (.var 0) (.cons (.var 1) (.nil)))) (.nil))))))) (.nil)) (.nil)) (.cons (.ifs (.or (.cmp .ne (.idx (.var 2) (.con (.int 0))) (.con (.str "lost"))) (.or (.cmp .ne (.blt .len (.cons (.var 2) (.nil))) (.con (.int 3))) (.or (.not (.call 114 (.cons (.attr (.var 0) 1) (.cons (.idx (.var 2) (.con (.int 1))) (.nil))))) (.not (.call 0 (.cons (.idx (.var 2) (.con (.int 2))) (.nil))))))) (.cons (.ret (.con (.bl false))) (.nil)) (.nil)) (.cons (.ret (.cmp .isin (.idx (.var 2) (.con (.int 2))) (.call 5 (.cons (.call 87 (.cons (.var 0) (.cons (.var 1) (.cons (.call 4 (.cons (.idx (.var 2) (.con (.int 1))) (.nil))) (.nil))))) (.nil))))) (.nil)))))⟩
/-- bits state -/
def fd_states_of : FD := ⟨1, false, 2, .cons (.ret (.blt .tuple (.cons (.lc (.rng (.glo "MOST" 7)) (.one 1) [1] (.cons (.bin .band (.bin .shr (.var 0) (.var 1)) (.con (.int 1))) (.nil)) (.var 1)) (.nil)))) (.nil)⟩
/-- rows state row -/
def fd_step_text : FD := ⟨1, false, 3, .cons (.ret (.smeth .join (.con (.str "")) (.cons (.lc (.enm (.var 0)) (.many [1, 2]) [1, 2] (.nil) (.bin .add (.bin .add (.bin .add (.blt .str (.cons (.var 1) (.nil))) (.con (.str ": "))) (.call 10 (.cons (.var 2) (.nil)))) (.con (.str "\n")))) (.nil)))) (.nil)⟩
/-- scale step bits -/
def fd_table_of : FD := ⟨2, false, 3, .cons (.ret (.blt .tuple (.cons (.lc (.seq (.meth (.var 0) 15 (.nil))) (.one 2) [2] (.nil) (.tup (.cons (.call 5 (.cons (.var 2) (.nil))) (.cons (.call 5 (.cons (.meth (.var 1) 29 (.cons (.var 2) (.nil))) (.nil))) (.nil))))) (.nil)))) (.nil)⟩
end Mi
/-! MiP1: running the small interpreter by hand: sets of states as numbers. -/
namespace Mi
open PySem

/-- the table has the def fd at number f -/
class Has (B : Tb) (f : Nat) (fd : outParam FD) : Prop where
  e : B.fn f = some fd
class HasI (B : Tb) (c : Nat) (fd : outParam FD) : Prop where
  e : B.ini c = some fd
theorem fn_lv {B : Tb} {f : Nat} {fd : FD} [i : Has B f fd] (j : Nat) (xs : List D) (h : MH) : (lv B (j + 1)).fn f xs h = runF B.ct (lv B j) fd xs h := by
  show (match B.fn f with | some fd => runF B.ct (lv B j) fd xs h | none => .no) = _
  rw [i.e]
theorem mk_lv {B : Tb} {c : Nat} {fd : FD} [i : HasI B c fd] (j : Nat) (xs : List D) (h : MH) : (lv B (j + 1)).mke c xs h = runI B.ct (lv B j) fd c [] xs h := by
  show (match B.ini c with | some fd => runI B.ct (lv B j) fd c [] xs h | none => .no) = _
  rw [i.e]

/-- the set of states of a number below 128 -/
def sl7 (b : Nat) : List Int := ((List.range 7).filter fun (i : Nat) => b.testBit i).map fun (i : Nat) => (i : Int)
def S (b : Nat) : D := .tup ((sl7 b).map .int)

section
variable {T : CT} {C : Cl} {h : MH}
theorem all128 {α : Type} {f g : Nat → α} (e : (List.range 128).map f = (List.range 128).map g) (b : Nat) (hb : b < 128) : f b = g b := by
  have h1 := congrArg (fun l => l[b]?) e
  simp only [List.getElem?_map, List.getElem?_range hb, Option.map_some] at h1
  exact Option.some.inj h1
theorem bits_of_run (b : Nat) (hb : b < 128) : runF T C fd_bits_of [S b] h = .ok (.int b) h := by
  refine all128 (f := fun b => runF T C fd_bits_of [S b] h) (g := fun b => .ok (.int b) h) ?_ b hb
  kernel_rfl
theorem states_of_run (b : Nat) (hb : b < 128) : runF T C fd_states_of [.int b] h = .ok (S b) h := by
  refine all128 (f := fun b => runF T C fd_states_of [.int b] h) (g := fun b => .ok (S b) h) ?_ b hb
  kernel_rfl
theorem all2 {α : Type} {f g : Nat → α} {n : Nat} (e : (List.range n).map f = (List.range n).map g) (b : Nat) (hb : b < n) : f b = g b := by
  have h1 := congrArg (fun l => l[b]?) e
  simp only [List.getElem?_map, List.getElem?_range hb, Option.map_some] at h1
  exact Option.some.inj h1
/-- the calls of def f are known -/
def ovc (C : Cl) (f : Nat) (g : List D → MH → Out D) : Cl := { C with fn := fun k xs h => if k = f then g xs h else C.fn k xs h }
theorem ovc_eq {f : Nat} {g : List D → MH → Out D} (e : ∀ xs h, C.fn f xs h = g xs h) : ovc C f g = C := by
  unfold ovc
  have : (fun k xs h => if k = f then g xs h else C.fn k xs h) = C.fn := by
    funext k xs h
    by_cases hk : k = f
    · rw [if_pos hk, hk, e]
    · rw [if_neg hk]
  rw [this]
def gInt (C : Cl) (f : Nat) (xs : List D) (h : MH) : Out D := match xs with
  | [.int _] => .ok (.bl true) h
  | _ => C.fn f xs h
theorem gInt_eq {f : Nat} (h0 : ∀ i h, C.fn f [.int i] h = .ok (.bl true) h) (xs : List D) (h : MH) : C.fn f xs h = gInt C f xs h := by
  unfold gInt
  split
  · exact h0 _ _
  · rfl
theorem is_set_run0 (m : Nat) (hm : m < 8) : (List.range 128).map (fun b => runF T (ovc C 0 (gInt C 0)) fd_is_set [.int (m : Int), S b] h) = (List.range 128).map (fun b => .ok (.bl (decide (b < 2 ^ m))) h) := by
  match m, hm with
  | 0, _ => kernel_rfl
  | 1, _ => kernel_rfl
  | 2, _ => kernel_rfl
  | 3, _ => kernel_rfl
  | 4, _ => kernel_rfl
  | 5, _ => kernel_rfl
  | 6, _ => kernel_rfl
  | 7, _ => kernel_rfl
theorem is_set_run (h0 : ∀ i h, C.fn 0 [.int i] h = .ok (.bl true) h) (m b : Nat) (hm : m < 8) (hb : b < 128) : runF T C fd_is_set [.int m, S b] h = .ok (.bl (decide (b < 2 ^ m))) h := by
  have k := all2 (is_set_run0 (T := T) (C := C) (h := h) m hm) b hb
  rw [ovc_eq (gInt_eq h0)] at k
  exact k
end
end Mi
/-! MiP2: the law's pen: each draw gives a number below the count. -/
namespace Mi
open PySem

theorem atI_nat {α : Type} {xs : List α} {k : Nat} (h : k < xs.length) : L2.atI xs (k : Int) = xs[k]? := by
  unfold L2.atI L2.ixN
  rw [if_pos (by omega), if_pos (by omega)]
  show xs[(k : Int).toNat]? = _
  rw [Int.toNat_natCast]
/-- the pen at place n of the heap, drawn of at most m times -/
def PenV (m : Nat) (o : MO) : Prop := ∃ a b c : Nat, o = .lst [.int a, .int b, .int c] ∧ b < 1000000007 ∧ c ≤ m
def Pen (h : MH) (n m : Nat) : Prop := ∃ o, h[n]? = some o ∧ PenV m o
section
variable {T : CT} {C : Cl} {h : MH}
theorem atI0 {x y z : D} : L2.atI [x, y, z] (0 : Int) = some x := rfl
theorem atI1 {x y z : D} : L2.atI [x, y, z] (1 : Int) = some y := rfl
theorem atI2 {x y z : D} : L2.atI [x, y, z] (2 : Int) = some z := rfl
theorem draw_run {n m k : Nat} (p : Pen h n m) (hm : m < 1000000000) (hk : 0 < k) (hk2 : k < 1000000) :
    ∃ (d : Nat) (o : MO), runF T C fd__law_draw [.ref n, .int k] h = .ok (.int d) (h.set n o) ∧ d < k ∧ PenV (m + 1) o := by
  obtain ⟨o, ho, a, b, c, rfl, hb, hc⟩ := p
  have hn : n < h.length := (List.getElem?_eq_some_iff.mp ho).1
  have g : ∀ x : MO, (h.set n x)[n]? = some x := fun x => by
    rw [List.getElem?_set, if_pos rfl, if_pos hn]
  by_cases ha : 0 < a
  · refine ⟨a % k, .lst [.int ((a / k : Nat) : Int), .int b, .int c], ?_, Nat.mod_lt _ hk, _, _, _, rfl, hb, by omega⟩
    have hk' : (0 : Int) < (k : Int) := by omega
    have hk3 : (k : Int) < 1073741824 := by omega
    have ha' : (0 : Int) < (a : Int) := by omega
    simp [runF, bindA, fd__law_draw, evSs, evS, evT, evE, evA, evB, tru, bor, ofO, idxD, ho, atI0, atI1, atI2, cmpD, truD, binD, setAt, ha, hk, hk3, L2.ixN]
  · have ha0 : a = 0 := by omega
    subst ha0
    have hk' : (0 : Int) < (k : Int) := by omega
    have hA : ((b : Int) + 17 * ((c : Int) + 1)).natAbs < 18446744073709551616 := by omega
    have hB : ∀ x : Int, (x % 2147483647).natAbs < 18446744073709551616 := fun x => by omega
    have fin : ∀ (x : Int) (o : MO), PenV (m + 1) o → ∃ (d : Nat) (o' : MO), (Out.ok (D.int (x % (k : Int))) (h.set n o) : Out D) = .ok (.int d) (h.set n o') ∧ d < k ∧ PenV (m + 1) o' := fun x o po => by
      have h1 := Int.emod_nonneg x (show (k : Int) ≠ 0 by omega)
      have h2 := Int.emod_lt_of_pos x hk'
      exact ⟨(x % (k : Int)).toNat, o, by rw [Int.toNat_of_nonneg h1], by omega, po⟩
    have e : ∃ x : Int, runF T C fd__law_draw [.ref n, .int k] h = .ok (.int (x % (k : Int))) (h.set n (.lst [.int 0, .int b, .int (c + 1)])) := by
      simp [runF, bindA, fd__law_draw, evSs, evS, evT, evE, evA, evB, tru, bor, ofO, idxD, ho, atI0, atI1, atI2, cmpD, truD, binD, setAt, hk, L2.ixN, g, hA, hB]
      exact ⟨_, rfl⟩
    obtain ⟨x, e⟩ := e
    rw [e]
    exact fin x _ ⟨0, b, c + 1, by simp, hb, by omega⟩
/-- a new pen -/
theorem pen_run (x : Int) : ∃ o, runF T C fd__law_pen [.int x] h = .ok (.ref h.length) (h ++ [o]) ∧ PenV 0 o := by
  have e : runF T C fd__law_pen [.int x] h = .ok (.ref h.length) (h ++ [.lst [.int (if x - 10 ^ 18 > 0 then x - 10 ^ 18 else 0), .int (x % 1000000007), .int 0]]) := by
    simp [runF, bindA, fd__law_pen, evSs, evS, evT, evE, evA, evB, bor, ofO, binD, bltD, lim]
  refine ⟨_, e, (if x - 10 ^ 18 > 0 then x - 10 ^ 18 else 0).toNat, (x % 1000000007).toNat, 0, ?_, by omega, Nat.le_refl _⟩
  have h1 : 0 ≤ (if x - 10 ^ 18 > 0 then x - 10 ^ 18 else 0) := by
    split <;> omega
  rw [Int.toNat_of_nonneg h1, Int.toNat_of_nonneg (by omega)]
  rfl
theorem cell_at_run (xs : List D) (i : Nat) : ∃ x, runF T C fd__law_cell_at [.lst xs, .int i] h = .ok x h ∧ (x = .int 0 ∨ x ∈ xs) := by
  by_cases hi : i < xs.length
  · refine ⟨xs[i], ?_, .inr (List.getElem_mem hi)⟩
    have e : L2.atI xs (i : Int) = some xs[i] := by
      rw [atI_nat hi, List.getElem?_eq_getElem hi]
    simp [runF, bindA, fd__law_cell_at, evSs, evS, evT, evE, evA, evB, bor, ofO, tru, truD, cmpD, bltD, idxD, hi, e]
  · refine ⟨.int 0, ?_, .inl rfl⟩
    simp [runF, bindA, fd__law_cell_at, evSs, evS, evT, evE, evA, evB, bor, ofO, tru, truD, cmpD, bltD, hi]
end
end Mi
/-! MiP3: repr of plain data; the law's comparison by repr. -/
namespace Mi
open PySem

/-- plain data of small numbers -/
def numN : Nat → D → Bool
  | 0, _ => false
  | n + 1, d => match d with
    | .non | .bl _ => true
    | .int i => decide (i.natAbs < 1000000000000)
    | .str x => PyData.strOk x
    | .tup xs => xs.all (numN n)
    | .lst xs => xs.all (numN n)
    | _ => false
mutual
def wt : D → Nat
  | .str x => x.length
  | .tup xs => wts xs
  | .lst xs => wts xs
  | _ => 0
def wts : List D → Nat
  | [] => 0
  | x :: r => wt x + 1 + wts r
end
theorem numN_ok : ∀ (n : Nat) (d : D), numN n d = true → okN n d = true
  | 0, d, h => nomatch h
  | n + 1, d, h => by
    cases d with
    | non => rfl
    | bl _ => rfl
    | int _ => rfl
    | str x => exact h
    | tup xs =>
      show xs.all (okN n) = true
      exact List.all_eq_true.mpr fun x hx => numN_ok n x (List.all_eq_true.mp h x hx)
    | lst xs =>
      show xs.all (okN n) = true
      exact List.all_eq_true.mpr fun x hx => numN_ok n x (List.all_eq_true.mp h x hx)
    | _ => cases h
theorem showAll_of {xs : List D} (h : ∀ x ∈ xs, x.py.showable = true) : PyData.showableAll (pys xs) = true := by
  induction xs with
  | nil => rfl
  | cons x r ih =>
    show PyData.showableAll (x.py :: pys r) = true
    unfold PyData.showableAll
    rw [h x List.mem_cons_self, ih fun y hy => h y (List.mem_cons_of_mem _ hy)]
    rfl
theorem leavesAll_of {xs : List D} (h : ∀ x ∈ xs, x.py.leavesShort 13 = true) : PyData.leavesShortAll 13 (pys xs) = true := by
  induction xs with
  | nil => rfl
  | cons x r ih =>
    show PyData.leavesShortAll 13 (x.py :: pys r) = true
    unfold PyData.leavesShortAll
    rw [h x List.mem_cons_self, ih fun y hy => h y (List.mem_cons_of_mem _ hy)]
    rfl
theorem log_of {a : Nat} (h : a < 1000000000000) : a.log2 < 1920 := by
  by_cases h0 : a = 0
  · subst h0
    decide
  · have h1 : 2 ^ a.log2 ≤ a := Nat.log2_self_le h0
    have h2 : a < 2 ^ 40 := by
      have : (1000000000000 : Nat) < 2 ^ 40 := by decide
      omega
    have h3 : a.log2 < 40 := (Nat.pow_lt_pow_iff_right (by decide)).mp (Nat.lt_of_le_of_lt h1 h2)
    omega
theorem num_show : ∀ (n : Nat) (d : D), numN n d = true → d.py.showable = true ∧ d.py.leavesShort 13 = true
  | 0, d, h => nomatch h
  | n + 1, d, h => by
    cases d with
    | non => exact ⟨rfl, rfl⟩
    | bl _ => exact ⟨rfl, rfl⟩
    | int i =>
      have h' : i.natAbs < 1000000000000 := of_decide_eq_true h
      refine ⟨?_, ?_⟩
      · show PyData.showable (.int i) = true
        unfold PyData.showable
        exact decide_eq_true (log_of h')
      · show PyData.leavesShort 13 (.int i) = true
        unfold PyData.leavesShort
        exact decide_eq_true (PyData.shown_int_le h')
    | str x =>
      refine ⟨rfl, ?_⟩
      show PyData.leavesShort 13 (.str x) = true
      unfold PyData.leavesShort
      have h' : x.cps.all (· < 0x110000) = true := h
      rw [Array.all_eq_true'] at h'
      refine List.all_eq_true.mpr fun c hc => decide_eq_true ?_
      have := of_decide_eq_true (h' c (by simpa using hc))
      have e : (0x110000 : Nat) < 16 ^ 8 := by decide
      omega
    | tup xs =>
      refine ⟨?_, ?_⟩
      · show PyData.showable (.tuple (pys xs)) = true
        unfold PyData.showable
        exact showAll_of fun x hx => (num_show n x (List.all_eq_true.mp h x hx)).1
      · show PyData.leavesShort 13 (.tuple (pys xs)) = true
        unfold PyData.leavesShort
        exact leavesAll_of fun x hx => (num_show n x (List.all_eq_true.mp h x hx)).2
    | lst xs =>
      refine ⟨?_, ?_⟩
      · show PyData.showable (.list (pys xs)) = true
        unfold PyData.showable
        exact showAll_of fun x hx => (num_show n x (List.all_eq_true.mp h x hx)).1
      · show PyData.leavesShort 13 (.list (pys xs)) = true
        unfold PyData.leavesShort
        exact leavesAll_of fun x hx => (num_show n x (List.all_eq_true.mp h x hx)).2
    | _ => cases h
theorem bulk_all {xs : List D} (h : ∀ x ∈ xs, x.py.bulk = wt x) : PyData.bulkAll (pys xs) = wts xs := by
  induction xs with
  | nil => rfl
  | cons x r ih =>
    show PyData.bulkAll (x.py :: pys r) = wt x + 1 + wts r
    unfold PyData.bulkAll
    rw [h x List.mem_cons_self, ih fun y hy => h y (List.mem_cons_of_mem _ hy)]
theorem num_bulk : ∀ (n : Nat) (d : D), numN n d = true → d.py.bulk = wt d
  | 0, d, h => nomatch h
  | n + 1, d, h => by
    cases d with
    | non => rfl
    | bl _ => rfl
    | int i => rfl
    | str x => rfl
    | tup xs =>
      show PyData.bulk (.tuple (pys xs)) = wts xs
      unfold PyData.bulk
      exact bulk_all fun x hx => num_bulk n x (List.all_eq_true.mp h x hx)
    | lst xs =>
      show PyData.bulk (.list (pys xs)) = wts xs
      unfold PyData.bulk
      exact bulk_all fun x hx => num_bulk n x (List.all_eq_true.mp h x hx)
    | _ => cases h
theorem repr_of {d : D} (h : numN 40 d = true) (hw : wt d ≤ 1000000) : reprD d = some d.py.shown := by
  obtain ⟨h1, h2⟩ := num_show 40 d h
  have h3 := PyData.shown_le_bulk 13 (by decide) d.py h2
  rw [num_bulk 40 d h] at h3
  unfold reprD
  have e : (ok d && d.py.showable && decide (d.py.shown.length ≤ 16000000)) = true := by
    rw [show ok d = true from numN_ok 40 d h, h1]
    exact decide_eq_true (by omega)
  rw [if_pos e]
section
variable {T : CT} {C : Cl} {h : MH}
theorem same_run {d : D} (hd : numN 40 d = true) (hw : wt d ≤ 1000000) : runF T C fd__law_same [d, d] h = .ok (.bl true) h := by
  simp [runF, bindA, fd__law_same, evSs, evS, evE, evB, bor, ofO, bltD, repr_of hd hw, cmpD]
end
end Mi
/-! MiP4: loops by hand; common states; every set of states. -/
namespace Mi
open PySem

theorem loopC_map {f : D → MH → Out (Option D)} {g : D → Option D} {h : MH} : ∀ {xs : List D}, (∀ x ∈ xs, f x h = .ok (g x) h) → loopC f xs h = .ok (xs.filterMap g) h
  | [], _ => rfl
  | x :: r, e => by
    show (f x h).bd _ = _
    rw [e x List.mem_cons_self, bd_ok, loopC_map fun y hy => e y (List.mem_cons_of_mem _ hy)]
    show Out.ok ((g x).toList ++ r.filterMap g) h = _
    rw [List.filterMap_cons]
    cases g x <;> rfl
theorem loopC_mapA {α : Type} {f : D → MH → Out (Option D)} {k g : α → D} {h : MH} : ∀ {l : List α}, (∀ a ∈ l, f (k a) h = .ok (some (g a)) h) → loopC f (l.map k) h = .ok (l.map g) h
  | [], _ => rfl
  | a :: r, e => by
    show (f (k a) h).bd _ = _
    rw [e a List.mem_cons_self, bd_ok, loopC_mapA fun b hb => e b (List.mem_cons_of_mem _ hb)]
    rfl
/-! ### sets of states -/
theorem mem_sl7 {b : Nat} {i : Int} : i ∈ sl7 b ↔ ∃ k : Nat, k < 7 ∧ b.testBit k = true ∧ (k : Int) = i := by
  unfold sl7
  rw [List.mem_map]
  constructor
  · rintro ⟨k, hk, e⟩
    obtain ⟨h1, h2⟩ := List.mem_filter.mp hk
    exact ⟨k, List.mem_range.mp h1, h2, e⟩
  · rintro ⟨k, h1, h2, e⟩
    exact ⟨k, List.mem_filter.mpr ⟨List.mem_range.mpr h1, h2⟩, e⟩
theorem sl7_nat {b : Nat} {i : Int} (h : i ∈ sl7 b) : 0 ≤ i ∧ i < 7 := by
  obtain ⟨k, h1, _, rfl⟩ := mem_sl7.mp h
  omega
theorem sl7_len (b : Nat) : (sl7 b).length ≤ 7 := by
  unfold sl7
  rw [List.length_map]
  exact Nat.le_trans (List.length_filter_le _ _) (by simp)
theorem okN_ints {n : Nat} (l : List Int) : (l.map D.int).all (okN (n + 1)) = true := by
  rw [List.all_map]
  exact List.all_eq_true.mpr fun _ _ => rfl
theorem okN_S {n : Nat} (b : Nat) : okN (n + 2) (S b) = true := okN_ints (sl7 b)
theorem ok_S (b : Nat) : ok (S b) = true := okN_S b
theorem numN_S {n : Nat} (b : Nat) : numN (n + 2) (S b) = true := by
  show ((sl7 b).map D.int).all (numN (n + 1)) = true
  rw [List.all_map]
  refine List.all_eq_true.mpr fun i hi => ?_
  have := sl7_nat hi
  show decide (i.natAbs < 1000000000000) = true
  exact decide_eq_true (by omega)
theorem wts_ints : ∀ l : List Int, wts (l.map D.int) = l.length
  | [] => rfl
  | i :: r => by
    show 0 + 1 + wts (r.map D.int) = r.length + 1
    rw [wts_ints r]
    omega
theorem wt_S (b : Nat) : wt (S b) ≤ 7 := by
  show wts ((sl7 b).map D.int) ≤ 7
  rw [wts_ints]
  exact sl7_len b
theorem in_S (k : Int) (b : Nat) : inD (.int k) (S b) = some (decide (k ∈ sl7 b)) := by
  show (if ok (.int k) && ok (S b) then some (((sl7 b).map D.int).any fun z => eqd z (.int k)) else none) = _
  rw [ok_S]
  show some (((sl7 b).map D.int).any fun z => eqd z (.int k)) = _
  congr 1
  rw [List.any_map, Bool.eq_iff_iff, List.any_eq_true, decide_eq_true_iff]
  constructor
  · rintro ⟨i, hi, e⟩
    have : (i == k) = true := e
    rw [← eq_of_beq this]
    exact hi
  · intro h
    exact ⟨k, h, (beq_self_eq_true k : (k == k) = true)⟩
theorem sl7_and (a b : Nat) : (sl7 a).filter (fun k => decide (k ∈ sl7 b)) = sl7 (a &&& b) := by
  unfold sl7
  rw [List.filter_map, List.filter_filter]
  congr 1
  apply List.filter_congr
  intro k hk
  have hk' := List.mem_range.mp hk
  rw [Nat.testBit_and, Bool.eq_iff_iff]
  simp only [Function.comp, Bool.and_eq_true, decide_eq_true_iff]
  have := mem_sl7 (b := b) (i := (k : Int))
  unfold sl7 at this
  rw [this]
  constructor
  · rintro ⟨⟨j, h1, h2, h3⟩, h4⟩
    have : j = k := by omega
    subst this
    exact ⟨h4, h2⟩
  · rintro ⟨h1, h2⟩
    exact ⟨⟨k, hk', h2, rfl⟩, h1⟩
theorem fm_ints {p : Int → Bool} {g : D → Option D} (hg : ∀ i, g (.int i) = if p i then some (.int i) else none) : ∀ l : List Int, (l.map D.int).filterMap g = (l.filter p).map D.int
  | [] => rfl
  | i :: r => by
    rw [List.map_cons, List.filterMap_cons, hg, List.filter_cons, fm_ints hg r]
    cases p i <;> rfl

/-! ### big steps -/
section
variable {T : CT} {C : Cl} {h h1 h2 h3 : MH} {env env1 : Env}
theorem run_rt {fd : FD} {xs : List D} {d : D} (hb : bindA fd xs = some env) (e : evSs T C fd.body env h = .ok (.rt d) h1) : runF T C fd xs h = .ok d h1 := by
  unfold runF
  rw [hb]
  show (evSs T C fd.body env h).bd _ = _
  rw [e]
  rfl
theorem sq {s : MS} {r : MSs} {o : Out Fl} (e1 : evS T C s env h = .ok (.nx env1) h1) (e2 : evSs T C r env1 h1 = o) : evSs T C (.cons s r) env h = o := by
  unfold evSs
  rw [e1, bd_ok]
  exact e2
theorem sq_rt {s : MS} {r : MSs} {d : D} (e1 : evS T C s env h = .ok (.rt d) h1) : evSs T C (.cons s r) env h = .ok (.rt d) h1 := by
  unfold evSs
  rw [e1]
  rfl
theorem b_set {i : Nat} {e : ME} {x : D} (e1 : evE T C e env h = .ok x h1) : evS T C (.set i e) env h = .ok (.nx (env.set i (some (.val x)))) h1 := by
  unfold evS
  rw [e1]
  rfl
theorem b_ret {e : ME} {x : D} (e1 : evE T C e env h = .ok x h1) : evS T C (.ret e) env h = .ok (.rt x) h1 := by
  unfold evS
  rw [e1]
  rfl
theorem b_if {t : ME} {a b : MSs} {k : Bool} {o : Out Fl} (e1 : evT T C t env h = .ok k h1) (e2 : (if k then evSs T C a env h1 else evSs T C b env h1) = o) : evS T C (.ifs t a b) env h = o := by
  unfold evS
  rw [e1, bd_ok]
  exact e2
theorem b_for {tg : Tg} {it : MI} {b : MSs} {xs : List D} {o : Out Fl} (e1 : evI T C false it env h = .ok xs h1) (e2 : loopF (fun x en h => match bindT tg x en with
    | some en => evSs T C b en h
    | none => .no) xs env h1 = o) : evS T C (.for tg it b) env h = o := by
  unfold evS
  rw [e1, bd_ok]
  exact e2
/-- a term that is not a slot's own thing -/
def plainM : ME → Bool
  | .var _ => false
  | _ => true
theorem bor_plain {a : ME} {r : Out D} (hp : plainM a = true) : bor env a h r = r := by
  cases a <;> first | rfl | cases hp
theorem b_test {t : ME} {x : D} {k : Bool} (hp : plainM t = true) (e1 : evE T C t env h = .ok x h1) (e2 : truD x = some k) : evT T C t env h = .ok k h1 := by
  unfold evT
  rw [bor_plain hp, e1]
  unfold tru
  rw [bd_ok, e2]
  rfl
theorem b_call {f : Nat} {es : MA} {xs : List D} {o : Out D} (e1 : evA T C es env h = .ok xs h1) (e2 : C.fn f xs h1 = o) : evE T C (.call f es) env h = o := by
  unfold evE
  rw [e1, bd_ok]
  exact e2
theorem a_nil : evA T C .nil env h = .ok [] h := by
  unfold evA
  rfl
theorem a_cons {e : ME} {r : MA} {x : D} {xs : List D} (e1 : evE T C e env h = .ok x h1) (e2 : evA T C r env h1 = .ok xs h2) : evA T C (.cons e r) env h = .ok (x :: xs) h2 := by
  unfold evA
  rw [e1, bd_ok, e2]
  rfl
theorem b_blt1 {b : Blt} {a : ME} {x d : D} (hp : plainM a = true) (e1 : evE T C a env h = .ok x h1) (e2 : bltD b [x] = some d) : evE T C (.blt b (.cons a .nil)) env h = .ok d h1 := by
  unfold evE evB
  rw [bor_plain hp, e1, bd_ok]
  unfold evB
  rw [bd_ok, bd_ok, e2]
  rfl
theorem b_lc {it : MI} {tg : Tg} {wp : List Nat} {ts : MA} {e : ME} {xs : List D} (g : D → Option D) (e1 : evI T C true it env h = .ok xs h1)
    (e2 : ∀ x ∈ xs, ∃ en, bindT tg x (wipeE env wp) = some en ∧ ∃ k, evTs T C ts en h1 = .ok k h1 ∧ (if k then ∃ y, evE T C e en h1 = .ok y h1 ∧ g x = some y else g x = none)) (hl : (xs.filterMap g).length ≤ lim) :
    evE T C (.lc it tg wp ts e) env h = .ok (.lst (xs.filterMap g)) h1 := by
  unfold evE
  rw [e1, bd_ok, loopC_map (g := g) (h := h1), bd_ok, if_pos hl]
  intro x hx
  obtain ⟨en, q1, k, q2, q3⟩ := e2 x hx
  simp only [q1, q2, bd_ok]
  cases k with
  | true =>
    obtain ⟨y, q4, q5⟩ := q3
    rw [if_pos rfl, q4, q5]
    rfl
  | false =>
    have q3' : g x = none := q3
    rw [if_neg (by decide), q3']
theorem ts_nil : evTs T C .nil env h = .ok true h := by
  unfold evTs
  rfl
theorem ts_one {t : ME} {k : Bool} (e1 : evT T C t env h = .ok k h1) : evTs T C (.cons t .nil) env h = .ok k h1 := by
  unfold evTs
  have : (tru (bor env t h (evE T C t env h))) = .ok k h1 := e1
  rw [this, bd_ok]
  cases k
  · rfl
  · rw [if_pos rfl]
    exact ts_nil
theorem b_cmp {o : Cop} {a b : ME} {x y : D} {k : Bool} (e1 : bor env a h (evE T C a env h) = .ok x h1) (e2 : bor env b h1 (evE T C b env h1) = .ok y h2) (e3 : cmpD o x y = some k) : evE T C (.cmp o a b) env h = .ok (.bl k) h2 := by
  unfold evE
  rw [e1, bd_ok, e2, bd_ok, e3]
  rfl
theorem b_bin {o : Bop} {a b : ME} {x y z : D} (e1 : bor env a h (evE T C a env h) = .ok x h1) (e2 : bor env b h1 (evE T C b env h1) = .ok y h2) (e3 : binD o x y = some z) : evE T C (.bin o a b) env h = .ok z h2 := by
  unfold evE
  rw [e1, bd_ok, e2, bd_ok, e3]
  rfl
/-- of numbers, those that pass -/
theorem b_lcI {it : MI} {tg : Tg} {wp : List Nat} {ts : MA} {e : ME} {l : List Int} (p : Int → Bool) (e1 : evI T C true it env h = .ok (l.map D.int) h1)
    (e2 : ∀ i ∈ l, ∃ en, bindT tg (.int i) (wipeE env wp) = some en ∧ evTs T C ts en h1 = .ok (p i) h1 ∧ (p i = true → evE T C e en h1 = .ok (.int i) h1)) (hl : l.length ≤ lim) :
    evE T C (.lc it tg wp ts e) env h = .ok (.lst ((l.filter p).map D.int)) h1 := by
  have hf : (l.map D.int).filterMap (fun x => match x with | .int i => if p i then some (D.int i) else none | _ => none) = (l.filter p).map D.int := fm_ints (fun i => rfl) _
  rw [← hf]
  refine b_lc _ e1 (fun x hx => ?_) ?_
  · obtain ⟨i, hi, rfl⟩ := List.mem_map.mp hx
    obtain ⟨en, q1, q2, q3⟩ := e2 i hi
    refine ⟨en, q1, p i, q2, ?_⟩
    cases hk : p i with
    | true =>
      rw [if_pos rfl]
      refine ⟨_, q3 hk, ?_⟩
      show (if p i then some (D.int i) else none) = _
      rw [hk]
      rfl
    | false =>
      rw [if_neg (by decide)]
      show (if p i then some (D.int i) else none) = _
      rw [hk]
      rfl
  · rw [hf, List.length_map]
    exact Nat.le_trans (List.length_filter_le _ _) hl
/-- each one's value -/
theorem b_lcM {α : Type} {it : MI} {tg : Tg} {wp : List Nat} {e : ME} {l : List α} (k : α → D) (g : α → D) (e1 : evI T C true it env h = .ok (l.map k) h1)
    (e2 : ∀ a ∈ l, ∃ en, bindT tg (k a) (wipeE env wp) = some en ∧ evE T C e en h1 = .ok (g a) h1) (hl : l.length ≤ lim) :
    evE T C (.lc it tg wp .nil e) env h = .ok (.lst (l.map g)) h1 := by
  unfold evE
  rw [e1, bd_ok, loopC_mapA (k := k) (g := g) (h := h1) (fun a ha => ?_), bd_ok, if_pos (by rw [List.length_map]; exact hl)]
  obtain ⟨en, q1, q2⟩ := e2 a ha
  simp only [q1, ts_nil, bd_ok, if_true, q2]
theorem common_run (a b : Nat) : runF T C fd__law_common [S a, S b] h = .ok (S (a &&& b)) h := by
  refine run_rt rfl (sq_rt (b_ret (b_blt1 rfl (b_lcI (l := sl7 a) (fun i => decide (i ∈ sl7 b)) rfl (fun i hi => ⟨_, rfl, ts_one (b_test rfl (b_cmp rfl rfl (in_S i b)) rfl), fun _ => rfl⟩) (Nat.le_trans (sl7_len _) (by decide))) ?_)))
  rw [sl7_and]
  rfl
end
end Mi
/-! MiP5: a step's rows: image and what goes into a set. -/
namespace Mi
open PySem

theorem ltnat {b k : Nat} (h : b < 2 ^ k) {i : Nat} (hi : k ≤ i) : b.testBit i = false :=
  Nat.testBit_lt_two_pow (Nat.lt_of_lt_of_le h (Nat.pow_le_pow_right (by decide) hi))
theorem p128 {b n : Nat} (h : b < 2 ^ n) (hn : n ≤ 7) : b < 128 := Nat.lt_of_lt_of_le h (Nat.pow_le_pow_right (n := 2) (by decide) hn)
/-- all that the states of a are sent to, from place k on -/
def imgF : List Nat → Nat → Nat → Nat
  | [], _, _ => 0
  | b :: r, k, a => (if a.testBit k then b else 0) ||| imgF r (k + 1) a
/-- the places whose rows lie in a -/
def befF : List Nat → Nat → Nat → Nat
  | [], _, _ => 0
  | b :: r, k, a => (if b &&& a = b then 2 ^ k else 0) + befF r (k + 1) a
theorem imgF_bit : ∀ (bs : List Nat) (k a i : Nat), (imgF bs k a).testBit i = true ↔ ∃ o b, bs[o]? = some b ∧ a.testBit (k + o) = true ∧ b.testBit i = true
  | [], k, a, i => by
    show (0 : Nat).testBit i = true ↔ _
    simp
  | b :: r, k, a, i => by
    show ((if a.testBit k then b else 0) ||| imgF r (k + 1) a).testBit i = true ↔ _
    rw [Nat.testBit_or, Bool.or_eq_true, imgF_bit r (k + 1) a i]
    constructor
    · rintro (h | ⟨o, c, h1, h2, h3⟩)
      · by_cases ha : a.testBit k = true
        · rw [if_pos ha] at h
          exact ⟨0, b, rfl, ha, h⟩
        · rw [if_neg ha] at h
          simp at h
      · exact ⟨o + 1, c, h1, by rw [show k + (o + 1) = k + 1 + o by omega]; exact h2, h3⟩
    · rintro ⟨o, c, h1, h2, h3⟩
      cases o with
      | zero =>
        cases h1
        left
        rw [if_pos (by simpa using h2)]
        exact h3
      | succ o => exact .inr ⟨o, c, h1, by rw [show k + 1 + o = k + (o + 1) by omega]; exact h2, h3⟩
theorem imgF_lt {n : Nat} : ∀ (bs : List Nat) (k a : Nat), (∀ b ∈ bs, b < 2 ^ n) → imgF bs k a < 2 ^ n
  | [], _, _, _ => Nat.two_pow_pos n
  | b :: r, k, a, h => by
    refine Nat.or_lt_two_pow ?_ (imgF_lt r (k + 1) a fun c hc => h c (List.mem_cons_of_mem _ hc))
    split
    · exact h b List.mem_cons_self
    · exact Nat.two_pow_pos n
end Mi
/-! MiP6: a step's methods and what the law says of them. -/
namespace Mi
open PySem

theorem loopF_cons {f : D → Env → MH → Out Fl} {x : D} {xs : List D} {env env' : Env} {h h' : MH} {o : Out Fl} (e1 : f x env h = .ok (.nx env') h') (e2 : loopF f xs env' h' = o) : loopF f (x :: xs) env h = o := by
  show (f x env h).bd _ = _
  rw [e1, bd_ok]
  exact e2
theorem bor_nat (a b : Nat) : Builtin.bitOr (a : Int) (b : Int) = ((a ||| b : Nat) : Int) := by
  unfold Builtin.bitOr Builtin.bitAnd Builtin.bitNot
  have e1 : decide ((0 : Int) ≤ -(a : Int) - 1) = false := decide_eq_false (by omega)
  have e2 : decide ((0 : Int) ≤ -(b : Int) - 1) = false := decide_eq_false (by omega)
  rw [e1, e2]
  show -(-((((-(-(a : Int) - 1) - 1).toNat ||| (-(-(b : Int) - 1) - 1).toNat : Nat) : Int)) - 1) - 1 = _
  have h1 : (-(-(a : Int) - 1) - 1).toNat = a := by omega
  have h2 : (-(-(b : Int) - 1) - 1).toNat = b := by omega
  rw [h1, h2]
  omega
theorem band_nat (a b : Nat) : Builtin.bitAnd (a : Int) (b : Int) = ((a &&& b : Nat) : Int) := PySem.W.os_band a b
theorem shr_nat (a k : Nat) : binD .shr (.int a) (.int k) = some (.int ((a / 2 ^ k : Nat) : Int)) := by
  show (if (0 : Int) ≤ (k : Int) then some (D.int ((a : Int) / 2 ^ ((k : Int).toNat))) else none) = _
  rw [if_pos (by omega), Int.toNat_natCast]
  norm_cast
theorem and1_nat (a : Nat) : binD .band (.int a) (.int 1) = some (.int ((a &&& 1 : Nat) : Int)) := by
  show some (D.int (Builtin.bitAnd (a : Int) ((1 : Nat) : Int))) = _
  rw [band_nat]
theorem bit_tru (a k : Nat) : truD (.int (((a / 2 ^ k &&& 1 : Nat)) : Int)) = some (a.testBit k) := by
  show some _ = _
  congr 1
  rw [Nat.testBit_eq_decide_div_mod_eq, Nat.and_one_is_mod]
  have := Nat.mod_lt (a / 2 ^ k) (show 2 > 0 by decide)
  rcases Nat.mod_two_eq_zero_or_one (a / 2 ^ k) with h | h <;> rw [h] <;> rfl
/-- rows as numbers -/
def Rw (bs : List Nat) : D := .tup (bs.map S)
def Ln (bs : List Nat) : D := .lst (bs.map fun (b : Nat) => .int (b : Int))
def Sf (bs : List Nat) : D := .obj 10 [(26, Ln bs), (27, .tup [])]
section
variable {T : CT} {C : Cl} {h : MH}
theorem image_loop {s : Option SV} (a : Nat) : ∀ (bs : List Nat) (k acc : Nat) (e3 e4 : Option SV), ∃ e3' e4', loopF (fun x en h => match bindT (.many [3, 4]) x en with
    | some en => evSs T C (.cons (.ifs (.bin .band (.bin .shr (.var 1) (.var 3)) (.con (.int 1))) (.cons (.set 2 (.bin .bor (.var 2) (.var 4))) .nil) .nil) .nil) en h
    | none => .no) (enumD k (bs.map fun (b : Nat) => .int (b : Int))) [s, some (.val (.int a)), some (.val (.int acc)), e3, e4] h = .ok (.nx [s, some (.val (.int a)), some (.val (.int ((acc ||| imgF bs k a : Nat) : Int))), e3', e4']) h
  | [], k, acc, e3, e4 => ⟨e3, e4, by
    show Out.ok (Fl.nx _) h = _
    rw [show acc ||| imgF [] k a = acc from Nat.or_zero acc]⟩
  | b :: r, k, acc, e3, e4 => by
    obtain ⟨e3', e4', ih⟩ := image_loop a r (k + 1) (acc ||| (if a.testBit k then b else 0)) (some (.val (.int k))) (some (.val (.int b)))
    refine ⟨e3', e4', ?_⟩
    have e1 : evSs T C (.cons (.ifs (.bin .band (.bin .shr (.var 1) (.var 3)) (.con (.int 1))) (.cons (.set 2 (.bin .bor (.var 2) (.var 4))) .nil) .nil) .nil) [s, some (.val (.int a)), some (.val (.int acc)), some (.val (.int k)), some (.val (.int b))] h = .ok (.nx [s, some (.val (.int a)), some (.val (.int ((acc ||| (if a.testBit k then b else 0) : Nat) : Int))), some (.val (.int k)), some (.val (.int b))]) h := by
      refine sq (b_if (b_test (k := a.testBit k) rfl (b_bin (b_bin rfl rfl (shr_nat a k)) rfl (and1_nat _)) (bit_tru a k)) (o := .ok (.nx _) h) ?_) rfl
      cases ha : a.testBit k with
      | true =>
        rw [if_pos rfl, if_pos rfl]
        refine sq (b_set (b_bin rfl rfl (z := .int ((acc ||| b : Nat) : Int)) ?_)) rfl
        show some (D.int (Builtin.bitOr (acc : Int) (b : Int))) = _
        rw [bor_nat]
      | false =>
        rw [if_neg (by decide), if_neg (by decide), Nat.or_zero]
        rfl
    rw [Nat.or_assoc] at ih
    exact loopF_cons e1 ih
theorem enum_lst (b : Bool) {env : Env} {a : ME} {xs : List D} (hp : plainM a = true) (e1 : evE T C a env h = .ok (.lst xs) h) : evI T C b (.enm a) env h = .ok (enumD 0 xs) h := by
  unfold evI
  cases b
  · rw [if_neg (by decide), e1, bd_ok]
    rfl
  · rw [if_pos rfl, bor_plain hp, e1, bd_ok]
    rfl
/-- a field of an instance -/
theorem b_attr {a : ME} {f c : Nat} {fs : List (Nat × D)} {d : D} {env : Env} (hb : bor env a h (evE T C a env h) = .ok (.obj c fs) h) (hp : T.prop c f = none) (hf : T.fld c f = true) (hl : fs.lookup f = some d) : evE T C (.attr a f) env h = .ok d h := by
  unfold evE
  rw [hb, bd_ok]
  show (match T.prop c f with | some g => _ | none => if T.fld c f then ofO ((fldsOf h (.obj c fs)).bind fun fs => fs.lookup f) h else .no) = _
  rw [hp]
  show (if T.fld c f then ofO (fs.lookup f) h else .no) = _
  rw [if_pos hf, hl]
  rfl
theorem shl_nat (k : Nat) (hk : k ≤ 1000) : binD .shl (.int 1) (.int k) = some (.int ((2 ^ k : Nat) : Int)) := by
  show (if (0 : Int) ≤ (k : Int) ∧ (k : Int) ≤ 1000 ∧ (1 : Int).natAbs < 2 ^ 64 then some (D.int (1 * 2 ^ ((k : Int).toNat))) else none) = _
  rw [if_pos ⟨by omega, by omega, by decide⟩, Int.toNat_natCast, Int.one_mul]
  norm_cast
/-- a walk along numbered rows -/
def enS (k : Nat) (bs : List Nat) : List (Nat × Nat) := (List.range' k bs.length).zip bs
theorem enum_map (f : Nat → D) : ∀ (bs : List Nat) (k : Nat), enumD k (bs.map f) = (enS k bs).map fun p => .tup [.int (p.1 : Int), f p.2]
  | [], k => rfl
  | b :: r, k => by
    show D.tup [.int (k : Int), f b] :: enumD (k + 1) (r.map f) = _
    rw [enum_map f r (k + 1)]
    rfl
theorem enS_mem : ∀ {bs : List Nat} {k : Nat} {p : Nat × Nat}, p ∈ enS k bs → k ≤ p.1 ∧ bs[p.1 - k]? = some p.2
  | [], k, p, h => by
    simp [enS] at h
  | b :: r, k, p, h => by
    have h' : p ∈ (k, b) :: enS (k + 1) r := h
    rcases List.mem_cons.mp h' with e | e
    · subst e
      exact ⟨Nat.le_refl _, by simp⟩
    · obtain ⟨h1, h2⟩ := enS_mem e
      refine ⟨by omega, ?_⟩
      rw [show p.1 - k = (p.1 - (k + 1)) + 1 by omega]
      exact h2
theorem enS_len (k : Nat) (bs : List Nat) : (enS k bs).length = bs.length := by
  unfold enS
  simp
/-- of a walk, the values of those that pass -/
theorem b_lcP {α : Type} {it : MI} {tg : Tg} {wp : List Nat} {ts : MA} {e : ME} {l : List α} {env : Env} {h1 : MH} (k : α → D) (p : α → Bool) (g : α → D) (e1 : evI T C true it env h = .ok (l.map k) h1)
    (e2 : ∀ a ∈ l, ∃ en, bindT tg (k a) (wipeE env wp) = some en ∧ evTs T C ts en h1 = .ok (p a) h1 ∧ (p a = true → evE T C e en h1 = .ok (g a) h1)) (hl : l.length ≤ lim) :
    evE T C (.lc it tg wp ts e) env h = .ok (.lst ((l.filter p).map g)) h1 := by
  have go : ∀ (f : D → MH → Out (Option D)) (l' : List α), (∀ a ∈ l', f (k a) h1 = .ok (if p a then some (g a) else none) h1) → loopC f (l'.map k) h1 = .ok ((l'.filter p).map g) h1 := by
    intro f l'
    induction l' with
    | nil => exact fun _ => rfl
    | cons a r ih =>
      intro q
      show (f (k a) h1).bd _ = _
      rw [q a List.mem_cons_self, bd_ok, ih fun b hb => q b (List.mem_cons_of_mem _ hb), List.filter_cons]
      cases p a <;> rfl
  unfold evE
  rw [e1, bd_ok, go _ l (fun a ha => ?_), bd_ok, if_pos (by rw [List.length_map]; exact Nat.le_trans (List.length_filter_le _ _) hl)]
  obtain ⟨en, q1, q2, q3⟩ := e2 a ha
  simp only [q1, q2, bd_ok]
  cases hk : p a with
  | true =>
    rw [if_pos rfl, if_pos rfl, q3 hk]
    rfl
  | false =>
    rw [if_neg (by decide), if_neg (by decide)]
theorem band_bin (a b : Nat) : binD .band (.int a) (.int b) = some (.int ((a &&& b : Nat) : Int)) := by
  show some (D.int (Builtin.bitAnd (a : Int) (b : Int))) = _
  rw [band_nat]
theorem eq_int (a b : Nat) : cmpD .eq (.int a) (.int b) = some (decide (a = b)) := by
  show (if ok (D.int a) && ok (D.int b) then some ((a : Int) == (b : Int)) else none) = _
  have e : (ok (D.int a) && ok (D.int b)) = true := rfl
  rw [if_pos e]
  congr 1
  rw [Bool.eq_iff_iff, beq_iff_eq, decide_eq_true_iff]
  omega
end
end Mi
/-! MiP7: a step's methods against the law's own count. -/
namespace Mi
open PySem

theorem eqds_ints : ∀ l m : List Int, eqds (l.map D.int) (m.map D.int) = decide (l = m)
  | [], [] => rfl
  | [], _ :: _ => rfl
  | _ :: _, [] => rfl
  | i :: l, j :: m => by
    show ((i == j) && eqds (l.map D.int) (m.map D.int)) = _
    rw [eqds_ints l m, Bool.eq_iff_iff, Bool.and_eq_true, beq_iff_eq, decide_eq_true_iff, decide_eq_true_iff]
    constructor
    · rintro ⟨rfl, rfl⟩
      rfl
    · intro e
      injection e with e1 e2
      exact ⟨e1, e2⟩
theorem sl7_inj {a b : Nat} (ha : a < 128) (hb : b < 128) (e : sl7 a = sl7 b) : a = b := by
  apply Nat.eq_of_testBit_eq
  intro i
  by_cases hi : i < 7
  · rw [Bool.eq_iff_iff]
    have h1 := mem_sl7 (b := a) (i := (i : Int))
    have h2 := mem_sl7 (b := b) (i := (i : Int))
    rw [e] at h1
    have h3 := h1.symm.trans h2
    constructor
    · intro h
      obtain ⟨k, _, q2, q3⟩ := h3.mp ⟨i, hi, h, rfl⟩
      have : k = i := by omega
      rw [← this]
      exact q2
    · intro h
      obtain ⟨k, _, q2, q3⟩ := h3.mpr ⟨i, hi, h, rfl⟩
      have : k = i := by omega
      rw [← this]
      exact q2
  · rw [ltnat (k := 7) (b := a) ha (by omega), ltnat (k := 7) (b := b) hb (by omega)]
theorem eq_S {a b : Nat} (ha : a < 128) (hb : b < 128) : cmpD .eq (S a) (S b) = some (decide (a = b)) := by
  show (if ok (S a) && ok (S b) then some (eqds ((sl7 a).map D.int) ((sl7 b).map D.int)) else none) = _
  rw [ok_S, ok_S, eqds_ints]
  show some (decide (sl7 a = sl7 b)) = _
  congr 1
  rw [Bool.eq_iff_iff, decide_eq_true_iff, decide_eq_true_iff]
  exact ⟨sl7_inj ha hb, fun e => e ▸ rfl⟩
theorem filter_range {n : Nat} {g : Nat → Bool} (hn : n ≤ 7) (h : ∀ i, n ≤ i → g i = false) : (List.range' 0 n).filter g = (List.range 7).filter g := by
  have e : List.range 7 = List.range' 0 n ++ List.range' n (7 - n) := by
    rw [List.range_eq_range']
    have := List.range'_append (s := 0) (m := n) (n := 7 - n) (step := 1)
    rw [show 0 + 1 * n = n by omega, show n + (7 - n) = 7 by omega] at this
    exact this.symm
  rw [e, List.filter_append]
  have e2 : (List.range' n (7 - n)).filter g = [] := by
    rw [List.filter_eq_nil_iff]
    intro i hi
    have := (List.mem_range'_1.mp hi).1
    rw [h i this]
    decide
  rw [e2, List.append_nil]
/-- places below 2 ^ n -/
structure Rows (n : Nat) (bs : List Nat) : Prop where
  len : bs.length = n
  n7 : n ≤ 7
  lt : ∀ b ∈ bs, b < 2 ^ n
theorem Rows.l128 {n : Nat} {bs : List Nat} (r : Rows n bs) {b : Nat} (h : b ∈ bs) : b < 128 := p128 (r.lt b h) r.n7
theorem Rows.img {n : Nat} {bs : List Nat} (r : Rows n bs) (a : Nat) : imgF bs 0 a < 2 ^ n := imgF_lt bs 0 a r.lt
theorem sl7_of {n b : Nat} (hn : n ≤ 7) (hb : b < 2 ^ n) : sl7 b = ((List.range' 0 n).filter fun i => b.testBit i).map fun (i : Nat) => (i : Int) := by
  unfold sl7
  rw [filter_range hn fun i hi => ltnat hb hi]
theorem mem_lt {n b : Nat} {i : Int} (hb : b < 2 ^ n) (h : i ∈ sl7 b) : ∃ k : Nat, (k : Int) = i ∧ k < n ∧ b.testBit k = true := by
  obtain ⟨k, h1, h2, h3⟩ := mem_sl7.mp h
  refine ⟨k, h3, ?_, h2⟩
  by_cases hk : k < n
  · exact hk
  · rw [ltnat hb (by omega)] at h2
    cases h2
theorem tup_of {env : Env} {h : MH} {T : CT} {C : Cl} {e : ME} {xs ys : List D} (he : evE T C e env h = .ok (.lst xs) h) (hxy : xs = ys) (hp : plainM e = true) : evE T C (.blt .tuple (.cons e .nil)) env h = .ok (.tup ys) h := by
  subst hxy
  exact b_blt1 hp he rfl
theorem rng_nat (n : Nat) : rngD 0 (n : Int) = ((List.range' 0 n).map fun (i : Nat) => (i : Int)).map D.int := by
  unfold rngD
  rw [Int.sub_zero, Int.toNat_natCast, List.range_eq_range', List.map_map]
  apply List.map_congr_left
  intro i _
  show D.int (0 + (i : Int)) = D.int (i : Int)
  rw [Int.zero_add]
section
variable {T : CT} {C : Cl} {h : MH}
theorem i_rng {b : Bool} {a : ME} {n : Nat} {env : Env} (e : evE T C a env h = .ok (.int n) h) (hn : n ≤ 1000000) : evI T C b (.rng a) env h = .ok (((List.range' 0 n).map fun (i : Nat) => (i : Int)).map D.int) h := by
  unfold evI
  rw [e, bd_ok, ← rng_nat]
  show (if -(lim : Int) ≤ (n : Int) ∧ (n : Int) ≤ lim then Out.ok (rngD 0 n) h else .no) = _
  rw [if_pos ⟨by unfold lim; omega, by unfold lim; omega⟩]
theorem bp {a : ME} {env : Env} {o : Out D} (hp : plainM a = true) (e : evE T C a env h = o) : bor env a h (evE T C a env h) = o := (bor_plain hp).trans e
theorem ne_ones (l : List Int) : cmpD .ne (.lst (l.map fun _ => .int 1)) (.lst []) = some (!l.isEmpty) := by
  show (if ok (D.lst (l.map fun _ => .int 1)) && ok (D.lst []) then some (!eqds (l.map fun _ => D.int 1) []) else none) = _
  have e : ok (D.lst (l.map fun _ => .int 1)) = true := by
    show (l.map fun _ => D.int 1).all (okN 39) = true
    rw [List.all_map]
    exact List.all_eq_true.mpr fun _ _ => rfl
  rw [e]
  cases l <;> rfl
theorem law_apply_run {n : Nat} {bs : List Nat} (r : Rows n bs) {a : Nat} (ha : a < 2 ^ n) : runF T C fd__law_apply [Rw bs, S a] h = .ok (S (imgF bs 0 a)) h := by
  have hn : evE T C (.blt .len (.cons (.var 0) .nil)) [some (.val (Rw bs)), some (.val (S a)), none, none] h = .ok (.int n) h := by
    rw [← r.len]
    show Out.ok (D.int ((bs.map S).length : Int)) h = _
    rw [List.length_map]
  have hl : ((((List.range' 0 n).map fun (i : Nat) => (i : Int)).filter fun i => (imgF bs 0 a).testBit i.toNat).map D.int) = (sl7 (imgF bs 0 a)).map D.int := by
    rw [sl7_of r.n7 (r.img a), List.filter_map]
    rfl
  refine run_rt rfl (sq_rt (b_ret (tup_of (b_lcI (l := (List.range' 0 n).map fun (i : Nat) => (i : Int)) (fun i => (imgF bs 0 a).testBit i.toNat) (i_rng hn (Nat.le_trans r.n7 (by decide))) (fun i hi => ?_) ?_) hl rfl)))
  · obtain ⟨k, hk, rfl⟩ := List.mem_map.mp hi
    have hk' := List.mem_range'_1.mp hk
    refine ⟨_, rfl, ts_one (b_test rfl (b_cmp (bp rfl (b_lcP (l := sl7 a) (h1 := h) D.int (fun o => decide ((k : Int) ∈ sl7 (bs.getD o.toNat 0))) (fun _ => .int 1) rfl (fun o ho => ?_) ?_)) rfl (k := (imgF bs 0 a).testBit k) ?_) rfl), fun _ => rfl⟩
    · obtain ⟨j, hj, hjn, _⟩ := mem_lt ha ho
      subst hj
      have hb : bs[j]? = some (bs.getD j 0) := by
        rw [List.getD_eq_getElem?_getD, List.getElem?_eq_getElem (by rw [r.len]; exact hjn)]
        rfl
      refine ⟨_, rfl, ts_one (b_test rfl (b_cmp rfl (y := S (bs.getD j 0)) ?_ (in_S _ _)) rfl), fun _ => rfl⟩
      show evE T C (.idx (.var 0) (.var 3)) _ h = _
      have e : idxD (Rw bs) (.int (j : Int)) h = some (S (bs.getD j 0)) := by
        show L2.atI (bs.map S) (j : Int) = _
        rw [atI_nat (by rw [List.length_map, r.len]; exact hjn), List.getElem?_map, hb]
        rfl
      unfold evE
      show ofO (idxD (Rw bs) (.int (j : Int)) h) h = _
      rw [e]
      rfl
    · exact Nat.le_trans (sl7_len a) (by decide)
    · rw [ne_ones]
      congr 1
      rw [Bool.eq_iff_iff, imgF_bit bs 0 a k, Bool.not_eq_true', List.isEmpty_eq_false_iff_exists_mem]
      constructor
      · rintro ⟨o, ho⟩
        obtain ⟨h1, h2⟩ := List.mem_filter.mp ho
        obtain ⟨j, hj, hjn, hb⟩ := mem_lt ha h1
        subst hj
        rw [decide_eq_true_iff, Int.toNat_natCast] at h2
        obtain ⟨k2, _, q2, q3⟩ := mem_sl7.mp h2
        have : k2 = k := by omega
        subst this
        refine ⟨j, bs.getD j 0, ?_, by rw [Nat.zero_add]; exact hb, q2⟩
        rw [List.getD_eq_getElem?_getD, List.getElem?_eq_getElem (by rw [r.len]; exact hjn)]
        rfl
      · rintro ⟨o, b, h1, h2, h3⟩
        have ho := (List.getElem?_eq_some_iff.mp h1).1
        rw [Nat.zero_add] at h2
        refine ⟨(o : Int), List.mem_filter.mpr ⟨mem_sl7.mpr ⟨o, by have := r.len; have := r.n7; omega, h2, rfl⟩, ?_⟩⟩
        rw [decide_eq_true_iff, Int.toNat_natCast, List.getD_eq_getElem?_getD, h1]
        exact mem_sl7.mpr ⟨k, by have := r.n7; omega, h3, rfl⟩
  · rw [List.length_map, List.length_range']
    exact Nat.le_trans r.n7 (by decide)
end
end Mi
/-! MiP8: defs that all laws share, called by number. -/
namespace Mi
open PySem

class TM (T : CT) (c m : Nat) (f : outParam Nat) : Prop where
  e : T.meth c m = some f
class TP (T : CT) (c m : Nat) (f : outParam Nat) : Prop where
  e : T.prop c m = some f
class TF (T : CT) (c m : Nat) : Prop where
  f : T.fld c m = true
  p : T.prop c m = none
section
variable {B : Tb} {h : MH}
theorem L_int [Has B 0 fd_is_integer] (j : Nat) (i : Int) (h : MH) : (lv B (j + 1)).fn 0 [.int i] h = .ok (.bl true) h := (fn_lv j _ h).trans rfl
theorem L_bits [Has B 4 fd_bits_of] (j : Nat) {b : Nat} (hb : b < 128) (h : MH) : (lv B (j + 1)).fn 4 [S b] h = .ok (.int b) h := (fn_lv j _ h).trans (bits_of_run b hb)
theorem L_states [Has B 5 fd_states_of] (j : Nat) {b : Nat} (hb : b < 128) (h : MH) : (lv B (j + 1)).fn 5 [.int b] h = .ok (S b) h := (fn_lv j _ h).trans (states_of_run b hb)
/-- need_bits, with the number of the def that it asks -/
def fdNeed (f : Nat) : FD := ⟨2, false, 2, .cons (.ifs (.not (.call f (.cons (.var 0) (.cons (.var 1) .nil)))) (.cons (.raise 1 (.cons (.con (.str "an ascending tuple of states")) .nil)) .nil) .nil) (.cons (.ret (.call 4 (.cons (.var 1) .nil))) .nil)⟩
theorem b_not {T : CT} {C : Cl} {a : ME} {k : Bool} {env : Env} {h1 : MH} (e : evE T C a env h = .ok (.bl k) h1) : evE T C (.not a) env h = .ok (.bl (!k)) h1 := by
  unfold evE
  rw [e]
  rfl
theorem L_need {f : Nat} [Has B 0 fd_is_integer] [Has B f fd_is_set] [Has B 3 (fdNeed f)] [Has B 4 fd_bits_of] (j : Nat) {m b : Nat} (hm : m < 8) (hb : b < 2 ^ m) (h : MH) : (lv B (j + 3)).fn 3 [.int m, S b] h = .ok (.int b) h := by
  have h1 : b < 128 := p128 hb (by omega)
  have e : (lv B (j + 2)).fn f [.int m, S b] h = .ok (.bl true) h := by
    rw [fn_lv (j + 1), is_set_run (L_int j) m b hm h1, decide_eq_true hb]
  exact (fn_lv (fd := fdNeed f) (j + 2) _ h).trans (run_rt rfl (sq (b_if (b_test (x := .bl false) rfl (b_not (k := true) (b_call (a_cons rfl (a_cons rfl a_nil)) e)) rfl) rfl) (sq_rt (b_ret (b_call (a_cons rfl a_nil) (L_bits (j + 1) h1 h))))))
theorem L_common [Has B 21 fd__law_common] (j : Nat) (a b : Nat) (h : MH) : (lv B (j + 1)).fn 21 [S a, S b] h = .ok (S (a &&& b)) h := (fn_lv j _ h).trans (common_run a b)
theorem L_same [Has B 24 fd__law_same] (j : Nat) {d : D} (hd : numN 40 d = true) (hw : wt d ≤ 1000000) (h : MH) : (lv B (j + 1)).fn 24 [d, d] h = .ok (.bl true) h := (fn_lv j _ h).trans (same_run hd hw)
theorem L_draw [Has B 18 fd__law_draw] (j : Nat) {n m k : Nat} (p : Pen h n m) (hm : m < 1000000000) (hk : 0 < k) (hk2 : k < 1000000) :
    ∃ (d : Nat) (o : MO), (lv B (j + 1)).fn 18 [.ref n, .int k] h = .ok (.int d) (h.set n o) ∧ d < k ∧ PenV (m + 1) o := by
  rw [fn_lv j]
  exact draw_run p hm hk hk2

/-! ### every set of states -/
def P2 (b : Nat) : D := .tup [.int ((sl7 b).length : Int), S b]
theorem snoc_all : ((List.range 7).all fun k => (List.range (2 ^ k)).all fun b => decide (sl7 (b + 2 ^ k) = sl7 b ++ [(k : Int)])) = true := by decide +kernel
theorem sl7_snoc {k b : Nat} (hk : k < 7) (hb : b < 2 ^ k) : sl7 (b + 2 ^ k) = sl7 b ++ [(k : Int)] :=
  of_decide_eq_true (List.all_eq_true.mp (List.all_eq_true.mp snoc_all k (List.mem_range.mpr hk)) b (List.mem_range.mpr hb))
theorem alike_ints : ∀ l m : List Int, PySem.W.alikeAll (pys (l.map D.int)) (pys (m.map D.int)) = true
  | [], _ => by
    show PySem.W.alikeAll [] _ = true
    unfold PySem.W.alikeAll
    rfl
  | i :: l, [] => by
    show PySem.W.alikeAll (.int i :: pys (l.map D.int)) [] = true
    unfold PySem.W.alikeAll
    rfl
  | i :: l, j :: m => by
    show PySem.W.alikeAll (.int i :: pys (l.map D.int)) (.int j :: pys (m.map D.int)) = true
    unfold PySem.W.alikeAll PySem.W.alike
    exact alike_ints l m
theorem alike_P2 (a b : Nat) : PySem.W.alike (P2 a).py (P2 b).py = true := by
  show PySem.W.alike (.tuple [.int _, .tuple (pys ((sl7 a).map D.int))]) (.tuple [.int _, .tuple (pys ((sl7 b).map D.int))]) = true
  simp only [PySem.W.alike, PySem.W.alikeAll, alike_ints, Bool.and_self]
theorem cmpb_P2 {L : List Nat} (hl : L.length ≤ 1000000) : cmpb (L.map P2) = true := by
  unfold cmpb
  refine Bool.and_eq_true_iff.mpr ⟨?_, Bool.and_eq_true_iff.mpr ⟨?_, Bool.and_eq_true_iff.mpr ⟨?_, ?_⟩⟩⟩
  · rw [List.all_map]
    refine List.all_eq_true.mpr fun b _ => ?_
    show (okN 29 (.int ((sl7 b).length : Int)) && (okN 29 (S b) && true)) = true
    rw [okN_S]
    rfl
  · refine List.all_eq_true.mpr fun x hx => List.all_eq_true.mpr fun y hy => ?_
    obtain ⟨a, _, rfl⟩ := List.mem_map.mp hx
    obtain ⟨b, _, rfl⟩ := List.mem_map.mp hy
    exact alike_P2 a b
  · rw [Bool.or_eq_true]
    left
    rw [List.all_map]
    exact List.all_eq_true.mpr fun b _ => rfl
  · rw [List.length_map]
    exact decide_eq_true hl
theorem sort_P2 (L : List Nat) : ∃ L' : List Nat, sortd (L.map P2) = L'.map P2 ∧ L'.length = L.length ∧ ∀ b ∈ L', b ∈ L := by
  have go : ∀ l : List D, (∀ x ∈ l, ∃ b ∈ L, x = P2 b) → ∃ L' : List Nat, l = L'.map P2 ∧ ∀ b ∈ L', b ∈ L := by
    intro l
    induction l with
    | nil => exact fun _ => ⟨[], rfl, fun _ h => nomatch h⟩
    | cons x r ih =>
      intro q
      obtain ⟨b, hb, rfl⟩ := q x List.mem_cons_self
      obtain ⟨L', rfl, h2⟩ := ih fun y hy => q y (List.mem_cons_of_mem _ hy)
      refine ⟨b :: L', rfl, fun c hc => ?_⟩
      rcases List.mem_cons.mp hc with rfl | hc
      · exact hb
      · exact h2 c hc
  have hm : ∀ x ∈ sortd (L.map P2), ∃ b ∈ L, x = P2 b := fun x hx => by
    unfold sortd at hx
    obtain ⟨b, hb, e⟩ := List.mem_map.mp (List.mem_mergeSort.mp hx)
    exact ⟨b, hb, e.symm⟩
  obtain ⟨L', e, h2⟩ := go _ hm
  refine ⟨L', e, ?_, h2⟩
  have := congrArg List.length e
  unfold sortd at this
  rw [List.length_mergeSort, List.length_map, List.length_map] at this
  exact this.symm
theorem every_loop {T : CT} {C : Cl} {e0 : Option SV} : ∀ (m k : Nat) (L : List Nat) (e2 e3 e4 : Option SV), k + m ≤ 7 → L.length = 2 ^ k → (∀ b ∈ L, b < 2 ^ k) → ∃ (L' : List Nat) (e2' e3' e4' : Option SV), loopF (fun x en h => match bindT (.one 2) x en with
    | some en => evSs T C (.cons (.set 1 (.bin .add (.var 1) (.lc (.seq (.var 1)) (.one 4) [4] .nil (.bin .add (.var 4) (.tup (.cons (.var 2) .nil)))))) .nil) en h
    | none => .no) (((List.range' k m).map fun (i : Nat) => (i : Int)).map D.int) [e0, some (.val (.lst (L.map S))), e2, e3, e4] h = .ok (.nx [e0, some (.val (.lst (L'.map S))), e2', e3', e4']) h ∧ L'.length = 2 ^ (k + m) ∧ ∀ b ∈ L', b < 2 ^ (k + m)
  | 0, k, L, e2, e3, e4, _, hL, hb => ⟨L, e2, e3, e4, rfl, hL, hb⟩
  | m + 1, k, L, e2, e3, e4, hk, hL, hb => by
    have h2 : ∀ b ∈ L ++ L.map (· + 2 ^ k), b < 2 ^ (k + 1) := fun b hm => by
      rw [Nat.pow_succ]
      rcases List.mem_append.mp hm with q | q
      · have := hb b q
        omega
      · obtain ⟨c, hc, rfl⟩ := List.mem_map.mp q
        have := hb c hc
        show c + 2 ^ k < _
        omega
    obtain ⟨L', e2', e3', e4', q, ql, qb⟩ := every_loop (T := T) (C := C) (e0 := e0) m (k + 1) (L ++ L.map (· + 2 ^ k)) (some (.val (.int k))) e3 e4 (by omega) (by rw [List.length_append, List.length_map, hL, Nat.pow_succ]; omega) h2
    refine ⟨L', e2', e3', e4', ?_, by rw [show k + (m + 1) = k + 1 + m by omega]; exact ql, by rw [show k + (m + 1) = k + 1 + m by omega]; exact qb⟩
    rw [List.range'_succ, List.map_cons, List.map_cons]
    have hp : 2 ^ k ≤ 128 := Nat.pow_le_pow_right (n := 2) (by decide) (show k ≤ 7 by omega)
    have e1 : evSs T C (.cons (.set 1 (.bin .add (.var 1) (.lc (.seq (.var 1)) (.one 4) [4] .nil (.bin .add (.var 4) (.tup (.cons (.var 2) .nil)))))) .nil) [e0, some (.val (.lst (L.map S))), some (.val (.int k)), e3, e4] h = .ok (.nx [e0, some (.val (.lst ((L ++ L.map (· + 2 ^ k)).map S))), some (.val (.int k)), e3, e4]) h := by
     refine sq (b_set (b_bin (y := .lst ((L.map (· + 2 ^ k)).map S)) (z := .lst ((L ++ L.map (· + 2 ^ k)).map S)) rfl (bp rfl ?_) ?_)) rfl
     · rw [List.map_map]
       refine b_lcM (l := L) S (fun b => S (b + 2 ^ k)) rfl (fun b hm => ⟨_, rfl, b_bin rfl (bp rfl rfl) ?_⟩) (by rw [hL]; exact Nat.le_trans hp (by decide))
       show (if ((sl7 b).map D.int).length + [D.int (k : Int)].length ≤ lim then some (D.tup ((sl7 b).map D.int ++ [D.int (k : Int)])) else none) = _
       rw [if_pos]
       · unfold S
         rw [sl7_snoc (by omega) (hb b hm), List.map_append]
         rfl
       · rw [List.length_map]
         have := sl7_len b
         unfold lim
         show _ + 1 ≤ _
         omega
     · show (if (L.map S).length + ((L.map (· + 2 ^ k)).map S).length ≤ lim then some (D.lst (L.map S ++ (L.map (· + 2 ^ k)).map S)) else none) = _
       rw [if_pos, List.map_append]
       rw [List.length_map, List.length_map, List.length_map, hL]
       unfold lim
       omega
    exact loopF_cons e1 q
theorem L_every [Has B 25 fd__law_every_set] (j : Nat) {n : Nat} (hn : n ≤ 7) (h : MH) : ∃ L : List Nat, (lv B (j + 1)).fn 25 [.int n] h = .ok (.lst (L.map S)) h ∧ L.length = 2 ^ n ∧ ∀ b ∈ L, b < 2 ^ n := by
  obtain ⟨L, e2, e3, e4, q, hL, hb⟩ := every_loop (T := B.ct) (C := lv B j) (h := h) (e0 := some (.val (.int n))) n 0 [0] none none none (by omega) rfl (fun b hb => by
    rw [List.mem_singleton] at hb
    subst hb
    decide)
  rw [Nat.zero_add] at hL hb
  have hp : 2 ^ n ≤ 128 := Nat.pow_le_pow_right (n := 2) (by decide) hn
  obtain ⟨L', e, hL', hm⟩ := sort_P2 L
  refine ⟨L', (fn_lv j _ h).trans (run_rt rfl (sq (b_set rfl) (sq (b_for (i_rng rfl (by omega)) q) (sq_rt (b_ret (b_lcM (l := L') P2 S ?_ (fun b hb => ⟨_, rfl, rfl⟩) ?_)))))), by rw [hL', hL], fun b hb' => hb b (hm b hb')⟩
  · have e5 : evE B.ct (lv B j) (.lc (.seq (.var 1)) (.one 4) [4] .nil (.tup (.cons (.blt .len (.cons (.var 4) .nil)) (.cons (.var 4) .nil)))) [some (.val (.int n)), some (.val (.lst (L.map S))), e2, e3, e4] h = .ok (.lst (L.map P2)) h := by
      refine b_lcM (l := L) S P2 rfl (fun b hb => ⟨_, rfl, ?_⟩) (by rw [hL]; exact Nat.le_trans hp (by decide))
      show Out.ok (D.tup [.int ((((sl7 b).map D.int).length : Nat) : Int), S b]) h = _
      rw [List.length_map]
      rfl
    have e6 : bltD .sorted [.lst (L.map P2)] = some (.lst (L'.map P2)) := by
      show (if cmpb (L.map P2) then some (D.lst (sortd (L.map P2))) else none) = _
      rw [if_pos (cmpb_P2 (by rw [hL]; omega)), e]
    show evI B.ct (lv B j) true (.seq (.blt .sorted _)) _ h = _
    unfold evI
    rw [if_pos rfl, bor_plain rfl, b_blt1 rfl e5 e6]
    rfl
  · rw [hL', hL]
    exact Nat.le_trans hp (by decide)
end
end Mi
/-! MiP9: drawn sets, drawn rows. -/
namespace Mi
open PySem

theorem Pen.of {h : MH} {n m : Nat} {o : MO} (hn : n < h.length) (p : PenV m o) : Pen (h.set n o) n m :=
  ⟨o, by rw [List.getElem?_set, if_pos rfl, if_pos hn], p⟩
theorem Pen.lt {h : MH} {n m : Nat} (p : Pen h n m) : n < h.length := (List.getElem?_eq_some_iff.mp p.choose_spec.1).1
theorem set_set {h : MH} {n : Nat} {o o' : MO} : (h.set n o).set n o' = h.set n o' := List.set_set ..
theorem PenV.mono {m m' : Nat} {o : MO} (p : PenV m o) (h : m ≤ m') : PenV m' o := by
  obtain ⟨a, b, c, e, hb, hc⟩ := p
  exact ⟨a, b, c, e, hb, by omega⟩
/-- the pen at n may be moved on by at most q -/
def Mv (n m : Nat) (h h' : MH) : Prop := ∃ o, h' = h.set n o ∧ PenV m o
theorem Mv.pen {n m : Nat} {h h' : MH} (v : Mv n m h h') (hn : n < h.length) : Pen h' n m := by
  obtain ⟨o, rfl, p⟩ := v
  exact .of hn p
theorem Mv.len {n m : Nat} {h h' : MH} (v : Mv n m h h') : h'.length = h.length := by
  obtain ⟨o, rfl, _⟩ := v
  exact List.length_set
theorem Mv.trans {n m m' : Nat} {h h1 h2 : MH} (v : Mv n m h h1) (w : Mv n m' h1 h2) : Mv n m' h h2 := by
  obtain ⟨o, rfl, _⟩ := v
  obtain ⟨o', rfl, p⟩ := w
  exact ⟨o', set_set, p⟩
theorem Mv.mono {n m m' : Nat} {h h1 : MH} (v : Mv n m h h1) (hm : m ≤ m') : Mv n m' h h1 := by
  obtain ⟨o, e, p⟩ := v
  exact ⟨o, e, p.mono hm⟩
theorem Pen.mono {n m m' : Nat} {h : MH} (p : Pen h n m) (hm : m ≤ m') : Pen h n m' := by
  obtain ⟨o, e, q⟩ := p
  exact ⟨o, e, q.mono hm⟩
theorem Mv.refl {n m : Nat} {h : MH} (p : Pen h n m) : Mv n m h h := by
  obtain ⟨o, e, q⟩ := p
  refine ⟨o, ?_, q⟩
  obtain ⟨hn, e2⟩ := List.getElem?_eq_some_iff.mp e
  rw [← e2, List.set_getElem_self]
theorem bits_of_p (p : Nat → Bool) : ∀ n : Nat, ∃ b, b < 2 ^ n ∧ ∀ i, i < n → b.testBit i = p i
  | 0 => ⟨0, by decide, fun i hi => by omega⟩
  | n + 1 => by
    obtain ⟨b, hb, q⟩ := bits_of_p p n
    have h0 : b.testBit n = false := ltnat hb (Nat.le_refl n)
    cases hp : p n with
    | false =>
      refine ⟨b, by rw [Nat.pow_succ]; omega, fun i hi => ?_⟩
      by_cases e : i = n
      · rw [e, h0, hp]
      · exact q i (by omega)
    | true =>
      refine ⟨2 ^ n + b, by rw [Nat.pow_succ]; omega, fun i hi => ?_⟩
      by_cases e : i = n
      · rw [e, Nat.testBit_two_pow_add_eq, h0, hp]
        rfl
      · rw [Nat.testBit_two_pow_add_gt (by omega)]
        exact q i (by omega)
theorem b_lcR {T : CT} {C : Cl} {h h1 h2 : MH} {env : Env} {it : MI} {tg : Tg} {wp : List Nat} {ts : MA} {e : ME} {xs ys : List D} (e1 : evI T C true it env h = .ok xs h1)
    (e2 : loopC (fun x h => match bindT tg x (wipeE env wp) with
      | some en => (evTs T C ts en h).bd fun k h => if k then (evE T C e en h).bd fun y h => .ok (some y) h else .ok none h
      | none => .no) xs h1 = .ok ys h2) (hl : ys.length ≤ lim) : evE T C (.lc it tg wp ts e) env h = .ok (.lst ys) h2 := by
  unfold evE
  rw [e1, bd_ok]
  refine Eq.trans (congrArg (fun o => Out.bd o fun ys h => if ys.length ≤ lim then Out.ok (D.lst ys) h else Out.no) e2) ?_
  show (if ys.length ≤ lim then Out.ok (D.lst ys) h2 else Out.no) = _
  rw [if_pos hl]
section
variable {B : Tb} {h : MH}
theorem L_drawM [Has B 18 fd__law_draw] (j : Nat) {n m k : Nat} (p : Pen h n m) (hm : m < 1000000000) (hk : 0 < k) (hk2 : k < 1000000) :
    ∃ (d : Nat) (h' : MH), (lv B (j + 1)).fn 18 [.ref n, .int k] h = .ok (.int d) h' ∧ d < k ∧ Mv n (m + 1) h h' := by
  obtain ⟨d, o, e, hd, po⟩ := L_draw (B := B) j p hm hk hk2
  exact ⟨d, _, e, hd, o, rfl, po⟩
theorem lset_loop [Has B 18 fd__law_draw] (j : Nat) {n : Nat} (e1 : Option SV) : ∀ (l : List Nat) (m : Nat) (h : MH), l.Nodup → Pen h n m → m + l.length < 1000000000 → ∃ (p : Nat → Bool) (h' : MH), loopC (fun x h => match bindT (.one 2) x (wipeE [some (.val (.ref n)), e1, none] [2]) with
    | some en => (evTs B.ct (lv B (j + 1)) (.cons (.cmp .eq (.call 18 (.cons (.var 0) (.cons (.con (.int 2)) .nil))) (.con (.int 1))) .nil) en h).bd fun k h => if k then (evE B.ct (lv B (j + 1)) (.var 2) en h).bd fun y h => .ok (some y) h else .ok none h
    | none => .no) (l.map fun (i : Nat) => .int (i : Int)) h = .ok ((l.filter p).map fun (i : Nat) => .int (i : Int)) h' ∧ Mv n (m + l.length) h h'
  | [], m, h, _, pn, _ => ⟨fun _ => false, h, rfl, .refl pn⟩
  | i :: r, m, h, nd, pn, hm => by
    rw [List.length_cons] at hm
    rw [List.nodup_cons] at nd
    obtain ⟨d, h1, e, hd, v1⟩ := L_drawM (B := B) j pn (by omega) (k := 2) (by decide) (by decide)
    obtain ⟨p, h2, q, v2⟩ := lset_loop j e1 r (m + 1) h1 nd.2 (v1.pen pn.lt) (by omega)
    have et : evTs B.ct (lv B (j + 1)) (.cons (.cmp .eq (.call 18 (.cons (.var 0) (.cons (.con (.int 2)) .nil))) (.con (.int 1))) .nil) [some (.val (.ref n)), e1, some (.val (.int (i : Int)))] h = .ok (decide (d = 1)) h1 :=
      ts_one (b_test rfl (b_cmp (bp rfl (b_call (a_cons rfl (a_cons rfl a_nil)) e)) rfl (eq_int d 1)) rfl)
    refine ⟨fun k => if k = i then decide (d = 1) else p k, h2, ?_, ?_⟩
    · have ef : (i :: r).filter (fun k => if k = i then decide (d = 1) else p k) = (if decide (d = 1) then [i] else []) ++ r.filter p := by
        rw [List.filter_cons]
        have e2 : r.filter (fun k => if k = i then decide (d = 1) else p k) = r.filter p := List.filter_congr fun k hk => if_neg fun (z : k = i) => nd.1 (z ▸ hk)
        rw [e2, if_pos rfl]
        cases decide (d = 1) <;> rfl
      rw [ef]
      unfold loopC
      show (Out.bd (evTs B.ct (lv B (j + 1)) _ [some (.val (.ref n)), e1, some (.val (.int (i : Int)))] h) _).bd _ = _
      rw [et, bd_ok]
      cases decide (d = 1) with
      | true =>
        rw [if_pos rfl]
        show (loopC _ (r.map fun (i : Nat) => D.int (i : Int)) h1).bd _ = _
        rw [q]
        rfl
      | false =>
        rw [if_neg (by decide)]
        show (loopC _ (r.map fun (i : Nat) => D.int (i : Int)) h1).bd _ = _
        rw [q]
        rfl
    · rw [List.length_cons]
      exact (v1.trans v2).mono (by omega)
theorem L_lset [Has B 18 fd__law_draw] [Has B 19 fd__law_set] (j : Nat) {n m k : Nat} (p : Pen h n m) (hm : m < 900000000) (hk : k ≤ 7) :
    ∃ (b : Nat) (h' : MH), (lv B (j + 2)).fn 19 [.ref n, .int k] h = .ok (S b) h' ∧ b < 2 ^ k ∧ Mv n (m + 7) h h' := by
  obtain ⟨f, h', q, v⟩ := lset_loop (B := B) j (n := n) (some (.val (.int k))) (List.range' 0 k) m h List.nodup_range' p (by rw [List.length_range']; omega)
  rw [List.length_range'] at v
  obtain ⟨b, hb, hf⟩ := bits_of_p f k
  refine ⟨b, h', (fn_lv (j + 1) _ h).trans (run_rt rfl (sq_rt (b_ret (b_blt1 rfl (x := .lst ((sl7 b).map D.int)) ?_ rfl)))), hb, v.mono (by omega)⟩
  have e : (List.range' 0 k).filter f = (List.range' 0 k).filter fun i => b.testBit i := List.filter_congr fun i hi => (hf i (by have := List.mem_range'_1.mp hi; omega)).symm
  have hr : evI B.ct (lv B (j + 1)) true (.rng (.var 1)) [some (.val (.ref n)), some (.val (.int k)), none] h = .ok ((List.range' 0 k).map fun (i : Nat) => .int (i : Int)) h := by
    have := i_rng (T := B.ct) (C := lv B (j + 1)) (b := true) (a := .var 1) (n := k) (env := [some (.val (.ref n)), some (.val (.int k)), none]) (h := h) rfl (by omega)
    rw [List.map_map] at this
    exact this
  rw [e] at q
  have el : ((List.range' 0 k).filter fun i => b.testBit i).map (fun (i : Nat) => D.int (i : Int)) = (sl7 b).map D.int := by
    rw [sl7_of hk hb, List.map_map]
    rfl
  rw [el] at q
  refine b_lcR hr q ?_
  rw [List.length_map]
  exact Nat.le_trans (sl7_len b) (by decide)
end
end Mi
/-! MiP10: the rows that the law draws. -/
namespace Mi
open PySem

def nthS : MSs → Nat → MS
  | .nil, _ => .pass
  | .cons s _, 0 => s
  | .cons _ r, n + 1 => nthS r n
def forB : MS → MSs
  | .for _ _ b => b
  | _ => .nil
theorem S_pow {k : Nat} (hk : k < 7) : S (2 ^ k) = .tup [.int (k : Int)] := by
  have e := sl7_snoc hk (Nat.two_pow_pos k)
  rw [Nat.zero_add] at e
  unfold S
  rw [e]
  rfl
theorem S_two {d e : Nat} (hd : d < e) (he : e < 7) : S (2 ^ d + 2 ^ e) = .tup [.int (d : Int), .int (e : Int)] := by
  have h1 := sl7_snoc he (Nat.pow_lt_pow_right (a := 2) (by decide) hd)
  have h2 := sl7_snoc (show d < 7 by omega) (Nat.two_pow_pos d)
  rw [Nat.zero_add] at h2
  unfold S
  rw [h1, h2]
  rfl
theorem sort_two (a b : Int) : sortd [.int a, .int b] = if a ≤ b then [.int a, .int b] else [.int b, .int a] := by
  have e : PySem.W.dataLe false D.py (.int a) (.int b) = decide (a ≤ b) := by
    rw [PySem.W.dataLe_eq]
    show (!PySem.W.dataLt (.int b) (.int a)) = _
    rw [PySem.W.dataLt_int, Bool.eq_iff_iff, Bool.not_eq_true', decide_eq_false_iff_not, decide_eq_true_iff]
    omega
  unfold sortd
  simp only [List.mergeSort, List.MergeSort.Internal.splitInTwo, List.splitAt, List.splitAt.go, List.merge]
  simp [List.splitAt, List.splitAt.go, List.mergeSort, List.merge, e]
theorem cmpb_two (a b : Int) : cmpb [.int a, .int b] = true := by
  simp [cmpb, okN, D.py, PySem.W.alike, isTup1, notTN, lim]
section
variable {T : CT} {C : Cl} {h h1 : MH} {env : Env}
theorem b_and {a b : ME} {k : Bool} {o : Out D} (e1 : evE T C a env h = .ok (.bl k) h1) (e2 : (if k then evE T C b env h1 else .ok (.bl false) h1) = o) : evE T C (.and a b) env h = o := by
  unfold evE
  rw [e1, bd_ok]
  cases k <;> exact e2
theorem b_ite {t a b : ME} {k : Bool} {o : Out D} (e1 : evT T C t env h = .ok k h1) (e2 : (if k then evE T C a env h1 else evE T C b env h1) = o) : evE T C (.ite t a b) env h = o := by
  unfold evE
  have e0 : tru (bor env t h (evE T C t env h)) = .ok k h1 := e1
  rw [e0, bd_ok]
  exact e2
theorem b_app {s : Nat} {e : ME} {x : D} {xs : List D} (e1 : evE T C e env h = .ok x h1) (e2 : env[s]? = some (some (.own (.lst xs)))) (hl : xs.length < 1000000) : evS T C (.app s e) env h = .ok (.nx (env.set s (some (.own (.lst (xs ++ [x])))))) h1 := by
  unfold evS
  rw [e1, bd_ok, e2]
  exact if_pos hl
end
def rowsBody : MSs := forB (nthS fd__law_rows.body 1)
section
variable {B : Tb} {h : MH}
theorem if_way {T : CT} {C : Cl} {env : Env} {w k : Nat} (hv : env[(2 : Nat)]? = some (some (.val (.int (w : Int))))) : evE T C (.cmp .eq (.var 2) (.con (.int k))) env h = .ok (.bl (decide (w = k))) h := by
  have e : evE T C (.var 2) env h = .ok (.int (w : Int)) h := by
    unfold evE
    simp only [hv]
  refine b_cmp (x := .int (w : Int)) ?_ rfl (eq_int w k)
  unfold bor
  simp only [hv]
  exact e
theorem rows_if1 [Has B 18 fd__law_draw] (j : Nat) {n m k d w : Nat} {e3 e4 e6 : Option SV} (p : Pen h n m) (hm : m < 900000000) (hk : k ≤ 7) (hd : d < k) : ∃ (c : Nat) (h' : MH), evS B.ct (lv B (j + 1)) (nthS rowsBody 1) [some (.val (.ref n)), some (.val (.int k)), some (.val (.int w)), e3, e4, some (.val (S (2 ^ d))), e6] h = .ok (.nx [some (.val (.ref n)), some (.val (.int k)), some (.val (.int w)), e3, e4, some (.val (S c)), e6]) h' ∧ c < 2 ^ k ∧ (w = 2 → c = 2 ^ d) ∧ Mv n (m + 1) h h' := by
  have hdk : 2 ^ d < 2 ^ k := Nat.pow_lt_pow_right (by decide) hd
  by_cases hw : w = 1
  · subst hw
    obtain ⟨x, h1, ex, _, v⟩ := L_drawM (B := B) j p (by omega) (k := 3) (by decide) (by decide)
    have et := b_test (T := B.ct) (C := lv B (j + 1)) (t := .and (.cmp .eq (.var 2) (.con (.int 1))) (.cmp .eq (.call 18 (.cons (.var 0) (.cons (.con (.int 3)) .nil))) (.con (.int 0)))) (env := [some (.val (.ref n)), some (.val (.int k)), some (.val (.int (1 : Nat))), e3, e4, some (.val (S (2 ^ d))), e6]) (h := h) rfl (b_and (if_way (w := 1) (k := 1) rfl) (b_cmp (bp rfl (b_call (a_cons rfl (a_cons rfl a_nil)) ex)) rfl (eq_int x 0))) rfl
    by_cases hx : x = 0
    · refine ⟨0, h1, b_if et (by rw [if_pos (decide_eq_true hx)]; exact sq (b_set rfl) rfl), Nat.two_pow_pos k, fun z => by omega, v⟩
    · refine ⟨2 ^ d, h1, b_if et (by rw [if_neg (by simpa using hx)]; rfl), hdk, fun _ => rfl, v⟩
  · have et := b_test (T := B.ct) (C := lv B (j + 1)) (t := .and (.cmp .eq (.var 2) (.con (.int 1))) (.cmp .eq (.call 18 (.cons (.var 0) (.cons (.con (.int 3)) .nil))) (.con (.int 0)))) (env := [some (.val (.ref n)), some (.val (.int k)), some (.val (.int w)), e3, e4, some (.val (S (2 ^ d))), e6]) (h := h) (x := .bl false) rfl (b_and (if_way (w := w) (k := 1) rfl) (by rw [decide_eq_false hw]; rfl)) rfl
    exact ⟨2 ^ d, h, b_if et rfl, hdk, fun _ => rfl, (Mv.refl p).mono (by omega)⟩
theorem in_pow {d e : Nat} (hd : d < 7) : inD (.int (e : Int)) (S (2 ^ d)) = some (decide (e = d)) := by
  rw [in_S]
  congr 1
  rw [Bool.eq_iff_iff, decide_eq_true_iff, decide_eq_true_iff, mem_sl7]
  constructor
  · rintro ⟨k, h1, h2, h3⟩
    rw [Nat.testBit_two_pow] at h2
    have := of_decide_eq_true h2
    omega
  · rintro rfl
    exact ⟨e, hd, by rw [Nat.testBit_two_pow_self], rfl⟩
theorem rows_if2 [Has B 18 fd__law_draw] (j : Nat) {n m k c d w : Nat} {e3 e4 e6 : Option SV} (p : Pen h n m) (hm : m < 900000000) (hk : k ≤ 7) (hd : d < k) (hc : c < 2 ^ k) (hcw : w = 2 → c = 2 ^ d) : ∃ (c' : Nat) (h' : MH) (e6' : Option SV), evS B.ct (lv B (j + 1)) (nthS rowsBody 2) [some (.val (.ref n)), some (.val (.int k)), some (.val (.int w)), e3, e4, some (.val (S c)), e6] h = .ok (.nx [some (.val (.ref n)), some (.val (.int k)), some (.val (.int w)), e3, e4, some (.val (S c')), e6']) h' ∧ c' < 2 ^ k ∧ Mv n (m + 2) h h' := by
  by_cases hw : w = 2
  · have hc := hcw hw
    subst hw
    subst hc
    obtain ⟨x, h1, ex, _, v⟩ := L_drawM (B := B) j p (by omega) (k := 2) (by decide) (by decide)
    have et := b_test (T := B.ct) (C := lv B (j + 1)) (t := .and (.cmp .eq (.var 2) (.con (.int 2))) (.cmp .eq (.call 18 (.cons (.var 0) (.cons (.con (.int 2)) .nil))) (.con (.int 0)))) (env := [some (.val (.ref n)), some (.val (.int k)), some (.val (.int (2 : Nat))), e3, e4, some (.val (S (2 ^ d))), e6]) (h := h) rfl (b_and (if_way (w := 2) (k := 2) rfl) (b_cmp (bp rfl (b_call (a_cons rfl (a_cons rfl a_nil)) ex)) rfl (eq_int x 0))) rfl
    by_cases hx : x = 0
    · obtain ⟨e, h2, ee, he, v2⟩ := L_drawM (B := B) (h := h1) j (v.pen p.lt) (by omega) (k := k) (by omega) (by omega)
      have ein := b_test (T := B.ct) (C := lv B (j + 1)) (t := .cmp .isin (.var 6) (.var 5)) (env := [some (.val (.ref n)), some (.val (.int k)), some (.val (.int (2 : Nat))), e3, e4, some (.val (S (2 ^ d))), some (.val (.int e))]) (h := h2) rfl (b_cmp rfl rfl (in_pow (e := e) (show d < 7 by omega))) rfl
      have ev : ∃ c', c' < 2 ^ k ∧ evE B.ct (lv B (j + 1)) (.ite (.cmp .isin (.var 6) (.var 5)) (.var 5) (.blt .tuple (.cons (.blt .sorted (.cons (.bin .add (.var 5) (.tup (.cons (.var 6) .nil))) .nil)) .nil))) [some (.val (.ref n)), some (.val (.int k)), some (.val (.int (2 : Nat))), e3, e4, some (.val (S (2 ^ d))), some (.val (.int e))] h2 = .ok (S c') h2 := by
        by_cases hed : e = d
        · exact ⟨2 ^ d, hc, b_ite ein (by rw [decide_eq_true hed]; rfl)⟩
        · have eadd : evE B.ct (lv B (j + 1)) (.bin .add (.var 5) (.tup (.cons (.var 6) .nil))) [some (.val (.ref n)), some (.val (.int k)), some (.val (.int (2 : Nat))), e3, e4, some (.val (S (2 ^ d))), some (.val (.int e))] h2 = .ok (.tup [.int (d : Int), .int (e : Int)]) h2 := by
            rw [S_pow (show d < 7 by omega)]
            rfl
          have hlt : 2 ^ d + 2 ^ e < 2 ^ k := by
            obtain ⟨k', rfl⟩ : ∃ k', k = k' + 1 := ⟨k - 1, by omega⟩
            rw [Nat.pow_succ]
            have h3 : 2 ^ d ≤ 2 ^ k' := Nat.pow_le_pow_right (by decide) (by omega)
            have h4 : 2 ^ e ≤ 2 ^ k' := Nat.pow_le_pow_right (by decide) (by omega)
            rcases Nat.lt_or_gt_of_ne hed with z | z
            · have : 2 ^ e < 2 ^ d := Nat.pow_lt_pow_right (by decide) z
              omega
            · have : 2 ^ d < 2 ^ e := Nat.pow_lt_pow_right (by decide) z
              omega
          refine ⟨2 ^ d + 2 ^ e, hlt, b_ite ein ?_⟩
          rw [decide_eq_false hed, if_neg (by decide)]
          have es : bltD .sorted [.tup [.int (d : Int), .int (e : Int)]] = some (.lst (sortd [.int (d : Int), .int (e : Int)])) := by
            show (if cmpb [.int (d : Int), .int (e : Int)] then some (D.lst (sortd [.int (d : Int), .int (e : Int)])) else none) = _
            rw [if_pos (cmpb_two _ _)]
          refine b_blt1 rfl (b_blt1 rfl eadd es) ?_
          show some (D.tup (sortd [.int (d : Int), .int (e : Int)])) = _
          rw [sort_two]
          rcases Nat.lt_or_gt_of_ne hed with z | z
          · rw [if_neg (by omega), Nat.add_comm, S_two z (by omega)]
          · rw [if_pos (by omega), S_two z (by omega)]
      obtain ⟨c', hc', ev⟩ := ev
      refine ⟨c', h2, some (.val (.int e)), b_if et ?_, hc', (v.trans v2).mono (by omega)⟩
      rw [if_pos (decide_eq_true hx)]
      exact sq (b_set (b_call (a_cons rfl (a_cons rfl a_nil)) ee)) (sq (b_set ev) rfl)
    · exact ⟨2 ^ d, h1, e6, b_if et (by rw [if_neg (by simpa using hx)]; rfl), hc, v.mono (by omega)⟩
  · have et := b_test (T := B.ct) (C := lv B (j + 1)) (t := .and (.cmp .eq (.var 2) (.con (.int 2))) (.cmp .eq (.call 18 (.cons (.var 0) (.cons (.con (.int 2)) .nil))) (.con (.int 0)))) (env := [some (.val (.ref n)), some (.val (.int k)), some (.val (.int w)), e3, e4, some (.val (S c)), e6]) (h := h) (x := .bl false) rfl (b_and (if_way (w := w) (k := 2) rfl) (by rw [decide_eq_false hw]; rfl)) rfl
    exact ⟨c, h, e6, b_if et rfl, hc, (Mv.refl p).mono (by omega)⟩
theorem rows_iter [Has B 18 fd__law_draw] [Has B 19 fd__law_set] (j : Nat) {n m k w : Nat} {bs : List Nat} {e4 e5 e6 : Option SV} (p : Pen h n m) (hm : m < 800000000) (hk0 : 0 < k) (hk : k ≤ 7) (hl : bs.length < 1000000) : ∃ (c : Nat) (h' : MH) (e5' e6' : Option SV), evSs B.ct (lv B (j + 2)) rowsBody [some (.val (.ref n)), some (.val (.int k)), some (.val (.int w)), some (.own (.lst (bs.map S))), e4, e5, e6] h = .ok (.nx [some (.val (.ref n)), some (.val (.int k)), some (.val (.int w)), some (.own (.lst ((bs ++ [c]).map S))), e4, e5', e6']) h' ∧ c < 2 ^ k ∧ Mv n (m + 12) h h' := by
  obtain ⟨d, h1, ed, hd, v1⟩ := L_drawM (B := B) (j + 1) p (by omega) (k := k) hk0 (by omega)
  obtain ⟨c1, h2, s1, hc1, hw1, v2⟩ := rows_if1 (B := B) (h := h1) (j + 1) (k := k) (d := d) (w := w) (e3 := some (.own (.lst (bs.map S)))) (e4 := e4) (e6 := e6) (v1.pen p.lt) (by omega) hk hd
  have p2 := v2.pen (v1.pen p.lt).lt
  obtain ⟨c2, h3, e6', s2, hc2, v3⟩ := rows_if2 (B := B) (h := h2) (j + 1) (k := k) (d := d) (w := w) (e3 := some (.own (.lst (bs.map S)))) (e4 := e4) (e6 := e6) p2 (by omega) hk hd hc1 hw1
  have p3 := v3.pen p2.lt
  have v13 := (v1.trans v2).trans v3
  have ew := b_test (T := B.ct) (C := lv B (j + 2)) (t := .cmp .eq (.var 2) (.con (.int 3))) (env := [some (.val (.ref n)), some (.val (.int k)), some (.val (.int w)), some (.own (.lst (bs.map S))), e4, some (.val (S c2)), e6']) (h := h3) rfl (if_way (w := w) (k := 3) rfl) rfl
  have last : ∃ (c : Nat) (h4 : MH), evE B.ct (lv B (j + 2)) (.ite (.cmp .eq (.var 2) (.con (.int 3))) (.call 19 (.cons (.var 0) (.cons (.var 1) .nil))) (.var 5)) [some (.val (.ref n)), some (.val (.int k)), some (.val (.int w)), some (.own (.lst (bs.map S))), e4, some (.val (S c2)), e6'] h3 = .ok (S c) h4 ∧ c < 2 ^ k ∧ Mv n (m + 12) h3 h4 := by
    by_cases hw : w = 3
    · obtain ⟨b, h4, eb, hb, v4⟩ := L_lset (B := B) (h := h3) j p3 (by omega) hk
      exact ⟨b, h4, b_ite ew (by rw [decide_eq_true hw, if_pos rfl]; exact b_call (a_cons rfl (a_cons rfl a_nil)) eb), hb, v4.mono (by omega)⟩
    · exact ⟨c2, h3, b_ite ew (by rw [decide_eq_false hw]; rfl), hc2, (Mv.refl p3).mono (by omega)⟩
  obtain ⟨c, h4, el, hc, v4⟩ := last
  refine ⟨c, h4, some (.val (S c2)), e6', ?_, hc, (v13.trans v4)⟩
  have eS : evE B.ct (lv B (j + 2)) (.tup (.cons (.call 18 (.cons (.var 0) (.cons (.var 1) .nil))) .nil)) [some (.val (.ref n)), some (.val (.int k)), some (.val (.int w)), some (.own (.lst (bs.map S))), e4, e5, e6] h = .ok (S (2 ^ d)) h1 := by
    rw [S_pow (show d < 7 by omega)]
    unfold evE
    rw [show evA B.ct (lv B (j + 2)) (.cons (.call 18 (.cons (.var 0) (.cons (.var 1) .nil))) .nil) [some (.val (.ref n)), some (.val (.int k)), some (.val (.int w)), some (.own (.lst (bs.map S))), e4, e5, e6] h = .ok [.int d] h1 from a_cons (b_call (a_cons rfl (a_cons rfl a_nil)) ed) a_nil]
    rfl
  have ea := b_app (s := 3) el (xs := bs.map S) rfl (by rw [List.length_map]; exact hl)
  rw [← List.map_singleton (f := S), ← List.map_append] at ea
  exact sq (b_set eS) (sq s1 (sq s2 (sq ea rfl)))
theorem rows_loop [Has B 18 fd__law_draw] [Has B 19 fd__law_set] (j : Nat) {n k w : Nat} (hk0 : 0 < k) (hk : k ≤ 7) : ∀ (l : List Int) (m : Nat) (h : MH) (bs : List Nat) (e4 e5 e6 : Option SV), Pen h n m → m + 12 * l.length < 800000000 → bs.length + l.length < 1000000 → (∀ b ∈ bs, b < 2 ^ k) →
    ∃ (cs : List Nat) (h' : MH) (e4' e5' e6' : Option SV), loopF (fun x en h => match bindT (.one 4) x en with
      | some en => evSs B.ct (lv B (j + 2)) rowsBody en h
      | none => .no) (l.map D.int) [some (.val (.ref n)), some (.val (.int k)), some (.val (.int w)), some (.own (.lst (bs.map S))), e4, e5, e6] h = .ok (.nx [some (.val (.ref n)), some (.val (.int k)), some (.val (.int w)), some (.own (.lst (cs.map S))), e4', e5', e6']) h' ∧ cs.length = bs.length + l.length ∧ (∀ b ∈ cs, b < 2 ^ k) ∧ Mv n (m + 12 * l.length) h h'
  | [], m, h, bs, e4, e5, e6, p, _, _, hb => ⟨bs, h, e4, e5, e6, rfl, rfl, hb, .refl p⟩
  | i :: r, m, h, bs, e4, e5, e6, p, hm, hl, hb => by
    rw [List.length_cons] at hm hl
    obtain ⟨c, h1, e5', e6', e1, hc, v1⟩ := rows_iter (B := B) (h := h) j (w := w) (bs := bs) (e4 := some (.val (.int i))) (e5 := e5) (e6 := e6) p (by omega) hk0 hk (by omega)
    obtain ⟨cs, h2, f4, f5, f6, e2, hl2, hb2, v2⟩ := rows_loop j (w := w) hk0 hk r (m + 12) h1 (bs ++ [c]) (some (.val (.int i))) e5' e6' (v1.pen p.lt) (by omega) (by rw [List.length_append, List.length_singleton]; omega) (fun b hm => by
      rcases List.mem_append.mp hm with q | q
      · exact hb b q
      · rw [List.mem_singleton] at q
        subst q
        exact hc)
    refine ⟨cs, h2, f4, f5, f6, loopF_cons e1 e2, ?_, hb2, ?_⟩
    · rw [hl2, List.length_append, List.length_singleton, List.length_cons]
      omega
    · rw [List.length_cons]
      exact (v1.trans v2).mono (by omega)
theorem L_rows [Has B 18 fd__law_draw] [Has B 19 fd__law_set] [Has B 72 fd__law_rows] (j : Nat) {n m k : Nat} (p : Pen h n m) (hm : m < 700000000) (hk0 : 0 < k) (hk : k ≤ 7) :
    ∃ (bs : List Nat) (h' : MH), (lv B (j + 3)).fn 72 [.ref n, .int k] h = .ok (Rw bs) h' ∧ Rows k bs ∧ Mv n (m + 100) h h' := by
  obtain ⟨w, h1, ew, _, v1⟩ := L_drawM (B := B) (j + 1) p (by omega) (k := 4) (by decide) (by decide)
  obtain ⟨bs, h2, e4, e5, e6, q, hl, hb, v2⟩ := rows_loop (B := B) j (n := n) (k := k) (w := w) hk0 hk ((List.range' 0 k).map fun (i : Nat) => (i : Int)) (m + 1) h1 [] none none none (v1.pen p.lt) (by rw [List.length_map, List.length_range']; omega) (by rw [List.length_map, List.length_range']; show 0 + k < _; omega) (fun b hb => nomatch hb)
  rw [List.length_map, List.length_range'] at hl v2
  refine ⟨bs, h2, (fn_lv (j + 2) _ h).trans (run_rt rfl (sq (env1 := [some (.val (.ref n)), some (.val (.int k)), some (.val (.int w)), some (.own (.lst [])), none, none, none]) (h1 := h1) ?_ (sq (b_for (i_rng rfl (by omega)) q) (sq_rt (b_ret rfl))))), ⟨by rw [hl]; exact Nat.zero_add k, hk, hb⟩, (v1.trans v2).mono (by omega)⟩
  show evS B.ct (lv B (j + 2)) (.par _ _) _ h = _
  unfold evS
  rw [show evA B.ct (lv B (j + 2)) _ _ h = .ok [.int w, .lst []] h1 from a_cons (b_call (a_cons rfl (a_cons rfl a_nil)) ew) (a_cons rfl a_nil)]
  rfl
end
end Mi
/-! MiP11: sets and steps as texts. -/
namespace Mi
open PySem

def txr (r : Out D) : Str := match r with
  | .ok (.str s) _ => s
  | _ => ""
def T0 : CT := ⟨fun _ _ => none, fun _ _ => none, fun _ _ => false, fun _ => false, fun _ _ => false, fun _ _ => none, fun _ => false⟩
def C0 : Cl := ⟨fun _ _ _ => .no, fun _ _ _ => .no, fun _ _ _ _ _ => .no⟩
/-- the text of a set -/
def tx (b : Nat) : Str := txr (runF T0 C0 fd__law_set_text [S b] [])
def dg (k : Nat) : Str := Str.ofString (toString ((k : Nat) : Int))
def lab (k : Nat) : Str := dg k ++ (": " : Str)
def lineT (k b : Nat) : Str := lab k ++ tx b
section
variable {T : CT} {C C' : Cl} {h : MH}
theorem tx_run (b : Nat) (hb : b < 128) : runF T C fd__law_set_text [S b] h = .ok (.str (tx b)) h := by
  refine all2 (n := 128) (f := fun b => runF T C fd__law_set_text [S b] h) (g := fun b => .ok (.str (tx b)) h) ?_ b hb
  kernel_rfl
theorem tx_facts (b : Nat) (hb : b < 128) : (decide ((tx b).length ≤ 13) && (tx b).cps.toList.all (fun c => !(c == 10))) = true := by
  refine all2 (n := 128) (f := fun b => decide ((tx b).length ≤ 13) && (tx b).cps.toList.all (fun c => !(c == 10))) (g := fun _ => true) ?_ b hb
  kernel_rfl
theorem lab_facts (k : Nat) (hk : k < 7) : ((dg k).length == 1 && ((lab k).length == 3 && (lab k).cps.toList.all (fun c => !(c == 10)))) = true := by
  refine all2 (n := 7) (f := fun k => ((dg k).length == 1 && ((lab k).length == 3 && (lab k).cps.toList.all (fun c => !(c == 10))))) (g := fun _ => true) ?_ k hk
  kernel_rfl
theorem line_facts (k b : Nat) (hk : k < 7) (hb : b < 128) : (Txt.startswith (lineT k b) (lab k) && decide (L2.cutS (lineT k b) (some 3) none = tx b)) = true := by
  have z := all2 (n := 896) (f := fun p => Txt.startswith (lineT (p / 128) (p % 128)) (lab (p / 128)) && decide (L2.cutS (lineT (p / 128) (p % 128)) (some 3) none = tx (p % 128))) (g := fun _ => true) (by kernel_rfl) (k * 128 + b) (by omega)
  have e1 : (k * 128 + b) / 128 = k := by omega
  have e2 : (k * 128 + b) % 128 = b := by omega
  simp only [e1, e2] at z
  exact z
/-- read_set, asking def 2 -/
def fdReadSet : FD := ⟨2, false, 4, .cons (.set 2 (.tup .nil)) (.cons (.ifs (.cmp .ne (.var 1) (.con (.str "-"))) (.cons (.for (.one 3) (.seq (.smeth .split (.var 1) (.cons (.con (.str " ")) .nil))) (.cons (.ifs (.or (.cmp .ne (.blt .len (.cons (.var 3) .nil)) (.con (.int 1))) (.cmp .notin (.var 3) (.con (.str "0123456")))) (.cons (.raise 2 (.cons (.con (.str "a state from 0 to 6")) .nil)) .nil) .nil) (.cons (.set 2 (.bin .add (.var 2) (.tup (.cons (.blt .int (.cons (.var 3) .nil)) .nil)))) .nil))) (.cons (.ifs (.or (.cmp .eq (.var 2) (.tup .nil)) (.not (.call 2 (.cons (.var 0) (.cons (.var 2) .nil))))) (.cons (.raise 2 (.cons (.con (.str "ascending states")) .nil)) .nil) .nil) .nil)) .nil) (.cons (.ret (.var 2)) .nil))⟩
end
end Mi
/-! MiP12: a step written down and read back. -/
namespace Mi
open PySem

/-- the lines of the rows from k on -/
def linesF (k : Nat) (bs : List Nat) : List Str := (enS k bs).map fun p => lineT p.1 p.2
theorem free10 {k b : Nat} (hk : k < 7) (hb : b < 128) : 10 ∉ TL.tl (lineT k b) := by
  have h1 := (ba2 (ba2 (lab_facts k hk)).2).2
  have h2 := (ba2 (tx_facts b hb)).2
  unfold lineT
  rw [TL.tl_append]
  intro hm
  rcases List.mem_append.mp hm with q | q
  · have := List.all_eq_true.mp h1 10 q
    cases this
  · have := List.all_eq_true.mp h2 10 q
    cases this
theorem len_line {k b : Nat} (hk : k < 7) (hb : b < 128) : (lineT k b).length ≤ 16 := by
  have h1 := (ba2 (ba2 (lab_facts k hk)).2).1
  have h2 := of_decide_eq_true (ba2 (tx_facts b hb)).1
  have h3 : (lab k).length = 3 := eq_of_beq h1
  unfold lineT
  rw [strLen_append, h3]
  omega
theorem tl_nl : TL.tl ("\n" : Str) = [10] := by decide +kernel
theorem len_tl (x : Str) : (TL.tl x).length = x.length := by
  show x.cps.toList.length = x.cps.size
  exact Array.length_toList
/-- each line with its line feed -/
theorem tl_lines : ∀ ls : List Str, TL.tl (Txt.join "" (ls.map fun l => l ++ ("\n" : Str))) = (ls.map fun l => TL.tl l ++ [10]).flatten
  | [] => by
    rw [TL.join_eq, TL.tl_join]
    rfl
  | [l] => by
    rw [TL.join_eq, TL.tl_join]
    show TL.tl (l ++ ("\n" : Str)) = (TL.tl l ++ [10]) ++ []
    rw [TL.tl_append, tl_nl, List.append_nil]
  | l :: m :: r => by
    have ih := tl_lines (m :: r)
    rw [TL.join_eq, TL.tl_join] at ih ⊢
    show TL.tl (l ++ ("\n" : Str)) ++ (TL.tl ("" : Str) ++ TL.joinL (TL.tl ("" : Str)) (((m :: r).map fun l => l ++ ("\n" : Str)).map TL.tl)) = _
    rw [ih, TL.tl_append, tl_nl]
    rfl
theorem flat_join : ∀ {ls : List Str}, ls ≠ [] → (ls.map fun l => TL.tl l ++ [10]).flatten = TL.joinL [10] (ls.map TL.tl) ++ [10]
  | [], h => absurd rfl h
  | [l], _ => by
    show (TL.tl l ++ [10]) ++ [] = TL.tl l ++ [10]
    rw [List.append_nil]
  | l :: m :: r, _ => by
    show (TL.tl l ++ [10]) ++ ((m :: r).map fun l => TL.tl l ++ [10]).flatten = (TL.tl l ++ ([10] ++ TL.joinL [10] ((m :: r).map TL.tl))) ++ [10]
    rw [flat_join (by simp : m :: r ≠ [])]
    simp [List.append_assoc]
theorem join_cut {ls : List Str} (hne : ls ≠ []) : Txt.endswith (Txt.join "" (ls.map fun l => l ++ ("\n" : Str))) "\n" = true ∧ L2.cutS (Txt.join "" (ls.map fun l => l ++ ("\n" : Str))) none (some (-1)) = Txt.join "\n" ls := by
  have e := (tl_lines ls).trans (flat_join hne)
  generalize Txt.join "" (ls.map fun l => l ++ ("\n" : Str)) = z at e ⊢
  have hl : z.length = (TL.joinL [10] (ls.map TL.tl)).length + 1 := by
    rw [← len_tl, e, List.length_append]
    rfl
  constructor
  · unfold Txt.endswith
    have h1 : ("\n" : Str).length = 1 := by decide +kernel
    rw [h1, hl]
    refine Bool.and_eq_true_iff.mpr ⟨decide_eq_true (by omega), ?_⟩
    unfold Builtin.Str.subAt
    rw [h1, beq_iff_eq]
    apply Array.toList_inj.mp
    rw [Array.toList_extract]
    show ((TL.tl z).extract _ _) = TL.tl ("\n" : Str)
    rw [e, tl_nl, List.extract_eq_drop_take]
    rw [show (TL.joinL [10] (ls.map TL.tl)).length + 1 - 1 = (TL.joinL [10] (ls.map TL.tl)).length by omega, List.drop_left]
    rw [show (TL.joinL [10] (ls.map TL.tl)).length + 1 - (TL.joinL [10] (ls.map TL.tl)).length = 1 by omega]
    rfl
  · apply TL.ext_tl
    rw [TL.join_eq, TL.tl_join, tl_nl]
    unfold L2.cutS
    show ((TL.tl z).drop 0).take ((if (-1 : Int) < 0 then ((-1 : Int) + (z.length : Int)).toNat else min (-1 : Int).toNat z.length) - 0) = _
    rw [List.drop_zero, if_pos (by decide), e, hl, Nat.sub_zero]
    rw [show ((-1 : Int) + (((TL.joinL [10] (ls.map TL.tl)).length + 1 : Nat) : Int)).toNat = (TL.joinL [10] (ls.map TL.tl)).length by omega, List.take_left]
theorem split_nl {ls : List Str} (hne : ls ≠ []) (h : ∀ l ∈ ls, 10 ∉ TL.tl l) : Txt.split (Txt.join "\n" ls) "\n" = ls :=
  TL.split_join (s := 10) (S := []) tl_nl (by decide +kernel) hne h
theorem linesF_mem {n : Nat} {bs : List Nat} (r : Rows n bs) : ∀ l ∈ linesF 0 bs, ∃ k b, l = lineT k b ∧ k < 7 ∧ b < 128 := fun l hl => by
  obtain ⟨p, hp, rfl⟩ := List.mem_map.mp hl
  obtain ⟨_, h2⟩ := enS_mem hp
  have h3 := (List.getElem?_eq_some_iff.mp h2).1
  have := r.len
  have := r.n7
  exact ⟨p.1, p.2, rfl, by omega, r.l128 (List.mem_of_getElem? h2)⟩
theorem linesF_len (k : Nat) (bs : List Nat) : (linesF k bs).length = bs.length := by
  unfold linesF
  rw [List.length_map, enS_len]
/-- the text of a step -/
def stepT (bs : List Nat) : Str := Txt.join "" ((linesF 0 bs).map fun l => l ++ ("\n" : Str))
theorem sum_le {l : List Nat} {c : Nat} (h : ∀ x ∈ l, x ≤ c) : l.sum ≤ l.length * c := by
  induction l with
  | nil => simp
  | cons x r ih =>
    have h1 := h x List.mem_cons_self
    have h2 := ih fun y hy => h y (List.mem_cons_of_mem _ hy)
    rw [List.sum_cons, List.length_cons, Nat.add_mul]
    omega
theorem len_nl (l : Str) : (l ++ ("\n" : Str)).length = l.length + 1 := by
  rw [strLen_append]
  rfl
section
variable {B : Tb} {T : CT} {C : Cl} {h : MH}
theorem strL_map (ls : List Str) : strL (ls.map D.str) = some ls := by
  induction ls with
  | nil => rfl
  | cons l r ih =>
    show (strL (r.map D.str)).map (l :: ·) = _
    rw [ih]
    rfl
end
end Mi
/-! MiP13: steps are made, read, asked. -/
namespace Mi
open PySem

class TC (T : CT) (c m : Nat) (f : outParam Nat) : Prop where
  e : T.cmeth c m = some (f, true)
section
variable {B : Tb} {T : CT} {C : Cl} {h : MH}
def rrBody : MSs := forB (nthS fd_read_rows.body 3)
/-- Step's __init__, asking def 2 -/
def fdStepI : FD := ⟨1, true, 3, .cons (.ifs (.or (.not (.cmp2 .le .le (.con (.int 1)) (.blt .len (.cons (.var 1) .nil)) (.glo "MOST" 7))) (.not (.blt .all (.cons (.lc (.seq (.var 1)) (.one 2) [2] .nil (.call 2 (.cons (.blt .len (.cons (.var 1) .nil)) (.cons (.var 2) .nil)))) .nil)))) (.cons (.raise 11 (.cons (.con (.str "a set of states for each of 1 to 7 states")) .nil)) .nil) .nil) (.cons (.pattr (.var 0) 26 27 (.lc (.seq (.var 1)) (.one 2) [2] .nil (.call 4 (.cons (.var 2) .nil))) (.tup .nil)) .nil)⟩
theorem blL_trues (l : List Nat) : blL (l.map fun _ => D.bl true) = some (l.map fun _ => true) := by
  induction l with
  | nil => rfl
  | cons a r ih =>
    show (blL (r.map fun _ => D.bl true)).map (true :: ·) = _
    rw [ih]
    rfl
theorem all_trues (l : List Nat) : (l.map fun _ => true).all id = true := List.all_eq_true.mpr fun x hx => by
  obtain ⟨_, _, rfl⟩ := List.mem_map.mp hx
  rfl
/-! ### what a step says -/
end
end Mi
/-! MiW: what holds behind a run; running by simp only [seval]. -/
namespace Mi
open PySem

/-- keeps simp out of what lies behind -/
structure Tq {α : Sort u} (Q : α) : Type where
def W {α : Type} (o : Out α) (Q : α → MH → Prop) (t : Tq Q := ⟨⟩) : Prop := match o with
  | .ok a h => Q a h
  | _ => False
theorem W_ok {α : Type} {a : α} {h : MH} {Q : α → MH → Prop} {t : Tq Q} : W (.ok a h) Q t = Q a h := rfl
theorem W_no {α : Type} {Q : α → MH → Prop} {t : Tq Q} : W .no Q t = False := rfl
theorem W_bd {α β : Type} {o : Out α} {f : α → MH → Out β} {Q : β → MH → Prop} {t : Tq Q} : W (o.bd f) Q t = W o fun a h => W (f a h) Q := by cases o <;> rfl
theorem W_ite {α : Type} {c : Prop} [Decidable c] {a b : Out α} {Q : α → MH → Prop} {t : Tq Q} : W (if c then a else b) Q t = if c then W a Q else W b Q := by split <;> rfl
theorem s_bd_ok {α β : Type} (a : α) (h : MH) (f : α → MH → Out β) : (Out.ok a h).bd f = f a h := rfl
theorem s_bd_no {α β : Type} (f : α → MH → Out β) : (Out.no : Out α).bd f = .no := rfl
theorem s_ofO_some {α : Type} (a : α) (h : MH) : ofO (some a) h = .ok a h := rfl
theorem s_ofO_none {α : Type} (h : MH) : ofO (none : Option α) h = .no := rfl
theorem W_of {α : Type} {o : Out α} {x : α} {h : MH} {Q : α → MH → Prop} (e : o = .ok x h) (q : Q x h) : W o Q := by rw [e]; exact q
theorem W_mono {α : Type} {o : Out α} {P Q : α → MH → Prop} (w : W o P) (i : ∀ a h, P a h → Q a h) : W o Q := by
  cases o with
  | ok a h => exact i a h w
  | err => exact w.elim
  | no => exact w.elim
theorem by_W {α : Type} {o : Out α} {x : α} {h : MH} (w : W o fun d h' => d = x ∧ h' = h) : o = .ok x h := by
  cases o with
  | ok a h' =>
    obtain ⟨rfl, rfl⟩ := w
    rfl
  | err => exact w.elim
  | no => exact w.elim
theorem W_ex {α : Type} {o : Out α} {Q : α → MH → Prop} (w : W o Q) : ∃ a h, o = .ok a h ∧ Q a h := by
  cases o with
  | ok a h => exact ⟨a, h, rfl, w⟩
  | err => exact w.elim
  | no => exact w.elim

/-! ### plain facts for the runs -/
theorem s_dec {p : Prop} [Decidable p] : (decide p = true) = p := by simp
theorem s_decf {p : Prop} [Decidable p] : (decide p = false) = ¬p := by simp
theorem s_notb {b : Bool} : ((!b) = true) = (b = false) := by simp
theorem s_notf {b : Bool} : ((!b) = false) = (b = true) := by simp
theorem s_nnot {b : Bool} : (!!b) = b := by simp
theorem s_nt : (!true) = false := rfl
theorem s_nf : (!false) = true := rfl
theorem s_tt : (true = true) = True := by simp
theorem s_ff : (false = false) = True := by simp
theorem s_ft : (false = true) = False := by simp
theorem s_tf : (true = false) = False := by simp
theorem s_it {α : Sort _} {a b : α} : (if True then a else b) = a := by simp
theorem s_if {α : Sort _} {a b : α} : (if False then a else b) = b := by simp
theorem s_ifp {α : Sort _} {c : Prop} [Decidable c] {a b : α} (hc : c) : (if c then a else b) = a := if_pos hc
theorem s_ifn {α : Sort _} {c : Prop} [Decidable c] {a b : α} (hc : ¬c) : (if c then a else b) = b := if_neg hc
theorem s_lm {α β : Type} {f : α → β} {l : List α} : (l.map f).length = l.length := List.length_map f
theorem s_lr {n : Nat} : (List.range n).length = n := List.length_range
theorem s_flr {s n : Nat} {p : Nat → Bool} (h : n ≤ 1000000) : (((List.range' s n).filter p).length ≤ 1000000) = True := by
  have := List.length_filter_le p (List.range' s n)
  rw [List.length_range'] at this
  simp only [eq_iff_iff, iff_true]
  omega
theorem s_lr' {s n : Nat} : (List.range' s n).length = n := List.length_range'
theorem s_is {α : Sort _} {c : Prop} [Decidable c] {a : α} : (if c then a else a) = a := by simp
theorem s_ci {a b : Nat} : ((a : Int) = (b : Int)) = (a = b) := by rw [Int.natCast_inj]
theorem s_cl {a b : Nat} : ((a : Int) < (b : Int)) = (a < b) := by rw [Int.ofNat_lt]
theorem s_ce {a b : Nat} : ((a : Int) ≤ (b : Int)) = (a ≤ b) := by rw [Int.ofNat_le]
theorem s_dT {i : Decidable True} : @decide True i = true := by simp
theorem s_dF {i : Decidable False} : @decide False i = false := by simp
theorem s_bt {b : Bool} : (true && b) = b := by simp
theorem s_bt2 {b : Bool} : (b && true) = b := by simp
theorem s_bf {b : Bool} : (false && b) = false := by simp
theorem s_bf2 {b : Bool} : (b && false) = false := by simp
theorem s_ot {b : Bool} : (true || b) = true := by simp
theorem s_ot2 {b : Bool} : (b || true) = true := by simp
theorem s_of {b : Bool} : (false || b) = b := by simp
theorem s_of2 {b : Bool} : (b || false) = b := by simp
theorem s_an {p : Prop} : (True ∧ p) = p := by simp
theorem s_na {p : Prop} : (p ∧ True) = p := by simp
theorem s_nT : (¬True) = False := by simp
theorem s_nF : (¬False) = True := by simp
theorem s_ga {α : Type} {a : α} {l : List α} : (a :: l)[0]? = some a := rfl
theorem s_gs {α : Type} {a : α} {l : List α} {i : Nat} : (a :: l)[i + 1]? = l[i]? := rfl
theorem s_sz {α : Type} {a x : α} {l : List α} : (a :: l).set 0 x = x :: l := rfl
theorem s_ss {α : Type} {a x : α} {l : List α} {i : Nat} : (a :: l).set (i + 1) x = a :: l.set i x := rfl
theorem s_ln {α : Type} : ([] : List α).length = 0 := rfl
theorem s_lc {α : Type} {a : α} {l : List α} : (a :: l).length = l.length + 1 := rfl
theorem s_mn {α β : Type} {f : α → β} : [].map f = [] := rfl
theorem s_mc {α β : Type} {f : α → β} {a : α} {l : List α} : (a :: l).map f = f a :: l.map f := rfl
theorem s_pn {α : Type} {l : List α} : [] ++ l = l := rfl
theorem s_pc {α : Type} {a : α} {l m : List α} : (a :: l) ++ m = a :: (l ++ m) := rfl
theorem s_apn {α : Type} {l : List α} : l ++ [] = l := List.append_nil l
theorem s_r0 {α : Type} {x : α} : List.replicate 0 x = [] := rfl
theorem s_rs {α : Type} {x : α} {n : Nat} : List.replicate (n + 1) x = x :: List.replicate n x := rfl
theorem s_tk0 {α : Type} {l : List α} : l.take 0 = [] := rfl
theorem s_tks {α : Type} {a : α} {l : List α} {n : Nat} : (a :: l).take (n + 1) = a :: l.take n := rfl
theorem s_dp0 {α : Type} {l : List α} : l.drop 0 = l := rfl
theorem s_dps {α : Type} {a : α} {l : List α} {n : Nat} : (a :: l).drop (n + 1) = l.drop n := rfl
theorem s_lim : lim = 1000000 := by decide
theorem s_mapS {α β : Type} {f : α → β} {a : α} : (some a).map f = some (f a) := rfl
theorem s_mapN {α β : Type} {f : α → β} : (none : Option α).map f = none := rfl
theorem s_binS {α β : Type} {f : α → Option β} {a : α} : (some a).bind f = f a := rfl
theorem s_binN {α β : Type} {f : α → Option β} : (none : Option α).bind f = none := rfl

/-! ### the evaluators -/
section
variable {T : CT} {C : Cl} {h : MH} {env : Env} {Q : D → MH → Prop}
def vl (o : Option (Option SV)) (h : MH) : Out D := match o with
  | some (some (.val d)) => .ok d h
  | _ => .no
theorem W_vl {d : D} {t : Tq Q} : W (vl (some (some (.val d))) h) Q t = Q d h := rfl
theorem q_var {i : Nat} {t : Tq Q} : W (evE T C (.var i) env h) Q t = W (vl env[i]? h) Q := rfl
theorem q_and0 {a b : ME} : evE T C (.and a b) env h = (evE T C a env h).bd fun x h => (match x with | .bl k => if k then evE T C b env h else .ok (.bl false) h | _ => .no) := by
  show (evE T C a env h).bd _ = _
  refine congrArg (Out.bd (evE T C a env h)) ?_
  funext x h
  cases x with
  | bl k => cases k <;> rfl
  | _ => rfl
theorem q_or0 {a b : ME} : evE T C (.or a b) env h = (evE T C a env h).bd fun x h => (match x with | .bl k => if k then .ok (.bl true) h else evE T C b env h | _ => .no) := by
  show (evE T C a env h).bd _ = _
  refine congrArg (Out.bd (evE T C a env h)) ?_
  funext x h
  cases x with
  | bl k => cases k <;> rfl
  | _ => rfl
theorem q_and {a b : ME} {t : Tq Q} : W (evE T C (.and a b) env h) Q t = W (evE T C a env h) fun x h => W (match x with | .bl k => if k then evE T C b env h else .ok (.bl false) h | _ => .no) Q := by
  rw [q_and0, W_bd]
theorem q_or {a b : ME} {t : Tq Q} : W (evE T C (.or a b) env h) Q t = W (evE T C a env h) fun x h => W (match x with | .bl k => if k then .ok (.bl true) h else evE T C b env h | _ => .no) Q := by
  rw [q_or0, W_bd]
end
section
variable {T : CT} {C : Cl}
theorem q_evE_glo : W (evE T C (.glo u1 i) u2 h) Q = W (.ok (.int i) h) Q := rfl
theorem q_evE_con : W (evE T C (.con d) u1 h) Q = W (.ok d h) Q := rfl
theorem q_evE_bin : W (evE T C (.bin o a b) env h) Q = W ((bor env a h (evE T C a env h)).bd fun x h => (bor env b h (evE T C b env h)).bd fun y h => ofO (binD o x y) h) Q := rfl
theorem q_evE_neg : W (evE T C (.neg a) env h) Q = W ((evE T C a env h).bd fun x h => (match x with | .int i => .ok (.int (-i)) h | _ => .no)) Q := rfl
theorem q_evE_inv : W (evE T C (.inv a) env h) Q = W ((evE T C a env h).bd fun x h => (match x with | .int i => .ok (.int (Builtin.bitNot i)) h | _ => .no)) Q := rfl
theorem q_evE_cmp : W (evE T C (.cmp o a b) env h) Q = W ((bor env a h (evE T C a env h)).bd fun x h => (bor env b h (evE T C b env h)).bd fun y h => ofO ((cmpD o x y).map .bl) h) Q := rfl
theorem q_evE_cmp2 : W (evE T C (.cmp2 o p a b c) env h) Q = W ((evE T C a env h).bd fun x h => (evE T C b env h).bd fun y h => (ofO (cmpD o x y) h).bd fun k h => if k then (evE T C c env h).bd fun z h => ofO ((cmpD p y z).map .bl) h else .ok (.bl false) h) Q := rfl
theorem q_evE_isn : W (evE T C (.isn a) env h) Q = W ((evE T C a env h).bd fun x h => .ok (.bl (isNonD x)) h) Q := rfl
theorem q_evE_notn : W (evE T C (.notn a) env h) Q = W ((evE T C a env h).bd fun x h => .ok (.bl (!isNonD x)) h) Q := rfl
theorem q_evE_not : W (evE T C (.not a) env h) Q = W ((evE T C a env h).bd fun x h => (match x with | .bl k => .ok (.bl (!k)) h | _ => .no)) Q := rfl
theorem q_evE_ite : W (evE T C (.ite t a b) env h) Q = W ((tru (bor env t h (evE T C t env h))).bd fun k h => if k then evE T C a env h else evE T C b env h) Q := rfl
theorem q_evE_tup : W (evE T C (.tup es) env h) Q = W ((evA T C es env h).bd fun xs h => if xs.length ≤ lim then .ok (.tup xs) h else .no) Q := rfl
theorem q_evE_lst : W (evE T C (.lst es) env h) Q = W ((evA T C es env h).bd fun xs h => if xs.length ≤ lim then .ok (.lst xs) h else .no) Q := rfl
theorem q_evE_idx : W (evE T C (.idx a i) env h) Q = W ((bor env a h (evE T C a env h)).bd fun x h => (evE T C i env h).bd fun y h => ofO (idxD x y h) h) Q := rfl
theorem q_evE_sl : W (evE T C (.sl a lo hi) env h) Q = W ((bor env a h (evE T C a env h)).bd fun x h => (evO T C lo env h).bd fun y h => (evO T C hi env h).bd fun z h => ofO (slD x y z) h) Q := rfl
theorem q_evE_rev : W (evE T C (.rev a) env h) Q = W ((evE T C a env h).bd fun x h => (match x with | .tup xs => .ok (.tup xs.reverse) h | .lst xs => .ok (.lst xs.reverse) h | _ => .no)) Q := rfl
theorem q_evE_call : W (evE T C (.call f es) env h) Q = W ((evA T C es env h).bd fun xs h => C.fn f xs h) Q := rfl
theorem q_evE_make : W (evE T C (.make c es) env h) Q = W ((evA T C es env h).bd fun xs h => (C.mke c xs h).bd fun fs h => .ok (.obj c fs) h) Q := rfl
theorem q_evE_makeV : W (evE T C (.makeV i es) env h) Q = W ((match env[i]? with
    | some (some (.val (.cls c))) => if T.mkc c then (evA T C es env h).bd fun xs h => (C.mke c xs h).bd fun fs h => .ok (.obj c fs) h else .no
    | _ => .no)) Q := rfl
theorem q_evE_blt : W (evE T C (.blt b es) env h) Q = W ((evB T C es env h).bd fun xs h => ofO (bltD b xs) h) Q := rfl
theorem q_evE_sortK : W (evE T C (.sortK f a) env h) Q = W ((bor env a h (evE T C a env h)).bd fun x h => (ofO (items x) h).bd fun xs h => (keysOfs C f xs h).bd fun ks h => if cmpb ks then .ok (.lst ((sortk (xs.zip ks)).map (·.1))) h else .no) Q := rfl
theorem q_evE_isi : W (evE T C (.isi a t) env h) Q = W ((evE T C a env h).bd fun x h => ofO ((kdOf h x).bind fun k => (tyD T.cls T.sub k t).map .bl) h) Q := rfl
theorem q_evE_meth : W (evE T C (.meth a m es) env h) Q = W ((evE T C a env h).bd fun x h => (match (clsOf h x).bind fun c => T.meth c m with
    | some f => (evA T C es env h).bd fun xs h => C.fn f (x :: xs) h
    | none => .no)) Q := rfl
theorem q_evE_smeth : W (evE T C (.smeth o a es) env h) Q = W ((evE T C a env h).bd fun x h => (evB T C es env h).bd fun xs h => ofO (smD o x xs) h) Q := rfl
theorem q_evE_attr : W (evE T C (.attr a f) env h) Q = W ((bor env a h (evE T C a env h)).bd fun x h => (match clsOf h x with
    | some c => (match T.prop c f with
      | some g => if ownVar env a then .no else C.fn g [x] h
      | none => if T.fld c f then ofO ((fldsOf h x).bind fun fs => fs.lookup f) h else .no)
    | none => .no)) Q := rfl
theorem q_evE_cm : W (evE T C (.cm c m es) env h) Q = W ((evA T C es env h).bd fun xs h => (match T.cmeth c m with
    | some (f, true) => C.fn f (.cls c :: xs) h
    | some (f, false) => C.fn f xs h
    | none => .no)) Q := rfl
theorem q_evE_lcK : W (evE T C (.lcK i tg wp ts e) env h) Q = W ((match env[i]? with
    | some (some (.own (.dct kvs))) => (loopC (fun x h => match bindT tg x (wipeE (env.set i none) wp) with
      | some en => (evTs T C ts en h).bd fun k h => if k then (evE T C e en h).bd fun y h => .ok (some y) h else .ok none h
      | none => .no) (kvs.map (·.1)) h).bd fun ys h => if ys.length ≤ lim then .ok (.lst ys) h else .no
    | _ => .no)) Q := rfl
theorem q_evE_lc : W (evE T C (.lc it tg wp ts e) env h) Q = W ((evI T C true it env h).bd fun xs h => (loopC (fun x h => match bindT tg x (wipeE env wp) with
    | some en => (evTs T C ts en h).bd fun k h => if k then (evE T C e en h).bd fun y h => .ok (some y) h else .ok none h
    | none => .no) xs h).bd fun ys h => if ys.length ≤ lim then .ok (.lst ys) h else .no) Q := rfl
theorem q_evE_col : W (evE T C (.col t it) env h) Q = W ((evI T C true it env h).bd fun xs h => .ok (if t then .tup xs else .lst xs) h) Q := rfl
theorem q_evE_dnew : W (evE T C .dnew u1 h) Q = W (.ok (.dct []) h) Q := rfl
theorem q_evE_alloc : W (evE T C (.alloc e) env h) Q = W ((evE T C e env h).bd fun x h => (match x with
    | .lst xs => .ok (.ref h.length) (h ++ [.lst xs])
    | .obj c fs => .ok (.ref h.length) (h ++ [.ins c fs])
    | _ => .no)) Q := rfl
theorem q_evO_none : W (evO T C .none u1 h) Q = W (.ok none h) Q := rfl
theorem q_evO_some : W (evO T C (.some e) env h) Q = W ((evE T C e env h).bd fun x h => .ok (some x) h) Q := rfl
theorem q_evA_nil : W (evA T C .nil u1 h) Q = W (.ok [] h) Q := rfl
theorem q_evA_cons : W (evA T C (.cons e r) env h) Q = W ((evE T C e env h).bd fun x h => (evA T C r env h).bd fun xs h => .ok (x :: xs) h) Q := rfl
theorem q_evA_star : W (evA T C (.star e r) env h) Q = W ((bor env e h (evE T C e env h)).bd fun x h => (ofO (seqD x) h).bd fun xs h => (evA T C r env h).bd fun ys h => .ok (xs ++ ys) h) Q := rfl
theorem q_evB_nil : W (evB T C .nil u1 h) Q = W (.ok [] h) Q := rfl
theorem q_evB_cons : W (evB T C (.cons e r) env h) Q = W ((bor env e h (evE T C e env h)).bd fun x h => (evB T C r env h).bd fun xs h => .ok (x :: xs) h) Q := rfl
theorem q_evB_star : W (evB T C (.star u1 u2) u3 u4) Q = W (.no) Q := rfl
theorem q_evTs_nil : W (evTs T C .nil u1 h) Q = W (.ok true h) Q := rfl
theorem q_evTs_cons : W (evTs T C (.cons e r) env h) Q = W ((tru (bor env e h (evE T C e env h))).bd fun k h => if k then evTs T C r env h else .ok false h) Q := rfl
theorem q_evTs_star : W (evTs T C (.star u1 u2) u3 u4) Q = W (.no) Q := rfl
theorem q_evI_seq : W (evI T C b (.seq e) env h) Q = W ((if b then bor env e h (evE T C e env h) else evE T C e env h).bd fun x h => ofO (seqD x) h) Q := rfl
theorem q_evI_rng : W (evI T C b (.rng a) env h) Q = W ((evE T C a env h).bd fun x h => (match x with | .int i => if -lim ≤ i ∧ i ≤ lim then .ok (rngD 0 i) h else .no | _ => .no)) Q := rfl
theorem q_evI_rng2 : W (evI T C b (.rng2 a c) env h) Q = W ((evE T C a env h).bd fun x h => (evE T C c env h).bd fun y h => (match x, y with | .int i, .int j => if -lim ≤ i ∧ i ≤ lim ∧ -lim ≤ j ∧ j ≤ lim then .ok (rngD i j) h else .no | _, _ => .no)) Q := rfl
theorem q_evI_enm : W (evI T C b (.enm e) env h) Q = W ((if b then bor env e h (evE T C e env h) else evE T C e env h).bd fun x h => (ofO (enmD x) h).bd fun xs h => .ok (enumD 0 xs) h) Q := rfl
theorem q_evI_zip : W (evI T C b (.zip a c) env h) Q = W ((evE T C a env h).bd fun x h => (evE T C c env h).bd fun y h => ofO (zipO x y) h) Q := rfl
theorem q_evS_set : W (evS T C (.set i e) env h) Q = W ((evE T C e env h).bd fun x h => .ok (.nx (env.set i (some (.val x)))) h) Q := rfl
theorem q_evS_setO : W (evS T C (.setO i e) env h) Q = W ((evE T C e env h).bd fun x h => (match asO true x with
    | some v => .ok (.nx (env.set i (some v))) h
    | none => .no)) Q := rfl
theorem q_evS_par : W (evS T C (.par ts es) env h) Q = W ((evA T C es env h).bd fun xs h => (ofO (setAll ts xs env) h).bd fun en h => .ok (.nx en) h) Q := rfl
theorem q_evS_unp : W (evS T C (.unp is e) env h) Q = W ((evE T C e env h).bd fun x h => (match x with
    | .tup xs => (ofO (bindMany is xs env) h).bd fun en h => .ok (.nx en) h
    | _ => .no)) Q := rfl
theorem q_evS_sattr : W (evS T C (.sattr o f e) env h) Q = W ((evE T C e env h).bd fun y h => (match o with
    | .var i => (match env[i]? with
      | some (some (.own (.ins c fs))) => if T.fld c f && decide (fs.length < 900) then .ok (.nx (env.set i (some (.own (.ins c (putF f y fs)))))) h else .no
      | some (some (.val (.ref n))) => (match h[n]? with
        | some (.ins c fs) => if T.fld c f && decide (fs.length < 900) then .ok (.nx env) (h.set n (.ins c (putF f y fs))) else .no
        | _ => .no)
      | _ => .no)
    | _ => .no)) Q := rfl
theorem q_evS_pattr : W (evS T C (.pattr o f g a b) env h) Q = W ((evE T C a env h).bd fun x h => (evE T C b env h).bd fun y h => (match o with
    | .var i => (match env[i]? with
      | some (some (.own (.ins c fs))) => if T.fld c f && T.fld c g && decide (fs.length < 900) then .ok (.nx (env.set i (some (.own (.ins c (putF g y (putF f x fs))))))) h else .no
      | _ => .no)
    | _ => .no)) Q := rfl
theorem q_evS_sidx : W (evS T C (.sidx o i e) env h) Q = W ((evE T C e env h).bd fun v h => (evE T C o env h).bd fun a h => (evE T C i env h).bd fun x h => (ofO (setAt a x v h) h).bd fun h' _ => .ok (.nx env) h') Q := rfl
def oix (o : Option (Option SV)) (s : Nat) (env : Env) (x v : D) (h : MH) : Out Fl := match o with
  | some (some (.own (.lst xs))) => (match x with
    | .int j => (match L2.ixN xs.length j with
      | some k => .ok (.nx (env.set s (some (.own (.lst (xs.set k v)))))) h
      | none => .no)
    | _ => .no)
  | some (some (.own o)) => (match setK o x v with
    | some o' => .ok (.nx (env.set s (some (.own o')))) h
    | none => .no)
  | _ => .no
theorem q_evS_oidx {s : Nat} {i e : ME} {env : Env} {h : MH} {Q : Fl → MH → Prop} {t : Tq Q} : W (evS T C (.oidx s i e) env h) Q t = W (evE T C e env h) fun v h => W (evE T C i env h) fun x h => W (oix env[s]? s env x v h) Q := by
  show W ((evE T C e env h).bd _) Q = W (evE T C e env h) _
  cases evE T C e env h with
  | ok v h1 =>
    show W ((evE T C i env h1).bd _) Q = W (evE T C i env h1) _
    cases evE T C i env h1 <;> rfl
  | _ => rfl
theorem oix_l {xs : List D} {s : Nat} {env : Env} {j : Int} {v : D} {h : MH} {Q : Fl → MH → Prop} {t : Tq Q} : W (oix (some (some (.own (.lst xs)))) s env (.int j) v h) Q t = W (match L2.ixN xs.length j with
      | some k => Out.ok (Fl.nx (env.set s (some (.own (.lst (xs.set k v)))))) h
      | none => .no) Q := rfl
theorem oix_k {o : MO} {s : Nat} {env : Env} {x v : D} {h : MH} {Q : Fl → MH → Prop} {t : Tq Q} (hn : ∀ xs, o ≠ .lst xs) : W (oix (some (some (.own o))) s env x v h) Q t = W (ofO (setK o x v) h) fun o' h => Q (.nx (env.set s (some (.own o')))) h := by
  have go : ∀ r : Option MO, W (match r with
      | some o' => Out.ok (Fl.nx (env.set s (some (.own o')))) h
      | none => .no) Q = W (ofO r h) fun o' h => Q (.nx (env.set s (some (.own o')))) h := fun r => by cases r <;> rfl
  cases o with
  | lst xs => exact (hn xs rfl).elim
  | dct k => exact go (setK (.dct k) x v)
  | ndc k => exact go (setK (.ndc k) x v)
  | ins c k => exact go (setK (.ins c k) x v)
theorem oix_d {kvs : List (D × D)} {s : Nat} {env : Env} {x v : D} {h : MH} {Q : Fl → MH → Prop} {t : Tq Q} : W (oix (some (some (.own (.dct kvs)))) s env x v h) Q t = W (ofO (setK (.dct kvs) x v) h) fun o' h => Q (.nx (env.set s (some (.own o')))) h := oix_k fun _ e => nomatch e
theorem oix_n {kvs : List (D × D)} {s : Nat} {env : Env} {x v : D} {h : MH} {Q : Fl → MH → Prop} {t : Tq Q} : W (oix (some (some (.own (.ndc kvs)))) s env x v h) Q t = W (ofO (setK (.ndc kvs) x v) h) fun o' h => Q (.nx (env.set s (some (.own o')))) h := oix_k fun _ e => nomatch e
theorem q_evS_app : W (evS T C (.app s e) env h) Q = W ((evE T C e env h).bd fun v h => (match env[s]? with
    | some (some (.own (.lst xs))) => if xs.length < lim then .ok (.nx (env.set s (some (.own (.lst (xs ++ [v])))))) h else .no
    | _ => .no)) Q := rfl
theorem q_evS_ext : W (evS T C (.ext s e) env h) Q = W ((evE T C e env h).bd fun v h => (match v, env[s]? with
    | .lst ys, some (some (.own (.lst xs))) => if xs.length + ys.length ≤ lim then .ok (.nx (env.set s (some (.own (.lst (xs ++ ys)))))) h else .no
    | _, _ => .no)) Q := rfl
theorem q_evS_popS : W (evS T C (.popS i s) env h) Q = W ((match env[s]? with
    | some (some (.own (.lst xs))) => (match xs.getLast? with
      | some y => .ok (.nx ((env.set s (some (.own (.lst xs.dropLast)))).set i (some (.val y)))) h
      | none => .no)
    | _ => .no)) Q := rfl
theorem q_evS_popD : W (evS T C (.popD s e) env h) Q = W ((evE T C e env h).bd fun x h => (match env[s]? with
    | some (some (.own (.lst xs))) => (match x with
      | .int j => (match L2.ixN xs.length j with
        | some k => .ok (.nx (env.set s (some (.own (.lst (xs.eraseIdx k)))))) h
        | none => .no)
      | _ => .no)
    | _ => .no)) Q := rfl
theorem q_evS_ex : W (evS T C (.ex e) env h) Q = W ((evE T C e env h).bd fun _ h => .ok (.nx env) h) Q := rfl
theorem q_evS_ifs : W (evS T C (.ifs t a b) env h) Q = W ((evT T C t env h).bd fun k h => if k then evSs T C a env h else evSs T C b env h) Q := rfl
theorem q_evS_for : W (evS T C (.for tg it b) env h) Q = W ((evI T C false it env h).bd fun xs h => loopF (fun x en h => match bindT tg x en with
    | some en => evSs T C b en h
    | none => .no) xs env h) Q := rfl
theorem q_evS_while : W (evS T C (.while t b) env h) Q = W (loopW (fun en h => evT T C t en h) (fun en h => evSs T C b en h) lim env h) Q := rfl
theorem q_evS_ret : W (evS T C (.ret e) env h) Q = W ((evE T C e env h).bd fun x h => .ok (.rt x) h) Q := rfl
theorem q_evS_retO : W (evS T C (.retO s) env h) Q = W ((match env[s]? with
    | some (some (.own (.lst xs))) => .ok (.rt (.lst xs)) h
    | _ => .no)) Q := rfl
theorem q_evS_retN : W (evS T C .retN u1 h) Q = W (.ok (.rt .non) h) Q := rfl
theorem q_evS_pass : W (evS T C .pass env h) Q = W (.ok (.nx env) h) Q := rfl
theorem q_evS_brk : W (evS T C .brk env h) Q = W (.ok (.bk env) h) Q := rfl
theorem q_evS_cont : W (evS T C .cont env h) Q = W (.ok (.ct env) h) Q := rfl
theorem q_evS_sini : W (evS T C (.sini c es) env h) Q = W ((evA T C es env h).bd fun xs h => (match env[(0 : Nat)]? with
    | some (some (.own (.ins c0 fs))) => (match T.cmeth c0 (supK + c) with
      | some (b, false) => (C.ini b c0 fs xs h).bd fun fs' h => .ok (.nx (env.set 0 (some (.own (.ins c0 fs'))))) h
      | _ => .no)
    | _ => .no)) Q := rfl
theorem q_evS_frz : W (evS T C (.frz s) env h) Q = W ((match env[s]? with
    | some (some (.own (.lst xs))) => .ok (.nx (env.set s (some (.val (.lst xs))))) h
    | some (some (.own (.ins c fs))) => .ok (.nx (env.set s (some (.val (.obj c fs))))) h
    | _ => .no)) Q := rfl
theorem q_evSs_nil : W (evSs T C .nil env h) Q = W (.ok (.nx env) h) Q := rfl
theorem q_evSs_cons : W (evSs T C (.cons s r) env h) Q = W ((evS T C s env h).bd fun fl h => match fl with
    | .nx e => evSs T C r e h
    | _ => .ok fl h) Q := rfl
theorem q_evT {m : ME} {env : Env} {h : MH} {Q : Bool → MH → Prop} {t : Tq Q} : W (evT T C m env h) Q t = W (tru (bor env m h (evE T C m env h))) Q := rfl
end
theorem q_tru {o : Out D} {Q : Bool → MH → Prop} {t : Tq Q} : W (tru o) Q t = W o fun x h => W (ofO (truD x) h) Q := W_bd
section
variable {env : Env} {h : MH} {r : Out D} {Q : D → MH → Prop} {t : Tq Q}
def vb (o : Option (Option SV)) (h : MH) (r : Out D) : Out D := match o with
  | some (some (.own o)) => .ok o.top h
  | _ => r
theorem W_vbo {o : MO} : W (vb (some (some (.own o))) h r) Q t = Q o.top h := rfl
theorem W_vbv {d : D} : W (vb (some (some (.val d))) h r) Q t = W r Q := rfl
theorem bor_var {i : Nat} : W (bor env (.var i) h r) Q t = W (vb env[i]? h r) Q := rfl
theorem bor_glo {u0 u1} : W (bor env (.glo u0 u1) h r) Q t = W r Q := rfl
theorem bor_con {u0} : W (bor env (.con u0) h r) Q t = W r Q := rfl
theorem bor_bin {u0 u1 u2} : W (bor env (.bin u0 u1 u2) h r) Q t = W r Q := rfl
theorem bor_neg {u0} : W (bor env (.neg u0) h r) Q t = W r Q := rfl
theorem bor_inv {u0} : W (bor env (.inv u0) h r) Q t = W r Q := rfl
theorem bor_cmp {u0 u1 u2} : W (bor env (.cmp u0 u1 u2) h r) Q t = W r Q := rfl
theorem bor_cmp2 {u0 u1 u2 u3 u4} : W (bor env (.cmp2 u0 u1 u2 u3 u4) h r) Q t = W r Q := rfl
theorem bor_isn {u0} : W (bor env (.isn u0) h r) Q t = W r Q := rfl
theorem bor_notn {u0} : W (bor env (.notn u0) h r) Q t = W r Q := rfl
theorem bor_and {u0 u1} : W (bor env (.and u0 u1) h r) Q t = W r Q := rfl
theorem bor_or {u0 u1} : W (bor env (.or u0 u1) h r) Q t = W r Q := rfl
theorem bor_not {u0} : W (bor env (.not u0) h r) Q t = W r Q := rfl
theorem bor_ite {u0 u1 u2} : W (bor env (.ite u0 u1 u2) h r) Q t = W r Q := rfl
theorem bor_tup {u0} : W (bor env (.tup u0) h r) Q t = W r Q := rfl
theorem bor_lst {u0} : W (bor env (.lst u0) h r) Q t = W r Q := rfl
theorem bor_idx {u0 u1} : W (bor env (.idx u0 u1) h r) Q t = W r Q := rfl
theorem bor_sl {u0 u1 u2} : W (bor env (.sl u0 u1 u2) h r) Q t = W r Q := rfl
theorem bor_rev {u0} : W (bor env (.rev u0) h r) Q t = W r Q := rfl
theorem bor_call {u0 u1} : W (bor env (.call u0 u1) h r) Q t = W r Q := rfl
theorem bor_make {u0 u1} : W (bor env (.make u0 u1) h r) Q t = W r Q := rfl
theorem bor_makeV {u0 u1} : W (bor env (.makeV u0 u1) h r) Q t = W r Q := rfl
theorem bor_blt {u0 u1} : W (bor env (.blt u0 u1) h r) Q t = W r Q := rfl
theorem bor_sortK {u0 u1} : W (bor env (.sortK u0 u1) h r) Q t = W r Q := rfl
theorem bor_isi {u0 u1} : W (bor env (.isi u0 u1) h r) Q t = W r Q := rfl
theorem bor_meth {u0 u1 u2} : W (bor env (.meth u0 u1 u2) h r) Q t = W r Q := rfl
theorem bor_smeth {u0 u1 u2} : W (bor env (.smeth u0 u1 u2) h r) Q t = W r Q := rfl
theorem bor_attr {u0 u1} : W (bor env (.attr u0 u1) h r) Q t = W r Q := rfl
theorem bor_cm {u0 u1 u2} : W (bor env (.cm u0 u1 u2) h r) Q t = W r Q := rfl
theorem bor_lc {u0 u1 u2 u3 u4} : W (bor env (.lc u0 u1 u2 u3 u4) h r) Q t = W r Q := rfl
theorem bor_lcK {u0 u1 u2 u3 u4} : W (bor env (.lcK u0 u1 u2 u3 u4) h r) Q t = W r Q := rfl
theorem bor_lc2 {u0 u1 u2 u3 u4 u5 u6 u7 u8} : W (bor env (.lc2 u0 u1 u2 u3 u4 u5 u6 u7 u8) h r) Q t = W r Q := rfl
theorem bor_col {u0 u1} : W (bor env (.col u0 u1) h r) Q t = W r Q := rfl
theorem bor_dnew  : bor env (.dnew ) h r = r := rfl
theorem bor_alloc {u0} : W (bor env (.alloc u0) h r) Q t = W r Q := rfl
end
def ov (o : Option (Option SV)) : Bool := match o with
  | some (some (.own _)) => true
  | _ => false
theorem ov_o {o : MO} : ov (some (some (.own o))) = true := rfl
theorem ov_v {d : D} : ov (some (some (.val d))) = false := rfl
theorem ov_var {env : Env} {i : Nat} : ownVar env (.var i) = ov env[i]? := rfl
theorem ov_glo {env : Env} {u0 u1} : ownVar env (.glo u0 u1) = false := rfl
theorem ov_con {env : Env} {u0} : ownVar env (.con u0) = false := rfl
theorem ov_bin {env : Env} {u0 u1 u2} : ownVar env (.bin u0 u1 u2) = false := rfl
theorem ov_neg {env : Env} {u0} : ownVar env (.neg u0) = false := rfl
theorem ov_inv {env : Env} {u0} : ownVar env (.inv u0) = false := rfl
theorem ov_cmp {env : Env} {u0 u1 u2} : ownVar env (.cmp u0 u1 u2) = false := rfl
theorem ov_cmp2 {env : Env} {u0 u1 u2 u3 u4} : ownVar env (.cmp2 u0 u1 u2 u3 u4) = false := rfl
theorem ov_isn {env : Env} {u0} : ownVar env (.isn u0) = false := rfl
theorem ov_notn {env : Env} {u0} : ownVar env (.notn u0) = false := rfl
theorem ov_and {env : Env} {u0 u1} : ownVar env (.and u0 u1) = false := rfl
theorem ov_or {env : Env} {u0 u1} : ownVar env (.or u0 u1) = false := rfl
theorem ov_not {env : Env} {u0} : ownVar env (.not u0) = false := rfl
theorem ov_ite {env : Env} {u0 u1 u2} : ownVar env (.ite u0 u1 u2) = false := rfl
theorem ov_tup {env : Env} {u0} : ownVar env (.tup u0) = false := rfl
theorem ov_lst {env : Env} {u0} : ownVar env (.lst u0) = false := rfl
theorem ov_idx {env : Env} {u0 u1} : ownVar env (.idx u0 u1) = false := rfl
theorem ov_sl {env : Env} {u0 u1 u2} : ownVar env (.sl u0 u1 u2) = false := rfl
theorem ov_rev {env : Env} {u0} : ownVar env (.rev u0) = false := rfl
theorem ov_call {env : Env} {u0 u1} : ownVar env (.call u0 u1) = false := rfl
theorem ov_make {env : Env} {u0 u1} : ownVar env (.make u0 u1) = false := rfl
theorem ov_makeV {env : Env} {u0 u1} : ownVar env (.makeV u0 u1) = false := rfl
theorem ov_blt {env : Env} {u0 u1} : ownVar env (.blt u0 u1) = false := rfl
theorem ov_sortK {env : Env} {u0 u1} : ownVar env (.sortK u0 u1) = false := rfl
theorem ov_isi {env : Env} {u0 u1} : ownVar env (.isi u0 u1) = false := rfl
theorem ov_meth {env : Env} {u0 u1 u2} : ownVar env (.meth u0 u1 u2) = false := rfl
theorem ov_smeth {env : Env} {u0 u1 u2} : ownVar env (.smeth u0 u1 u2) = false := rfl
theorem ov_attr {env : Env} {u0 u1} : ownVar env (.attr u0 u1) = false := rfl
theorem ov_cm {env : Env} {u0 u1 u2} : ownVar env (.cm u0 u1 u2) = false := rfl
theorem ov_lc {env : Env} {u0 u1 u2 u3 u4} : ownVar env (.lc u0 u1 u2 u3 u4) = false := rfl
theorem ov_lcK {env : Env} {u0 u1 u2 u3 u4} : ownVar env (.lcK u0 u1 u2 u3 u4) = false := rfl
theorem ov_lc2 {env : Env} {u0 u1 u2 u3 u4 u5 u6 u7 u8} : ownVar env (.lc2 u0 u1 u2 u3 u4 u5 u6 u7 u8) = false := rfl
theorem ov_col {env : Env} {u0 u1} : ownVar env (.col u0 u1) = false := rfl
theorem ov_alloc {env : Env} {u0} : ownVar env (.alloc u0) = false := rfl
theorem top_lst {xs : List D} : (MO.lst xs).top = .lst xs := rfl
theorem top_dct {xs : List (D × D)} : (MO.dct xs).top = .dct xs := rfl
theorem top_ins {c : Nat} {fs : List (Nat × D)} : (MO.ins c fs).top = .obj c fs := rfl
theorem wipe_nil {env : Env} : wipeE env [] = env := rfl
theorem wipe_cons {env : Env} {v : Nat} {vs : List Nat} : wipeE env (v :: vs) = (wipeE env vs).set v none := rfl
theorem q_bindT1 {i : Nat} {x : D} {env : Env} : bindT (.one i) x env = some (env.set i (some (.val x))) := rfl
theorem q_bindTm {is : List Nat} {xs : List D} {env : Env} : bindT (.many is) (.tup xs) env = bindMany is xs env := rfl
theorem q_bindN {env : Env} : bindMany [] [] env = some env := rfl
theorem q_bindC {i : Nat} {is : List Nat} {x : D} {xs : List D} {env : Env} : bindMany (i :: is) (x :: xs) env = bindMany is xs (env.set i (some (.val x))) := rfl
theorem q_asF {x : D} : asO false x = some (.val x) := rfl
theorem q_asL {xs : List D} : asO true (.lst xs) = some (.own (.lst xs)) := rfl
theorem q_asD : asO true (.dct []) = some (.own (.dct [])) := rfl
theorem q_setN {env : Env} : setAll [] [] env = some env := rfl
theorem q_setC {i : Nat} {o : Bool} {ts : List (Nat × Bool)} {x : D} {xs : List D} {env : Env} : setAll ((i, o) :: ts) (x :: xs) env = (match asO o x with
    | some v => setAll ts xs (env.set i (some v))
    | none => none) := rfl
theorem q_raise {T : CT} {C : Cl} {c : Nat} {es : MA} {env : Env} {h : MH} {Q : Fl → MH → Prop} {t : Tq Q} : W (evS T C (.raise c es) env h) Q t = False := rfl
/-! ### data -/
theorem d_addnn {a b : Nat} : binD .add (.int a) (.int b) = some (.int ((a + b : Nat) : Int)) := by
  show some (D.int ((a : Int) + (b : Int))) = _
  rw [Int.natCast_add]
theorem d_addkn {k b : Nat} : binD .add (.int (no_index (OfNat.ofNat k))) (.int b) = some (.int ((k + b : Nat) : Int)) := d_addnn (a := k)
theorem d_addnk {k a : Nat} : binD .add (.int a) (.int (no_index (OfNat.ofNat k))) = some (.int ((a + k : Nat) : Int)) := d_addnn (b := k)
theorem d_add {i j : Int} : binD .add (.int i) (.int j) = some (.int (i + j)) := rfl
theorem d_sub {i j : Int} : binD .sub (.int i) (.int j) = some (.int (i - j)) := rfl
theorem d_band {i j : Nat} : binD .band (.int i) (.int j) = some (.int ((i &&& j : Nat) : Int)) := band_bin i j
theorem d_bor {i j : Nat} : binD .bor (.int i) (.int j) = some (.int ((i ||| j : Nat) : Int)) := by
  show some (D.int (Builtin.bitOr (i : Int) (j : Int))) = _
  rw [bor_nat]
theorem d_shl1 {k : Nat} (hk : k ≤ 1000) : binD .shl (.int 1) (.int k) = some (.int ((2 ^ k : Nat) : Int)) := shl_nat k hk
theorem d_shr {a k : Nat} : binD .shr (.int a) (.int k) = some (.int ((a / 2 ^ k : Nat) : Int)) := shr_nat a k
theorem d_and1 {a : Nat} : binD .band (.int a) (.int 1) = some (.int ((a &&& 1 : Nat) : Int)) := and1_nat a
theorem d_bit {a k : Nat} : truD (.int (((a / 2 ^ k &&& 1 : Nat)) : Int)) = some (a.testBit k) := bit_tru a k
theorem d_addl {a b : List D} : binD .add (.lst a) (.lst b) = if a.length + b.length ≤ lim then some (.lst (a ++ b)) else none := rfl
theorem d_addt {a b : List D} : binD .add (.tup a) (.tup b) = if a.length + b.length ≤ lim then some (.tup (a ++ b)) else none := rfl
theorem d_adds {a b : Str} : binD .add (.str a) (.str b) = if a.length + b.length ≤ lim then some (.str (a ++ b)) else none := rfl
theorem s_la {α : Type} {a b : List α} : (a ++ b).length = a.length + b.length := List.length_append
theorem s_sa {a b : Str} : (a ++ b).length = a.length + b.length := strLen_append a b
theorem d_tb {b : Bool} : truD (.bl b) = some b := rfl
theorem d_tn : truD .non = some false := rfl
theorem d_eqi {i j : Int} : cmpD .eq (.int i) (.int j) = some (decide (i = j)) := by
  show some (i == j) = _
  congr 1
theorem d_nei {i j : Int} : cmpD .ne (.int i) (.int j) = some (!decide (i = j)) := by
  show some (!(i == j)) = _
  congr 1
theorem d_lti {i j : Int} : cmpD .lt (.int i) (.int j) = some (decide (i < j)) := rfl
theorem d_lei {i j : Int} : cmpD .le (.int i) (.int j) = some (decide (i ≤ j)) := rfl
theorem d_gti {i j : Int} : cmpD .gt (.int i) (.int j) = some (decide (j < i)) := rfl
theorem d_gei {i j : Int} : cmpD .ge (.int i) (.int j) = some (decide (j ≤ i)) := rfl
theorem d_inS {k : Int} {b : Nat} : cmpD .isin (.int k) (S b) = some (decide (k ∈ sl7 b)) := in_S k b
theorem mem_sl7n {i b : Nat} (hi : i < 7) : ((i : Int) ∈ sl7 b) = (b.testBit i = true) := by
  rw [mem_sl7]
  apply propext
  constructor
  · rintro ⟨k, _, h2, h3⟩
    have : k = i := by omega
    exact this ▸ h2
  · exact fun e => ⟨i, hi, e, rfl⟩
theorem d_inSn {k b : Nat} (hk : k < 7) : cmpD .isin (.int k) (S b) = some (b.testBit k) := by
  rw [d_inS]
  congr 1
  rw [Bool.eq_iff_iff, decide_eq_true_iff, mem_sl7n hk]
theorem d_niSn {k b : Nat} (hk : k < 7) : cmpD .notin (.int k) (S b) = some (!b.testBit k) := by
  show (inD (.int k) (S b)).map (!·) = _
  have := d_inSn (b := b) hk
  have e : inD (.int k) (S b) = some (b.testBit k) := this
  rw [e]
  rfl
theorem d_rng {n : Nat} : rngD 0 (n : Int) = (List.range' 0 n).map fun (i : Nat) => D.int (i : Int) := by
  rw [rng_nat, List.map_map]
  rfl
theorem d_rngk {n : Nat} : rngD 0 (no_index (OfNat.ofNat n) : Int) = (List.range' 0 n).map fun (i : Nat) => D.int (i : Int) := d_rng (n := n)
theorem d_rng2 {m n : Nat} : rngD (m : Int) (n : Int) = (List.range' m (n - m)).map fun (i : Nat) => D.int (i : Int) := by
  unfold rngD
  rw [List.range_eq_range', show ((n : Int) - (m : Int)).toNat = n - m by omega, List.range'_eq_map_range, List.range'_eq_map_range, List.map_map, List.map_map]
  apply List.map_congr_left
  intro i _
  show D.int ((m : Int) + ((0 + i : Nat) : Int)) = D.int ((m + i : Nat) : Int)
  congr 1
  omega
theorem d_str {k : Nat} (hk : k < 1000000) : bltD .str [.int k] = some (.str (dg k)) := by
  show (if (k : Int).natAbs.log2 < 1920 then some (D.str (toString (k : Int))) else none) = _
  rw [if_pos (log_of (by omega))]
  rfl
theorem d_noni {i : Int} : isNonD (.int i) = false := rfl
theorem d_nont {xs : List D} : isNonD (.tup xs) = false := rfl
theorem d_nonl {xs : List D} : isNonD (.lst xs) = false := rfl
theorem d_nonn : isNonD .non = true := rfl
theorem d_seqt {xs : List D} : seqD (.tup xs) = some xs := rfl
theorem d_seql {xs : List D} : seqD (.lst xs) = some xs := rfl
theorem d_seqS {b : Nat} : seqD (S b) = some ((sl7 b).map .int) := rfl
theorem d_seqR {bs : List Nat} : seqD (Rw bs) = some (bs.map S) := rfl
theorem d_enmt {xs : List D} : enmD (.tup xs) = some xs := rfl
theorem d_enml {xs : List D} : enmD (.lst xs) = some xs := rfl
theorem d_enmR {bs : List Nat} : enmD (Rw bs) = some (bs.map S) := rfl
theorem d_lent {xs : List D} : bltD .len [.tup xs] = some (.int xs.length) := rfl
theorem d_lenl {xs : List D} : bltD .len [.lst xs] = some (.int xs.length) := rfl
theorem d_lenS {b : Nat} : bltD .len [S b] = some (.int (((sl7 b).length : Nat) : Int)) := by
  show some (D.int (((sl7 b).map D.int).length : Nat)) = _
  rw [List.length_map]
theorem d_lenR {bs : List Nat} : bltD .len [Rw bs] = some (.int ((bs.length : Nat) : Int)) := by
  show some (D.int ((bs.map S).length : Nat)) = _
  rw [List.length_map]
theorem d_tupl {xs : List D} : bltD .tuple [.lst xs] = some (.tup xs) := rfl
theorem d_tupt {xs : List D} : bltD .tuple [.tup xs] = some (.tup xs) := rfl
theorem d_lstl {xs : List D} : bltD .list [.lst xs] = some (.lst xs) := rfl
theorem d_lstt {xs : List D} : bltD .list [.tup xs] = some (.lst xs) := rfl
theorem d_all {xs : List D} : bltD .all [.lst xs] = (blL xs).map fun l => .bl (l.all id) := rfl
theorem d_sum {xs : List D} : bltD .sum [.lst xs] = (intL xs).map fun l => .int l.sum := rfl
theorem d_idt {xs : List D} {i : Int} {h : MH} : idxD (.tup xs) (.int i) h = L2.atI xs i := rfl
theorem d_idl {xs : List D} {i : Int} {h : MH} : idxD (.lst xs) (.int i) h = L2.atI xs i := rfl
theorem d_idR {bs : List Nat} {k : Nat} {h : MH} (hk : k < bs.length) : idxD (Rw bs) (.int k) h = some (S bs[k]) := by
  show L2.atI (bs.map S) (k : Int) = _
  rw [atI_nat (by rw [List.length_map]; exact hk), List.getElem?_map, List.getElem?_eq_getElem hk]
  rfl
theorem atI_c0 {α : Type} {x : α} {l : List α} : L2.atI (x :: l) 0 = some x := by
  have := atI_nat (xs := x :: l) (k := 0) (Nat.succ_pos _)
  exact this
theorem atI_0 {α : Type} {x : α} {l : List α} : L2.atI (x :: l) 0 = some x := atI_c0
theorem atI_1 {α : Type} {x y : α} {l : List α} : L2.atI (x :: y :: l) 1 = some y := by
  have := atI_nat (xs := x :: y :: l) (k := 1) (by simp)
  exact this
theorem atI_2 {α : Type} {x y z : α} {l : List α} : L2.atI (x :: y :: z :: l) 2 = some z := by
  have := atI_nat (xs := x :: y :: z :: l) (k := 2) (by simp)
  exact this
theorem pf_n {f : Nat} {v : D} : putF f v [] = [(f, v)] := rfl
theorem pf_e {f : Nat} {v u : D} {r : List (Nat × D)} : putF f v ((f, u) :: r) = (f, v) :: r := by simp [putF]
theorem pf_d {f g : Nat} {v u : D} {r : List (Nat × D)} (h : g ≠ f) : putF f v ((g, u) :: r) = (g, u) :: putF f v r := by simp [putF, h]
theorem atI_l {α : Type} {l : List α} {k : Nat} {x : α} (e : l[k]? = some x) : L2.atI l (k : Int) = some x := by
  rw [atI_nat (List.getElem?_eq_some_iff.mp e).1, e]
theorem atI_3 {α : Type} {a b c x : α} {l : List α} : L2.atI (a :: b :: c :: x :: l) 3 = some x := atI_l (k := 3) rfl
theorem atI_4 {α : Type} {a b c d x : α} {l : List α} : L2.atI (a :: b :: c :: d :: x :: l) 4 = some x := atI_l (k := 4) rfl
theorem atI_5 {α : Type} {a b c d e x : α} {l : List α} : L2.atI (a :: b :: c :: d :: e :: x :: l) 5 = some x := atI_l (k := 5) rfl
theorem atI_6 {α : Type} {a b c d e f x : α} {l : List α} : L2.atI (a :: b :: c :: d :: e :: f :: x :: l) 6 = some x := atI_l (k := 6) rfl
theorem c_obj {c : Nat} {fs : List (Nat × D)} {h : MH} : clsOf h (.obj c fs) = some c := rfl
theorem f_obj {c : Nat} {fs : List (Nat × D)} {h : MH} : fldsOf h (.obj c fs) = some fs := rfl
theorem k_obj {c : Nat} {fs : List (Nat × D)} {h : MH} : kdOf h (.obj c fs) = some (.c c) := rfl
theorem lk_0 {β : Type} {k : Nat} {v : β} {l : List (Nat × β)} : ((k, v) :: l).lookup k = some v := by simp [List.lookup_cons]
theorem lk_1 {β : Type} {k k' : Nat} {v : β} {l : List (Nat × β)} (h : k ≠ k') : ((k', v) :: l).lookup k = l.lookup k := by
  rw [List.lookup_cons, beq_eq_false_iff_ne.mpr h]
/-- isinstance of class c, asked for class d -/
class TI (T : CT) (c d : Nat) (b : outParam Bool) : Prop where
  e : tyD T.cls T.sub (.c c) (.cls d) = some b
class TK (T : CT) (c : Nat) : Prop where
  e : T.cls c = true
theorem t_i {T : CT} {c d : Nat} {b : Bool} [i : TI T c d b] : tyD T.cls T.sub (.c c) (.cls d) = some b := i.e
theorem t_kt {T : CT} {c : Nat} [i : TK T c] : tyD T.cls T.sub (.c c) .tuple = some false := by
  show (if T.cls c then some false else none) = _
  rw [i.e]
  rfl
theorem k_int {h : MH} {i : Int} : kdOf h (.int i) = some (.b 2) := rfl
theorem k_tup {h : MH} {xs : List D} : kdOf h (.tup xs) = some (.b 4) := rfl
theorem k_S {h : MH} {b : Nat} : kdOf h (S b) = some (.b 4) := rfl
theorem k_lst {h : MH} {xs : List D} : kdOf h (.lst xs) = some (.b 5) := rfl
theorem k_str {h : MH} {x : Str} : kdOf h (.str x) = some (.b 3) := rfl
theorem k_non {h : MH} : kdOf h .non = some (.b 0) := rfl
theorem ty_t4 {f : Nat → Bool} {g : Nat → Nat → Bool} : tyD f g (.b 4) .tuple = some true := rfl
theorem ty_s3 {f : Nat → Bool} {g : Nat → Nat → Bool} : tyD f g (.b 3) .str = some true := rfl
theorem ty_i2 {f : Nat → Bool} {g : Nat → Nat → Bool} : tyD f g (.b 2) .int = some true := rfl
theorem ty_bc {f : Nat → Bool} {g : Nat → Nat → Bool} {n d : Nat} : tyD f g (.b n) (.cls d) = some false := rfl
/-! small data -/
theorem nn_l {n : Nat} {xs : List D} : numN (n + 1) (.lst xs) = xs.all (numN n) := rfl
theorem nn_t {n : Nat} {xs : List D} : numN (n + 1) (.tup xs) = xs.all (numN n) := rfl
theorem nn_S {n b : Nat} : numN (n + 2) (S b) = true := numN_S b
theorem nn_R {n : Nat} {bs : List Nat} : numN (n + 3) (Rw bs) = true := by
  show (bs.map S).all (numN (n + 2)) = true
  rw [List.all_map]
  exact List.all_eq_true.mpr fun b _ => numN_S b
theorem nn_b {n : Nat} {b : Bool} : numN (n + 1) (.bl b) = true := rfl
theorem nn_n {n : Nat} : numN (n + 1) .non = true := rfl
theorem nn_i {n k : Nat} (hk : k < 1000000000000) : numN (n + 1) (.int k) = true := decide_eq_true (by omega)
theorem al_n {α : Type} {p : α → Bool} : [].all p = true := rfl
theorem al_c {α : Type} {p : α → Bool} {a : α} {l : List α} : (a :: l).all p = (p a && l.all p) := rfl
theorem wt_l {xs : List D} : wt (.lst xs) = wts xs := rfl
theorem wt_t {xs : List D} : wt (.tup xs) = wts xs := rfl
theorem wt_i {i : Int} : wt (.int i) = 0 := rfl
theorem wt_b {b : Bool} : wt (.bl b) = 0 := rfl
theorem wt_n : wt .non = 0 := rfl
theorem wt_s {x : Str} : wt (.str x) = x.length := rfl
theorem wts_n : wts [] = 0 := rfl
theorem wts_c {x : D} {r : List D} : wts (x :: r) = wt x + 1 + wts r := rfl
theorem t_m {T : CT} {c m f : Nat} [i : TM T c m f] : T.meth c m = some f := i.e
theorem t_p {T : CT} {c m f : Nat} [i : TP T c m f] : T.prop c m = some f := i.e
theorem t_f {T : CT} {c m : Nat} [i : TF T c m] : T.fld c m = true := i.f
theorem t_fp {T : CT} {c m : Nat} [i : TF T c m] : T.prop c m = none := i.p
theorem t_c {T : CT} {c m f : Nat} [i : TC T c m f] : T.cmeth c m = some (f, true) := i.e
class TS (T : CT) (c d : Nat) (b : outParam Nat) : Prop where
  e : T.cmeth c (supK + d) = some (b, false)
class TMk (T : CT) (c : Nat) : Prop where
  e : T.mkc c = true
theorem t_mk {T : CT} {c : Nat} [i : TMk T c] : T.mkc c = true := i.e
theorem t_s {T : CT} {c d b : Nat} [i : TS T c d b] : T.cmeth c (supK + d) = some (b, false) := i.e
/-! ### defs -/
def optW {α : Type} (o : Option α) (f : α → Prop) (t : Tq f := ⟨⟩) : Prop := match o with
  | some a => f a
  | none => False
theorem optW_some {α : Type} {a : α} {f : α → Prop} {t : Tq f} : optW (some a) f t = f a := rfl
section
variable {T : CT} {C : Cl} {h : MH}
theorem q_run {fd : FD} {xs : List D} {Q : D → MH → Prop} {t : Tq Q} : W (runF T C fd xs h) Q t = optW (bindA fd xs) fun env => W (evSs T C fd.body env h) fun fl h => (match fl with
    | .nx _ => Q .non h
    | .rt d => Q d h
    | _ => False) := by
  unfold runF
  cases bindA fd xs with
  | none => rfl
  | some env =>
    show W ((evSs T C fd.body env h).bd _) Q = W (evSs T C fd.body env h) _
    generalize evSs T C fd.body env h = o
    cases o with
    | ok fl h' => cases fl <;> rfl
    | _ => rfl
theorem q_runI {fd : FD} {c0 : Nat} {fs : List (Nat × D)} {xs : List D} {Q : List (Nat × D) → MH → Prop} {t : Tq Q} : W (runI T C fd c0 fs xs h) Q t = optW (bindA fd (.non :: xs)) fun env => W (evSs T C fd.body (env.set 0 (some (.own (.ins c0 fs)))) h) fun fl h => (match fl with
    | .nx en => W (ofO (selfOf c0 en) h) Q
    | _ => False) := by
  unfold runI
  cases bindA fd (.non :: xs) with
  | none => rfl
  | some env =>
    show W ((evSs T C fd.body (env.set 0 (some (.own (.ins c0 fs)))) h).bd _) Q = W (evSs T C fd.body (env.set 0 (some (.own (.ins c0 fs)))) h) _
    generalize evSs T C fd.body (env.set 0 (some (.own (.ins c0 fs)))) h = o
    cases o with
    | ok fl h' => cases fl <;> rfl
    | _ => rfl
theorem q_self {c0 : Nat} {fs : List (Nat × D)} {r : Env} : selfOf c0 (some (.own (.ins c0 fs)) :: r) = some fs := by
  unfold selfOf
  simp
theorem q_bindA {np ns : Nat} {b : MSs} {xs : List D} : bindA ⟨np, false, ns, b⟩ xs = if xs.length = np then some (xs.map (fun x => some (SV.val x)) ++ List.replicate (ns - np) none) else none := rfl
theorem q_bindV {np ns : Nat} {b : MSs} {xs : List D} : bindA ⟨np, true, ns, b⟩ xs = if np ≤ xs.length ∧ xs.length ≤ lim then some ((xs.take np).map (fun x => some (SV.val x)) ++ some (.val (.tup (xs.drop np))) :: List.replicate (ns - (np + 1)) none) else none := rfl
/-! ### loops -/
theorem loopC_c {f : D → MH → Out (Option D)} {x : D} {xs : List D} {Q : List D → MH → Prop} {t : Tq Q} : W (loopC f (x :: xs) h) Q t = W (f x h) fun o h => W (loopC f xs h) fun ys h => Q (o.toList ++ ys) h := by
  show W ((f x h).bd _) Q = _
  cases f x h with
  | ok o h' =>
    show W ((loopC f xs h').bd _) Q = W (loopC f xs h') _
    cases loopC f xs h' <;> rfl
  | _ => rfl
/-- a walk that only goes on -/
theorem W_for {α : Type} {f : D → Env → MH → Out Fl} {Q : Fl → MH → Prop} {l : List α} {k : α → D} {env : Env} (I : Env → MH → Prop) (h0 : I env h) (st : ∀ a ∈ l, ∀ env h, I env h → W (f (k a) env h) fun fl h => (match fl with
    | .nx e => I e h
    | .ct e => I e h
    | _ => False)) (fin : ∀ env h, I env h → Q (.nx env) h) : W (loopF f (l.map k) env h) Q := by
  induction l generalizing env h with
  | nil => exact fin env h h0
  | cons a r ih =>
    have := st a List.mem_cons_self env h h0
    show W ((f (k a) env h).bd _) Q
    rw [W_bd]
    refine W_mono this fun fl h' q => ?_
    cases fl with
    | nx e => exact ih q fun b hb => st b (List.mem_cons_of_mem _ hb)
    | ct e => exact ih q fun b hb => st b (List.mem_cons_of_mem _ hb)
    | rt d => exact q.elim
    | bk e => exact q.elim
/-- a walk with what lies behind it -/
theorem W_forI {α : Type} {f : D → Env → MH → Out Fl} {Q : Fl → MH → Prop} {k : α → D} {env : Env} (I : List α → Env → MH → Prop) (l : List α) (h0 : I [] env h) (st : ∀ p a r, l = p ++ a :: r → ∀ env h, I p env h → W (f (k a) env h) fun fl h => (match fl with
    | .nx e => I (p ++ [a]) e h
    | .ct e => I (p ++ [a]) e h
    | _ => False)) (fin : ∀ env h, I l env h → Q (.nx env) h) : W (loopF f (l.map k) env h) Q := by
  have go : ∀ (r p : List α) (env : Env) (h : MH), l = p ++ r → I p env h → W (loopF f (r.map k) env h) Q := by
    intro r
    induction r with
    | nil =>
      intro p env h e i
      rw [List.append_nil] at e
      subst e
      exact fin env h i
    | cons a r ih =>
      intro p env h e i
      have := st p a r e env h i
      show W ((f (k a) env h).bd _) Q
      rw [W_bd]
      refine W_mono this fun fl h' q => ?_
      cases fl with
      | nx en => exact ih (p ++ [a]) en h' (by rw [e]; simp) q
      | ct en => exact ih (p ++ [a]) en h' (by rw [e]; simp) q
      | rt d => exact q.elim
      | bk en => exact q.elim
  exact go l [] env h rfl h0
/-- a comprehension that changes the heap -/
theorem W_mapS {α : Type} {f : D → MH → Out (Option D)} {Q : List D → MH → Prop} {k : α → D} (I : List α → List D → MH → Prop) (l : List α) (h0 : I [] [] h) (st : ∀ p a r, l = p ++ a :: r → ∀ ys h, I p ys h → W (f (k a) h) fun o h' => I (p ++ [a]) (ys ++ o.toList) h') (fin : ∀ ys h, I l ys h → Q ys h) : W (loopC f (l.map k) h) Q := by
  have go : ∀ (r p : List α) (ys : List D) (h : MH) (Q : List D → MH → Prop), l = p ++ r → I p ys h → (∀ zs h, I l (ys ++ zs) h → Q zs h) → W (loopC f (r.map k) h) Q := by
    intro r
    induction r with
    | nil =>
      intro p ys h Q e i q
      rw [List.append_nil] at e
      subst e
      exact q [] h (by rw [List.append_nil]; exact i)
    | cons a r ih =>
      intro p ys h Q e i q
      have := st p a r e ys h i
      rw [List.map_cons, loopC_c]
      refine W_mono this fun o h' i' => ?_
      exact ih (p ++ [a]) (ys ++ o.toList) h' _ (by rw [e]; simp) i' fun zs h2 i2 => q _ _ (by rw [← List.append_assoc]; exact i2)
  exact go l [] [] h Q rfl h0 fun zs h i => fin zs h i
/-- a while with a measure -/
theorem W_while {t : Env → MH → Out Bool} {b : Env → MH → Out Fl} {Q : Fl → MH → Prop} (I : Nat → Env → MH → Prop) (m : Nat) {n : Nat} {env : Env} (hm : m < n) (h0 : I m env h) (st : ∀ m env h, I m env h → W (t env h) fun c h' => if c then W (b env h') fun fl h2 => (match fl with
    | .nx e => ∃ m', m' < m ∧ I m' e h2
    | .ct e => ∃ m', m' < m ∧ I m' e h2
    | _ => False) else Q (.nx env) h') : W (loopW t b n env h) Q := by
  induction n generalizing m env h with
  | zero => omega
  | succ n ih =>
    have := st m env h h0
    show W ((t env h).bd _) Q
    rw [W_bd]
    refine W_mono this fun c h' q => ?_
    cases c with
    | false => exact q
    | true =>
      rw [if_pos rfl] at q
      show W ((b env h').bd _) Q
      rw [W_bd]
      refine W_mono q fun fl h2 q2 => ?_
      cases fl with
      | nx e =>
        obtain ⟨m', h3, q3⟩ := q2
        exact ih (m := m') (by omega) q3
      | ct e =>
        obtain ⟨m', h3, q3⟩ := q2
        exact ih (m := m') (by omega) q3
      | rt d => exact q2.elim
      | bk e => exact q2.elim
/-- each one's value, nothing changed -/
theorem W_map {α : Type} {f : D → MH → Out (Option D)} {Q : List D → MH → Prop} {l : List α} {k g : α → D} (st : ∀ a ∈ l, W (f (k a) h) fun o h' => o = some (g a) ∧ h' = h) (fin : Q (l.map g) h) : W (loopC f (l.map k) h) Q := by
  refine W_of (loopC_mapA (k := k) (g := g) fun a ha => ?_) fin
  exact by_W (st a ha)
/-- those that pass -/
theorem W_mapP {α : Type} {f : D → MH → Out (Option D)} {Q : List D → MH → Prop} {l : List α} {k g : α → D} {p : α → Bool} (st : ∀ a ∈ l, W (f (k a) h) fun o h' => o = (if p a then some (g a) else none) ∧ h' = h) (fin : Q ((l.filter p).map g) h) : W (loopC f (l.map k) h) Q := by
  have go : ∀ l' : List α, (∀ a ∈ l', f (k a) h = .ok (if p a then some (g a) else none) h) → loopC f (l'.map k) h = .ok ((l'.filter p).map g) h := by
    intro l'
    induction l' with
    | nil => exact fun _ => rfl
    | cons a r ih =>
      intro q
      show (f (k a) h).bd _ = _
      rw [q a List.mem_cons_self, bd_ok, ih fun b hb => q b (List.mem_cons_of_mem _ hb), List.filter_cons]
      cases p a <;> rfl
  exact W_of (go l fun a ha => by_W (st a ha)) fin
end
end Mi
/-! MiQ1: steps of any class: made, asked. -/
namespace Mi
open PySem
local macro_rules
  | `(tactic| simp (disch := omega) only [seval]) => `(tactic| simp -implicitDefEqProofs (disch := omega) only [W_ok, W_no, W_bd, W_ite, s_bd_ok, s_bd_no, s_ofO_some, s_ofO_none, s_dec, s_decf, s_notb, s_notf, s_nnot, s_nt, s_nf, s_tt, s_ff, s_ft, s_tf, s_it, s_if, s_ifp, s_ifn, s_lm, s_lr, s_flr, s_lr', s_is, s_ci, s_cl, s_ce, s_dT, s_dF, s_bt, s_bt2, s_bf, s_bf2, s_ot, s_ot2, s_of, s_of2, s_an, s_na, s_nT, s_nF, s_ga, s_gs, s_sz, s_ss, s_ln, s_lc, s_mn, s_mc, s_pn, s_pc, s_apn, s_r0, s_rs, s_tk0, s_tks, s_dp0, s_dps, s_lim, s_mapS, s_mapN, s_binS, s_binN, W_vl, q_var, q_and, q_or, q_evE_glo, q_evE_con, q_evE_bin, q_evE_neg, q_evE_inv, q_evE_cmp, q_evE_cmp2, q_evE_isn, q_evE_notn, q_evE_not, q_evE_ite, q_evE_tup, q_evE_lst, q_evE_idx, q_evE_sl, q_evE_rev, q_evE_call, q_evE_make, q_evE_makeV, q_evE_blt, q_evE_sortK, q_evE_isi, q_evE_meth, q_evE_smeth, q_evE_attr, q_evE_cm, q_evE_lcK, q_evE_lc, q_evE_col, q_evE_dnew, q_evE_alloc, q_evO_none, q_evO_some, q_evA_nil, q_evA_cons, q_evA_star, q_evB_nil, q_evB_cons, q_evB_star, q_evTs_nil, q_evTs_cons, q_evTs_star, q_evI_seq, q_evI_rng, q_evI_rng2, q_evI_enm, q_evI_zip, q_evS_set, q_evS_setO, q_evS_par, q_evS_unp, q_evS_sattr, q_evS_pattr, q_evS_sidx, q_evS_oidx, oix_l, oix_d, oix_n, q_evS_app, q_evS_ext, q_evS_popS, q_evS_popD, q_evS_ex, q_evS_ifs, q_evS_for, q_evS_while, q_evS_ret, q_evS_retO, q_evS_retN, q_evS_pass, q_evS_brk, q_evS_cont, q_evS_sini, q_evS_frz, q_evSs_nil, q_evSs_cons, q_evT, q_tru, W_vbo, W_vbv, bor_var, bor_glo, bor_con, bor_bin, bor_neg, bor_inv, bor_cmp, bor_cmp2, bor_isn, bor_notn, bor_and, bor_or, bor_not, bor_ite, bor_tup, bor_lst, bor_idx, bor_sl, bor_rev, bor_call, bor_make, bor_makeV, bor_blt, bor_sortK, bor_isi, bor_meth, bor_smeth, bor_attr, bor_cm, bor_lc, bor_lcK, bor_lc2, bor_col, bor_dnew, bor_alloc, ov_o, ov_v, ov_var, ov_glo, ov_con, ov_bin, ov_neg, ov_inv, ov_cmp, ov_cmp2, ov_isn, ov_notn, ov_and, ov_or, ov_not, ov_ite, ov_tup, ov_lst, ov_idx, ov_sl, ov_rev, ov_call, ov_make, ov_makeV, ov_blt, ov_sortK, ov_isi, ov_meth, ov_smeth, ov_attr, ov_cm, ov_lc, ov_lcK, ov_lc2, ov_col, ov_alloc, top_lst, top_dct, top_ins, wipe_nil, wipe_cons, q_bindT1, q_bindTm, q_bindN, q_bindC, q_asF, q_asL, q_asD, q_setN, q_setC, q_raise, d_addnn, d_addkn, d_addnk, d_sub, d_band, d_bor, d_shl1, d_shr, d_and1, d_bit, d_addl, d_addt, d_adds, s_la, s_sa, d_tb, d_tn, d_eqi, d_nei, d_lti, d_lei, d_gti, d_gei, d_inSn, d_niSn, d_rng, d_rngk, d_rng2, d_str, d_noni, d_nont, d_nonl, d_nonn, d_seqt, d_seql, d_seqS, d_seqR, d_enmt, d_enml, d_enmR, d_lent, d_lenl, d_lenS, d_lenR, d_tupl, d_tupt, d_lstl, d_lstt, d_all, d_sum, d_idt, d_idl, d_idR, atI_0, atI_1, atI_2, pf_n, pf_e, pf_d, atI_3, atI_4, atI_5, atI_6, c_obj, f_obj, k_obj, lk_0, lk_1, t_i, t_kt, k_int, k_tup, k_S, k_lst, k_str, k_non, ty_t4, ty_s3, ty_i2, ty_bc, nn_l, nn_t, nn_S, nn_R, nn_b, nn_n, nn_i, al_n, al_c, wt_l, wt_t, wt_i, wt_b, wt_n, wt_s, wts_n, wts_c, t_m, t_p, t_f, t_fp, t_c, t_mk, t_s, optW_some, q_run, q_runI, q_self, q_bindA, q_bindV, ↓reduceIte, Nat.reduceAdd, Nat.reduceSub, Nat.reduceMul, Nat.reducePow, Nat.reduceLeDiff, Nat.reduceEqDiff, Nat.reduceBEq, Nat.reduceSucc, Int.reduceNeg, Int.reduceLE, Int.reduceLT, Int.reduceEq, Int.reduceAdd, Int.reduceSub, reduceCtorEq])
  | `(tactic| simp (disch := omega) only [seval, $xs,*]) => `(tactic| simp -implicitDefEqProofs (disch := omega) only [W_ok, W_no, W_bd, W_ite, s_bd_ok, s_bd_no, s_ofO_some, s_ofO_none, s_dec, s_decf, s_notb, s_notf, s_nnot, s_nt, s_nf, s_tt, s_ff, s_ft, s_tf, s_it, s_if, s_ifp, s_ifn, s_lm, s_lr, s_flr, s_lr', s_is, s_ci, s_cl, s_ce, s_dT, s_dF, s_bt, s_bt2, s_bf, s_bf2, s_ot, s_ot2, s_of, s_of2, s_an, s_na, s_nT, s_nF, s_ga, s_gs, s_sz, s_ss, s_ln, s_lc, s_mn, s_mc, s_pn, s_pc, s_apn, s_r0, s_rs, s_tk0, s_tks, s_dp0, s_dps, s_lim, s_mapS, s_mapN, s_binS, s_binN, W_vl, q_var, q_and, q_or, q_evE_glo, q_evE_con, q_evE_bin, q_evE_neg, q_evE_inv, q_evE_cmp, q_evE_cmp2, q_evE_isn, q_evE_notn, q_evE_not, q_evE_ite, q_evE_tup, q_evE_lst, q_evE_idx, q_evE_sl, q_evE_rev, q_evE_call, q_evE_make, q_evE_makeV, q_evE_blt, q_evE_sortK, q_evE_isi, q_evE_meth, q_evE_smeth, q_evE_attr, q_evE_cm, q_evE_lcK, q_evE_lc, q_evE_col, q_evE_dnew, q_evE_alloc, q_evO_none, q_evO_some, q_evA_nil, q_evA_cons, q_evA_star, q_evB_nil, q_evB_cons, q_evB_star, q_evTs_nil, q_evTs_cons, q_evTs_star, q_evI_seq, q_evI_rng, q_evI_rng2, q_evI_enm, q_evI_zip, q_evS_set, q_evS_setO, q_evS_par, q_evS_unp, q_evS_sattr, q_evS_pattr, q_evS_sidx, q_evS_oidx, oix_l, oix_d, oix_n, q_evS_app, q_evS_ext, q_evS_popS, q_evS_popD, q_evS_ex, q_evS_ifs, q_evS_for, q_evS_while, q_evS_ret, q_evS_retO, q_evS_retN, q_evS_pass, q_evS_brk, q_evS_cont, q_evS_sini, q_evS_frz, q_evSs_nil, q_evSs_cons, q_evT, q_tru, W_vbo, W_vbv, bor_var, bor_glo, bor_con, bor_bin, bor_neg, bor_inv, bor_cmp, bor_cmp2, bor_isn, bor_notn, bor_and, bor_or, bor_not, bor_ite, bor_tup, bor_lst, bor_idx, bor_sl, bor_rev, bor_call, bor_make, bor_makeV, bor_blt, bor_sortK, bor_isi, bor_meth, bor_smeth, bor_attr, bor_cm, bor_lc, bor_lcK, bor_lc2, bor_col, bor_dnew, bor_alloc, ov_o, ov_v, ov_var, ov_glo, ov_con, ov_bin, ov_neg, ov_inv, ov_cmp, ov_cmp2, ov_isn, ov_notn, ov_and, ov_or, ov_not, ov_ite, ov_tup, ov_lst, ov_idx, ov_sl, ov_rev, ov_call, ov_make, ov_makeV, ov_blt, ov_sortK, ov_isi, ov_meth, ov_smeth, ov_attr, ov_cm, ov_lc, ov_lcK, ov_lc2, ov_col, ov_alloc, top_lst, top_dct, top_ins, wipe_nil, wipe_cons, q_bindT1, q_bindTm, q_bindN, q_bindC, q_asF, q_asL, q_asD, q_setN, q_setC, q_raise, d_addnn, d_addkn, d_addnk, d_sub, d_band, d_bor, d_shl1, d_shr, d_and1, d_bit, d_addl, d_addt, d_adds, s_la, s_sa, d_tb, d_tn, d_eqi, d_nei, d_lti, d_lei, d_gti, d_gei, d_inSn, d_niSn, d_rng, d_rngk, d_rng2, d_str, d_noni, d_nont, d_nonl, d_nonn, d_seqt, d_seql, d_seqS, d_seqR, d_enmt, d_enml, d_enmR, d_lent, d_lenl, d_lenS, d_lenR, d_tupl, d_tupt, d_lstl, d_lstt, d_all, d_sum, d_idt, d_idl, d_idR, atI_0, atI_1, atI_2, pf_n, pf_e, pf_d, atI_3, atI_4, atI_5, atI_6, c_obj, f_obj, k_obj, lk_0, lk_1, t_i, t_kt, k_int, k_tup, k_S, k_lst, k_str, k_non, ty_t4, ty_s3, ty_i2, ty_bc, nn_l, nn_t, nn_S, nn_R, nn_b, nn_n, nn_i, al_n, al_c, wt_l, wt_t, wt_i, wt_b, wt_n, wt_s, wts_n, wts_c, t_m, t_p, t_f, t_fp, t_c, t_mk, t_s, optW_some, q_run, q_runI, q_self, q_bindA, q_bindV, ↓reduceIte, Nat.reduceAdd, Nat.reduceSub, Nat.reduceMul, Nat.reducePow, Nat.reduceLeDiff, Nat.reduceEqDiff, Nat.reduceBEq, Nat.reduceSucc, Int.reduceNeg, Int.reduceLE, Int.reduceLT, Int.reduceEq, Int.reduceAdd, Int.reduceSub, reduceCtorEq, $xs,*])

/-! ### what a table has -/
class QB (B : Tb) (f : outParam Nat) : Prop where
  [i0 : Has B 0 fd_is_integer]
  [i2 : Has B f fd_is_set]
  [i3 : Has B 3 (fdNeed f)]
  [i4 : Has B 4 fd_bits_of]
  [i5 : Has B 5 fd_states_of]
class QS (B : Tb) (c : Nat) : Prop where
  [i62 : Has B 62 fd_Step_many]
  [t26 : TF B.ct c 26]
  [t27 : TF B.ct c 27]
  [t1 : TP B.ct c 1 62]
class QR (B : Tb) (c : Nat) : Prop where
  [i : Has B 63 fd_Step_rows]
  [t : TP B.ct c 23 63]
class QP (B : Tb) (c : Nat) : Prop where
  [i : Has B 64 fd_Step_parts]
  [t : TP B.ct c 22 64]
class QI (B : Tb) (c : Nat) : Prop where
  [i : Has B 65 fd_Step_image]
  [t : TM B.ct c 28 65]
class QF (B : Tb) (c : Nat) : Prop where
  [i : Has B 66 fd_Step_before]
  [t : TM B.ct c 29 66]
class QA (B : Tb) (c : Nat) : Prop where
  [i : Has B 67 fd_Step_apply]
  [t : TM B.ct c 25 67]
class QK (B : Tb) (c : Nat) : Prop where
  [i : Has B 68 fd_Step_back]
  [t : TM B.ct c 24 68]
/-- a step's object -/
def Ob (c : Nat) (bs : List Nat) (ps : List D) : D := .obj c [(26, Ln bs), (27, .tup ps)]
section
variable {B : Tb} {T : CT} {C : Cl} {h : MH} {f c : Nat}
theorem X_int [QB B f] (j : Nat) (i : Int) (h : MH) : (lv B (j + 1)).fn 0 [.int i] h = .ok (.bl true) h :=
  have := QB.i0 (B := B) (f := f)
  L_int j i h
theorem X_set [QB B f] (j : Nat) {m b : Nat} (hm : m < 8) (hb : b < 128) (h : MH) : (lv B (j + 2)).fn f [.int m, S b] h = .ok (.bl (decide (b < 2 ^ m))) h :=
  have := QB.i2 (B := B) (f := f)
  (fn_lv (j + 1) _ h).trans (is_set_run (X_int (f := f) j) m b hm hb)
theorem X_need [QB B f] (j : Nat) {m b : Nat} (hm : m < 8) (hb : b < 2 ^ m) (h : MH) : (lv B (j + 3)).fn 3 [.int m, S b] h = .ok (.int b) h :=
  have := QB.i0 (B := B) (f := f)
  have := QB.i2 (B := B) (f := f)
  have := QB.i3 (B := B) (f := f)
  have := QB.i4 (B := B) (f := f)
  L_need (f := f) j hm hb h
theorem X_bits [QB B f] (j : Nat) {b : Nat} (hb : b < 128) (h : MH) : (lv B (j + 1)).fn 4 [S b] h = .ok (.int b) h :=
  have := QB.i4 (B := B) (f := f)
  L_bits j hb h
theorem X_states [QB B f] (j : Nat) {b : Nat} (hb : b < 128) (h : MH) : (lv B (j + 1)).fn 5 [.int b] h = .ok (S b) h :=
  have := QB.i5 (B := B) (f := f)
  L_states j hb h
theorem X_needmany [QB B f] [Has B 1 fd_need_many] (j : Nat) {n : Nat} (h1 : 1 ≤ n) (h7 : n ≤ 7) (h : MH) : (lv B (j + 2)).fn 1 [.int n] h = .ok .non h := by
  refine by_W ?_
  rw [fn_lv]
  simp (disch := omega) only [seval, fd_need_many, X_int (f := f)]
theorem X_many [QS B c] (j : Nat) {n : Nat} {bs : List Nat} {ps : List D} (r : Rows n bs) (h : MH) : (lv B (j + 1)).fn 62 [Ob c bs ps] h = .ok (.int n) h := by
  have := QS.i62 (B := B) (c := c)
  have := QS.t26 (B := B) (c := c)
  refine by_W ?_
  rw [fn_lv]
  simp (disch := omega) only [seval, fd_Step_many, Ob, Ln, r.len]
theorem X_image [QS B c] [QI B c] (j : Nat) {bs : List Nat} {ps : List D} (a : Nat) (h : MH) : (lv B (j + 1)).fn 65 [Ob c bs ps, .int a] h = .ok (.int ((imgF bs 0 a : Nat) : Int)) h := by
  have := QS.t26 (B := B) (c := c)
  have := QI.i (B := B) (c := c)
  obtain ⟨e3, e4, q⟩ := image_loop (T := B.ct) (C := lv B j) (h := h) (s := some (.val (Ob c bs ps))) a bs 0 0 none none
  rw [Nat.zero_or] at q
  exact (fn_lv j _ h).trans (run_rt rfl (sq (b_set rfl) (sq (b_for (enum_lst false rfl (b_attr rfl (TF.p (T := B.ct) (c := c) (m := 26)) (TF.f (T := B.ct) (c := c) (m := 26)) rfl)) q) (sq_rt (b_ret rfl)))))
theorem X_apply [QB B f] [QS B c] [QI B c] [QA B c] (j : Nat) {n : Nat} {bs : List Nat} {ps : List D} (r : Rows n bs) {a : Nat} (ha : a < 2 ^ n) (h : MH) : (lv B (j + 4)).fn 67 [Ob c bs ps, S a] h = .ok (S (imgF bs 0 a)) h := by
  have := QS.t1 (B := B) (c := c)
  have := QI.t (B := B) (c := c)
  have := QA.i (B := B) (c := c)
  have h7 := r.n7
  have x1 := X_many (B := B) (c := c) (ps := ps) (j + 2) r h
  have x2 := X_need (B := B) (f := f) j (show n < 8 by omega) ha h
  have x3 := X_image (B := B) (c := c) (bs := bs) (ps := ps) (j + 2) a h
  have x4 := X_states (B := B) (f := f) (j + 2) (p128 (r.img a) r.n7) h
  refine by_W ?_
  rw [fn_lv]
  unfold Ob at *
  simp (disch := omega) only [seval, fd_Step_apply, x1, x2, x3, x4]
/-! ### __init__ -/
theorem ini_lv {B : Tb} {c c0 : Nat} {fd : FD} [i : HasI B c fd] (j : Nat) (fs : List (Nat × D)) (xs : List D) (h : MH) : (lv B (j + 1)).ini c c0 fs xs h = runI B.ct (lv B j) fd c0 fs xs h := by
  show (match B.ini c with | some fd => runI B.ct (lv B j) fd c0 fs xs h | none => .no) = _
  rw [i.e]
/-- Step.__init__, asking def f -/
def fdStepQ (f : Nat) : FD := ⟨1, true, 3, .cons (.ifs (.or (.not (.cmp2 .le .le (.con (.int 1)) (.blt .len (.cons (.var 1) (.nil))) (.glo "MOST" 7))) (.not (.blt .all (.cons (.lc (.seq (.var 1)) (.one 2) [2] (.nil) (.call f (.cons (.blt .len (.cons (.var 1) (.nil))) (.cons (.var 2) (.nil))))) (.nil))))) (.cons (.raise 11 (.cons (.con (.str "a set of states for each of 1 to 7 states")) (.nil))) (.nil)) (.nil)) (.cons (.pattr (.var 0) 26 27 (.lc (.seq (.var 1)) (.one 2) [2] (.nil) (.call 4 (.cons (.var 2) (.nil)))) (.tup (.nil))) (.nil))⟩
theorem X_inistep [QB B f] [HasI B 10 (fdStepQ f)] [TF B.ct c 26] [TF B.ct c 27] (j : Nat) {n : Nat} {bs : List Nat} (r : Rows n bs) (hn : 0 < n) (h : MH) : (lv B (j + 3)).ini 10 c [] (bs.map S) h = .ok [(26, Ln bs), (27, .tup [])] h := by
  have h7 := r.n7
  have hl := r.len
  refine by_W ?_
  rw [ini_lv]
  simp (disch := omega) only [seval, fdStepQ]
  refine W_map (g := fun _ => .bl true) (fun b hb => ?_) ?_
  · simp (disch := omega) only [seval, X_set (B := B) (f := f) j (show n < 8 by omega) (r.l128 hb), hl, r.lt b hb]
  have e1 : blL (bs.map fun _ => D.bl true) = some (bs.map fun _ => true) := blL_trues _
  simp (disch := omega) only [seval, e1, all_trues]
  refine W_map (g := fun (b : Nat) => .int (b : Int)) (fun b hb => ?_) ?_
  · simp (disch := omega) only [seval, X_bits (B := B) (f := f) (j + 1) (r.l128 hb)]
  simp (disch := omega) only [seval, Ln]
end
end Mi
/-! MiQ2: guards; texts of steps of any class. -/
namespace Mi
open PySem
local macro_rules
  | `(tactic| simp (disch := omega) only [seval]) => `(tactic| simp -implicitDefEqProofs (disch := omega) only [W_ok, W_no, W_bd, W_ite, s_bd_ok, s_bd_no, s_ofO_some, s_ofO_none, s_dec, s_decf, s_notb, s_notf, s_nnot, s_nt, s_nf, s_tt, s_ff, s_ft, s_tf, s_it, s_if, s_ifp, s_ifn, s_lm, s_lr, s_flr, s_lr', s_is, s_ci, s_cl, s_ce, s_dT, s_dF, s_bt, s_bt2, s_bf, s_bf2, s_ot, s_ot2, s_of, s_of2, s_an, s_na, s_nT, s_nF, s_ga, s_gs, s_sz, s_ss, s_ln, s_lc, s_mn, s_mc, s_pn, s_pc, s_apn, s_r0, s_rs, s_tk0, s_tks, s_dp0, s_dps, s_lim, s_mapS, s_mapN, s_binS, s_binN, W_vl, q_var, q_and, q_or, q_evE_glo, q_evE_con, q_evE_bin, q_evE_neg, q_evE_inv, q_evE_cmp, q_evE_cmp2, q_evE_isn, q_evE_notn, q_evE_not, q_evE_ite, q_evE_tup, q_evE_lst, q_evE_idx, q_evE_sl, q_evE_rev, q_evE_call, q_evE_make, q_evE_makeV, q_evE_blt, q_evE_sortK, q_evE_isi, q_evE_meth, q_evE_smeth, q_evE_attr, q_evE_cm, q_evE_lcK, q_evE_lc, q_evE_col, q_evE_dnew, q_evE_alloc, q_evO_none, q_evO_some, q_evA_nil, q_evA_cons, q_evA_star, q_evB_nil, q_evB_cons, q_evB_star, q_evTs_nil, q_evTs_cons, q_evTs_star, q_evI_seq, q_evI_rng, q_evI_rng2, q_evI_enm, q_evI_zip, q_evS_set, q_evS_setO, q_evS_par, q_evS_unp, q_evS_sattr, q_evS_pattr, q_evS_sidx, q_evS_oidx, oix_l, oix_d, oix_n, q_evS_app, q_evS_ext, q_evS_popS, q_evS_popD, q_evS_ex, q_evS_ifs, q_evS_for, q_evS_while, q_evS_ret, q_evS_retO, q_evS_retN, q_evS_pass, q_evS_brk, q_evS_cont, q_evS_sini, q_evS_frz, q_evSs_nil, q_evSs_cons, q_evT, q_tru, W_vbo, W_vbv, bor_var, bor_glo, bor_con, bor_bin, bor_neg, bor_inv, bor_cmp, bor_cmp2, bor_isn, bor_notn, bor_and, bor_or, bor_not, bor_ite, bor_tup, bor_lst, bor_idx, bor_sl, bor_rev, bor_call, bor_make, bor_makeV, bor_blt, bor_sortK, bor_isi, bor_meth, bor_smeth, bor_attr, bor_cm, bor_lc, bor_lcK, bor_lc2, bor_col, bor_dnew, bor_alloc, ov_o, ov_v, ov_var, ov_glo, ov_con, ov_bin, ov_neg, ov_inv, ov_cmp, ov_cmp2, ov_isn, ov_notn, ov_and, ov_or, ov_not, ov_ite, ov_tup, ov_lst, ov_idx, ov_sl, ov_rev, ov_call, ov_make, ov_makeV, ov_blt, ov_sortK, ov_isi, ov_meth, ov_smeth, ov_attr, ov_cm, ov_lc, ov_lcK, ov_lc2, ov_col, ov_alloc, top_lst, top_dct, top_ins, wipe_nil, wipe_cons, q_bindT1, q_bindTm, q_bindN, q_bindC, q_asF, q_asL, q_asD, q_setN, q_setC, q_raise, d_addnn, d_addkn, d_addnk, d_sub, d_band, d_bor, d_shl1, d_shr, d_and1, d_bit, d_addl, d_addt, d_adds, s_la, s_sa, d_tb, d_tn, d_eqi, d_nei, d_lti, d_lei, d_gti, d_gei, d_inSn, d_niSn, d_rng, d_rngk, d_rng2, d_str, d_noni, d_nont, d_nonl, d_nonn, d_seqt, d_seql, d_seqS, d_seqR, d_enmt, d_enml, d_enmR, d_lent, d_lenl, d_lenS, d_lenR, d_tupl, d_tupt, d_lstl, d_lstt, d_all, d_sum, d_idt, d_idl, d_idR, atI_0, atI_1, atI_2, pf_n, pf_e, pf_d, atI_3, atI_4, atI_5, atI_6, c_obj, f_obj, k_obj, lk_0, lk_1, t_i, t_kt, k_int, k_tup, k_S, k_lst, k_str, k_non, ty_t4, ty_s3, ty_i2, ty_bc, nn_l, nn_t, nn_S, nn_R, nn_b, nn_n, nn_i, al_n, al_c, wt_l, wt_t, wt_i, wt_b, wt_n, wt_s, wts_n, wts_c, t_m, t_p, t_f, t_fp, t_c, t_mk, t_s, optW_some, q_run, q_runI, q_self, q_bindA, q_bindV, ↓reduceIte, Nat.reduceAdd, Nat.reduceSub, Nat.reduceMul, Nat.reducePow, Nat.reduceLeDiff, Nat.reduceEqDiff, Nat.reduceBEq, Nat.reduceSucc, Int.reduceNeg, Int.reduceLE, Int.reduceLT, Int.reduceEq, Int.reduceAdd, Int.reduceSub, reduceCtorEq])
  | `(tactic| simp (disch := omega) only [seval, $xs,*]) => `(tactic| simp -implicitDefEqProofs (disch := omega) only [W_ok, W_no, W_bd, W_ite, s_bd_ok, s_bd_no, s_ofO_some, s_ofO_none, s_dec, s_decf, s_notb, s_notf, s_nnot, s_nt, s_nf, s_tt, s_ff, s_ft, s_tf, s_it, s_if, s_ifp, s_ifn, s_lm, s_lr, s_flr, s_lr', s_is, s_ci, s_cl, s_ce, s_dT, s_dF, s_bt, s_bt2, s_bf, s_bf2, s_ot, s_ot2, s_of, s_of2, s_an, s_na, s_nT, s_nF, s_ga, s_gs, s_sz, s_ss, s_ln, s_lc, s_mn, s_mc, s_pn, s_pc, s_apn, s_r0, s_rs, s_tk0, s_tks, s_dp0, s_dps, s_lim, s_mapS, s_mapN, s_binS, s_binN, W_vl, q_var, q_and, q_or, q_evE_glo, q_evE_con, q_evE_bin, q_evE_neg, q_evE_inv, q_evE_cmp, q_evE_cmp2, q_evE_isn, q_evE_notn, q_evE_not, q_evE_ite, q_evE_tup, q_evE_lst, q_evE_idx, q_evE_sl, q_evE_rev, q_evE_call, q_evE_make, q_evE_makeV, q_evE_blt, q_evE_sortK, q_evE_isi, q_evE_meth, q_evE_smeth, q_evE_attr, q_evE_cm, q_evE_lcK, q_evE_lc, q_evE_col, q_evE_dnew, q_evE_alloc, q_evO_none, q_evO_some, q_evA_nil, q_evA_cons, q_evA_star, q_evB_nil, q_evB_cons, q_evB_star, q_evTs_nil, q_evTs_cons, q_evTs_star, q_evI_seq, q_evI_rng, q_evI_rng2, q_evI_enm, q_evI_zip, q_evS_set, q_evS_setO, q_evS_par, q_evS_unp, q_evS_sattr, q_evS_pattr, q_evS_sidx, q_evS_oidx, oix_l, oix_d, oix_n, q_evS_app, q_evS_ext, q_evS_popS, q_evS_popD, q_evS_ex, q_evS_ifs, q_evS_for, q_evS_while, q_evS_ret, q_evS_retO, q_evS_retN, q_evS_pass, q_evS_brk, q_evS_cont, q_evS_sini, q_evS_frz, q_evSs_nil, q_evSs_cons, q_evT, q_tru, W_vbo, W_vbv, bor_var, bor_glo, bor_con, bor_bin, bor_neg, bor_inv, bor_cmp, bor_cmp2, bor_isn, bor_notn, bor_and, bor_or, bor_not, bor_ite, bor_tup, bor_lst, bor_idx, bor_sl, bor_rev, bor_call, bor_make, bor_makeV, bor_blt, bor_sortK, bor_isi, bor_meth, bor_smeth, bor_attr, bor_cm, bor_lc, bor_lcK, bor_lc2, bor_col, bor_dnew, bor_alloc, ov_o, ov_v, ov_var, ov_glo, ov_con, ov_bin, ov_neg, ov_inv, ov_cmp, ov_cmp2, ov_isn, ov_notn, ov_and, ov_or, ov_not, ov_ite, ov_tup, ov_lst, ov_idx, ov_sl, ov_rev, ov_call, ov_make, ov_makeV, ov_blt, ov_sortK, ov_isi, ov_meth, ov_smeth, ov_attr, ov_cm, ov_lc, ov_lcK, ov_lc2, ov_col, ov_alloc, top_lst, top_dct, top_ins, wipe_nil, wipe_cons, q_bindT1, q_bindTm, q_bindN, q_bindC, q_asF, q_asL, q_asD, q_setN, q_setC, q_raise, d_addnn, d_addkn, d_addnk, d_sub, d_band, d_bor, d_shl1, d_shr, d_and1, d_bit, d_addl, d_addt, d_adds, s_la, s_sa, d_tb, d_tn, d_eqi, d_nei, d_lti, d_lei, d_gti, d_gei, d_inSn, d_niSn, d_rng, d_rngk, d_rng2, d_str, d_noni, d_nont, d_nonl, d_nonn, d_seqt, d_seql, d_seqS, d_seqR, d_enmt, d_enml, d_enmR, d_lent, d_lenl, d_lenS, d_lenR, d_tupl, d_tupt, d_lstl, d_lstt, d_all, d_sum, d_idt, d_idl, d_idR, atI_0, atI_1, atI_2, pf_n, pf_e, pf_d, atI_3, atI_4, atI_5, atI_6, c_obj, f_obj, k_obj, lk_0, lk_1, t_i, t_kt, k_int, k_tup, k_S, k_lst, k_str, k_non, ty_t4, ty_s3, ty_i2, ty_bc, nn_l, nn_t, nn_S, nn_R, nn_b, nn_n, nn_i, al_n, al_c, wt_l, wt_t, wt_i, wt_b, wt_n, wt_s, wts_n, wts_c, t_m, t_p, t_f, t_fp, t_c, t_mk, t_s, optW_some, q_run, q_runI, q_self, q_bindA, q_bindV, ↓reduceIte, Nat.reduceAdd, Nat.reduceSub, Nat.reduceMul, Nat.reducePow, Nat.reduceLeDiff, Nat.reduceEqDiff, Nat.reduceBEq, Nat.reduceSucc, Int.reduceNeg, Int.reduceLE, Int.reduceLT, Int.reduceEq, Int.reduceAdd, Int.reduceSub, reduceCtorEq, $xs,*])

/-- a guard's rows -/
def guB (n a : Nat) : List Nat := (List.range' 0 n).map fun i => if a.testBit i then 2 ^ i else 0
theorem guB_rows {n a : Nat} (h7 : n ≤ 7) : Rows n (guB n a) := by
  refine ⟨by unfold guB; rw [List.length_map, List.length_range'], h7, fun b hb => ?_⟩
  obtain ⟨i, hi, rfl⟩ := List.mem_map.mp hb
  have := (List.mem_range'_1.mp hi).2
  split
  · exact Nat.pow_lt_pow_right (by decide) (by omega)
  · exact Nat.two_pow_pos n
theorem S_zero : S 0 = .tup [] := by
  unfold S
  have : sl7 0 = [] := by decide
  rw [this]
  rfl
/-- those of a set below n, counted -/
theorem tup_filter {n b : Nat} (h7 : n ≤ 7) (hb : b < 2 ^ n) {p : Nat → Bool} (hp : ∀ i, i < n → p i = b.testBit i) : D.tup (((List.range' 0 n).filter p).map fun (i : Nat) => D.int (i : Int)) = S b := by
  unfold S
  rw [sl7_of h7 hb, List.map_map]
  congr 1
  have : (List.range' 0 n).filter p = (List.range' 0 n).filter fun i => b.testBit i := List.filter_congr fun i hi => hp i (by have := (List.mem_range'_1.mp hi).2; omega)
  rw [this]
  rfl
/-- step_text, asking def f -/
def fdStepTxt (f : Nat) : FD := ⟨1, false, 3, .cons (.ret (.smeth .join (.con (.str "")) (.cons (.lc (.enm (.var 0)) (.many [1, 2]) [1, 2] (.nil) (.bin .add (.bin .add (.bin .add (.blt .str (.cons (.var 1) (.nil))) (.con (.str ": "))) (.call f (.cons (.var 2) (.nil)))) (.con (.str "\n")))) (.nil)))) (.nil)⟩
section
variable {B : Tb} {T : CT} {C : Cl} {h : MH} {f g c : Nat}
theorem X_settext [Has B f fd_set_text] (j : Nat) {b : Nat} (hb : b < 128) (h : MH) : (lv B (j + 1)).fn f [S b] h = .ok (.str (tx b)) h := (fn_lv j _ h).trans (tx_run b hb)
theorem X_steptext [Has B f fd_set_text] [Has B g (fdStepTxt f)] (j : Nat) {n : Nat} {bs : List Nat} (r : Rows n bs) (h : MH) : (lv B (j + 2)).fn g [Rw bs] h = .ok (.str (stepT bs)) h := by
  have h7 := r.n7
  have hl := r.len
  refine by_W ?_
  rw [fn_lv]
  simp (disch := omega) only [seval, fdStepTxt]
  rw [enum_map S]
  refine W_map (g := fun p => .str (lineT p.1 p.2 ++ ("\n" : Str))) (fun p hp => ?_) ?_
  · obtain ⟨_, h2⟩ := enS_mem hp
    have h3 := (List.getElem?_eq_some_iff.mp h2).1
    have hk : p.1 < 7 := by omega
    have hb := r.l128 (List.mem_of_getElem? h2)
    have f1 : (dg p.1).length = 1 := eq_of_beq (ba2 (lab_facts p.1 hk)).1
    have f2 : (lab p.1).length = 3 := eq_of_beq (ba2 (ba2 (lab_facts p.1 hk)).2).1
    have f3 : (tx p.2).length ≤ 13 := of_decide_eq_true (ba2 (tx_facts p.2 hb)).1
    have f4 := len_line hk hb
    have f0 : (": " : Str).length = 2 := rfl
    have f9 : ("\n" : Str).length = 1 := rfl
    unfold lineT lab at *
    simp (disch := omega) only [seval, X_settext (B := B) (f := f) j hb]
  have el : (enS 0 bs).map (fun p => D.str (lineT p.1 p.2 ++ ("\n" : Str))) = ((linesF 0 bs).map fun l => l ++ ("\n" : Str)).map D.str := by
    unfold linesF
    rw [List.map_map, List.map_map]
    rfl
  have e1 : smD .join (.str "") [.lst (((linesF 0 bs).map fun l => l ++ ("\n" : Str)).map D.str)] = some (.str (stepT bs)) := by
    show (strL (((linesF 0 bs).map fun l => l ++ ("\n" : Str)).map D.str)).bind (fun l => if (l.map (·.length)).sum + l.length * (("" : Str)).length ≤ lim then some (D.str (Txt.join "" l)) else none) = _
    rw [strL_map]
    show (if (((linesF 0 bs).map fun l => l ++ ("\n" : Str)).map (·.length)).sum + _ * (("" : Str)).length ≤ lim then some (D.str (stepT bs)) else none) = _
    rw [if_pos]
    have h1 : (((linesF 0 bs).map fun l => l ++ ("\n" : Str)).map (·.length)).sum ≤ (((linesF 0 bs).map fun l => l ++ ("\n" : Str)).map (·.length)).length * 17 := sum_le fun x hx => by
      rw [List.map_map] at hx
      obtain ⟨l, hl, rfl⟩ := List.mem_map.mp hx
      obtain ⟨k, b, rfl, hk, hb⟩ := linesF_mem r l hl
      have := len_line hk hb
      show (lineT k b ++ ("\n" : Str)).length ≤ 17
      rw [len_nl]
      omega
    rw [List.length_map, List.length_map, linesF_len, r.len] at h1
    have e0 : (("" : Str)).length = 0 := rfl
    rw [e0, Nat.mul_zero]
    unfold lim
    omega
  have e2 := linesF_len 0 bs
  rw [el]
  simp (disch := omega) only [seval, e1]
theorem X_guard [QB B f] [Has B 1 fd_need_many] [HasI B 9 fd_Guard___init__] [HasI B 10 (fdStepQ f)] [TF B.ct 9 26] [TF B.ct 9 27] [TS B.ct 9 9 10] (j : Nat) {n a : Nat} (h1 : 1 ≤ n) (h7 : n ≤ 7) (ha : a < 2 ^ n) (h : MH) : (lv B (j + 4)).mke 9 [.int n, S a] h = .ok [(26, Ln (guB n a)), (27, .tup [])] h := by
  refine by_W ?_
  rw [mk_lv]
  simp (disch := omega) only [seval, fd_Guard___init__, X_needmany (B := B) (f := f) (j + 1) h1 h7, X_need (B := B) (f := f) j (show n < 8 by omega) ha]
  refine W_map (g := fun i => S (if a.testBit i then 2 ^ i else 0)) (fun i hi => ?_) ?_
  · have := (List.mem_range'_1.mp hi).2
    simp (disch := omega) only [seval]
    split
    · rename_i ha
      rw [S_pow (show i < 7 by omega)]
    · rename_i ha
      rw [S_zero]
  have e : (List.range' 0 n).map (fun i => S (if a.testBit i then 2 ^ i else 0)) = (guB n a).map S := by
    unfold guB
    rw [List.map_map]
    rfl
  rw [e]
  have e2 : (guB n a).length = n := (guB_rows h7).len
  have e3 : (List.range' 0 n).length = n := List.length_range'
  simp (disch := omega) only [seval, X_inistep (B := B) (f := f) (c := 9) j (guB_rows h7) h1]
end
theorem tup_whole {n : Nat} (h7 : n ≤ 7) : D.tup ((List.range' 0 n).map fun (i : Nat) => D.int (i : Int)) = S (2 ^ n - 1) := by
  have := tup_filter (n := n) (b := 2 ^ n - 1) (p := fun _ => true) h7 (by have := Nat.two_pow_pos n; omega) fun i hi => by rw [Nat.testBit_two_pow_sub_one, decide_eq_true hi]
  rwa [List.filter_eq_self.mpr fun _ _ => rfl] at this
theorem X_whole {B : Tb} [Has B 20 fd__law_whole] (j : Nat) {n : Nat} (h7 : n ≤ 7) (h : MH) : (lv B (j + 1)).fn 20 [.int n] h = .ok (S (2 ^ n - 1)) h := by
  refine by_W ?_
  rw [fn_lv]
  simp (disch := omega) only [seval, fd__law_whole, tup_whole h7]
/-! ### a law's cells -/
def cellsM (b : MSs) : MSs := .cons (.for (.one 1) (.seq (.bin .add (.lst (.cons (.call 16 (.cons (.var 0) (.cons (.con (.int 0)) .nil))) .nil)) (.sl (.var 0) (.some (.con (.int 1))) (.some (.con (.int 3)))))) b) (.cons (.ret (.con (.bl true))) .nil)
theorem W_cells {B : Tb} {k : Nat} {b : MSs} [Has B 27 ⟨1, false, k + 2, cellsM b⟩] [Has B 16 fd__law_cell_at] (j : Nat) (st : ∀ (i : Int) (e0 : Option SV) (vs : List (Option SV)) (h : MH), vs.length = k → W (evSs B.ct (lv B (j + 1)) b (e0 :: some (.val (.int i)) :: vs) h) fun fl _ => ∃ v vs', fl = .nx (e0 :: v :: vs') ∧ vs'.length = k) (ns : List Int) (hn : ns.length ≤ 63) :
    ∃ h, (lv B (j + 2)).fn 27 [.lst (ns.map D.int)] [] = .ok (.bl true) h := by
  obtain ⟨x, ex, hx⟩ := cell_at_run (T := B.ct) (C := lv B j) (h := []) (ns.map D.int) 0
  have hint : ∃ i, x = .int i := by
    rcases hx with rfl | hx
    · exact ⟨0, rfl⟩
    · obtain ⟨i, _, rfl⟩ := List.mem_map.mp hx
      exact ⟨i, rfl⟩
  obtain ⟨i0, rfl⟩ := hint
  have ec : ∃ l : List Int, cutL (ns.map D.int) (some 1) (some 3) = l.map D.int ∧ l.length ≤ 63 := by
    refine ⟨(ns.drop (HT.sIx (ns.map D.int).length 0 (some 1))).take (HT.sIx (ns.map D.int).length (ns.map D.int).length (some 3) - HT.sIx (ns.map D.int).length 0 (some 1)), ?_, ?_⟩
    · unfold cutL
      rw [List.map_take, List.map_drop]
    · rw [List.length_take, List.length_drop]
      omega
  obtain ⟨l, el, hl⟩ := ec
  have e0 : (lv B (j + 1)).fn 16 [.lst (ns.map D.int), .int 0] [] = .ok (.int i0) [] := (fn_lv j _ []).trans ex
  have e1 : slD (.lst (ns.map D.int)) (some (.int 1)) (some (.int 3)) = some (.lst (l.map D.int)) := by
    show some (D.lst (cutL (ns.map D.int) (some 1) (some 3))) = _
    rw [el]
  have : W ((lv B (j + 2)).fn 27 [.lst (ns.map D.int)] []) fun d _ => d = .bl true := by
    rw [fn_lv (j + 1)]
    simp (disch := omega) only [seval, cellsM, e0, e1]
    have e2 : D.int i0 :: l.map D.int = (i0 :: l).map D.int := rfl
    rw [e2]
    refine W_for (fun env _ => ∃ v vs', env = some (SV.val (.lst (ns.map D.int))) :: v :: vs' ∧ vs'.length = k) ⟨_, _, rfl, by rw [List.length_replicate]⟩ (fun i hi env h => ?_) fun env h => ?_
    · rintro ⟨v, vs', rfl, hk⟩
      simp (disch := omega) only [seval]
      refine W_mono (st i _ vs' h hk) fun fl h' => ?_
      rintro ⟨v, vs', rfl, hk⟩
      exact ⟨v, vs', rfl, hk⟩
    · rintro ⟨v, vs', rfl, hk⟩
      simp (disch := omega) only [seval]
  obtain ⟨d, h, e, rfl⟩ := W_ex this
  exact ⟨h, e⟩
/-! ### draws -/
section
variable {B : Tb} {h : MH} {n m k : Nat}
theorem W_draw [Has B 18 fd__law_draw] {Q : D → MH → Prop} (j : Nat) (p : Pen h n m) (hm : m < 900000000) (hk : 0 < k) (hk2 : k < 1000000) (q : ∀ (d : Nat) (h' : MH), d < k → Mv n (m + 1) h h' → Q (.int d) h') : W ((lv B (j + 1)).fn 18 [.ref n, .int k] h) Q := by
  obtain ⟨d, h', e, hd, v⟩ := L_drawM (B := B) j p (by omega) hk hk2
  exact W_of e (q d h' hd v)
theorem W_lset [Has B 18 fd__law_draw] [Has B 19 fd__law_set] {Q : D → MH → Prop} (j : Nat) (p : Pen h n m) (hm : m < 900000000) (hk : k ≤ 7) (q : ∀ (b : Nat) (h' : MH), b < 2 ^ k → Mv n (m + 10) h h' → Q (S b) h') : W ((lv B (j + 2)).fn 19 [.ref n, .int k] h) Q := by
  obtain ⟨b, h', e, hb, v⟩ := L_lset (B := B) j p (by omega) hk
  exact W_of e (q b h' hb (v.mono (by omega)))
theorem W_rows [Has B 18 fd__law_draw] [Has B 19 fd__law_set] [Has B 72 fd__law_rows] {Q : D → MH → Prop} (j : Nat) (p : Pen h n m) (hm : m < 700000000) (hk0 : 0 < k) (hk : k ≤ 7) (q : ∀ (bs : List Nat) (h' : MH), Rows k bs → Mv n (m + 100) h h' → Q (Rw bs) h') : W ((lv B (j + 3)).fn 72 [.ref n, .int k] h) Q := by
  obtain ⟨bs, h', e, r, v⟩ := L_rows (B := B) j p hm hk0 hk
  exact W_of e (q bs h' r v)
theorem W_pen [Has B 17 fd__law_pen] {Q : D → MH → Prop} (j : Nat) (x : Int) (q : ∀ (h' : MH), h'.length = h.length + 1 → Pen h' h.length 0 → (∀ i, i < h.length → h'[i]? = h[i]?) → Q (.ref h.length) h') : W ((lv B (j + 1)).fn 17 [.int x] h) Q := by
  obtain ⟨o, e, po⟩ := pen_run (T := B.ct) (C := lv B j) (h := h) x
  refine W_of ((fn_lv j _ h).trans e) (q _ (by simp) ⟨o, by simp, po⟩ fun i hi => ?_)
  rw [List.getElem?_append_left hi]
theorem W_every [Has B 25 fd__law_every_set] {Q : D → MH → Prop} (j : Nat) (hn : n ≤ 7) (q : ∀ L : List Nat, L.length = 2 ^ n → (∀ b ∈ L, b < 2 ^ n) → Q (.lst (L.map S)) h) : W ((lv B (j + 1)).fn 25 [.int n] h) Q := by
  obtain ⟨L, e, hl, hb⟩ := L_every (B := B) j hn h
  exact W_of e (q L hl hb)
end
end Mi
/-! MiQ3: sets in order; different sets in order; what they have in common. -/
namespace Mi
open PySem
local macro_rules
  | `(tactic| simp (disch := omega) only [seval]) => `(tactic| simp -implicitDefEqProofs (disch := omega) only [W_ok, W_no, W_bd, W_ite, s_bd_ok, s_bd_no, s_ofO_some, s_ofO_none, s_dec, s_decf, s_notb, s_notf, s_nnot, s_nt, s_nf, s_tt, s_ff, s_ft, s_tf, s_it, s_if, s_ifp, s_ifn, s_lm, s_lr, s_flr, s_lr', s_is, s_ci, s_cl, s_ce, s_dT, s_dF, s_bt, s_bt2, s_bf, s_bf2, s_ot, s_ot2, s_of, s_of2, s_an, s_na, s_nT, s_nF, s_ga, s_gs, s_sz, s_ss, s_ln, s_lc, s_mn, s_mc, s_pn, s_pc, s_apn, s_r0, s_rs, s_tk0, s_tks, s_dp0, s_dps, s_lim, s_mapS, s_mapN, s_binS, s_binN, W_vl, q_var, q_and, q_or, q_evE_glo, q_evE_con, q_evE_bin, q_evE_neg, q_evE_inv, q_evE_cmp, q_evE_cmp2, q_evE_isn, q_evE_notn, q_evE_not, q_evE_ite, q_evE_tup, q_evE_lst, q_evE_idx, q_evE_sl, q_evE_rev, q_evE_call, q_evE_make, q_evE_makeV, q_evE_blt, q_evE_sortK, q_evE_isi, q_evE_meth, q_evE_smeth, q_evE_attr, q_evE_cm, q_evE_lcK, q_evE_lc, q_evE_col, q_evE_dnew, q_evE_alloc, q_evO_none, q_evO_some, q_evA_nil, q_evA_cons, q_evA_star, q_evB_nil, q_evB_cons, q_evB_star, q_evTs_nil, q_evTs_cons, q_evTs_star, q_evI_seq, q_evI_rng, q_evI_rng2, q_evI_enm, q_evI_zip, q_evS_set, q_evS_setO, q_evS_par, q_evS_unp, q_evS_sattr, q_evS_pattr, q_evS_sidx, q_evS_oidx, oix_l, oix_d, oix_n, q_evS_app, q_evS_ext, q_evS_popS, q_evS_popD, q_evS_ex, q_evS_ifs, q_evS_for, q_evS_while, q_evS_ret, q_evS_retO, q_evS_retN, q_evS_pass, q_evS_brk, q_evS_cont, q_evS_sini, q_evS_frz, q_evSs_nil, q_evSs_cons, q_evT, q_tru, W_vbo, W_vbv, bor_var, bor_glo, bor_con, bor_bin, bor_neg, bor_inv, bor_cmp, bor_cmp2, bor_isn, bor_notn, bor_and, bor_or, bor_not, bor_ite, bor_tup, bor_lst, bor_idx, bor_sl, bor_rev, bor_call, bor_make, bor_makeV, bor_blt, bor_sortK, bor_isi, bor_meth, bor_smeth, bor_attr, bor_cm, bor_lc, bor_lcK, bor_lc2, bor_col, bor_dnew, bor_alloc, ov_o, ov_v, ov_var, ov_glo, ov_con, ov_bin, ov_neg, ov_inv, ov_cmp, ov_cmp2, ov_isn, ov_notn, ov_and, ov_or, ov_not, ov_ite, ov_tup, ov_lst, ov_idx, ov_sl, ov_rev, ov_call, ov_make, ov_makeV, ov_blt, ov_sortK, ov_isi, ov_meth, ov_smeth, ov_attr, ov_cm, ov_lc, ov_lcK, ov_lc2, ov_col, ov_alloc, top_lst, top_dct, top_ins, wipe_nil, wipe_cons, q_bindT1, q_bindTm, q_bindN, q_bindC, q_asF, q_asL, q_asD, q_setN, q_setC, q_raise, d_addnn, d_addkn, d_addnk, d_sub, d_band, d_bor, d_shl1, d_shr, d_and1, d_bit, d_addl, d_addt, d_adds, s_la, s_sa, d_tb, d_tn, d_eqi, d_nei, d_lti, d_lei, d_gti, d_gei, d_inSn, d_niSn, d_rng, d_rngk, d_rng2, d_str, d_noni, d_nont, d_nonl, d_nonn, d_seqt, d_seql, d_seqS, d_seqR, d_enmt, d_enml, d_enmR, d_lent, d_lenl, d_lenS, d_lenR, d_tupl, d_tupt, d_lstl, d_lstt, d_all, d_sum, d_idt, d_idl, d_idR, atI_0, atI_1, atI_2, pf_n, pf_e, pf_d, atI_3, atI_4, atI_5, atI_6, c_obj, f_obj, k_obj, lk_0, lk_1, t_i, t_kt, k_int, k_tup, k_S, k_lst, k_str, k_non, ty_t4, ty_s3, ty_i2, ty_bc, nn_l, nn_t, nn_S, nn_R, nn_b, nn_n, nn_i, al_n, al_c, wt_l, wt_t, wt_i, wt_b, wt_n, wt_s, wts_n, wts_c, t_m, t_p, t_f, t_fp, t_c, t_mk, t_s, optW_some, q_run, q_runI, q_self, q_bindA, q_bindV, ↓reduceIte, Nat.reduceAdd, Nat.reduceSub, Nat.reduceMul, Nat.reducePow, Nat.reduceLeDiff, Nat.reduceEqDiff, Nat.reduceBEq, Nat.reduceSucc, Int.reduceNeg, Int.reduceLE, Int.reduceLT, Int.reduceEq, Int.reduceAdd, Int.reduceSub, reduceCtorEq])
  | `(tactic| simp (disch := omega) only [seval, $xs,*]) => `(tactic| simp -implicitDefEqProofs (disch := omega) only [W_ok, W_no, W_bd, W_ite, s_bd_ok, s_bd_no, s_ofO_some, s_ofO_none, s_dec, s_decf, s_notb, s_notf, s_nnot, s_nt, s_nf, s_tt, s_ff, s_ft, s_tf, s_it, s_if, s_ifp, s_ifn, s_lm, s_lr, s_flr, s_lr', s_is, s_ci, s_cl, s_ce, s_dT, s_dF, s_bt, s_bt2, s_bf, s_bf2, s_ot, s_ot2, s_of, s_of2, s_an, s_na, s_nT, s_nF, s_ga, s_gs, s_sz, s_ss, s_ln, s_lc, s_mn, s_mc, s_pn, s_pc, s_apn, s_r0, s_rs, s_tk0, s_tks, s_dp0, s_dps, s_lim, s_mapS, s_mapN, s_binS, s_binN, W_vl, q_var, q_and, q_or, q_evE_glo, q_evE_con, q_evE_bin, q_evE_neg, q_evE_inv, q_evE_cmp, q_evE_cmp2, q_evE_isn, q_evE_notn, q_evE_not, q_evE_ite, q_evE_tup, q_evE_lst, q_evE_idx, q_evE_sl, q_evE_rev, q_evE_call, q_evE_make, q_evE_makeV, q_evE_blt, q_evE_sortK, q_evE_isi, q_evE_meth, q_evE_smeth, q_evE_attr, q_evE_cm, q_evE_lcK, q_evE_lc, q_evE_col, q_evE_dnew, q_evE_alloc, q_evO_none, q_evO_some, q_evA_nil, q_evA_cons, q_evA_star, q_evB_nil, q_evB_cons, q_evB_star, q_evTs_nil, q_evTs_cons, q_evTs_star, q_evI_seq, q_evI_rng, q_evI_rng2, q_evI_enm, q_evI_zip, q_evS_set, q_evS_setO, q_evS_par, q_evS_unp, q_evS_sattr, q_evS_pattr, q_evS_sidx, q_evS_oidx, oix_l, oix_d, oix_n, q_evS_app, q_evS_ext, q_evS_popS, q_evS_popD, q_evS_ex, q_evS_ifs, q_evS_for, q_evS_while, q_evS_ret, q_evS_retO, q_evS_retN, q_evS_pass, q_evS_brk, q_evS_cont, q_evS_sini, q_evS_frz, q_evSs_nil, q_evSs_cons, q_evT, q_tru, W_vbo, W_vbv, bor_var, bor_glo, bor_con, bor_bin, bor_neg, bor_inv, bor_cmp, bor_cmp2, bor_isn, bor_notn, bor_and, bor_or, bor_not, bor_ite, bor_tup, bor_lst, bor_idx, bor_sl, bor_rev, bor_call, bor_make, bor_makeV, bor_blt, bor_sortK, bor_isi, bor_meth, bor_smeth, bor_attr, bor_cm, bor_lc, bor_lcK, bor_lc2, bor_col, bor_dnew, bor_alloc, ov_o, ov_v, ov_var, ov_glo, ov_con, ov_bin, ov_neg, ov_inv, ov_cmp, ov_cmp2, ov_isn, ov_notn, ov_and, ov_or, ov_not, ov_ite, ov_tup, ov_lst, ov_idx, ov_sl, ov_rev, ov_call, ov_make, ov_makeV, ov_blt, ov_sortK, ov_isi, ov_meth, ov_smeth, ov_attr, ov_cm, ov_lc, ov_lcK, ov_lc2, ov_col, ov_alloc, top_lst, top_dct, top_ins, wipe_nil, wipe_cons, q_bindT1, q_bindTm, q_bindN, q_bindC, q_asF, q_asL, q_asD, q_setN, q_setC, q_raise, d_addnn, d_addkn, d_addnk, d_sub, d_band, d_bor, d_shl1, d_shr, d_and1, d_bit, d_addl, d_addt, d_adds, s_la, s_sa, d_tb, d_tn, d_eqi, d_nei, d_lti, d_lei, d_gti, d_gei, d_inSn, d_niSn, d_rng, d_rngk, d_rng2, d_str, d_noni, d_nont, d_nonl, d_nonn, d_seqt, d_seql, d_seqS, d_seqR, d_enmt, d_enml, d_enmR, d_lent, d_lenl, d_lenS, d_lenR, d_tupl, d_tupt, d_lstl, d_lstt, d_all, d_sum, d_idt, d_idl, d_idR, atI_0, atI_1, atI_2, pf_n, pf_e, pf_d, atI_3, atI_4, atI_5, atI_6, c_obj, f_obj, k_obj, lk_0, lk_1, t_i, t_kt, k_int, k_tup, k_S, k_lst, k_str, k_non, ty_t4, ty_s3, ty_i2, ty_bc, nn_l, nn_t, nn_S, nn_R, nn_b, nn_n, nn_i, al_n, al_c, wt_l, wt_t, wt_i, wt_b, wt_n, wt_s, wts_n, wts_c, t_m, t_p, t_f, t_fp, t_c, t_mk, t_s, optW_some, q_run, q_runI, q_self, q_bindA, q_bindV, ↓reduceIte, Nat.reduceAdd, Nat.reduceSub, Nat.reduceMul, Nat.reducePow, Nat.reduceLeDiff, Nat.reduceEqDiff, Nat.reduceBEq, Nat.reduceSucc, Int.reduceNeg, Int.reduceLE, Int.reduceLT, Int.reduceEq, Int.reduceAdd, Int.reduceSub, reduceCtorEq, $xs,*])

/-! ### the order -/
def rev7 (b : Nat) : Nat := (if b.testBit 0 then 64 else 0) + (if b.testBit 1 then 32 else 0) + (if b.testBit 2 then 16 else 0) + (if b.testBit 3 then 8 else 0) + (if b.testBit 4 then 4 else 0) + (if b.testBit 5 then 2 else 0) + (if b.testBit 6 then 1 else 0)
/-- what a set is ordered by, as a number -/
def key7 (b : Nat) : Nat := (sl7 b).length * 128 + (127 - rev7 b)
def leK (a b : Nat) : Bool := decide (key7 a ≤ key7 b)
def ord7 : List Nat := [0, 1, 2, 4, 8, 16, 32, 64, 3, 5, 9, 17, 33, 65, 6, 10, 18, 34, 66, 12, 20, 36, 68, 24, 40, 72, 48, 80, 96, 7, 11, 19, 35, 67, 13, 21, 37, 69, 25, 41, 73, 49, 81, 97, 14, 22, 38, 70, 26, 42, 74, 50, 82, 98, 28, 44, 76, 52, 84, 100, 56, 88, 104, 112, 15, 23, 39, 71, 27, 43, 75, 51, 83, 99, 29, 45, 77, 53, 85, 101, 57, 89, 105, 113, 30, 46, 78, 54, 86, 102, 58, 90, 106, 114, 60, 92, 108, 116, 120, 31, 47, 79, 55, 87, 103, 59, 91, 107, 115, 61, 93, 109, 117, 121, 62, 94, 110, 118, 122, 124, 63, 95, 111, 119, 123, 125, 126, 127]
theorem tab7 : ((List.range 128).all fun a => (List.range 128).all fun b => leK a b == PySem.W.dataLe false D.py (P2 a) (P2 b)) = true := by kernel_rfl
theorem leK_eq {a b : Nat} (ha : a < 128) (hb : b < 128) : leK a b = PySem.W.dataLe false D.py (P2 a) (P2 b) :=
  eq_of_beq (List.all_eq_true.mp (List.all_eq_true.mp tab7 a (List.mem_range.mpr ha)) b (List.mem_range.mpr hb))
theorem inj7 : ((List.range 128).all fun a => (List.range 128).all fun b => !(key7 a == key7 b) || a == b) = true := by decide +kernel
theorem key7_inj {a b : Nat} (ha : a < 128) (hb : b < 128) (e : key7 a = key7 b) : a = b := by
  have := List.all_eq_true.mp (List.all_eq_true.mp inj7 a (List.mem_range.mpr ha)) b (List.mem_range.mpr hb)
  rw [e] at this
  simpa using this
theorem ord7_lt : ord7.all (fun b => decide (b < 128)) = true := by decide +kernel
theorem ord7_all : (List.range 128).all (fun b => ord7.contains b) = true := by decide +kernel
theorem ord7_sorted : ord7.Pairwise (fun a b => key7 a < key7 b) := by decide +kernel
theorem mem_ord7 {b : Nat} : b ∈ ord7 ↔ b < 128 :=
  ⟨fun h => of_decide_eq_true (List.all_eq_true.mp ord7_lt b h), fun h => by simpa using List.all_eq_true.mp ord7_all b (List.mem_range.mpr h)⟩
/-- those that pass, in order -/
def fam (p : Nat → Bool) : List Nat := ord7.filter p
theorem mem_fam {p : Nat → Bool} {b : Nat} : b ∈ fam p ↔ b < 128 ∧ p b = true := by
  unfold fam
  rw [List.mem_filter, mem_ord7]
theorem fam_sorted (p : Nat → Bool) : (fam p).Pairwise (fun a b => key7 a < key7 b) := ord7_sorted.filter p
theorem fam_nodup (p : Nat → Bool) : (fam p).Nodup := (fam_sorted p).imp fun h e => by
  subst e
  omega
theorem fam_congr {p q : Nat → Bool} (h : ∀ b, b < 128 → p b = q b) : fam p = fam q := List.filter_congr fun b hb => h b (mem_ord7.mp hb)
theorem fam_len (p : Nat → Bool) : (fam p).length ≤ 128 := by
  have := List.length_filter_le p ord7
  exact Nat.le_trans this (by decide)
theorem sort_eq {l : List Nat} (hl : ∀ b ∈ l, b < 128) (nd : l.Nodup) : l.mergeSort leK = fam (fun b => decide (b ∈ l)) := by
  have hp := List.mergeSort_perm l leK
  refine List.Perm.eq_of_pairwise (le := fun a b => key7 a ≤ key7 b) (fun a b ha hb h1 h2 => ?_) ?_ ?_ ?_
  · exact key7_inj (hl a (hp.mem_iff.mp ha)) (mem_fam.mp hb).1 (by omega)
  · refine (List.pairwise_mergeSort (le := leK) (fun a b c h1 h2 => ?_) (fun a b => ?_) l).imp fun h => of_decide_eq_true h
    · unfold leK at *
      rw [decide_eq_true_iff] at *
      omega
    · unfold leK
      rw [Bool.or_eq_true, decide_eq_true_iff, decide_eq_true_iff]
      omega
  · exact (fam_sorted _).imp fun h => Nat.le_of_lt h
  · refine (List.perm_ext_iff_of_nodup (hp.nodup_iff.mpr nd) (fam_nodup _)).mpr fun a => ?_
    rw [hp.mem_iff, mem_fam, decide_eq_true_iff]
    exact ⟨fun h => ⟨hl a h, h⟩, fun h => h.2⟩
/-- a list of pairs, put in order -/
theorem sortd_P2 {l : List Nat} (hl : ∀ b ∈ l, b < 128) (nd : l.Nodup) : sortd (l.map P2) = (fam (fun b => decide (b ∈ l))).map P2 := by
  rw [← sort_eq hl nd]
  unfold sortd
  exact (List.map_mergeSort (r := leK) (s := PySem.W.dataLe false D.py) (f := P2) (l := l) fun a ha b hb => leK_eq (hl a ha) (hl b hb)).symm
theorem sortk_P2 {l : List Nat} (hl : ∀ b ∈ l, b < 128) (nd : l.Nodup) : (sortk ((l.map fun (b : Nat) => D.int (b : Int)).zip (l.map P2))).map (·.1) = (fam (fun b => decide (b ∈ l))).map fun (b : Nat) => D.int (b : Int) := by
  have e : (l.map fun (b : Nat) => D.int (b : Int)).zip (l.map P2) = l.map fun (b : Nat) => (D.int (b : Int), P2 b) := by
    clear hl nd
    induction l with
    | nil => rfl
    | cons a r ih =>
      show (D.int (a : Int), P2 a) :: (r.map fun (b : Nat) => D.int (b : Int)).zip (r.map P2) = _
      rw [ih]
      rfl
  rw [e, ← sort_eq hl nd]
  unfold sortk
  have e2 := List.map_mergeSort (r := leK) (s := PySem.W.dataLe false fun p : D × D => p.2.py) (f := fun (b : Nat) => (D.int (b : Int), P2 b)) (l := l) fun a ha b hb => leK_eq (hl a ha) (hl b hb)
  rw [← e2, List.map_map]
  rfl
/-! ### dicts as lists of numbers -/
def ins (ks : List Nat) (b : Nat) : List Nat := if b ∈ ks then ks else ks ++ [b]
theorem mem_ins {ks : List Nat} {b x : Nat} : x ∈ ins ks b ↔ x ∈ ks ∨ x = b := by
  unfold ins
  split
  · rename_i h
    exact ⟨.inl, fun e => e.elim id fun e => e ▸ h⟩
  · rw [List.mem_append, List.mem_singleton]
theorem nodup_ins {ks : List Nat} {b : Nat} (nd : ks.Nodup) : (ins ks b).Nodup := by
  unfold ins
  split
  · exact nd
  · rename_i h
    rw [List.nodup_append]
    exact ⟨nd, by simp, fun a ha c hc => by
      rw [List.mem_singleton] at hc
      subst hc
      exact fun e => h (e ▸ ha)⟩
def inss (ks L : List Nat) : List Nat := L.foldl ins ks
theorem mem_inss {L : List Nat} : ∀ {ks : List Nat} {x : Nat}, x ∈ inss ks L ↔ x ∈ ks ∨ x ∈ L := by
  induction L with
  | nil => simp [inss]
  | cons a r ih =>
    intro ks x
    show x ∈ inss (ins ks a) r ↔ _
    rw [ih, mem_ins, List.mem_cons]
    exact or_assoc
theorem nodup_inss {L : List Nat} : ∀ {ks : List Nat}, ks.Nodup → (inss ks L).Nodup := by
  induction L with
  | nil => exact id
  | cons a r ih => exact fun nd => ih (nodup_ins nd)
theorem inss_snoc {ks L : List Nat} {a : Nat} : inss ks (L ++ [a]) = ins (inss ks L) a := by
  unfold inss
  rw [List.foldl_append]
  rfl
theorem len_nd {l : List Nat} (nd : l.Nodup) (h : ∀ b ∈ l, b < 128) : l.length ≤ 128 := by
  have h1 := List.mergeSort_perm l leK
  rw [sort_eq h nd] at h1
  rw [← h1.length_eq]
  exact fam_len _
def dI (b : Nat) : D × D := (.int b, .bl true)
def dP (b : Nat) : D × D := (P2 b, .bl true)
theorem any_I (ks : List Nat) (b : Nat) : ((ks.map dI).any fun z => eqd z.1 (.int b)) = decide (b ∈ ks) := by
  rw [List.any_map, Bool.eq_iff_iff, List.any_eq_true, decide_eq_true_iff]
  constructor
  · rintro ⟨a, ha, e⟩
    have e : ((a : Int) == (b : Int)) = true := e
    have := eq_of_beq e
    have : a = b := by omega
    exact this ▸ ha
  · exact fun h => ⟨b, h, (beq_self_eq_true (b : Int) : ((b : Int) == (b : Int)) = true)⟩
theorem eqd_P2 {a b : Nat} (ha : a < 128) (hb : b < 128) : eqd (P2 a) (P2 b) = decide (a = b) := by
  show (((((sl7 a).length : Int) == ((sl7 b).length : Int)) && (eqds ((sl7 a).map D.int) ((sl7 b).map D.int) && true))) = _
  rw [eqds_ints, Bool.and_true, Bool.eq_iff_iff, Bool.and_eq_true, decide_eq_true_iff, decide_eq_true_iff]
  exact ⟨fun e => sl7_inj ha hb e.2, fun e => by subst e; exact ⟨beq_self_eq_true _, rfl⟩⟩
theorem any_P {ks : List Nat} {b : Nat} (hk : ∀ a ∈ ks, a < 128) (hb : b < 128) : ((ks.map dP).any fun z => eqd z.1 (P2 b)) = decide (b ∈ ks) := by
  rw [List.any_map, Bool.eq_iff_iff, List.any_eq_true, decide_eq_true_iff]
  constructor
  · rintro ⟨a, ha, e⟩
    have e : eqd (P2 a) (P2 b) = true := e
    rw [eqd_P2 (hk a ha) hb, decide_eq_true_iff] at e
    exact e ▸ ha
  · exact fun h => ⟨b, h, by show eqd (P2 b) (P2 b) = true; rw [eqd_P2 hb hb]; simp⟩
theorem put_same {l : List (D × D)} {k v : D} (h : ∀ z ∈ l, eqd z.1 k = true → z = (z.1, v)) : (l.map fun z => if eqd z.1 k then (z.1, v) else z) = l := by
  induction l with
  | nil => rfl
  | cons z r ih =>
    rw [List.map_cons, ih fun y hy => h y (List.mem_cons_of_mem _ hy)]
    split
    · rename_i e
      rw [← h z List.mem_cons_self e]
    · rfl
theorem put_I (ks : List Nat) (b : Nat) : putD (.int b) (.bl true) (ks.map dI) = (ins ks b).map dI := by
  unfold putD ins
  rw [any_I]
  by_cases hb : b ∈ ks
  · rw [if_pos (decide_eq_true hb), if_pos hb]
    refine put_same fun z hz _ => ?_
    obtain ⟨a, _, rfl⟩ := List.mem_map.mp hz
    rfl
  · rw [if_neg (by simpa using hb), if_neg hb, List.map_append]
    rfl
theorem put_P {ks : List Nat} {b : Nat} (hk : ∀ a ∈ ks, a < 128) (hb : b < 128) : putD (P2 b) (.bl true) (ks.map dP) = (ins ks b).map dP := by
  unfold putD ins
  rw [any_P hk hb]
  by_cases hb : b ∈ ks
  · rw [if_pos (decide_eq_true hb), if_pos hb]
    refine put_same fun z hz _ => ?_
    obtain ⟨a, _, rfl⟩ := List.mem_map.mp hz
    rfl
  · rw [if_neg (by simpa using hb), if_neg hb, List.map_append]
    rfl
theorem setK_I {ks : List Nat} (h : ks.length < 1000000) (b : Nat) : setK (.dct (ks.map dI)) (.int b) (.bl true) = some (.dct ((ins ks b).map dI)) := by
  show (if key1 (.int b) && decide ((ks.map dI).length < lim) then some (MO.dct (putD (.int b) (.bl true) (ks.map dI))) else _) = _
  rw [put_I, if_pos]
  rw [List.length_map, decide_eq_true (show ks.length < lim from h)]
  rfl
/-- the dict of pairs; the empty one has no kind yet -/
def dctP (ks : List Nat) : MO := if ks.isEmpty then .dct [] else .ndc (ks.map dP)
theorem keyN_P2 (b : Nat) : keyN 8 (P2 b) = true := by
  show (keyN 7 (.int ((sl7 b).length : Int)) && (keyN 7 (S b) && true)) = true
  have : keyN 7 (S b) = true := by
    show ((sl7 b).map D.int).all (keyN 6) = true
    rw [List.all_map]
    exact List.all_eq_true.mpr fun _ _ => rfl
  rw [this]
  rfl
theorem setK_P {ks : List Nat} (h : ks.length < 1000000) (hk : ∀ a ∈ ks, a < 128) {b : Nat} (hb : b < 128) : setK (dctP ks) (P2 b) (.bl true) = some (dctP (ins ks b)) := by
  cases ks with
  | nil =>
    show (if isTupD (P2 b) && keyN 8 (P2 b) && ([] : List (D × D)).isEmpty then some (MO.ndc [(P2 b, .bl true)]) else none) = _
    rw [keyN_P2]
    rfl
  | cons a r =>
    show (if isTupD (P2 b) && keyN 8 (P2 b) && decide (((a :: r).map dP).length < lim) then some (MO.ndc (putD (P2 b) (.bl true) ((a :: r).map dP))) else none) = _
    rw [keyN_P2, put_P hk hb, List.length_map, decide_eq_true (show (a :: r).length < lim from h)]
    have : (ins (a :: r) b).isEmpty = false := by
      unfold ins
      split <;> rfl
    unfold dctP
    rw [this]
    rfl
theorem keys_P (ks : List Nat) : itemsS (dctP ks).top = some (ks.map P2) := by
  cases ks with
  | nil => rfl
  | cons a r =>
    show some (((a :: r).map dP).map (·.1)) = _
    rw [List.map_map]
    rfl
section
variable {B : Tb} {T : CT} {C : Cl} {h : MH} {f : Nat}
theorem X_place [QB B f] [Has B 7 fd_place] (j : Nat) {b : Nat} (hb : b < 128) (h : MH) : (lv B (j + 2)).fn 7 [.int b] h = .ok (P2 b) h := by
  refine by_W ?_
  rw [fn_lv]
  simp (disch := omega) only [seval, fd_place, X_states (B := B) (f := f) j hb, P2]
theorem X_full [Has B 6 fd_full] (j : Nat) {n : Nat} (hn : n ≤ 7) (h : MH) : (lv B (j + 1)).fn 6 [.int n] h = .ok (.int ((2 ^ n - 1 : Nat) : Int)) h := by
  refine by_W ?_
  rw [fn_lv]
  simp (disch := omega) only [seval, fd_full]
  have := Nat.two_pow_pos n
  congr 1
  omega
theorem keysOfs_P [QB B f] [Has B 7 fd_place] (j : Nat) : ∀ {l : List Nat}, (∀ b ∈ l, b < 128) → keysOfs (lv B (j + 2)) 7 (l.map fun (b : Nat) => D.int (b : Int)) h = .ok (l.map P2) h
  | [], _ => rfl
  | b :: r, hl => by
    show ((lv B (j + 2)).fn 7 [.int b] h).bd _ = _
    rw [X_place (f := f) j (hl b List.mem_cons_self), bd_ok]
    show (keysOfs (lv B (j + 2)) 7 (r.map fun (b : Nat) => D.int (b : Int)) h).bd _ = _
    rw [keysOfs_P j fun c hc => hl c (List.mem_cons_of_mem _ hc), bd_ok]
    rfl
/-- numbers as data -/
def In (l : List Nat) : List D := l.map fun (b : Nat) => D.int (b : Int)
theorem X_inorder [QB B f] [Has B 7 fd_place] [Has B 8 fd_in_order] (j : Nat) {l : List Nat} (hl : ∀ b ∈ l, b < 128) (h : MH) : (lv B (j + 3)).fn 8 [.lst (In l)] h = .ok (.tup (In (fam fun b => decide (b ∈ l)))) h := by
  refine by_W ?_
  rw [fn_lv]
  simp (disch := omega) only [seval, fd_in_order, In]
  refine W_forI (fun pre env h' => (∃ v2, env = [some (.val (.lst (In l))), some (.own (.dct ((inss [] pre).map dI))), v2]) ∧ h' = h) _ ⟨⟨_, rfl⟩, rfl⟩ (fun pre b r er env h' => ?_) fun env h' => ?_
  · rintro ⟨⟨v2, rfl⟩, rfl⟩
    have hpre : ∀ x ∈ inss [] pre, x < 128 := fun x hx => by
      rcases mem_inss.mp hx with h | h
      · cases h
      · exact hl x (by rw [er]; exact List.mem_append_left _ h)
    have hlen := len_nd (nodup_inss (L := pre) (ks := []) List.nodup_nil) hpre
    simp (disch := omega) only [seval, setK_I]
    rw [inss_snoc]
    exact ⟨_, rfl⟩
  · rintro ⟨⟨v2, rfl⟩, rfl⟩
    have hm : ∀ x ∈ inss [] l, x < 128 := fun x hx => by
      rcases mem_inss.mp hx with h | h
      · cases h
      · exact hl x h
    have nd := nodup_inss (L := l) (ks := []) List.nodup_nil
    have hlen := len_nd nd hm
    have e1 : items (.dct ((inss [] l).map dI)) = some (In (inss [] l)) := by
      show some (((inss [] l).map dI).map (·.1)) = _
      rw [List.map_map]
      rfl
    have e2 := keysOfs_P (B := B) (f := f) (h := h') j hm
    have e3 : cmpb ((inss [] l).map P2) = true := cmpb_P2 (by omega)
    have e4 := sortk_P2 hm nd
    have e5 : (fam fun b => decide (b ∈ inss [] l)) = fam fun b => decide (b ∈ l) := fam_congr fun b _ => by
      rw [Bool.eq_iff_iff, decide_eq_true_iff, decide_eq_true_iff, mem_inss]
      simp
    rw [e5] at e4
    unfold In at *
    simp (disch := omega) only [seval, e1, e2, e3, e4]
end
end Mi
/-! MiQ4: what sets have in common, by the program and by the law. -/
namespace Mi
open PySem
local macro_rules
  | `(tactic| simp (disch := omega) only [seval]) => `(tactic| simp -implicitDefEqProofs (disch := omega) only [W_ok, W_no, W_bd, W_ite, s_bd_ok, s_bd_no, s_ofO_some, s_ofO_none, s_dec, s_decf, s_notb, s_notf, s_nnot, s_nt, s_nf, s_tt, s_ff, s_ft, s_tf, s_it, s_if, s_ifp, s_ifn, s_lm, s_lr, s_flr, s_lr', s_is, s_ci, s_cl, s_ce, s_dT, s_dF, s_bt, s_bt2, s_bf, s_bf2, s_ot, s_ot2, s_of, s_of2, s_an, s_na, s_nT, s_nF, s_ga, s_gs, s_sz, s_ss, s_ln, s_lc, s_mn, s_mc, s_pn, s_pc, s_apn, s_r0, s_rs, s_tk0, s_tks, s_dp0, s_dps, s_lim, s_mapS, s_mapN, s_binS, s_binN, W_vl, q_var, q_and, q_or, q_evE_glo, q_evE_con, q_evE_bin, q_evE_neg, q_evE_inv, q_evE_cmp, q_evE_cmp2, q_evE_isn, q_evE_notn, q_evE_not, q_evE_ite, q_evE_tup, q_evE_lst, q_evE_idx, q_evE_sl, q_evE_rev, q_evE_call, q_evE_make, q_evE_makeV, q_evE_blt, q_evE_sortK, q_evE_isi, q_evE_meth, q_evE_smeth, q_evE_attr, q_evE_cm, q_evE_lcK, q_evE_lc, q_evE_col, q_evE_dnew, q_evE_alloc, q_evO_none, q_evO_some, q_evA_nil, q_evA_cons, q_evA_star, q_evB_nil, q_evB_cons, q_evB_star, q_evTs_nil, q_evTs_cons, q_evTs_star, q_evI_seq, q_evI_rng, q_evI_rng2, q_evI_enm, q_evI_zip, q_evS_set, q_evS_setO, q_evS_par, q_evS_unp, q_evS_sattr, q_evS_pattr, q_evS_sidx, q_evS_oidx, oix_l, oix_d, oix_n, q_evS_app, q_evS_ext, q_evS_popS, q_evS_popD, q_evS_ex, q_evS_ifs, q_evS_for, q_evS_while, q_evS_ret, q_evS_retO, q_evS_retN, q_evS_pass, q_evS_brk, q_evS_cont, q_evS_sini, q_evS_frz, q_evSs_nil, q_evSs_cons, q_evT, q_tru, W_vbo, W_vbv, bor_var, bor_glo, bor_con, bor_bin, bor_neg, bor_inv, bor_cmp, bor_cmp2, bor_isn, bor_notn, bor_and, bor_or, bor_not, bor_ite, bor_tup, bor_lst, bor_idx, bor_sl, bor_rev, bor_call, bor_make, bor_makeV, bor_blt, bor_sortK, bor_isi, bor_meth, bor_smeth, bor_attr, bor_cm, bor_lc, bor_lcK, bor_lc2, bor_col, bor_dnew, bor_alloc, ov_o, ov_v, ov_var, ov_glo, ov_con, ov_bin, ov_neg, ov_inv, ov_cmp, ov_cmp2, ov_isn, ov_notn, ov_and, ov_or, ov_not, ov_ite, ov_tup, ov_lst, ov_idx, ov_sl, ov_rev, ov_call, ov_make, ov_makeV, ov_blt, ov_sortK, ov_isi, ov_meth, ov_smeth, ov_attr, ov_cm, ov_lc, ov_lcK, ov_lc2, ov_col, ov_alloc, top_lst, top_dct, top_ins, wipe_nil, wipe_cons, q_bindT1, q_bindTm, q_bindN, q_bindC, q_asF, q_asL, q_asD, q_setN, q_setC, q_raise, d_addnn, d_addkn, d_addnk, d_sub, d_band, d_bor, d_shl1, d_shr, d_and1, d_bit, d_addl, d_addt, d_adds, s_la, s_sa, d_tb, d_tn, d_eqi, d_nei, d_lti, d_lei, d_gti, d_gei, d_inSn, d_niSn, d_rng, d_rngk, d_rng2, d_str, d_noni, d_nont, d_nonl, d_nonn, d_seqt, d_seql, d_seqS, d_seqR, d_enmt, d_enml, d_enmR, d_lent, d_lenl, d_lenS, d_lenR, d_tupl, d_tupt, d_lstl, d_lstt, d_all, d_sum, d_idt, d_idl, d_idR, atI_0, atI_1, atI_2, pf_n, pf_e, pf_d, atI_3, atI_4, atI_5, atI_6, c_obj, f_obj, k_obj, lk_0, lk_1, t_i, t_kt, k_int, k_tup, k_S, k_lst, k_str, k_non, ty_t4, ty_s3, ty_i2, ty_bc, nn_l, nn_t, nn_S, nn_R, nn_b, nn_n, nn_i, al_n, al_c, wt_l, wt_t, wt_i, wt_b, wt_n, wt_s, wts_n, wts_c, t_m, t_p, t_f, t_fp, t_c, t_mk, t_s, optW_some, q_run, q_runI, q_self, q_bindA, q_bindV, ↓reduceIte, Nat.reduceAdd, Nat.reduceSub, Nat.reduceMul, Nat.reducePow, Nat.reduceLeDiff, Nat.reduceEqDiff, Nat.reduceBEq, Nat.reduceSucc, Int.reduceNeg, Int.reduceLE, Int.reduceLT, Int.reduceEq, Int.reduceAdd, Int.reduceSub, reduceCtorEq])
  | `(tactic| simp (disch := omega) only [seval, $xs,*]) => `(tactic| simp -implicitDefEqProofs (disch := omega) only [W_ok, W_no, W_bd, W_ite, s_bd_ok, s_bd_no, s_ofO_some, s_ofO_none, s_dec, s_decf, s_notb, s_notf, s_nnot, s_nt, s_nf, s_tt, s_ff, s_ft, s_tf, s_it, s_if, s_ifp, s_ifn, s_lm, s_lr, s_flr, s_lr', s_is, s_ci, s_cl, s_ce, s_dT, s_dF, s_bt, s_bt2, s_bf, s_bf2, s_ot, s_ot2, s_of, s_of2, s_an, s_na, s_nT, s_nF, s_ga, s_gs, s_sz, s_ss, s_ln, s_lc, s_mn, s_mc, s_pn, s_pc, s_apn, s_r0, s_rs, s_tk0, s_tks, s_dp0, s_dps, s_lim, s_mapS, s_mapN, s_binS, s_binN, W_vl, q_var, q_and, q_or, q_evE_glo, q_evE_con, q_evE_bin, q_evE_neg, q_evE_inv, q_evE_cmp, q_evE_cmp2, q_evE_isn, q_evE_notn, q_evE_not, q_evE_ite, q_evE_tup, q_evE_lst, q_evE_idx, q_evE_sl, q_evE_rev, q_evE_call, q_evE_make, q_evE_makeV, q_evE_blt, q_evE_sortK, q_evE_isi, q_evE_meth, q_evE_smeth, q_evE_attr, q_evE_cm, q_evE_lcK, q_evE_lc, q_evE_col, q_evE_dnew, q_evE_alloc, q_evO_none, q_evO_some, q_evA_nil, q_evA_cons, q_evA_star, q_evB_nil, q_evB_cons, q_evB_star, q_evTs_nil, q_evTs_cons, q_evTs_star, q_evI_seq, q_evI_rng, q_evI_rng2, q_evI_enm, q_evI_zip, q_evS_set, q_evS_setO, q_evS_par, q_evS_unp, q_evS_sattr, q_evS_pattr, q_evS_sidx, q_evS_oidx, oix_l, oix_d, oix_n, q_evS_app, q_evS_ext, q_evS_popS, q_evS_popD, q_evS_ex, q_evS_ifs, q_evS_for, q_evS_while, q_evS_ret, q_evS_retO, q_evS_retN, q_evS_pass, q_evS_brk, q_evS_cont, q_evS_sini, q_evS_frz, q_evSs_nil, q_evSs_cons, q_evT, q_tru, W_vbo, W_vbv, bor_var, bor_glo, bor_con, bor_bin, bor_neg, bor_inv, bor_cmp, bor_cmp2, bor_isn, bor_notn, bor_and, bor_or, bor_not, bor_ite, bor_tup, bor_lst, bor_idx, bor_sl, bor_rev, bor_call, bor_make, bor_makeV, bor_blt, bor_sortK, bor_isi, bor_meth, bor_smeth, bor_attr, bor_cm, bor_lc, bor_lcK, bor_lc2, bor_col, bor_dnew, bor_alloc, ov_o, ov_v, ov_var, ov_glo, ov_con, ov_bin, ov_neg, ov_inv, ov_cmp, ov_cmp2, ov_isn, ov_notn, ov_and, ov_or, ov_not, ov_ite, ov_tup, ov_lst, ov_idx, ov_sl, ov_rev, ov_call, ov_make, ov_makeV, ov_blt, ov_sortK, ov_isi, ov_meth, ov_smeth, ov_attr, ov_cm, ov_lc, ov_lcK, ov_lc2, ov_col, ov_alloc, top_lst, top_dct, top_ins, wipe_nil, wipe_cons, q_bindT1, q_bindTm, q_bindN, q_bindC, q_asF, q_asL, q_asD, q_setN, q_setC, q_raise, d_addnn, d_addkn, d_addnk, d_sub, d_band, d_bor, d_shl1, d_shr, d_and1, d_bit, d_addl, d_addt, d_adds, s_la, s_sa, d_tb, d_tn, d_eqi, d_nei, d_lti, d_lei, d_gti, d_gei, d_inSn, d_niSn, d_rng, d_rngk, d_rng2, d_str, d_noni, d_nont, d_nonl, d_nonn, d_seqt, d_seql, d_seqS, d_seqR, d_enmt, d_enml, d_enmR, d_lent, d_lenl, d_lenS, d_lenR, d_tupl, d_tupt, d_lstl, d_lstt, d_all, d_sum, d_idt, d_idl, d_idR, atI_0, atI_1, atI_2, pf_n, pf_e, pf_d, atI_3, atI_4, atI_5, atI_6, c_obj, f_obj, k_obj, lk_0, lk_1, t_i, t_kt, k_int, k_tup, k_S, k_lst, k_str, k_non, ty_t4, ty_s3, ty_i2, ty_bc, nn_l, nn_t, nn_S, nn_R, nn_b, nn_n, nn_i, al_n, al_c, wt_l, wt_t, wt_i, wt_b, wt_n, wt_s, wts_n, wts_c, t_m, t_p, t_f, t_fp, t_c, t_mk, t_s, optW_some, q_run, q_runI, q_self, q_bindA, q_bindV, ↓reduceIte, Nat.reduceAdd, Nat.reduceSub, Nat.reduceMul, Nat.reducePow, Nat.reduceLeDiff, Nat.reduceEqDiff, Nat.reduceBEq, Nat.reduceSucc, Int.reduceNeg, Int.reduceLE, Int.reduceLT, Int.reduceEq, Int.reduceAdd, Int.reduceSub, reduceCtorEq, $xs,*])

/-- the sets and what any of them have in common -/
inductive Clo (L : List Nat) : Nat → Prop where
  | base {x : Nat} : x ∈ L → Clo L x
  | meet {x y : Nat} : Clo L x → Clo L y → Clo L (x &&& y)
theorem Clo.mono {L M : List Nat} (h : ∀ x ∈ L, x ∈ M) {x : Nat} (c : Clo L x) : Clo M x := by
  induction c with
  | base m => exact .base (h _ m)
  | meet _ _ i1 i2 => exact .meet i1 i2
theorem Clo.lt {L : List Nat} {k : Nat} (h : ∀ x ∈ L, x < k) {x : Nat} (c : Clo L x) : x < k := by
  induction c with
  | base m => exact h _ m
  | meet _ _ i1 i2 => exact Nat.lt_of_le_of_lt Nat.and_le_left i1
/-- closed under what two have in common -/
def Cl2 (L : List Nat) : Prop := ∀ x ∈ L, ∀ y ∈ L, x &&& y ∈ L
theorem Clo.in_ {L M : List Nat} (h : ∀ x ∈ L, x ∈ M) (c2 : Cl2 M) {x : Nat} (c : Clo L x) : x ∈ M := by
  induction c with
  | base m => exact h _ m
  | meet _ _ i1 i2 => exact c2 _ i1 _ i2
theorem Clo.snoc {L F : List Nat} {a : Nat} (hF : ∀ x, x ∈ F ↔ Clo L x) {x : Nat} : Clo (L ++ [a]) x ↔ x ∈ F ∨ x = a ∨ ∃ y ∈ F, a &&& y = x := by
  constructor
  · intro c
    induction c with
    | base m =>
      rcases List.mem_append.mp m with m | m
      · exact .inl ((hF _).mpr (.base m))
      · exact .inr (.inl (List.mem_singleton.mp m))
    | meet _ _ i1 i2 =>
      rename_i x y _ _
      rcases i1 with i1 | rfl | ⟨u, hu, rfl⟩ <;> rcases i2 with i2 | rfl | ⟨v, hv, rfl⟩
      · exact .inl ((hF _).mpr (.meet ((hF _).mp i1) ((hF _).mp i2)))
      · exact .inr (.inr ⟨_, i1, Nat.and_comm _ _⟩)
      · exact .inr (.inr ⟨x &&& v, (hF _).mpr (.meet ((hF _).mp i1) ((hF _).mp hv)), by rw [← Nat.and_assoc, ← Nat.and_assoc, Nat.and_comm a x]⟩)
      · exact .inr (.inr ⟨_, i2, rfl⟩)
      · exact .inr (.inl (Nat.and_self _))
      · exact .inr (.inr ⟨v, hv, by rw [← Nat.and_assoc, Nat.and_self]⟩)
      · exact .inr (.inr ⟨u &&& y, (hF _).mpr (.meet ((hF _).mp hu) ((hF _).mp i2)), by rw [Nat.and_assoc]⟩)
      · exact .inr (.inr ⟨u, hu, by rw [Nat.and_assoc, Nat.and_comm u, ← Nat.and_assoc, Nat.and_self]⟩)
      · exact .inr (.inr ⟨u &&& v, (hF _).mpr (.meet ((hF _).mp hu) ((hF _).mp hv)), by
          apply Nat.eq_of_testBit_eq
          intro i
          simp only [Nat.testBit_and]
          cases a.testBit i <;> cases u.testBit i <;> cases v.testBit i <;> rfl⟩)
  · rintro (h | rfl | ⟨y, hy, rfl⟩)
    · exact ((hF _).mp h).mono fun z hz => List.mem_append_left _ hz
    · exact .base (List.mem_append_right _ List.mem_cons_self)
    · exact .meet (.base (List.mem_append_right _ List.mem_cons_self)) (((hF _).mp hy).mono fun z hz => List.mem_append_left _ hz)
theorem In_app (a b : List Nat) : In (a ++ b) = In a ++ In b := List.map_append
theorem In_len (a : List Nat) : (In a).length = a.length := List.length_map _
theorem okN_In {n : Nat} (l : List Nat) : (In l).all (okN (n + 1)) = true := by
  unfold In
  rw [List.all_map]
  exact List.all_eq_true.mpr fun _ _ => rfl
theorem ne_In (l : List Nat) : cmpD .ne (.lst (In l)) (.lst []) = some (!l.isEmpty) := by
  show (if ok (D.lst (In l)) && ok (D.lst []) then some (!eqds (In l) []) else none) = _
  rw [show ok (D.lst (In l)) = true from okN_In l]
  cases l <;> rfl
theorem notin_I (ks : List Nat) (b : Nat) : cmpD .notin (.int b) (.dct (ks.map dI)) = some (!decide (b ∈ ks)) := by
  show some (!((ks.map dI).any fun z => eqd z.1 (.int b))) = _
  rw [any_I]
theorem keys_I (ks : List Nat) : (ks.map dI).map (·.1) = ks.map fun (b : Nat) => D.int (b : Int) := by
  rw [List.map_map]
  rfl
theorem last_In (l : List Nat) (a : Nat) : (In l ++ [D.int (a : Int)]).getLast? = some (.int a) := by simp
theorem drop_In (l : List Nat) (x : D) : (In l ++ [x]).dropLast = In l := by simp
section
variable {B : Tb} {T : CT} {C : Cl} {h : MH} {f : Nat}
def closedI (L : List Nat) (h : MH) (m : Nat) (env : Env) (h' : MH) : Prop := ∃ (ks fs : List Nat) (v3 v4 : Option SV), env = [some (.val (.lst (In L))), some (.own (.dct (ks.map dI))), some (.own (.lst (In fs))), v3, v4] ∧ h' = h ∧ ks.Nodup ∧ (∀ x ∈ ks, x < 128) ∧ (∀ x ∈ fs, x < 128) ∧
  (∀ x, x ∈ ks ∨ x ∈ fs → Clo L x) ∧ (∀ x ∈ L, x ∈ ks ∨ x ∈ fs) ∧ (∀ x ∈ ks, ∀ y ∈ ks, x &&& y ∈ ks ∨ x &&& y ∈ fs) ∧ m = fs.length + (16384 - ks.length * ks.length) ∧ m ≤ 20000
theorem X_closed [Has B 9 fd_closed] (j : Nat) {L : List Nat} (hl : ∀ b ∈ L, b < 128) (hlen : L.length ≤ 1000) (h : MH) : ∃ ks : List Nat, (lv B (j + 1)).fn 9 [.lst (In L)] h = .ok (.lst (In ks)) h ∧ ks.Nodup ∧ (∀ x ∈ ks, x < 128) ∧ ∀ x, x ∈ ks ↔ Clo L x := by
  have w : W ((lv B (j + 1)).fn 9 [.lst (In L)] h) fun d h' => ∃ ks : List Nat, d = .lst (In ks) ∧ h' = h ∧ ks.Nodup ∧ (∀ x ∈ ks, x < 128) ∧ ∀ x, x ∈ ks ↔ Clo L x := by
    rw [fn_lv]
    simp (disch := omega) only [seval, fd_closed]
    refine W_while (closedI L h) (L.length + 16384) (by omega) ⟨[], L, _, _, rfl, rfl, List.nodup_nil, (fun x h => nomatch h), hl, (fun x h => h.elim (fun h => nomatch h) .base), (fun x h => .inr h), (fun x h => nomatch h), rfl, by omega⟩ fun m env h' => ?_
    rintro ⟨ks, fs, v3, v4, rfl, rfl, nd, h1, h2, h3, h4, h5, h6, h7⟩
    simp (disch := omega) only [seval, ne_In]
    rcases List.eq_nil_or_concat fs with rfl | ⟨gs, g, ef⟩
    · simp (disch := omega) only [seval, List.isEmpty_nil]
      have e1 : items (.dct (ks.map dI)) = some (In ks) := by
        show some ((ks.map dI).map (·.1)) = _
        rw [keys_I]
        rfl
      have e2 : bltD .list [.dct (ks.map dI)] = some (.lst (In ks)) := by
        show (items (.dct (ks.map dI))).map D.lst = _
        rw [e1]
        rfl
      simp (disch := omega) only [seval, e2]
      refine ⟨ks, rfl, nd, h1, fun x => ⟨fun hx => h3 x (.inl hx), fun c => c.in_ (fun y hy => ?_) fun y hy z hz => ?_⟩⟩
      · exact (h4 y hy).elim id fun h => nomatch h
      · exact (h5 y hy z hz).elim id fun h => nomatch h
    · rw [List.concat_eq_append] at ef
      subst ef
      have hg := h2 g (by simp)
      have hks := len_nd nd h1
      have hgl : gs.length ≤ 20000 := by
        rw [List.length_append] at h6
        omega
      have ee : (gs ++ [g]).isEmpty = false := by cases gs <;> rfl
      simp (disch := omega) only [seval, ee, In_app, notin_I, keys_I, last_In, drop_In, show In [g] = [D.int (g : Int)] from rfl]
      have h3g : Clo L g := h3 g (.inr (by simp))
      by_cases hk : g ∈ ks
      · simp (disch := omega) only [seval, hk]
        refine ⟨gs.length + (16384 - ks.length * ks.length), ?_, ks, gs, _, _, rfl, rfl, nd, h1, fun x hx => h2 x (List.mem_append_left _ hx), fun x hx => h3 x (hx.imp id fun h => List.mem_append_left _ h), fun x hx => ?_, fun x hx y hy => ?_, rfl, ?_⟩
        · rw [h6, List.length_append, List.length_singleton]
          omega
        · rcases h4 x hx with h | h
          · exact .inl h
          · rcases List.mem_append.mp h with h | h
            · exact .inr h
            · rw [List.mem_singleton] at h
              exact .inl (h ▸ hk)
        · rcases h5 x hx y hy with h | h
          · exact .inl h
          · rcases List.mem_append.mp h with h | h
            · exact .inr h
            · rw [List.mem_singleton] at h
              exact .inl (h ▸ hk)
        · rw [List.length_append, List.length_singleton] at h6
          omega
      · simp (disch := omega) only [seval, hk]
        refine W_map (g := fun b => .int ((g &&& b : Nat) : Int)) (fun b hb => ?_) ?_
        · simp (disch := omega) only [seval]
        have ei : ins ks g = ks ++ [g] := if_neg hk
        have ndi : (ks ++ [g]).Nodup := ei ▸ nodup_ins (b := g) nd
        have hi : ∀ x ∈ ks ++ [g], x < 128 := fun x hx => (List.mem_append.mp hx).elim (h1 x) fun h => by
          rw [List.mem_singleton] at h
          exact h ▸ hg
        have hil := len_nd ndi hi
        rw [List.length_append, List.length_singleton] at hil
        have eg : ks.map (fun b => D.int ((g &&& b : Nat) : Int)) = In (ks.map (g &&& ·)) := by
          unfold In
          rw [List.map_map]
          rfl
        have sq1 : (ks.length + 1) * (ks.length + 1) = ks.length * ks.length + 2 * ks.length + 1 := by
          rw [Nat.add_mul, Nat.mul_add]
          omega
        have sq2 : (ks.length + 1) * (ks.length + 1) ≤ 128 * 128 := Nat.mul_le_mul hil hil
        simp (disch := omega) only [seval, setK_I, eg, ← In_app, In_len]
        refine ⟨_, ?_, ks ++ [g], gs ++ ks.map (g &&& ·), _, _, by rw [ei], rfl, ndi, hi, fun x hx => ?_, fun x hx => ?_, fun x hx => ?_, fun x hx y hy => ?_, rfl, ?_⟩
        · rw [h6]
          simp only [List.length_append, List.length_map, List.length_singleton]
          omega
        · rcases List.mem_append.mp hx with h | h
          · exact h2 x (List.mem_append_left _ h)
          · obtain ⟨y, hy, rfl⟩ := List.mem_map.mp h
            exact Nat.lt_of_le_of_lt Nat.and_le_left hg
        · rcases hx with h | h
          · rcases List.mem_append.mp h with h | h
            · exact h3 x (.inl h)
            · rw [List.mem_singleton] at h
              exact h ▸ h3g
          · rcases List.mem_append.mp h with h | h
            · exact h3 x (.inr (List.mem_append_left _ h))
            · obtain ⟨y, hy, rfl⟩ := List.mem_map.mp h
              exact .meet h3g (h3 y (.inl hy))
        · rcases h4 x hx with h | h
          · exact .inl (List.mem_append_left _ h)
          · rcases List.mem_append.mp h with h | h
            · exact .inr (List.mem_append_left _ h)
            · exact .inl (List.mem_append_right _ h)
        · have inm : ∀ y ∈ ks, g &&& y ∈ gs ++ ks.map (g &&& ·) := fun y hy => List.mem_append_right _ (List.mem_map.mpr ⟨y, hy, rfl⟩)
          rcases List.mem_append.mp hx with hx1 | hx1 <;> rcases List.mem_append.mp hy with hy1 | hy1
          · rcases h5 x hx1 y hy1 with h | h
            · exact .inl (List.mem_append_left _ h)
            · rcases List.mem_append.mp h with h | h
              · exact .inr (List.mem_append_left _ h)
              · exact .inl (List.mem_append_right _ h)
          · rw [List.mem_singleton] at hy1
            rw [hy1, Nat.and_comm]
            exact .inr (inm x hx1)
          · rw [List.mem_singleton] at hx1
            rw [hx1]
            exact .inr (inm y hy1)
          · rw [List.mem_singleton] at hx1 hy1
            rw [hx1, hy1, Nat.and_self]
            exact .inl (List.mem_append_right _ List.mem_cons_self)
        · rw [List.length_append, List.length_singleton] at h6
          simp only [List.length_append, List.length_map, List.length_singleton]
          omega
  obtain ⟨d, h', e, ks, rfl, rfl, q⟩ := W_ex w
  exact ⟨ks, e, q⟩
end
end Mi
/-! MiQ5: families of sets: the law's, the scale's. -/
namespace Mi
open PySem
local macro_rules
  | `(tactic| simp (disch := omega) only [seval]) => `(tactic| simp -implicitDefEqProofs (disch := omega) only [W_ok, W_no, W_bd, W_ite, s_bd_ok, s_bd_no, s_ofO_some, s_ofO_none, s_dec, s_decf, s_notb, s_notf, s_nnot, s_nt, s_nf, s_tt, s_ff, s_ft, s_tf, s_it, s_if, s_ifp, s_ifn, s_lm, s_lr, s_flr, s_lr', s_is, s_ci, s_cl, s_ce, s_dT, s_dF, s_bt, s_bt2, s_bf, s_bf2, s_ot, s_ot2, s_of, s_of2, s_an, s_na, s_nT, s_nF, s_ga, s_gs, s_sz, s_ss, s_ln, s_lc, s_mn, s_mc, s_pn, s_pc, s_apn, s_r0, s_rs, s_tk0, s_tks, s_dp0, s_dps, s_lim, s_mapS, s_mapN, s_binS, s_binN, W_vl, q_var, q_and, q_or, q_evE_glo, q_evE_con, q_evE_bin, q_evE_neg, q_evE_inv, q_evE_cmp, q_evE_cmp2, q_evE_isn, q_evE_notn, q_evE_not, q_evE_ite, q_evE_tup, q_evE_lst, q_evE_idx, q_evE_sl, q_evE_rev, q_evE_call, q_evE_make, q_evE_makeV, q_evE_blt, q_evE_sortK, q_evE_isi, q_evE_meth, q_evE_smeth, q_evE_attr, q_evE_cm, q_evE_lcK, q_evE_lc, q_evE_col, q_evE_dnew, q_evE_alloc, q_evO_none, q_evO_some, q_evA_nil, q_evA_cons, q_evA_star, q_evB_nil, q_evB_cons, q_evB_star, q_evTs_nil, q_evTs_cons, q_evTs_star, q_evI_seq, q_evI_rng, q_evI_rng2, q_evI_enm, q_evI_zip, q_evS_set, q_evS_setO, q_evS_par, q_evS_unp, q_evS_sattr, q_evS_pattr, q_evS_sidx, q_evS_oidx, oix_l, oix_d, oix_n, q_evS_app, q_evS_ext, q_evS_popS, q_evS_popD, q_evS_ex, q_evS_ifs, q_evS_for, q_evS_while, q_evS_ret, q_evS_retO, q_evS_retN, q_evS_pass, q_evS_brk, q_evS_cont, q_evS_sini, q_evS_frz, q_evSs_nil, q_evSs_cons, q_evT, q_tru, W_vbo, W_vbv, bor_var, bor_glo, bor_con, bor_bin, bor_neg, bor_inv, bor_cmp, bor_cmp2, bor_isn, bor_notn, bor_and, bor_or, bor_not, bor_ite, bor_tup, bor_lst, bor_idx, bor_sl, bor_rev, bor_call, bor_make, bor_makeV, bor_blt, bor_sortK, bor_isi, bor_meth, bor_smeth, bor_attr, bor_cm, bor_lc, bor_lcK, bor_lc2, bor_col, bor_dnew, bor_alloc, ov_o, ov_v, ov_var, ov_glo, ov_con, ov_bin, ov_neg, ov_inv, ov_cmp, ov_cmp2, ov_isn, ov_notn, ov_and, ov_or, ov_not, ov_ite, ov_tup, ov_lst, ov_idx, ov_sl, ov_rev, ov_call, ov_make, ov_makeV, ov_blt, ov_sortK, ov_isi, ov_meth, ov_smeth, ov_attr, ov_cm, ov_lc, ov_lcK, ov_lc2, ov_col, ov_alloc, top_lst, top_dct, top_ins, wipe_nil, wipe_cons, q_bindT1, q_bindTm, q_bindN, q_bindC, q_asF, q_asL, q_asD, q_setN, q_setC, q_raise, d_addnn, d_addkn, d_addnk, d_sub, d_band, d_bor, d_shl1, d_shr, d_and1, d_bit, d_addl, d_addt, d_adds, s_la, s_sa, d_tb, d_tn, d_eqi, d_nei, d_lti, d_lei, d_gti, d_gei, d_inSn, d_niSn, d_rng, d_rngk, d_rng2, d_str, d_noni, d_nont, d_nonl, d_nonn, d_seqt, d_seql, d_seqS, d_seqR, d_enmt, d_enml, d_enmR, d_lent, d_lenl, d_lenS, d_lenR, d_tupl, d_tupt, d_lstl, d_lstt, d_all, d_sum, d_idt, d_idl, d_idR, atI_0, atI_1, atI_2, pf_n, pf_e, pf_d, atI_3, atI_4, atI_5, atI_6, c_obj, f_obj, k_obj, lk_0, lk_1, t_i, t_kt, k_int, k_tup, k_S, k_lst, k_str, k_non, ty_t4, ty_s3, ty_i2, ty_bc, nn_l, nn_t, nn_S, nn_R, nn_b, nn_n, nn_i, al_n, al_c, wt_l, wt_t, wt_i, wt_b, wt_n, wt_s, wts_n, wts_c, t_m, t_p, t_f, t_fp, t_c, t_mk, t_s, optW_some, q_run, q_runI, q_self, q_bindA, q_bindV, ↓reduceIte, Nat.reduceAdd, Nat.reduceSub, Nat.reduceMul, Nat.reducePow, Nat.reduceLeDiff, Nat.reduceEqDiff, Nat.reduceBEq, Nat.reduceSucc, Int.reduceNeg, Int.reduceLE, Int.reduceLT, Int.reduceEq, Int.reduceAdd, Int.reduceSub, reduceCtorEq])
  | `(tactic| simp (disch := omega) only [seval, $xs,*]) => `(tactic| simp -implicitDefEqProofs (disch := omega) only [W_ok, W_no, W_bd, W_ite, s_bd_ok, s_bd_no, s_ofO_some, s_ofO_none, s_dec, s_decf, s_notb, s_notf, s_nnot, s_nt, s_nf, s_tt, s_ff, s_ft, s_tf, s_it, s_if, s_ifp, s_ifn, s_lm, s_lr, s_flr, s_lr', s_is, s_ci, s_cl, s_ce, s_dT, s_dF, s_bt, s_bt2, s_bf, s_bf2, s_ot, s_ot2, s_of, s_of2, s_an, s_na, s_nT, s_nF, s_ga, s_gs, s_sz, s_ss, s_ln, s_lc, s_mn, s_mc, s_pn, s_pc, s_apn, s_r0, s_rs, s_tk0, s_tks, s_dp0, s_dps, s_lim, s_mapS, s_mapN, s_binS, s_binN, W_vl, q_var, q_and, q_or, q_evE_glo, q_evE_con, q_evE_bin, q_evE_neg, q_evE_inv, q_evE_cmp, q_evE_cmp2, q_evE_isn, q_evE_notn, q_evE_not, q_evE_ite, q_evE_tup, q_evE_lst, q_evE_idx, q_evE_sl, q_evE_rev, q_evE_call, q_evE_make, q_evE_makeV, q_evE_blt, q_evE_sortK, q_evE_isi, q_evE_meth, q_evE_smeth, q_evE_attr, q_evE_cm, q_evE_lcK, q_evE_lc, q_evE_col, q_evE_dnew, q_evE_alloc, q_evO_none, q_evO_some, q_evA_nil, q_evA_cons, q_evA_star, q_evB_nil, q_evB_cons, q_evB_star, q_evTs_nil, q_evTs_cons, q_evTs_star, q_evI_seq, q_evI_rng, q_evI_rng2, q_evI_enm, q_evI_zip, q_evS_set, q_evS_setO, q_evS_par, q_evS_unp, q_evS_sattr, q_evS_pattr, q_evS_sidx, q_evS_oidx, oix_l, oix_d, oix_n, q_evS_app, q_evS_ext, q_evS_popS, q_evS_popD, q_evS_ex, q_evS_ifs, q_evS_for, q_evS_while, q_evS_ret, q_evS_retO, q_evS_retN, q_evS_pass, q_evS_brk, q_evS_cont, q_evS_sini, q_evS_frz, q_evSs_nil, q_evSs_cons, q_evT, q_tru, W_vbo, W_vbv, bor_var, bor_glo, bor_con, bor_bin, bor_neg, bor_inv, bor_cmp, bor_cmp2, bor_isn, bor_notn, bor_and, bor_or, bor_not, bor_ite, bor_tup, bor_lst, bor_idx, bor_sl, bor_rev, bor_call, bor_make, bor_makeV, bor_blt, bor_sortK, bor_isi, bor_meth, bor_smeth, bor_attr, bor_cm, bor_lc, bor_lcK, bor_lc2, bor_col, bor_dnew, bor_alloc, ov_o, ov_v, ov_var, ov_glo, ov_con, ov_bin, ov_neg, ov_inv, ov_cmp, ov_cmp2, ov_isn, ov_notn, ov_and, ov_or, ov_not, ov_ite, ov_tup, ov_lst, ov_idx, ov_sl, ov_rev, ov_call, ov_make, ov_makeV, ov_blt, ov_sortK, ov_isi, ov_meth, ov_smeth, ov_attr, ov_cm, ov_lc, ov_lcK, ov_lc2, ov_col, ov_alloc, top_lst, top_dct, top_ins, wipe_nil, wipe_cons, q_bindT1, q_bindTm, q_bindN, q_bindC, q_asF, q_asL, q_asD, q_setN, q_setC, q_raise, d_addnn, d_addkn, d_addnk, d_sub, d_band, d_bor, d_shl1, d_shr, d_and1, d_bit, d_addl, d_addt, d_adds, s_la, s_sa, d_tb, d_tn, d_eqi, d_nei, d_lti, d_lei, d_gti, d_gei, d_inSn, d_niSn, d_rng, d_rngk, d_rng2, d_str, d_noni, d_nont, d_nonl, d_nonn, d_seqt, d_seql, d_seqS, d_seqR, d_enmt, d_enml, d_enmR, d_lent, d_lenl, d_lenS, d_lenR, d_tupl, d_tupt, d_lstl, d_lstt, d_all, d_sum, d_idt, d_idl, d_idR, atI_0, atI_1, atI_2, pf_n, pf_e, pf_d, atI_3, atI_4, atI_5, atI_6, c_obj, f_obj, k_obj, lk_0, lk_1, t_i, t_kt, k_int, k_tup, k_S, k_lst, k_str, k_non, ty_t4, ty_s3, ty_i2, ty_bc, nn_l, nn_t, nn_S, nn_R, nn_b, nn_n, nn_i, al_n, al_c, wt_l, wt_t, wt_i, wt_b, wt_n, wt_s, wts_n, wts_c, t_m, t_p, t_f, t_fp, t_c, t_mk, t_s, optW_some, q_run, q_runI, q_self, q_bindA, q_bindV, ↓reduceIte, Nat.reduceAdd, Nat.reduceSub, Nat.reduceMul, Nat.reducePow, Nat.reduceLeDiff, Nat.reduceEqDiff, Nat.reduceBEq, Nat.reduceSucc, Int.reduceNeg, Int.reduceLE, Int.reduceLT, Int.reduceEq, Int.reduceAdd, Int.reduceSub, reduceCtorEq, $xs,*])

/-- the allowed sets of a scale of n states, in order -/
structure Fam (n : Nat) (F : List Nat) : Prop where
  n1 : 1 ≤ n
  n7 : n ≤ 7
  can : F = fam fun b => decide (b ∈ F)
  lt : ∀ b ∈ F, b < 2 ^ n
  full : 2 ^ n - 1 ∈ F
  cl : Cl2 F
theorem Fam.l128 {n : Nat} {F : List Nat} (m : Fam n F) {b : Nat} (h : b ∈ F) : b < 128 := p128 (m.lt b h) m.n7
theorem Fam.len {n : Nat} {F : List Nat} (m : Fam n F) : F.length ≤ 128 := by
  rw [m.can]
  exact fam_len _
theorem fam_can (p : Nat → Bool) : fam p = fam fun b => decide (b ∈ fam p) := fam_congr fun b hb => by
  rw [Bool.eq_iff_iff, decide_eq_true_iff, mem_fam]
  exact ⟨fun h => ⟨hb, h⟩, fun h => h.2⟩
theorem mem_famL {L : List Nat} (hl : ∀ b ∈ L, b < 128) {x : Nat} : (x ∈ fam fun b => decide (b ∈ L)) ↔ x ∈ L := by
  rw [mem_fam, decide_eq_true_iff]
  exact ⟨fun h => h.2, fun h => ⟨hl x h, h⟩⟩
/-- what follows from some sets and the full one -/
theorem Fam.clo {n : Nat} {L F : List Nat} (h1 : 1 ≤ n) (h7 : n ≤ 7) (hl : ∀ b ∈ L, b < 2 ^ n) (can : F = fam fun b => decide (b ∈ F)) (hF : ∀ x, x ∈ F ↔ Clo ((2 ^ n - 1) :: L) x) : Fam n F := by
  have hp := Nat.two_pow_pos n
  have hl2 : ∀ b ∈ (2 ^ n - 1) :: L, b < 2 ^ n := fun b hb => by
    rcases List.mem_cons.mp hb with rfl | hb
    · omega
    · exact hl b hb
  exact ⟨h1, h7, can, fun b hb => ((hF b).mp hb).lt hl2, (hF _).mpr (.base List.mem_cons_self), fun x hx y hy => (hF _).mpr (.meet ((hF x).mp hx) ((hF y).mp hy))⟩
section
variable {B : Tb} {T : CT} {C : Cl} {h : MH} {f : Nat} {env : Env}
theorem dctP_lst (ks : List Nat) (xs : List D) : dctP ks ≠ .lst xs := by
  unfold dctP
  split <;> exact fun e => nomatch e
theorem oix_P {ks : List Nat} {s : Nat} {env : Env} {x v : D} {h : MH} {Q : Fl → MH → Prop} {t : Tq Q} : W (oix (some (some (.own (dctP ks)))) s env x v h) Q t = W (ofO (setK (dctP ks) x v) h) fun o' h => Q (.nx (env.set s (some (.own o')))) h := oix_k (dctP_lst ks)
theorem d_sorted {x : D} : bltD .sorted [x] = (itemsS x).bind fun xs => if cmpb xs then some (.lst (sortd xs)) else none := rfl
theorem fold_P2 {b : Nat} : D.tup [.int (((sl7 b).length : Nat) : Int), S b] = P2 b := rfl
theorem X_ordered [Has B 22 fd__law_ordered] (j : Nat) {l : List Nat} (hl : ∀ b ∈ l, b < 128) (h : MH) : (lv B (j + 1)).fn 22 [.lst (l.map S)] h = .ok (.lst ((fam fun b => decide (b ∈ l)).map S)) h := by
  refine by_W ?_
  rw [fn_lv]
  simp (disch := omega) only [seval, fd__law_ordered]
  refine W_forI (fun pre env h' => (∃ v2, env = [some (.val (.lst (l.map S))), some (.own (dctP (inss [] pre))), v2, none]) ∧ h' = h) _ ⟨⟨_, rfl⟩, rfl⟩ (fun pre b r er env h' => ?_) fun env h' => ?_
  · rintro ⟨⟨v2, rfl⟩, rfl⟩
    have hpre : ∀ x ∈ inss [] pre, x < 128 := fun x hx => by
      rcases mem_inss.mp hx with h | h
      · cases h
      · exact hl x (by rw [er]; exact List.mem_append_left _ h)
    have hlen := len_nd (nodup_inss (L := pre) (ks := []) List.nodup_nil) hpre
    have hb := hl b (by rw [er]; simp)
    simp (disch := omega) only [seval, oix_P, fold_P2, setK_P (show (inss [] pre).length < 1000000 by omega) hpre hb]
    rw [inss_snoc]
    exact ⟨_, rfl⟩
  · rintro ⟨⟨v2, rfl⟩, rfl⟩
    have hm : ∀ x ∈ inss [] l, x < 128 := fun x hx => by
      rcases mem_inss.mp hx with h | h
      · cases h
      · exact hl x h
    have nd := nodup_inss (L := l) (ks := []) List.nodup_nil
    have hlen := len_nd nd hm
    have e3 : cmpb ((inss [] l).map P2) = true := cmpb_P2 (by omega)
    have e4 := sortd_P2 hm nd
    have e5 : (fam fun b => decide (b ∈ inss [] l)) = fam fun b => decide (b ∈ l) := fam_congr fun b _ => by
      rw [Bool.eq_iff_iff, decide_eq_true_iff, decide_eq_true_iff, mem_inss]
      simp
    rw [e5] at e4
    have hfl := fam_len fun b => decide (b ∈ l)
    simp (disch := omega) only [seval, d_sorted, keys_P, e3, e4]
    refine W_map (g := S) (fun b hb => ?_) ?_
    · simp (disch := omega) only [seval, P2]
    · simp (disch := omega) only [seval]
/-- the law's closure -/
theorem X_lawclosed [Has B 20 fd__law_whole] [Has B 21 fd__law_common] [Has B 22 fd__law_ordered] [Has B 23 fd__law_closed] (j : Nat) {n : Nat} {L : List Nat} (h1 : 1 ≤ n) (h7 : n ≤ 7) (hl : ∀ b ∈ L, b < 2 ^ n) (hlen : L.length ≤ 1000) (h : MH) : ∃ F, (lv B (j + 2)).fn 23 [.int n, .lst (L.map S)] h = .ok (.lst (F.map S)) h ∧ F = fam (fun b => decide (b ∈ F)) ∧ ∀ x, x ∈ F ↔ Clo ((2 ^ n - 1) :: L) x := by
  have w : W ((lv B (j + 2)).fn 23 [.int n, .lst (L.map S)] h) fun d h' => ∃ F : List Nat, d = .lst (F.map S) ∧ h' = h ∧ F = fam (fun b => decide (b ∈ F)) ∧ ∀ x, x ∈ F ↔ Clo ((2 ^ n - 1) :: L) x := by
    rw [fn_lv]
    simp (disch := omega) only [seval, fd__law_closed, X_whole (B := B) j h7]
    have e1 : S (2 ^ n - 1) :: L.map S = ((2 ^ n - 1) :: L).map S := rfl
    rw [e1]
    refine W_forI (fun pre env h' => (∃ F v3, env = [some (.val (.int n)), some (.val (.lst (L.map S))), some (.val (.lst (F.map S))), v3, none] ∧ F = fam (fun b => decide (b ∈ F)) ∧ ∀ x, x ∈ F ↔ Clo pre x) ∧ h' = h) _ ⟨⟨[], _, rfl, ?_, ?_⟩, rfl⟩ (fun pre b r er env h' => ?_) fun env h' => ?_
    · unfold fam
      simp
    · intro x
      exact ⟨fun h => absurd h List.not_mem_nil, fun c => c.in_ (M := []) (fun y h => absurd h List.not_mem_nil) fun y h => absurd h List.not_mem_nil⟩
    · rintro ⟨⟨F, v3, rfl, can, hF⟩, rfl⟩
      have hb : b < 128 := by
        have hm : b ∈ (2 ^ n - 1) :: L := by
          rw [er]
          simp
        have hp : 2 ^ n ≤ 2 ^ 7 := Nat.pow_le_pow_right (by decide) h7
        rcases List.mem_cons.mp hm with rfl | hm
        · omega
        · have := hl b hm
          omega
      have hF1 : ∀ x ∈ F, x < 128 := fun x hx => by
        rw [can] at hx
        exact (mem_fam.mp hx).1
      have hFl : F.length ≤ 128 := by
        rw [can]
        exact fam_len _
      simp (disch := omega) only [seval]
      refine W_map (g := fun y => S (b &&& y)) (fun y hy => ?_) ?_
      · simp (disch := omega) only [seval, L_common (B := B) j]
      have e2 : F.map S ++ [S b] ++ F.map (fun y => S (b &&& y)) = (F ++ [b] ++ F.map (b &&& ·)).map S := by
        rw [List.map_append, List.map_append, List.map_map]
        rfl
      have hall : ∀ x ∈ F ++ [b] ++ F.map (b &&& ·), x < 128 := fun x hx => by
        rcases List.mem_append.mp hx with hx | hx
        · rcases List.mem_append.mp hx with hx | hx
          · exact hF1 x hx
          · rw [List.mem_singleton] at hx
            exact hx ▸ hb
        · obtain ⟨y, _, rfl⟩ := List.mem_map.mp hx
          exact Nat.lt_of_le_of_lt Nat.and_le_left hb
      simp (disch := omega) only [seval, e2, X_ordered (B := B) j hall]
      refine ⟨_, _, rfl, fam_can _, fun x => ?_⟩
      rw [mem_famL hall, Clo.snoc hF]
      simp [or_assoc]
    · rintro ⟨⟨F, v3, rfl, can, hF⟩, rfl⟩
      simp (disch := omega) only [seval]
      exact ⟨F, rfl, can, hF⟩
  obtain ⟨d, h', e, F, rfl, rfl, q⟩ := W_ex w
  exact ⟨F, e, q⟩
end
end Mi
/-! MiQ6: scales: made, asked. -/
namespace Mi
open PySem
local macro_rules
  | `(tactic| simp (disch := omega) only [seval]) => `(tactic| simp -implicitDefEqProofs (disch := omega) only [W_ok, W_no, W_bd, W_ite, s_bd_ok, s_bd_no, s_ofO_some, s_ofO_none, s_dec, s_decf, s_notb, s_notf, s_nnot, s_nt, s_nf, s_tt, s_ff, s_ft, s_tf, s_it, s_if, s_ifp, s_ifn, s_lm, s_lr, s_flr, s_lr', s_is, s_ci, s_cl, s_ce, s_dT, s_dF, s_bt, s_bt2, s_bf, s_bf2, s_ot, s_ot2, s_of, s_of2, s_an, s_na, s_nT, s_nF, s_ga, s_gs, s_sz, s_ss, s_ln, s_lc, s_mn, s_mc, s_pn, s_pc, s_apn, s_r0, s_rs, s_tk0, s_tks, s_dp0, s_dps, s_lim, s_mapS, s_mapN, s_binS, s_binN, W_vl, q_var, q_and, q_or, q_evE_glo, q_evE_con, q_evE_bin, q_evE_neg, q_evE_inv, q_evE_cmp, q_evE_cmp2, q_evE_isn, q_evE_notn, q_evE_not, q_evE_ite, q_evE_tup, q_evE_lst, q_evE_idx, q_evE_sl, q_evE_rev, q_evE_call, q_evE_make, q_evE_makeV, q_evE_blt, q_evE_sortK, q_evE_isi, q_evE_meth, q_evE_smeth, q_evE_attr, q_evE_cm, q_evE_lcK, q_evE_lc, q_evE_col, q_evE_dnew, q_evE_alloc, q_evO_none, q_evO_some, q_evA_nil, q_evA_cons, q_evA_star, q_evB_nil, q_evB_cons, q_evB_star, q_evTs_nil, q_evTs_cons, q_evTs_star, q_evI_seq, q_evI_rng, q_evI_rng2, q_evI_enm, q_evI_zip, q_evS_set, q_evS_setO, q_evS_par, q_evS_unp, q_evS_sattr, q_evS_pattr, q_evS_sidx, q_evS_oidx, oix_l, oix_d, oix_n, q_evS_app, q_evS_ext, q_evS_popS, q_evS_popD, q_evS_ex, q_evS_ifs, q_evS_for, q_evS_while, q_evS_ret, q_evS_retO, q_evS_retN, q_evS_pass, q_evS_brk, q_evS_cont, q_evS_sini, q_evS_frz, q_evSs_nil, q_evSs_cons, q_evT, q_tru, W_vbo, W_vbv, bor_var, bor_glo, bor_con, bor_bin, bor_neg, bor_inv, bor_cmp, bor_cmp2, bor_isn, bor_notn, bor_and, bor_or, bor_not, bor_ite, bor_tup, bor_lst, bor_idx, bor_sl, bor_rev, bor_call, bor_make, bor_makeV, bor_blt, bor_sortK, bor_isi, bor_meth, bor_smeth, bor_attr, bor_cm, bor_lc, bor_lcK, bor_lc2, bor_col, bor_dnew, bor_alloc, ov_o, ov_v, ov_var, ov_glo, ov_con, ov_bin, ov_neg, ov_inv, ov_cmp, ov_cmp2, ov_isn, ov_notn, ov_and, ov_or, ov_not, ov_ite, ov_tup, ov_lst, ov_idx, ov_sl, ov_rev, ov_call, ov_make, ov_makeV, ov_blt, ov_sortK, ov_isi, ov_meth, ov_smeth, ov_attr, ov_cm, ov_lc, ov_lcK, ov_lc2, ov_col, ov_alloc, top_lst, top_dct, top_ins, wipe_nil, wipe_cons, q_bindT1, q_bindTm, q_bindN, q_bindC, q_asF, q_asL, q_asD, q_setN, q_setC, q_raise, d_addnn, d_addkn, d_addnk, d_sub, d_band, d_bor, d_shl1, d_shr, d_and1, d_bit, d_addl, d_addt, d_adds, s_la, s_sa, d_tb, d_tn, d_eqi, d_nei, d_lti, d_lei, d_gti, d_gei, d_inSn, d_niSn, d_rng, d_rngk, d_rng2, d_str, d_noni, d_nont, d_nonl, d_nonn, d_seqt, d_seql, d_seqS, d_seqR, d_enmt, d_enml, d_enmR, d_lent, d_lenl, d_lenS, d_lenR, d_tupl, d_tupt, d_lstl, d_lstt, d_all, d_sum, d_idt, d_idl, d_idR, atI_0, atI_1, atI_2, pf_n, pf_e, pf_d, atI_3, atI_4, atI_5, atI_6, c_obj, f_obj, k_obj, lk_0, lk_1, t_i, t_kt, k_int, k_tup, k_S, k_lst, k_str, k_non, ty_t4, ty_s3, ty_i2, ty_bc, nn_l, nn_t, nn_S, nn_R, nn_b, nn_n, nn_i, al_n, al_c, wt_l, wt_t, wt_i, wt_b, wt_n, wt_s, wts_n, wts_c, t_m, t_p, t_f, t_fp, t_c, t_mk, t_s, optW_some, q_run, q_runI, q_self, q_bindA, q_bindV, ↓reduceIte, Nat.reduceAdd, Nat.reduceSub, Nat.reduceMul, Nat.reducePow, Nat.reduceLeDiff, Nat.reduceEqDiff, Nat.reduceBEq, Nat.reduceSucc, Int.reduceNeg, Int.reduceLE, Int.reduceLT, Int.reduceEq, Int.reduceAdd, Int.reduceSub, reduceCtorEq])
  | `(tactic| simp (disch := omega) only [seval, $xs,*]) => `(tactic| simp -implicitDefEqProofs (disch := omega) only [W_ok, W_no, W_bd, W_ite, s_bd_ok, s_bd_no, s_ofO_some, s_ofO_none, s_dec, s_decf, s_notb, s_notf, s_nnot, s_nt, s_nf, s_tt, s_ff, s_ft, s_tf, s_it, s_if, s_ifp, s_ifn, s_lm, s_lr, s_flr, s_lr', s_is, s_ci, s_cl, s_ce, s_dT, s_dF, s_bt, s_bt2, s_bf, s_bf2, s_ot, s_ot2, s_of, s_of2, s_an, s_na, s_nT, s_nF, s_ga, s_gs, s_sz, s_ss, s_ln, s_lc, s_mn, s_mc, s_pn, s_pc, s_apn, s_r0, s_rs, s_tk0, s_tks, s_dp0, s_dps, s_lim, s_mapS, s_mapN, s_binS, s_binN, W_vl, q_var, q_and, q_or, q_evE_glo, q_evE_con, q_evE_bin, q_evE_neg, q_evE_inv, q_evE_cmp, q_evE_cmp2, q_evE_isn, q_evE_notn, q_evE_not, q_evE_ite, q_evE_tup, q_evE_lst, q_evE_idx, q_evE_sl, q_evE_rev, q_evE_call, q_evE_make, q_evE_makeV, q_evE_blt, q_evE_sortK, q_evE_isi, q_evE_meth, q_evE_smeth, q_evE_attr, q_evE_cm, q_evE_lcK, q_evE_lc, q_evE_col, q_evE_dnew, q_evE_alloc, q_evO_none, q_evO_some, q_evA_nil, q_evA_cons, q_evA_star, q_evB_nil, q_evB_cons, q_evB_star, q_evTs_nil, q_evTs_cons, q_evTs_star, q_evI_seq, q_evI_rng, q_evI_rng2, q_evI_enm, q_evI_zip, q_evS_set, q_evS_setO, q_evS_par, q_evS_unp, q_evS_sattr, q_evS_pattr, q_evS_sidx, q_evS_oidx, oix_l, oix_d, oix_n, q_evS_app, q_evS_ext, q_evS_popS, q_evS_popD, q_evS_ex, q_evS_ifs, q_evS_for, q_evS_while, q_evS_ret, q_evS_retO, q_evS_retN, q_evS_pass, q_evS_brk, q_evS_cont, q_evS_sini, q_evS_frz, q_evSs_nil, q_evSs_cons, q_evT, q_tru, W_vbo, W_vbv, bor_var, bor_glo, bor_con, bor_bin, bor_neg, bor_inv, bor_cmp, bor_cmp2, bor_isn, bor_notn, bor_and, bor_or, bor_not, bor_ite, bor_tup, bor_lst, bor_idx, bor_sl, bor_rev, bor_call, bor_make, bor_makeV, bor_blt, bor_sortK, bor_isi, bor_meth, bor_smeth, bor_attr, bor_cm, bor_lc, bor_lcK, bor_lc2, bor_col, bor_dnew, bor_alloc, ov_o, ov_v, ov_var, ov_glo, ov_con, ov_bin, ov_neg, ov_inv, ov_cmp, ov_cmp2, ov_isn, ov_notn, ov_and, ov_or, ov_not, ov_ite, ov_tup, ov_lst, ov_idx, ov_sl, ov_rev, ov_call, ov_make, ov_makeV, ov_blt, ov_sortK, ov_isi, ov_meth, ov_smeth, ov_attr, ov_cm, ov_lc, ov_lcK, ov_lc2, ov_col, ov_alloc, top_lst, top_dct, top_ins, wipe_nil, wipe_cons, q_bindT1, q_bindTm, q_bindN, q_bindC, q_asF, q_asL, q_asD, q_setN, q_setC, q_raise, d_addnn, d_addkn, d_addnk, d_sub, d_band, d_bor, d_shl1, d_shr, d_and1, d_bit, d_addl, d_addt, d_adds, s_la, s_sa, d_tb, d_tn, d_eqi, d_nei, d_lti, d_lei, d_gti, d_gei, d_inSn, d_niSn, d_rng, d_rngk, d_rng2, d_str, d_noni, d_nont, d_nonl, d_nonn, d_seqt, d_seql, d_seqS, d_seqR, d_enmt, d_enml, d_enmR, d_lent, d_lenl, d_lenS, d_lenR, d_tupl, d_tupt, d_lstl, d_lstt, d_all, d_sum, d_idt, d_idl, d_idR, atI_0, atI_1, atI_2, pf_n, pf_e, pf_d, atI_3, atI_4, atI_5, atI_6, c_obj, f_obj, k_obj, lk_0, lk_1, t_i, t_kt, k_int, k_tup, k_S, k_lst, k_str, k_non, ty_t4, ty_s3, ty_i2, ty_bc, nn_l, nn_t, nn_S, nn_R, nn_b, nn_n, nn_i, al_n, al_c, wt_l, wt_t, wt_i, wt_b, wt_n, wt_s, wts_n, wts_c, t_m, t_p, t_f, t_fp, t_c, t_mk, t_s, optW_some, q_run, q_runI, q_self, q_bindA, q_bindV, ↓reduceIte, Nat.reduceAdd, Nat.reduceSub, Nat.reduceMul, Nat.reducePow, Nat.reduceLeDiff, Nat.reduceEqDiff, Nat.reduceBEq, Nat.reduceSucc, Int.reduceNeg, Int.reduceLE, Int.reduceLT, Int.reduceEq, Int.reduceAdd, Int.reduceSub, reduceCtorEq, $xs,*])

/-- a scale's object -/
def Sc (n : Nat) (F : List Nat) : D := .obj 3 [(6, .int n), (7, .tup (In F))]
/-- d is a scale of the sets F -/
structure IsSc (h : MH) (d : D) (n : Nat) (F : List Nat) : Prop where
  c : clsOf h d = some 3
  f : fldsOf h d = some [(6, .int n), (7, .tup (In F))]
  k : kdOf h d = some (.c 3)
theorem IsSc.obj {h : MH} {n : Nat} {F : List Nat} : IsSc h (Sc n F) n F := ⟨rfl, rfl, rfl⟩
theorem IsSc.ref {h : MH} {s n : Nat} {F : List Nat} (e : h[s]? = some (.ins 3 [(6, .int n), (7, .tup (In F))])) : IsSc h (.ref s) n F := by
  refine ⟨?_, ?_, ?_⟩
  · unfold clsOf
    simp only [e]
  · unfold fldsOf
    simp only [e]
  · unfold kdOf
    simp only [e]
/-- the smallest allowed set that contains a set -/
def rnd (n : Nat) (F : List Nat) (b : Nat) : Nat := F.foldl (fun acc x => if b &&& x = b then acc &&& x else acc) (2 ^ n - 1)
class QC (B : Tb) : Prop where
  [i1 : Has B 1 fd_need_many]
  [i6 : Has B 6 fd_full]
  [i7 : Has B 7 fd_place]
  [i8 : Has B 8 fd_in_order]
  [i9 : Has B 9 fd_closed]
  [ii : HasI B 3 fd_Scale___init__]
  [t6 : TF B.ct 3 6]
  [t7 : TF B.ct 3 7]
class QCm (B : Tb) : Prop where
  [i : Has B 28 fd_Scale_many]
  [t : TP B.ct 3 1 28]
class QCa (B : Tb) : Prop where
  [i : Has B 29 fd_Scale_allowed]
  [t : TP B.ct 3 2 29]
class QCi (B : Tb) : Prop where
  [i : Has B 31 fd_Scale_allows]
  [t : TM B.ct 3 3 31]
class QCr (B : Tb) : Prop where
  [i : Has B 44 fd_Scale_round_bits]
  [t : TM B.ct 3 17 44]
class QCR (B : Tb) : Prop where
  [i : Has B 45 fd_Scale_round]
  [t : TM B.ct 3 14 45]
theorem in_In (b : Nat) (F : List Nat) : cmpD .isin (.int b) (.tup (In F)) = some (decide (b ∈ F)) := by
  show (if ok (.int b) && ok (D.tup (In F)) then some ((In F).any fun z => eqd z (.int b)) else none) = _
  rw [show ok (D.tup (In F)) = true from okN_In F]
  show some ((In F).any fun z => eqd z (.int b)) = _
  congr 1
  unfold In
  rw [List.any_map, Bool.eq_iff_iff, List.any_eq_true, decide_eq_true_iff]
  constructor
  · rintro ⟨a, ha, e⟩
    have e : ((a : Int) == (b : Int)) = true := e
    have := eq_of_beq e
    have : a = b := by omega
    exact this ▸ ha
  · exact fun h => ⟨b, h, (beq_self_eq_true (b : Int) : ((b : Int) == (b : Int)) = true)⟩
theorem wt_Rk {F : List Nat} {k : Nat} (hl : F.length ≤ k) : wt (Rw F) ≤ 8 * k := by
  have go : ∀ l : List Nat, wts (l.map S) ≤ l.length * 8 := by
    intro l
    induction l with
    | nil => exact Nat.le_refl _
    | cons b q ih =>
      have := wt_S b
      show wt (S b) + 1 + wts (q.map S) ≤ (q.length + 1) * 8
      omega
  have := go F
  show wts (F.map S) ≤ 8 * k
  omega
theorem rnd_lt {n : Nat} {F : List Nat} (hF : ∀ x ∈ F, x < 2 ^ n) (b : Nat) : rnd n F b < 2 ^ n := by
  have hp := Nat.two_pow_pos n
  have go : ∀ (l : List Nat) (acc : Nat), acc < 2 ^ n → l.foldl (fun acc x => if b &&& x = b then acc &&& x else acc) acc < 2 ^ n := by
    intro l
    induction l with
    | nil => exact fun _ h => h
    | cons x r ih =>
      intro acc h
      refine ih _ ?_
      dsimp only
      split
      · exact Nat.lt_of_le_of_lt Nat.and_le_left h
      · exact h
  exact go F _ (by omega)
section
variable {B : Tb} {T : CT} {C : Cl} {h : MH} {f : Nat}
theorem X_mkscale [QB B f] [QC B] (j : Nat) {n : Nat} {L F : List Nat} (h1 : 1 ≤ n) (h7 : n ≤ 7) (hl : ∀ b ∈ L, b < 2 ^ n) (hlen : L.length ≤ 900) (can : F = fam fun b => decide (b ∈ F)) (hF : ∀ x, x ∈ F ↔ Clo ((2 ^ n - 1) :: L) x) (h : MH) :
    (lv B (j + 4)).mke 3 (.int n :: L.map S) h = .ok [(6, .int n), (7, .tup (In F))] h := by
  have := QC.i1 (B := B)
  have := QC.i6 (B := B)
  have := QC.i7 (B := B)
  have := QC.i8 (B := B)
  have := QC.i9 (B := B)
  have := QC.ii (B := B)
  have := QC.t6 (B := B)
  have := QC.t7 (B := B)
  have hp := Nat.two_pow_pos n
  have hp7 : 2 ^ n ≤ 2 ^ 7 := Nat.pow_le_pow_right (by decide) h7
  have hl2 : ∀ b ∈ (2 ^ n - 1) :: L, b < 128 := fun b hb => by
    rcases List.mem_cons.mp hb with rfl | hb
    · omega
    · have := hl b hb
      omega
  obtain ⟨ks, e1, nd, hk, hm⟩ := X_closed (B := B) (j + 2) hl2 (by rw [List.length_cons]; omega) h
  have e2 := X_inorder (B := B) (f := f) j hk h
  have ef : (fam fun b => decide (b ∈ ks)) = F := by
    rw [can]
    exact fam_congr fun b _ => by
      rw [Bool.eq_iff_iff, decide_eq_true_iff, decide_eq_true_iff, hm, hF]
  rw [ef] at e2
  refine by_W ?_
  rw [mk_lv]
  simp (disch := omega) only [seval, fd_Scale___init__, X_needmany (B := B) (f := f) (j + 1) h1 h7]
  refine W_map (g := fun (b : Nat) => .int (b : Int)) (fun b hb => ?_) ?_
  · simp (disch := omega) only [seval, X_need (B := B) (f := f) j (show n < 8 by omega) (hl b hb)]
  have e3 : D.int ((2 ^ n - 1 : Nat) : Int) :: L.map (fun (b : Nat) => D.int (b : Int)) = In ((2 ^ n - 1) :: L) := rfl
  simp (disch := omega) only [seval, X_full (B := B) (j + 2) h7, e3, e1, e2]
theorem X_cmany [QC B] [QCm B] (j : Nat) {n : Nat} {F : List Nat} {d : D} {h : MH} (hs : IsSc h d n F) : (lv B (j + 1)).fn 28 [d] h = .ok (.int n) h := by
  have := QC.t6 (B := B)
  have := QCm.i (B := B)
  refine by_W ?_
  rw [fn_lv]
  simp (disch := omega) only [seval, fd_Scale_many, hs.c, hs.f]
theorem X_allowed [QB B f] [QC B] [QCa B] (j : Nat) {n : Nat} {F : List Nat} (hF : ∀ x ∈ F, x < 128) (hl : F.length ≤ 1000) {d : D} {h : MH} (hs : IsSc h d n F) : (lv B (j + 2)).fn 29 [d] h = .ok (Rw F) h := by
  have := QC.t7 (B := B)
  have := QCa.i (B := B)
  refine by_W ?_
  rw [fn_lv]
  simp (disch := omega) only [seval, fd_Scale_allowed, hs.c, hs.f]
  refine W_map (k := fun (b : Nat) => .int (b : Int)) (l := F) (g := S) (fun b hb => ?_) ?_
  · simp (disch := omega) only [seval, X_states (B := B) (f := f) j (hF b hb)]
  simp (disch := omega) only [seval, Rw]
theorem X_roundbits [QC B] [QCr B] (j : Nat) {n b : Nat} {F : List Nat} (h7 : n ≤ 7) {d : D} {h : MH} (hs : IsSc h d n F) : (lv B (j + 2)).fn 44 [d, .int b] h = .ok (.int ((rnd n F b : Nat) : Int)) h := by
  have := QC.i6 (B := B)
  have := QC.t6 (B := B)
  have := QC.t7 (B := B)
  have := QCr.i (B := B)
  refine by_W ?_
  rw [fn_lv]
  simp (disch := omega) only [seval, fd_Scale_round_bits, hs.c, hs.f, X_full (B := B) j h7]
  refine W_forI (k := fun (b : Nat) => .int (b : Int)) (fun pre env h' => (∃ v3, env = [some (.val d), some (.val (.int b)), some (.val (.int ((rnd n pre b : Nat) : Int))), v3]) ∧ h' = h) F ⟨⟨_, rfl⟩, rfl⟩ (fun pre x r er env h' => ?_) fun env h' => ?_
  · rintro ⟨⟨v3, rfl⟩, rfl⟩
    have e : rnd n (pre ++ [x]) b = if b &&& x = b then rnd n pre b &&& x else rnd n pre b := by
      unfold rnd
      rw [List.foldl_append]
      rfl
    simp (disch := omega) only [seval]
    rw [e]
    split <;> exact ⟨_, rfl⟩
  · rintro ⟨⟨v3, rfl⟩, rfl⟩
    simp (disch := omega) only [seval]
theorem X_round [QB B f] [QC B] [QCr B] [QCR B] (j : Nat) {n b : Nat} {F : List Nat} (h7 : n ≤ 7) (hF : ∀ x ∈ F, x < 2 ^ n) (hb : b < 2 ^ n) {d : D} {h : MH} (hs : IsSc h d n F) : (lv B (j + 4)).fn 45 [d, S b] h = .ok (S (rnd n F b)) h := by
  have := QC.t6 (B := B)
  have := QCr.t (B := B)
  have := QCR.i (B := B)
  have e := X_roundbits (B := B) (j + 1) (n := n) (b := b) (F := F) h7 hs
  have hr := p128 (rnd_lt hF b) h7
  refine by_W ?_
  rw [fn_lv]
  simp (disch := omega) only [seval, fd_Scale_round, hs.c, hs.f, X_need (B := B) (f := f) j (show n < 8 by omega) hb, e, X_states (B := B) (f := f) (j + 2) hr]
end
end Mi
/-! MiQ7: drawn families; rounding and edges, by the program and by the law. -/
namespace Mi
open PySem
local macro_rules
  | `(tactic| simp (disch := omega) only [seval]) => `(tactic| simp -implicitDefEqProofs (disch := omega) only [W_ok, W_no, W_bd, W_ite, s_bd_ok, s_bd_no, s_ofO_some, s_ofO_none, s_dec, s_decf, s_notb, s_notf, s_nnot, s_nt, s_nf, s_tt, s_ff, s_ft, s_tf, s_it, s_if, s_ifp, s_ifn, s_lm, s_lr, s_flr, s_lr', s_is, s_ci, s_cl, s_ce, s_dT, s_dF, s_bt, s_bt2, s_bf, s_bf2, s_ot, s_ot2, s_of, s_of2, s_an, s_na, s_nT, s_nF, s_ga, s_gs, s_sz, s_ss, s_ln, s_lc, s_mn, s_mc, s_pn, s_pc, s_apn, s_r0, s_rs, s_tk0, s_tks, s_dp0, s_dps, s_lim, s_mapS, s_mapN, s_binS, s_binN, W_vl, q_var, q_and, q_or, q_evE_glo, q_evE_con, q_evE_bin, q_evE_neg, q_evE_inv, q_evE_cmp, q_evE_cmp2, q_evE_isn, q_evE_notn, q_evE_not, q_evE_ite, q_evE_tup, q_evE_lst, q_evE_idx, q_evE_sl, q_evE_rev, q_evE_call, q_evE_make, q_evE_makeV, q_evE_blt, q_evE_sortK, q_evE_isi, q_evE_meth, q_evE_smeth, q_evE_attr, q_evE_cm, q_evE_lcK, q_evE_lc, q_evE_col, q_evE_dnew, q_evE_alloc, q_evO_none, q_evO_some, q_evA_nil, q_evA_cons, q_evA_star, q_evB_nil, q_evB_cons, q_evB_star, q_evTs_nil, q_evTs_cons, q_evTs_star, q_evI_seq, q_evI_rng, q_evI_rng2, q_evI_enm, q_evI_zip, q_evS_set, q_evS_setO, q_evS_par, q_evS_unp, q_evS_sattr, q_evS_pattr, q_evS_sidx, q_evS_oidx, oix_l, oix_d, oix_n, q_evS_app, q_evS_ext, q_evS_popS, q_evS_popD, q_evS_ex, q_evS_ifs, q_evS_for, q_evS_while, q_evS_ret, q_evS_retO, q_evS_retN, q_evS_pass, q_evS_brk, q_evS_cont, q_evS_sini, q_evS_frz, q_evSs_nil, q_evSs_cons, q_evT, q_tru, W_vbo, W_vbv, bor_var, bor_glo, bor_con, bor_bin, bor_neg, bor_inv, bor_cmp, bor_cmp2, bor_isn, bor_notn, bor_and, bor_or, bor_not, bor_ite, bor_tup, bor_lst, bor_idx, bor_sl, bor_rev, bor_call, bor_make, bor_makeV, bor_blt, bor_sortK, bor_isi, bor_meth, bor_smeth, bor_attr, bor_cm, bor_lc, bor_lcK, bor_lc2, bor_col, bor_dnew, bor_alloc, ov_o, ov_v, ov_var, ov_glo, ov_con, ov_bin, ov_neg, ov_inv, ov_cmp, ov_cmp2, ov_isn, ov_notn, ov_and, ov_or, ov_not, ov_ite, ov_tup, ov_lst, ov_idx, ov_sl, ov_rev, ov_call, ov_make, ov_makeV, ov_blt, ov_sortK, ov_isi, ov_meth, ov_smeth, ov_attr, ov_cm, ov_lc, ov_lcK, ov_lc2, ov_col, ov_alloc, top_lst, top_dct, top_ins, wipe_nil, wipe_cons, q_bindT1, q_bindTm, q_bindN, q_bindC, q_asF, q_asL, q_asD, q_setN, q_setC, q_raise, d_addnn, d_addkn, d_addnk, d_sub, d_band, d_bor, d_shl1, d_shr, d_and1, d_bit, d_addl, d_addt, d_adds, s_la, s_sa, d_tb, d_tn, d_eqi, d_nei, d_lti, d_lei, d_gti, d_gei, d_inSn, d_niSn, d_rng, d_rngk, d_rng2, d_str, d_noni, d_nont, d_nonl, d_nonn, d_seqt, d_seql, d_seqS, d_seqR, d_enmt, d_enml, d_enmR, d_lent, d_lenl, d_lenS, d_lenR, d_tupl, d_tupt, d_lstl, d_lstt, d_all, d_sum, d_idt, d_idl, d_idR, atI_0, atI_1, atI_2, pf_n, pf_e, pf_d, atI_3, atI_4, atI_5, atI_6, c_obj, f_obj, k_obj, lk_0, lk_1, t_i, t_kt, k_int, k_tup, k_S, k_lst, k_str, k_non, ty_t4, ty_s3, ty_i2, ty_bc, nn_l, nn_t, nn_S, nn_R, nn_b, nn_n, nn_i, al_n, al_c, wt_l, wt_t, wt_i, wt_b, wt_n, wt_s, wts_n, wts_c, t_m, t_p, t_f, t_fp, t_c, t_mk, t_s, optW_some, q_run, q_runI, q_self, q_bindA, q_bindV, ↓reduceIte, Nat.reduceAdd, Nat.reduceSub, Nat.reduceMul, Nat.reducePow, Nat.reduceLeDiff, Nat.reduceEqDiff, Nat.reduceBEq, Nat.reduceSucc, Int.reduceNeg, Int.reduceLE, Int.reduceLT, Int.reduceEq, Int.reduceAdd, Int.reduceSub, reduceCtorEq])
  | `(tactic| simp (disch := omega) only [seval, $xs,*]) => `(tactic| simp -implicitDefEqProofs (disch := omega) only [W_ok, W_no, W_bd, W_ite, s_bd_ok, s_bd_no, s_ofO_some, s_ofO_none, s_dec, s_decf, s_notb, s_notf, s_nnot, s_nt, s_nf, s_tt, s_ff, s_ft, s_tf, s_it, s_if, s_ifp, s_ifn, s_lm, s_lr, s_flr, s_lr', s_is, s_ci, s_cl, s_ce, s_dT, s_dF, s_bt, s_bt2, s_bf, s_bf2, s_ot, s_ot2, s_of, s_of2, s_an, s_na, s_nT, s_nF, s_ga, s_gs, s_sz, s_ss, s_ln, s_lc, s_mn, s_mc, s_pn, s_pc, s_apn, s_r0, s_rs, s_tk0, s_tks, s_dp0, s_dps, s_lim, s_mapS, s_mapN, s_binS, s_binN, W_vl, q_var, q_and, q_or, q_evE_glo, q_evE_con, q_evE_bin, q_evE_neg, q_evE_inv, q_evE_cmp, q_evE_cmp2, q_evE_isn, q_evE_notn, q_evE_not, q_evE_ite, q_evE_tup, q_evE_lst, q_evE_idx, q_evE_sl, q_evE_rev, q_evE_call, q_evE_make, q_evE_makeV, q_evE_blt, q_evE_sortK, q_evE_isi, q_evE_meth, q_evE_smeth, q_evE_attr, q_evE_cm, q_evE_lcK, q_evE_lc, q_evE_col, q_evE_dnew, q_evE_alloc, q_evO_none, q_evO_some, q_evA_nil, q_evA_cons, q_evA_star, q_evB_nil, q_evB_cons, q_evB_star, q_evTs_nil, q_evTs_cons, q_evTs_star, q_evI_seq, q_evI_rng, q_evI_rng2, q_evI_enm, q_evI_zip, q_evS_set, q_evS_setO, q_evS_par, q_evS_unp, q_evS_sattr, q_evS_pattr, q_evS_sidx, q_evS_oidx, oix_l, oix_d, oix_n, q_evS_app, q_evS_ext, q_evS_popS, q_evS_popD, q_evS_ex, q_evS_ifs, q_evS_for, q_evS_while, q_evS_ret, q_evS_retO, q_evS_retN, q_evS_pass, q_evS_brk, q_evS_cont, q_evS_sini, q_evS_frz, q_evSs_nil, q_evSs_cons, q_evT, q_tru, W_vbo, W_vbv, bor_var, bor_glo, bor_con, bor_bin, bor_neg, bor_inv, bor_cmp, bor_cmp2, bor_isn, bor_notn, bor_and, bor_or, bor_not, bor_ite, bor_tup, bor_lst, bor_idx, bor_sl, bor_rev, bor_call, bor_make, bor_makeV, bor_blt, bor_sortK, bor_isi, bor_meth, bor_smeth, bor_attr, bor_cm, bor_lc, bor_lcK, bor_lc2, bor_col, bor_dnew, bor_alloc, ov_o, ov_v, ov_var, ov_glo, ov_con, ov_bin, ov_neg, ov_inv, ov_cmp, ov_cmp2, ov_isn, ov_notn, ov_and, ov_or, ov_not, ov_ite, ov_tup, ov_lst, ov_idx, ov_sl, ov_rev, ov_call, ov_make, ov_makeV, ov_blt, ov_sortK, ov_isi, ov_meth, ov_smeth, ov_attr, ov_cm, ov_lc, ov_lcK, ov_lc2, ov_col, ov_alloc, top_lst, top_dct, top_ins, wipe_nil, wipe_cons, q_bindT1, q_bindTm, q_bindN, q_bindC, q_asF, q_asL, q_asD, q_setN, q_setC, q_raise, d_addnn, d_addkn, d_addnk, d_sub, d_band, d_bor, d_shl1, d_shr, d_and1, d_bit, d_addl, d_addt, d_adds, s_la, s_sa, d_tb, d_tn, d_eqi, d_nei, d_lti, d_lei, d_gti, d_gei, d_inSn, d_niSn, d_rng, d_rngk, d_rng2, d_str, d_noni, d_nont, d_nonl, d_nonn, d_seqt, d_seql, d_seqS, d_seqR, d_enmt, d_enml, d_enmR, d_lent, d_lenl, d_lenS, d_lenR, d_tupl, d_tupt, d_lstl, d_lstt, d_all, d_sum, d_idt, d_idl, d_idR, atI_0, atI_1, atI_2, pf_n, pf_e, pf_d, atI_3, atI_4, atI_5, atI_6, c_obj, f_obj, k_obj, lk_0, lk_1, t_i, t_kt, k_int, k_tup, k_S, k_lst, k_str, k_non, ty_t4, ty_s3, ty_i2, ty_bc, nn_l, nn_t, nn_S, nn_R, nn_b, nn_n, nn_i, al_n, al_c, wt_l, wt_t, wt_i, wt_b, wt_n, wt_s, wts_n, wts_c, t_m, t_p, t_f, t_fp, t_c, t_mk, t_s, optW_some, q_run, q_runI, q_self, q_bindA, q_bindV, ↓reduceIte, Nat.reduceAdd, Nat.reduceSub, Nat.reduceMul, Nat.reducePow, Nat.reduceLeDiff, Nat.reduceEqDiff, Nat.reduceBEq, Nat.reduceSucc, Int.reduceNeg, Int.reduceLE, Int.reduceLT, Int.reduceEq, Int.reduceAdd, Int.reduceSub, reduceCtorEq, $xs,*])

theorem spans7 : ((List.range 8).all fun s => (List.range (8 - s)).all fun k => decide (sl7 (2 ^ (s + k) - 2 ^ s) = (List.range' s k).map fun (i : Nat) => (i : Int))) = true := by decide +kernel
theorem tup_span {n s k : Nat} (h7 : n ≤ 7) (hk : s + k ≤ n) : 2 ^ (s + k) - 2 ^ s < 2 ^ n ∧ D.tup ((List.range' s k).map fun (i : Nat) => D.int (i : Int)) = S (2 ^ (s + k) - 2 ^ s) := by
  have h1 : 2 ^ (s + k) ≤ 2 ^ n := Nat.pow_le_pow_right (by decide) hk
  have h2 := Nat.two_pow_pos s
  have h3 := Nat.two_pow_pos (s + k)
  refine ⟨by omega, ?_⟩
  have := of_decide_eq_true (List.all_eq_true.mp (List.all_eq_true.mp spans7 s (List.mem_range.mpr (by omega))) k (List.mem_range.mpr (by omega)))
  unfold S
  rw [this, List.map_map]
  rfl
noncomputable def prd (n : Nat) (p : Nat → Bool) : Nat := (bits_of_p p n).choose
theorem prd_lt (n : Nat) (p : Nat → Bool) : prd n p < 2 ^ n := (bits_of_p p n).choose_spec.1
theorem prd_bit {n : Nat} {p : Nat → Bool} {i : Nat} (hi : i < n) : (prd n p).testBit i = p i := (bits_of_p p n).choose_spec.2 i hi
theorem atI_In {l : List Nat} {k : Nat} (hk : k < l.length) : L2.atI (In l) (k : Int) = some (.int ((l.getD k 0 : Nat) : Int)) := by
  rw [atI_nat (by rw [In_len]; exact hk)]
  unfold In
  rw [List.getElem?_map, List.getD_eq_getElem?_getD, List.getElem?_eq_getElem hk]
  rfl
theorem Mv.lt {n m : Nat} {h h' : MH} (v : Mv n m h h') (hn : n < h.length) : n < h'.length := by
  rw [v.len]
  exact hn
/-- other places stay -/
theorem Mv.other {n m i : Nat} {h h' : MH} (v : Mv n m h h') (hi : i ≠ n) : h'[i]? = h[i]? := by
  obtain ⟨o, rfl, _⟩ := v
  rw [List.getElem?_set, if_neg fun e => hi e.symm]
section
variable {B : Tb} {T : CT} {C : Cl} {h : MH} {f pn m : Nat}
/-- drawn labels -/
theorem W_family [Has B 18 fd__law_draw] [Has B 19 fd__law_set] [Has B 20 fd__law_whole] [Has B 21 fd__law_common] [Has B 22 fd__law_ordered] [Has B 23 fd__law_closed] [Has B 37 fd__law_family] {Q : D → MH → Prop} (j : Nat) {n : Nat} (p : Pen h pn m) (hm : m < 600000000) (h1 : 1 ≤ n) (h7 : n ≤ 7) (q : ∀ F h', Fam n F → Mv pn (m + 200) h h' → Q (.lst (F.map S)) h') : W ((lv B (j + 4)).fn 37 [.ref pn, .int n] h) Q := by
  rw [fn_lv]
  simp (disch := omega) only [seval, fd__law_family]
  refine W_draw (k := 6) (j + 2) p (by omega) (by decide) (by decide) fun w h2 hw v1 => ?_
  have p2 := v1.pen p.lt
  simp (disch := omega) only [seval, -q_evS_ifs]
  refine W_mono (P := fun fl h' => ∃ (L : List Nat) (a2 a4 a5 a6 a7 a8 a9 : Option SV), fl = .nx [some (.val (.ref pn)), some (.val (.int n)), a2, some (.val (.lst (L.map S))), a4, a5, a6, a7, a8, a9] ∧ (∀ b ∈ L, b < 2 ^ n) ∧ L.length ≤ 100 ∧ Mv pn (m + 200) h h') ?_ ?_
  · simp (disch := omega) only [seval]
    split
    · -- spans
      refine W_forI (fun pre env h' => (∃ (L : List Nat) (v4 : Option SV), env = [some (.val (.ref pn)), some (.val (.int n)), some (.val (.int w)), some (.val (.lst (L.map S))), v4, none, none, none, none, none] ∧ (∀ b ∈ L, b < 2 ^ n) ∧ L.length ≤ 1 + 8 * pre.length) ∧ h' = h2) _ ⟨⟨[0], _, by rw [List.map_cons, S_zero]; rfl, fun b hb => by rw [List.mem_singleton] at hb; subst hb; exact Nat.two_pow_pos n, by simp⟩, rfl⟩ (fun pre s r er env h' => ?_) fun env h' => ?_
      · rintro ⟨⟨L, v4, rfl, hL, hl⟩, rfl⟩
        have hr := congrArg List.length er
        rw [List.length_range', List.length_append, List.length_cons] at hr
        have hs : s < n := by
          have : s ∈ List.range' 0 n := by
            rw [er]
            simp
          have := (List.mem_range'_1.mp this).2
          omega
        simp (disch := omega) only [seval]
        refine W_map (g := fun e => S (2 ^ (e + 1) - 2 ^ s)) (fun e he => ?_) ?_
        · have h3 := List.mem_range'_1.mp he
          have h4 := tup_span (n := n) (s := s) (k := e + 1 - s) h7 (by omega)
          rw [show s + (e + 1 - s) = e + 1 by omega] at h4
          simp (disch := omega) only [seval, h4.2]
        · have e1 : L.map S ++ (List.range' s (n - s)).map (fun e => S (2 ^ (e + 1) - 2 ^ s)) = (L ++ (List.range' s (n - s)).map fun e => 2 ^ (e + 1) - 2 ^ s).map S := by
            rw [List.map_append, List.map_map]
            rfl
          simp (disch := omega) only [seval, e1]
          refine ⟨_, _, rfl, fun b hb => ?_, ?_⟩
          · rcases List.mem_append.mp hb with hb | hb
            · exact hL b hb
            · obtain ⟨e, he, rfl⟩ := List.mem_map.mp hb
              have h3 := List.mem_range'_1.mp he
              have h4 : 2 ^ (e + 1) ≤ 2 ^ n := Nat.pow_le_pow_right (by decide) (by omega)
              have := Nat.two_pow_pos s
              have := Nat.two_pow_pos n
              omega
          · simp only [List.length_append, List.length_map, List.length_range', List.length_singleton]
            omega
      · rintro ⟨⟨L, v4, rfl, hL, hl⟩, rfl⟩
        rw [List.length_range'] at hl
        simp (disch := omega) only [seval]
        exact ⟨L, _, _, _, _, _, _, _, rfl, hL, by omega, v1.mono (by omega)⟩
    · split
      · -- parts
        refine W_mapS (fun pr ys h' => (∃ l : List Nat, ys = In l ∧ l.length = pr.length) ∧ Mv pn (m + 1 + pr.length) h h') _ ⟨⟨[], rfl, rfl⟩, v1⟩ (fun pr a r er ys h' => ?_) fun ys h' => ?_
        · rintro ⟨⟨l, rfl, hl⟩, v⟩
          simp (disch := omega) only [seval]
          have hr := congrArg List.length er
          rw [List.length_range', List.length_append, List.length_cons] at hr
          refine W_draw (k := 3) (j + 2) (v.pen p.lt) (by omega) (by decide) (by decide) fun d h3 hd v3 => ?_
          exact ⟨⟨l ++ [d], by rw [In_app]; rfl, by simp [hl]⟩, by rw [List.length_append]; exact v.trans v3⟩
        · rintro ⟨⟨l, rfl, hl⟩, v⟩
          rw [List.length_range'] at hl v
          simp (disch := omega) only [seval, In_len]
          refine W_map (k := fun (b : Nat) => .int (b : Int)) (l := l) (g := fun a => S (prd n fun i => !decide (l.getD i 0 = a))) (fun a ha => ?_) ?_
          · simp (disch := omega) only [seval]
            refine W_mapP (p := fun i => !decide (l.getD i 0 = a)) (g := fun i => .int (i : Int)) (fun i hi => ?_) ?_
            · have := (List.mem_range'_1.mp hi).2
              simp (disch := omega) only [seval, atI_In (l := l) (show i < l.length by omega)]
            · simp (disch := omega) only [seval, tup_filter (n := n) h7 (prd_lt n _) fun i hi => (prd_bit hi).symm]
          · have e1 : l.map (fun a => S (prd n fun i => !decide (l.getD i 0 = a))) = (l.map fun a => prd n fun i => !decide (l.getD i 0 = a)).map S := by
              rw [List.map_map]
              rfl
            simp (disch := omega) only [seval, e1]
            refine ⟨_, _, _, _, _, _, _, _, rfl, fun b hb => ?_, by rw [List.length_map]; omega, v.mono (by omega)⟩
            obtain ⟨a, _, rfl⟩ := List.mem_map.mp hb
            exact prd_lt _ _
      · -- drawn sets
        refine W_draw (k := 7) (j + 2) p2 (by omega) (by decide) (by decide) fun g h3 hg v3 => ?_
        have v13 := v1.trans v3
        simp (disch := omega) only [seval]
        refine W_mapS (fun pr ys h' => (∃ L : List Nat, ys = L.map S ∧ L.length = pr.length ∧ ∀ b ∈ L, b < 2 ^ n) ∧ Mv pn (m + 2 + 10 * pr.length) h h') _ ⟨⟨[], rfl, rfl, fun b hb => absurd hb List.not_mem_nil⟩, v13⟩ (fun pr a r er ys h' => ?_) fun ys h' => ?_
        · rintro ⟨⟨L, rfl, hl, hL⟩, v⟩
          simp (disch := omega) only [seval]
          have hr := congrArg List.length er
          rw [List.length_range', List.length_append, List.length_cons] at hr
          refine W_lset (j + 1) (v.pen p.lt) (by omega) h7 fun b h4 hb v4 => ?_
          exact ⟨⟨L ++ [b], by simp, by simp [hl], fun x hx => by
            rcases List.mem_append.mp hx with hx | hx
            · exact hL x hx
            · rw [List.mem_singleton] at hx
              exact hx ▸ hb⟩, by rw [List.length_append]; exact (v.trans v4).mono (by simp; omega)⟩
        · rintro ⟨⟨L, rfl, hl, hL⟩, v⟩
          rw [List.length_range'] at hl v
          simp (disch := omega) only [seval]
          exact ⟨L, _, _, _, _, _, _, _, rfl, hL, by omega, v.mono (by omega)⟩
  · rintro fl h' ⟨L, a2, a4, a5, a6, a7, a8, a9, rfl, hL, hl, v⟩
    obtain ⟨F, e, can, hF⟩ := X_lawclosed (B := B) (j + 1) h1 h7 hL (by omega) h'
    simp (disch := omega) only [seval, e]
    exact q F h' (Fam.clo h1 h7 hL can hF) v
end
end Mi
/-! MiQ8: sets, scales and steps read from texts. -/
namespace Mi
open PySem
local macro_rules
  | `(tactic| simp (disch := omega) only [seval]) => `(tactic| simp -implicitDefEqProofs (disch := omega) only [W_ok, W_no, W_bd, W_ite, s_bd_ok, s_bd_no, s_ofO_some, s_ofO_none, s_dec, s_decf, s_notb, s_notf, s_nnot, s_nt, s_nf, s_tt, s_ff, s_ft, s_tf, s_it, s_if, s_ifp, s_ifn, s_lm, s_lr, s_flr, s_lr', s_is, s_ci, s_cl, s_ce, s_dT, s_dF, s_bt, s_bt2, s_bf, s_bf2, s_ot, s_ot2, s_of, s_of2, s_an, s_na, s_nT, s_nF, s_ga, s_gs, s_sz, s_ss, s_ln, s_lc, s_mn, s_mc, s_pn, s_pc, s_apn, s_r0, s_rs, s_tk0, s_tks, s_dp0, s_dps, s_lim, s_mapS, s_mapN, s_binS, s_binN, W_vl, q_var, q_and, q_or, q_evE_glo, q_evE_con, q_evE_bin, q_evE_neg, q_evE_inv, q_evE_cmp, q_evE_cmp2, q_evE_isn, q_evE_notn, q_evE_not, q_evE_ite, q_evE_tup, q_evE_lst, q_evE_idx, q_evE_sl, q_evE_rev, q_evE_call, q_evE_make, q_evE_makeV, q_evE_blt, q_evE_sortK, q_evE_isi, q_evE_meth, q_evE_smeth, q_evE_attr, q_evE_cm, q_evE_lcK, q_evE_lc, q_evE_col, q_evE_dnew, q_evE_alloc, q_evO_none, q_evO_some, q_evA_nil, q_evA_cons, q_evA_star, q_evB_nil, q_evB_cons, q_evB_star, q_evTs_nil, q_evTs_cons, q_evTs_star, q_evI_seq, q_evI_rng, q_evI_rng2, q_evI_enm, q_evI_zip, q_evS_set, q_evS_setO, q_evS_par, q_evS_unp, q_evS_sattr, q_evS_pattr, q_evS_sidx, q_evS_oidx, oix_l, oix_d, oix_n, q_evS_app, q_evS_ext, q_evS_popS, q_evS_popD, q_evS_ex, q_evS_ifs, q_evS_for, q_evS_while, q_evS_ret, q_evS_retO, q_evS_retN, q_evS_pass, q_evS_brk, q_evS_cont, q_evS_sini, q_evS_frz, q_evSs_nil, q_evSs_cons, q_evT, q_tru, W_vbo, W_vbv, bor_var, bor_glo, bor_con, bor_bin, bor_neg, bor_inv, bor_cmp, bor_cmp2, bor_isn, bor_notn, bor_and, bor_or, bor_not, bor_ite, bor_tup, bor_lst, bor_idx, bor_sl, bor_rev, bor_call, bor_make, bor_makeV, bor_blt, bor_sortK, bor_isi, bor_meth, bor_smeth, bor_attr, bor_cm, bor_lc, bor_lcK, bor_lc2, bor_col, bor_dnew, bor_alloc, ov_o, ov_v, ov_var, ov_glo, ov_con, ov_bin, ov_neg, ov_inv, ov_cmp, ov_cmp2, ov_isn, ov_notn, ov_and, ov_or, ov_not, ov_ite, ov_tup, ov_lst, ov_idx, ov_sl, ov_rev, ov_call, ov_make, ov_makeV, ov_blt, ov_sortK, ov_isi, ov_meth, ov_smeth, ov_attr, ov_cm, ov_lc, ov_lcK, ov_lc2, ov_col, ov_alloc, top_lst, top_dct, top_ins, wipe_nil, wipe_cons, q_bindT1, q_bindTm, q_bindN, q_bindC, q_asF, q_asL, q_asD, q_setN, q_setC, q_raise, d_addnn, d_addkn, d_addnk, d_sub, d_band, d_bor, d_shl1, d_shr, d_and1, d_bit, d_addl, d_addt, d_adds, s_la, s_sa, d_tb, d_tn, d_eqi, d_nei, d_lti, d_lei, d_gti, d_gei, d_inSn, d_niSn, d_rng, d_rngk, d_rng2, d_str, d_noni, d_nont, d_nonl, d_nonn, d_seqt, d_seql, d_seqS, d_seqR, d_enmt, d_enml, d_enmR, d_lent, d_lenl, d_lenS, d_lenR, d_tupl, d_tupt, d_lstl, d_lstt, d_all, d_sum, d_idt, d_idl, d_idR, atI_0, atI_1, atI_2, pf_n, pf_e, pf_d, atI_3, atI_4, atI_5, atI_6, c_obj, f_obj, k_obj, lk_0, lk_1, t_i, t_kt, k_int, k_tup, k_S, k_lst, k_str, k_non, ty_t4, ty_s3, ty_i2, ty_bc, nn_l, nn_t, nn_S, nn_R, nn_b, nn_n, nn_i, al_n, al_c, wt_l, wt_t, wt_i, wt_b, wt_n, wt_s, wts_n, wts_c, t_m, t_p, t_f, t_fp, t_c, t_mk, t_s, optW_some, q_run, q_runI, q_self, q_bindA, q_bindV, ↓reduceIte, Nat.reduceAdd, Nat.reduceSub, Nat.reduceMul, Nat.reducePow, Nat.reduceLeDiff, Nat.reduceEqDiff, Nat.reduceBEq, Nat.reduceSucc, Int.reduceNeg, Int.reduceLE, Int.reduceLT, Int.reduceEq, Int.reduceAdd, Int.reduceSub, reduceCtorEq])
  | `(tactic| simp (disch := omega) only [seval, $xs,*]) => `(tactic| simp -implicitDefEqProofs (disch := omega) only [W_ok, W_no, W_bd, W_ite, s_bd_ok, s_bd_no, s_ofO_some, s_ofO_none, s_dec, s_decf, s_notb, s_notf, s_nnot, s_nt, s_nf, s_tt, s_ff, s_ft, s_tf, s_it, s_if, s_ifp, s_ifn, s_lm, s_lr, s_flr, s_lr', s_is, s_ci, s_cl, s_ce, s_dT, s_dF, s_bt, s_bt2, s_bf, s_bf2, s_ot, s_ot2, s_of, s_of2, s_an, s_na, s_nT, s_nF, s_ga, s_gs, s_sz, s_ss, s_ln, s_lc, s_mn, s_mc, s_pn, s_pc, s_apn, s_r0, s_rs, s_tk0, s_tks, s_dp0, s_dps, s_lim, s_mapS, s_mapN, s_binS, s_binN, W_vl, q_var, q_and, q_or, q_evE_glo, q_evE_con, q_evE_bin, q_evE_neg, q_evE_inv, q_evE_cmp, q_evE_cmp2, q_evE_isn, q_evE_notn, q_evE_not, q_evE_ite, q_evE_tup, q_evE_lst, q_evE_idx, q_evE_sl, q_evE_rev, q_evE_call, q_evE_make, q_evE_makeV, q_evE_blt, q_evE_sortK, q_evE_isi, q_evE_meth, q_evE_smeth, q_evE_attr, q_evE_cm, q_evE_lcK, q_evE_lc, q_evE_col, q_evE_dnew, q_evE_alloc, q_evO_none, q_evO_some, q_evA_nil, q_evA_cons, q_evA_star, q_evB_nil, q_evB_cons, q_evB_star, q_evTs_nil, q_evTs_cons, q_evTs_star, q_evI_seq, q_evI_rng, q_evI_rng2, q_evI_enm, q_evI_zip, q_evS_set, q_evS_setO, q_evS_par, q_evS_unp, q_evS_sattr, q_evS_pattr, q_evS_sidx, q_evS_oidx, oix_l, oix_d, oix_n, q_evS_app, q_evS_ext, q_evS_popS, q_evS_popD, q_evS_ex, q_evS_ifs, q_evS_for, q_evS_while, q_evS_ret, q_evS_retO, q_evS_retN, q_evS_pass, q_evS_brk, q_evS_cont, q_evS_sini, q_evS_frz, q_evSs_nil, q_evSs_cons, q_evT, q_tru, W_vbo, W_vbv, bor_var, bor_glo, bor_con, bor_bin, bor_neg, bor_inv, bor_cmp, bor_cmp2, bor_isn, bor_notn, bor_and, bor_or, bor_not, bor_ite, bor_tup, bor_lst, bor_idx, bor_sl, bor_rev, bor_call, bor_make, bor_makeV, bor_blt, bor_sortK, bor_isi, bor_meth, bor_smeth, bor_attr, bor_cm, bor_lc, bor_lcK, bor_lc2, bor_col, bor_dnew, bor_alloc, ov_o, ov_v, ov_var, ov_glo, ov_con, ov_bin, ov_neg, ov_inv, ov_cmp, ov_cmp2, ov_isn, ov_notn, ov_and, ov_or, ov_not, ov_ite, ov_tup, ov_lst, ov_idx, ov_sl, ov_rev, ov_call, ov_make, ov_makeV, ov_blt, ov_sortK, ov_isi, ov_meth, ov_smeth, ov_attr, ov_cm, ov_lc, ov_lcK, ov_lc2, ov_col, ov_alloc, top_lst, top_dct, top_ins, wipe_nil, wipe_cons, q_bindT1, q_bindTm, q_bindN, q_bindC, q_asF, q_asL, q_asD, q_setN, q_setC, q_raise, d_addnn, d_addkn, d_addnk, d_sub, d_band, d_bor, d_shl1, d_shr, d_and1, d_bit, d_addl, d_addt, d_adds, s_la, s_sa, d_tb, d_tn, d_eqi, d_nei, d_lti, d_lei, d_gti, d_gei, d_inSn, d_niSn, d_rng, d_rngk, d_rng2, d_str, d_noni, d_nont, d_nonl, d_nonn, d_seqt, d_seql, d_seqS, d_seqR, d_enmt, d_enml, d_enmR, d_lent, d_lenl, d_lenS, d_lenR, d_tupl, d_tupt, d_lstl, d_lstt, d_all, d_sum, d_idt, d_idl, d_idR, atI_0, atI_1, atI_2, pf_n, pf_e, pf_d, atI_3, atI_4, atI_5, atI_6, c_obj, f_obj, k_obj, lk_0, lk_1, t_i, t_kt, k_int, k_tup, k_S, k_lst, k_str, k_non, ty_t4, ty_s3, ty_i2, ty_bc, nn_l, nn_t, nn_S, nn_R, nn_b, nn_n, nn_i, al_n, al_c, wt_l, wt_t, wt_i, wt_b, wt_n, wt_s, wts_n, wts_c, t_m, t_p, t_f, t_fp, t_c, t_mk, t_s, optW_some, q_run, q_runI, q_self, q_bindA, q_bindV, ↓reduceIte, Nat.reduceAdd, Nat.reduceSub, Nat.reduceMul, Nat.reducePow, Nat.reduceLeDiff, Nat.reduceEqDiff, Nat.reduceBEq, Nat.reduceSucc, Int.reduceNeg, Int.reduceLE, Int.reduceLT, Int.reduceEq, Int.reduceAdd, Int.reduceSub, reduceCtorEq, $xs,*])

/-- the states of a set -/
def stN (b : Nat) : List Nat := (List.range 7).filter fun i => b.testBit i
theorem S_stN (b : Nat) : S b = .tup ((stN b).map fun (i : Nat) => .int (i : Int)) := by
  unfold S sl7 stN
  rw [List.map_map]
  rfl
theorem tx_split (b : Nat) (hb : b < 128) : (decide (tx b = ("-" : Str)) == decide (b = 0) && (decide (b = 0) || (decide (Txt.split (tx b) (" " : Str) = (stN b).map dg) && decide ((tx b).length ≤ 13)))) = true := by
  refine all2 (n := 128) (f := fun b => (decide (tx b = ("-" : Str)) == decide (b = 0) && (decide (b = 0) || (decide (Txt.split (tx b) (" " : Str) = (stN b).map dg) && decide ((tx b).length ≤ 13))))) (g := fun _ => true) ?_ b hb
  kernel_rfl
def intO (x : Str) : Option Int := PySem.intText? x
theorem dg_facts (k : Nat) (hk : k < 8) : (decide ((dg k).length = 1) && ((decide (k = 7) || inStr (dg k) ("0123456" : Str)) && decide (intO (dg k) = some (k : Int)))) = true := by
  refine all2 (n := 8) (f := fun k => (decide ((dg k).length = 1) && ((decide (k = 7) || inStr (dg k) ("0123456" : Str)) && decide (intO (dg k) = some (k : Int))))) (g := fun _ => true) ?_ k hk
  kernel_rfl
def fdReadSetF (f : Nat) : FD := ⟨2, false, 4, .cons (.set 2 (.tup .nil)) (.cons (.ifs (.cmp .ne (.var 1) (.con (.str "-"))) (.cons (.for (.one 3) (.seq (.smeth .split (.var 1) (.cons (.con (.str " ")) .nil))) (.cons (.ifs (.or (.cmp .ne (.blt .len (.cons (.var 3) .nil)) (.con (.int 1))) (.cmp .notin (.var 3) (.con (.str "0123456")))) (.cons (.raise 2 (.cons (.con (.str "a state from 0 to 6")) .nil)) .nil) .nil) (.cons (.set 2 (.bin .add (.var 2) (.tup (.cons (.blt .int (.cons (.var 3) .nil)) .nil)))) .nil))) (.cons (.ifs (.or (.cmp .eq (.var 2) (.tup .nil)) (.not (.call f (.cons (.var 0) (.cons (.var 2) .nil))))) (.cons (.raise 2 (.cons (.con (.str "ascending states")) .nil)) .nil) .nil) .nil)) .nil) (.cons (.ret (.var 2)) .nil))⟩
section
variable {B : Tb} {T : CT} {C : Cl} {h : MH} {f g : Nat}
theorem d_nes {x y : Str} : cmpD .ne (.str x) (.str y) = some (!decide (x = y)) := rfl
theorem d_nis {x y : Str} : cmpD .notin (.str x) (.str y) = some (!inStr x y) := rfl
theorem d_lens {x : Str} (hl : x.length ≤ 1000000) : bltD .len [.str x] = some (.int x.length) := if_pos hl
theorem d_int {x : Str} {i : Int} (hl : x.length ≤ 640) (e : intO x = some i) : bltD .int [.str x] = some (.int i) := by
  show (if x.length ≤ 640 then (PySem.intText? x).map D.int else none) = _
  rw [if_pos hl, show PySem.intText? x = some i from e]
  rfl
theorem d_split {a b : Str} (h1 : b.length ≠ 0) (h2 : a.length ≤ 1000000) : smD .split (.str a) [.str b] = some (.lst ((Txt.split a b).map .str)) := if_pos ⟨h1, h2⟩
theorem X_readset [QB B f] [Has B 11 (fdReadSetF f)] (j : Nat) {n b : Nat} (h7 : n ≤ 7) (hb : b < 2 ^ n) (h : MH) : (lv B (j + 3)).fn 11 [.int n, .str (tx b)] h = .ok (S b) h := by
  have hb7 := p128 hb h7
  obtain ⟨t1, t2⟩ := ba2 (tx_split b hb7)
  have t1 := eq_of_beq t1
  have t1' : (tx b = ("-" : Str)) = (b = 0) := propext (decide_eq_decide.mp t1)
  refine by_W ?_
  rw [fn_lv]
  by_cases h0 : b = 0
  · subst h0
    have e0 : tx 0 = ("-" : Str) := by
      rw [t1']
    simp (disch := omega) only [seval, fdReadSetF, d_nes, e0, S_zero]
  · rw [decide_eq_false h0, Bool.false_or] at t2
    obtain ⟨t3, t4⟩ := ba2 t2
    have t3 := of_decide_eq_true t3
    have t4 := of_decide_eq_true t4
    have hs := X_set (B := B) (f := f) j (show n < 8 by omega) hb7 h
    rw [decide_eq_true hb] at hs
    have f1 : ((" " : Str).length ≠ 0) := by decide +kernel
    have e1 : (Txt.split (tx b) (" " : Str)).map D.str = (stN b).map fun k => .str (dg k) := by
      rw [t3, List.map_map]
      rfl
    have e3 := eq_S hb7 (show 0 < 128 by omega)
    rw [S_zero, decide_eq_false h0] at e3
    simp (disch := omega) only [seval, fdReadSetF, d_nes, t1', h0, d_split f1 (show (tx b).length ≤ 1000000 by omega), e1]
    refine W_forI (fun pre env h' => (∃ v3, env = [some (.val (.int n)), some (.val (.str (tx b))), some (.val (.tup (In pre))), v3]) ∧ h' = h) _ ⟨⟨_, rfl⟩, rfl⟩ (fun pre k r er env h' => ?_) fun env h' => ?_
    · rintro ⟨⟨v3, rfl⟩, rfl⟩
      have hk : k < 7 := by
        have : k ∈ stN b := by
          rw [er]
          simp
        exact List.mem_range.mp (List.mem_filter.mp this).1
      obtain ⟨g1, g2⟩ := ba2 (dg_facts k (by omega))
      obtain ⟨g2, g3⟩ := ba2 g2
      have g1 := of_decide_eq_true g1
      have g3 := of_decide_eq_true g3
      rw [decide_eq_false (by omega), Bool.false_or] at g2
      have hl : (In pre).length ≤ 7 := by
        rw [In_len]
        have := congrArg List.length er
        have h2 : (stN b).length ≤ 7 := by
          unfold stN
          exact Nat.le_trans (List.length_filter_le _ _) (by simp)
        rw [List.length_append] at this
        omega
      simp (disch := omega) only [seval, d_lens (show (dg k).length ≤ 1000000 by omega), g1, d_nis, g2, d_int (show (dg k).length ≤ 640 by omega) g3]
      rw [In_app]
      exact ⟨_, rfl⟩
    · rintro ⟨⟨v3, rfl⟩, rfl⟩
      have e4 : D.tup (In (stN b)) = S b := (S_stN b).symm
      simp (disch := omega) only [seval, e4, e3, hs]
/-- scale_text, asking def f -/
def fdScaleTxt (f : Nat) : FD := ⟨2, false, 3, .cons (.ret (.bin .add (.bin .add (.bin .add (.con (.str "states ")) (.blt .str (.cons (.var 0) (.nil)))) (.con (.str "\n"))) (.smeth .join (.con (.str "")) (.cons (.lc (.seq (.var 1)) (.one 2) [2] (.nil) (.bin .add (.call f (.cons (.var 2) (.nil))) (.con (.str "\n")))) (.nil))))) (.nil)⟩
/-- lines, each with its line feed -/
def linT (ls : List Str) : Str := Txt.join "" (ls.map fun l => l ++ ("\n" : Str))
def stL (n : Nat) : Str := ("states " : Str) ++ dg n
def scL (n : Nat) (F : List Nat) : List Str := stL n :: F.map tx
theorem linT_cons (l : Str) (ls : List Str) : linT (l :: ls) = l ++ ("\n" : Str) ++ linT ls := by
  apply TL.ext_tl
  unfold linT
  rw [TL.tl_append, tl_lines, tl_lines, List.map_cons, List.flatten_cons, TL.tl_append, tl_nl]
theorem len_join0 {c : Nat} : ∀ {ls : List Str}, (∀ l ∈ ls, l.length ≤ c) → ((ls.map fun l => l ++ ("\n" : Str)).map (·.length)).sum ≤ ls.length * (c + 1)
  | [], _ => Nat.zero_le _
  | l :: r, h => by
    have h1 := h l List.mem_cons_self
    have h2 := len_join0 (c := c) (ls := r) fun x hx => h x (List.mem_cons_of_mem _ hx)
    rw [List.map_cons, List.map_cons, List.sum_cons, List.length_cons, Nat.add_mul, len_nl]
    omega
theorem linT_len {c : Nat} {ls : List Str} (h : ∀ l ∈ ls, l.length ≤ c) : (linT ls).length ≤ ls.length * (c + 1) := by
  induction ls with
  | nil =>
    show (linT []).length ≤ _
    have : linT [] = ("" : Str) := by
      apply TL.ext_tl
      unfold linT
      rw [tl_lines]
      rfl
    rw [this]
    exact Nat.zero_le _
  | cons l r ih =>
    rw [linT_cons, strLen_append, len_nl, List.length_cons, Nat.add_mul]
    have := ih fun x hx => h x (List.mem_cons_of_mem _ hx)
    have := h l List.mem_cons_self
    omega
theorem st_facts (n : Nat) (hn : n < 8) : (decide ((stL n).length = 8) && ((stL n).cps.toList.all (fun c => !(c == 10)) && ((stL n).cps.toList.all (fun c => decide (c < 0x110000)) && (decide (L2.cutS (stL n) (some 7) none = dg n) && (cmpD .notin (.str (stL n)) (.lst ((List.range' 1 7).map fun k => .str (stL k))) == some (decide (n = 0))))))) = true := by
  refine all2 (n := 8) (f := fun n => (decide ((stL n).length = 8) && ((stL n).cps.toList.all (fun c => !(c == 10)) && ((stL n).cps.toList.all (fun c => decide (c < 0x110000)) && (decide (L2.cutS (stL n) (some 7) none = dg n) && (cmpD .notin (.str (stL n)) (.lst ((List.range' 1 7).map fun k => .str (stL k))) == some (decide (n = 0)))))))) (g := fun _ => true) ?_ n hn
  kernel_rfl
theorem tx_len {b : Nat} (hb : b < 128) : (tx b).length ≤ 13 := of_decide_eq_true (ba2 (tx_facts b hb)).1
theorem d_join {ys : List Str} {c : Nat} (h : ∀ l ∈ ys, l.length ≤ c) (hl : ys.length * (c + 1) ≤ 1000000) : smD .join (.str "") [.lst ((ys.map fun l => l ++ ("\n" : Str)).map D.str)] = some (.str (linT ys)) := by
  show (strL ((ys.map fun l => l ++ ("\n" : Str)).map D.str)).bind (fun l => if (l.map (·.length)).sum + l.length * (("" : Str)).length ≤ lim then some (D.str (Txt.join "" l)) else none) = _
  rw [strL_map]
  show (if ((ys.map fun l => l ++ ("\n" : Str)).map (·.length)).sum + _ * (("" : Str)).length ≤ lim then some (D.str (linT ys)) else none) = _
  have e0 : (("" : Str)).length = 0 := rfl
  have := len_join0 h
  rw [e0, Nat.mul_zero, if_pos]
  unfold lim
  omega
theorem X_scaletext [Has B f fd_set_text] [Has B g (fdScaleTxt f)] (j : Nat) {n : Nat} {F : List Nat} (h7 : n ≤ 7) (hF : ∀ x ∈ F, x < 128) (hl : F.length ≤ 1000) {d : D} (hd : seqD d = some (F.map S)) (h : MH) : (lv B (j + 2)).fn g [.int n, d] h = .ok (.str (linT (scL n F))) h := by
  obtain ⟨g1, _⟩ := ba2 (dg_facts n (by omega))
  have g1 := of_decide_eq_true g1
  obtain ⟨g2, _⟩ := ba2 (st_facts n (by omega))
  have g2 := of_decide_eq_true g2
  have f0 : (("states " : Str)).length = 7 := by decide +kernel
  have f1 : (("\n" : Str)).length = 1 := by decide +kernel
  have hb : ∀ l ∈ F.map tx, l.length ≤ 13 := fun l hl => by
    obtain ⟨b, hb, rfl⟩ := List.mem_map.mp hl
    exact tx_len (hF b hb)
  have e1 : F.map (fun b => D.str (tx b ++ ("\n" : Str))) = ((F.map tx).map fun l => l ++ ("\n" : Str)).map D.str := by
    rw [List.map_map, List.map_map]
    rfl
  have e2 := d_join hb (by rw [List.length_map]; omega)
  have e3 := linT_len hb
  rw [List.length_map] at e3
  have e4 : ("states " : Str) ++ dg n ++ ("\n" : Str) ++ linT (F.map tx) = linT (scL n F) := (linT_cons _ _).symm
  refine by_W ?_
  rw [fn_lv]
  simp (disch := omega) only [seval, fdScaleTxt, hd]
  refine W_map (g := fun b => .str (tx b ++ ("\n" : Str))) (fun b hb => ?_) ?_
  · have := tx_len (hF b hb)
    simp (disch := omega) only [seval, X_settext (B := B) (f := f) j (hF b hb)]
  · rw [e1]
    simp (disch := omega) only [seval, e2, e4]
/-! ### read -/
theorem d_ends {a b : Str} : smD .endswith (.str a) [.str b] = some (.bl (Txt.endswith a b)) := rfl
theorem d_cut {s : Str} {a b : Option Int} (h : s.length ≤ 1000000) : cutD (.str s) a b = some (.str (L2.cutS s a b)) := if_pos h
theorem X_needlines [Has B 13 fd_need_lines] (j : Nat) {ls : List Str} (hne : ls ≠ []) (h10 : ∀ l ∈ ls, 10 ∉ TL.tl l) {c : Nat} (hc : ∀ l ∈ ls, l.length ≤ c) (hl : ls.length * (c + 1) ≤ 1000000) (h : MH) : (lv B (j + 1)).fn 13 [.str (linT ls)] h = .ok (.lst (ls.map D.str)) h := by
  have e0 := linT_len hc
  obtain ⟨e1, e2⟩ := join_cut hne
  have e1 : Txt.endswith (linT ls) ("\n" : Str) = true := e1
  have e2 : L2.cutS (linT ls) none (some (-1)) = Txt.join "\n" ls := e2
  have e3 := split_nl hne h10
  have e5 : slD (.str (linT ls)) none (some (.int (-1))) = some (.str (Txt.join "\n" ls)) := by
    show cutD (.str (linT ls)) none (some (-1)) = _
    rw [d_cut (by omega), e2]
  have e6 : (Txt.join "\n" ls).length ≤ 1000000 := by
    have := congrArg TL.tl e2
    have h1 := len_tl (Txt.join "\n" ls)
    rw [← this] at h1
    have h2 : (TL.tl (L2.cutS (linT ls) none (some (-1)))).length ≤ (TL.tl (linT ls)).length := by
      unfold L2.cutS
      show (((TL.tl (linT ls)).drop _).take _).length ≤ _
      rw [List.length_take, List.length_drop]
      omega
    rw [len_tl (linT ls)] at h2
    omega
  have f1 : (("\n" : Str)).length ≠ 0 := by decide +kernel
  refine by_W ?_
  rw [fn_lv]
  simp (disch := omega) only [seval, fd_need_lines, d_ends, e1, e5, d_split f1 e6, e3]
end
class QCt (B : Tb) (f : outParam Nat) : Prop where
  [i11 : Has B 11 (fdReadSetF f)]
  [i13 : Has B 13 fd_need_lines]
  [i14 : Has B 14 fd_read_scale]
  [i36 : Has B 36 fd_Scale_read]
  [tc : TC B.ct 3 11 36]
  [tk : TMk B.ct 3]
section
variable {B : Tb} {T : CT} {C : Cl} {h : MH} {f g : Nat}
theorem cut_tail {x : D} {xs : List D} : slD (.lst (x :: xs)) (some (.int 1)) none = some (.lst xs) := by
  show some (D.lst (cutL (x :: xs) (some 1) none)) = _
  unfold cutL
  have e1 : HT.sIx (x :: xs).length 0 (some 1) = 1 := by
    unfold HT.sIx
    simp
  have e2 : HT.sIx (x :: xs).length (x :: xs).length none = (x :: xs).length := rfl
  rw [e1, e2]
  show some (D.lst (xs.take _)) = _
  rw [List.take_of_length_le (by simp)]
theorem ne_tupIn (F : List Nat) : cmpD .ne (.tup (In F)) (.tup (In F)) = some false := by
  show (if ok (D.tup (In F)) && ok (D.tup (In F)) then some (!eqds (In F) (In F)) else none) = _
  rw [show ok (D.tup (In F)) = true from okN_In F]
  have : eqds (In F) (In F) = true := by
    have := eqds_ints (F.map fun (b : Nat) => (b : Int)) (F.map fun (b : Nat) => (b : Int))
    rw [List.map_map] at this
    show eqds (F.map fun (b : Nat) => D.int (b : Int)) (F.map fun (b : Nat) => D.int (b : Int)) = true
    exact this.trans (by simp)
  rw [this]
  rfl
theorem notin_Il (b : Nat) (F : List Nat) : cmpD .notin (.int b) (.lst (In F)) = some (!decide (b ∈ F)) := by
  have h1 := in_In b F
  have h2 : inD (.int b) (.lst (In F)) = inD (.int b) (.tup (In F)) := rfl
  show (inD (.int b) (.lst (In F))).map (!·) = _
  rw [h2, show inD (.int b) (.tup (In F)) = some (decide (b ∈ F)) from h1]
  rfl
theorem scL_10 {n : Nat} {F : List Nat} (h7 : n ≤ 7) (hF : ∀ x ∈ F, x < 128) : ∀ l ∈ scL n F, 10 ∉ TL.tl l ∧ l.length ≤ 13 := fun l hl => by
  unfold scL at hl
  have go : ∀ s : Str, s.cps.toList.all (fun c => !(c == 10)) = true → 10 ∉ TL.tl s := fun s h hm => by
    have := List.all_eq_true.mp h 10 hm
    cases this
  rcases List.mem_cons.mp hl with rfl | hl
  · obtain ⟨g1, g2⟩ := ba2 (st_facts n (by omega))
    have := of_decide_eq_true g1
    exact ⟨go _ (ba2 g2).1, by omega⟩
  · obtain ⟨b, hb, rfl⟩ := List.mem_map.mp hl
    obtain ⟨g1, g2⟩ := ba2 (tx_facts b (hF b hb))
    exact ⟨go _ g2, of_decide_eq_true g1⟩
theorem Fam.clo_self {n : Nat} {F : List Nat} (fm : Fam n F) {x : Nat} : Clo F x ↔ x ∈ F := ⟨fun c => c.in_ (fun _ h => h) fm.cl, .base⟩
theorem Fam.clo_full {n : Nat} {F : List Nat} (fm : Fam n F) {x : Nat} : x ∈ F ↔ Clo ((2 ^ n - 1) :: F) x :=
  ⟨fun h => .base (List.mem_cons_of_mem _ h), fun c => c.in_ (fun y hy => by
    rcases List.mem_cons.mp hy with rfl | hy
    · exact fm.full
    · exact hy) fm.cl⟩
theorem X_readscale [QB B f] [QC B] [QCt B f] (j : Nat) {n : Nat} {F : List Nat} (fm : Fam n F) (h : MH) : (lv B (j + 4)).fn 14 [.str (linT (scL n F))] h = .ok (.tup [.int n, .lst (F.map S)]) h := by
  have := QC.i6 (B := B)
  have := QC.i7 (B := B)
  have := QC.i8 (B := B)
  have := QC.i9 (B := B)
  have := QCt.i11 (B := B) (f := f)
  have := QCt.i13 (B := B) (f := f)
  have := QCt.i14 (B := B) (f := f)
  have h7 := fm.n7
  have h1 := fm.n1
  have hF : ∀ x ∈ F, x < 128 := fun x hx => fm.l128 hx
  have hlen := fm.len
  have hl := scL_10 h7 hF
  have e0 := X_needlines (B := B) (j + 2) (ls := scL n F) (fun e => nomatch e) (fun l hm => (hl l hm).1) (fun l hm => (hl l hm).2) (by unfold scL; rw [List.length_cons, List.length_map]; omega) h
  have e0' : (scL n F).map D.str = .str (stL n) :: F.map fun b => .str (tx b) := by
    unfold scL
    rw [List.map_cons, List.map_map]
    rfl
  rw [e0'] at e0
  obtain ⟨s1, s⟩ := ba2 (st_facts n (by omega))
  obtain ⟨s2, s⟩ := ba2 s
  obtain ⟨s3, s⟩ := ba2 s
  obtain ⟨s4, s5⟩ := ba2 s
  have s1 := of_decide_eq_true s1
  have s4 := of_decide_eq_true s4
  have s5 := eq_of_beq s5
  rw [decide_eq_false (by omega)] at s5
  obtain ⟨g1, g2⟩ := ba2 (dg_facts n (by omega))
  have g1 := of_decide_eq_true g1
  have g3 := of_decide_eq_true (ba2 g2).2
  obtain ⟨ks, e1, nd, hk, hm⟩ := X_closed (B := B) (j + 2) hF (by omega) h
  have e2 := X_inorder (B := B) (f := f) j hk h
  have ef : (fam fun b => decide (b ∈ ks)) = F := by
    refine Eq.trans (fam_congr fun b _ => ?_) fm.can.symm
    rw [Bool.eq_iff_iff, decide_eq_true_iff, decide_eq_true_iff, hm, fm.clo_self]
  rw [ef] at e2
  have r8 : rngD 1 8 = (List.range' 1 7).map fun (i : Nat) => D.int (i : Int) := rfl
  have e5 : slD (.str (stL n)) (some (.int 7)) none = some (.str (dg n)) := by
    show cutD (.str (stL n)) (some 7) none = _
    rw [d_cut (by omega), s4]
  have f0 : (("states " : Str)).length = 7 := by decide +kernel
  refine by_W ?_
  rw [fn_lv]
  simp (disch := omega) only [seval, fd_read_scale, e0, d_add, r8]
  refine W_map (g := fun k => .str (stL k)) (fun k hk => ?_) ?_
  · have h3 := List.mem_range'_1.mp hk
    obtain ⟨g1, _⟩ := ba2 (dg_facts k (by omega))
    have g1 := of_decide_eq_true g1
    simp (disch := omega) only [seval]
    rfl
  simp (disch := omega) only [seval, s5, e5, d_int (show (dg n).length ≤ 640 by omega) g3, cut_tail]
  refine W_map (g := S) (fun b hb => ?_) ?_
  · simp (disch := omega) only [seval, X_readset (B := B) (f := f) j h7 (fm.lt b hb)]
  simp (disch := omega) only [seval]
  refine W_map (g := fun (b : Nat) => .int (b : Int)) (fun b hb => ?_) ?_
  · simp (disch := omega) only [seval, X_bits (B := B) (f := f) (j + 2) (hF b hb)]
  have e6 : F.map (fun (b : Nat) => D.int (b : Int)) = In F := rfl
  simp (disch := omega) only [seval, e6, In_len, e1, e2, ne_tupIn, X_full (B := B) (j + 2) h7, notin_Il, fm.full]
theorem X_scread [QB B f] [QC B] [QCt B f] (j : Nat) {n : Nat} {F : List Nat} (fm : Fam n F) (h : MH) : (lv B (j + 5)).fn 36 [.cls 3, .str (linT (scL n F))] h = .ok (Sc n F) h := by
  have := QCt.i36 (B := B) (f := f)
  have := QCt.tk (B := B) (f := f)
  have hl := fm.len
  have e := X_mkscale (B := B) (f := f) j fm.n1 fm.n7 fm.lt (by omega) fm.can (fun x => fm.clo_full) h
  refine by_W ?_
  rw [fn_lv]
  simp (disch := omega) only [seval, fd_Scale_read, X_readscale (B := B) (f := f) j fm, e, Sc]
theorem enum_lines : ∀ (bs : List Nat) (k : Nat), enumD k ((enS k bs).map fun p => D.str (lineT p.1 p.2)) = (enS k bs).map fun p => .tup [.int (p.1 : Int), .str (lineT p.1 p.2)]
  | [], k => rfl
  | b :: r, k => by
    show D.tup [.int (k : Int), D.str (lineT k b)] :: enumD (k + 1) ((enS (k + 1) r).map fun p => D.str (lineT p.1 p.2)) = _
    rw [enum_lines r (k + 1)]
    rfl
theorem enS_snd : ∀ (bs : List Nat) (k : Nat), (enS k bs).map (·.2) = bs
  | [], k => rfl
  | b :: r, k => by
    show b :: (enS (k + 1) r).map (·.2) = _
    rw [enS_snd r (k + 1)]
theorem d_starts {a b : Str} : smD .startswith (.str a) [.str b] = some (.bl (Txt.startswith a b)) := rfl
theorem X_readrows [QB B f] [Has B 11 (fdReadSetF f)] [Has B 13 fd_need_lines] [Has B 58 fd_read_rows] (j : Nat) {n : Nat} {bs : List Nat} (r : Rows n bs) (hn : 0 < n) (h : MH) : (lv B (j + 4)).fn 58 [.str (stepT bs)] h = .ok (.lst (bs.map S)) h := by
  have h7 := r.n7
  have hbl := r.len
  have hne : linesF 0 bs ≠ [] := fun e => by
    have := congrArg List.length e
    rw [linesF_len, r.len] at this
    have : n = 0 := this
    omega
  have hl : ∀ l ∈ linesF 0 bs, 10 ∉ TL.tl l ∧ l.length ≤ 16 := fun l hm => by
    obtain ⟨k, b, rfl, hk, hb⟩ := linesF_mem r l hm
    exact ⟨free10 hk hb, len_line hk hb⟩
  have e0 : (lv B (j + 2 + 1)).fn 13 [.str (stepT bs)] h = _ := X_needlines (B := B) (j + 2) (ls := linesF 0 bs) hne (fun l hm => (hl l hm).1) (fun l hm => (hl l hm).2) (by rw [linesF_len]; omega) h
  have e1 : (linesF 0 bs).map D.str = (enS 0 bs).map fun p => D.str (lineT p.1 p.2) := by
    unfold linesF
    rw [List.map_map]
    rfl
  rw [e1] at e0
  have el := enS_len 0 bs
  refine by_W ?_
  rw [fn_lv]
  simp (disch := omega) only [seval, fd_read_rows, e0, el, hbl]
  rw [enum_lines]
  refine W_forI (fun pre env h' => (∃ v3 v4 v5, env = [some (.val (.str (stepT bs))), some (.val (.lst ((enS 0 bs).map fun p => D.str (lineT p.1 p.2)))), some (.own (.lst ((pre.map (·.2)).map S))), v3, v4, v5]) ∧ h' = h) _ ⟨⟨_, _, _, rfl⟩, rfl⟩ (fun pre p rr er env h' => ?_) fun env h' => ?_
  · rintro ⟨⟨v3, v4, v5, rfl⟩, rfl⟩
    have hm : p ∈ enS 0 bs := by
      rw [er]
      simp
    obtain ⟨_, h2⟩ := enS_mem hm
    have h3 := (List.getElem?_eq_some_iff.mp h2).1
    have hpl := congrArg List.length er
    rw [List.length_append, el, List.length_cons] at hpl
    have hk : p.1 < 7 := by omega
    have hb := r.lt p.2 (List.mem_of_getElem? h2)
    have hb7 := p128 hb h7
    obtain ⟨l1, l2⟩ := ba2 (line_facts p.1 p.2 hk hb7)
    have l2 := of_decide_eq_true l2
    obtain ⟨m1, m2⟩ := ba2 (lab_facts p.1 hk)
    have m1 : (dg p.1).length = 1 := eq_of_beq m1
    have m2 : (lab p.1).length = 3 := eq_of_beq (ba2 m2).1
    have f0 : ((": " : Str)).length = 2 := by decide +kernel
    have e5 : slD (.str (lineT p.1 p.2)) (some (.int 3)) none = some (.str (tx p.2)) := by
      show cutD (.str (lineT p.1 p.2)) (some 3) none = _
      rw [d_cut (by have := len_line hk hb7; omega), l2]
    have e6 : dg p.1 ++ (": " : Str) = lab p.1 := rfl
    have e7 : bltD .len [.str (lab p.1)] = some (.int 3) := by
      rw [d_lens (by omega), m2]
      rfl
    have hpm : (pre.map (·.2)).length ≤ 1000 := by
      rw [List.length_map]
      omega
    simp (disch := omega) only [seval, e6, d_starts, l1, e7, e5, el, hbl, X_readset (B := B) (f := f) j h7 hb]
    rw [List.map_append, List.map_append]
    exact ⟨_, _, _, rfl⟩
  · rintro ⟨⟨v3, v4, v5, rfl⟩, rfl⟩
    rw [enS_snd]
    simp (disch := omega) only [seval]
class QSt (B : Tb) (f : outParam Nat) : Prop where
  [i11 : Has B 11 (fdReadSetF f)]
  [i13 : Has B 13 fd_need_lines]
  [i58 : Has B 58 fd_read_rows]
  [i70 : Has B 70 fd_Step_read]
  [ii : HasI B 10 (fdStepQ f)]
  [tc : TC B.ct 10 11 70]
  [t6 : TF B.ct 10 26]
  [t7 : TF B.ct 10 27]
theorem X_mkstep [QB B f] [HasI B 10 (fdStepQ f)] [TF B.ct 10 26] [TF B.ct 10 27] (j : Nat) {n : Nat} {bs : List Nat} (r : Rows n bs) (hn : 0 < n) (h : MH) : (lv B (j + 3)).mke 10 (bs.map S) h = .ok [(26, Ln bs), (27, .tup [])] h := X_inistep (B := B) (f := f) (c := 10) j r hn h
theorem X_stread [QB B f] [QSt B f] (j : Nat) {n : Nat} {bs : List Nat} (r : Rows n bs) (hn : 0 < n) (x : D) (h : MH) : (lv B (j + 5)).fn 70 [x, .str (stepT bs)] h = .ok (Ob 10 bs []) h := by
  have := QSt.i11 (B := B) (f := f)
  have := QSt.i13 (B := B) (f := f)
  have := QSt.i58 (B := B) (f := f)
  have := QSt.i70 (B := B) (f := f)
  have := QSt.ii (B := B) (f := f)
  have := QSt.t6 (B := B) (f := f)
  have := QSt.t7 (B := B) (f := f)
  refine by_W ?_
  rw [fn_lv]
  simp (disch := omega) only [seval, fd_Step_read, X_readrows (B := B) (f := f) j r hn, X_mkstep (B := B) (f := f) (j + 1) r hn, Ob]
/-- the law's step of rows -/
theorem X_lawstep [QB B f] [QSt B f] [Has B 59 fd_set_text] [Has B 60 (fdStepTxt 59)] [Has B 75 fd__law_step] (j : Nat) {n : Nat} {bs : List Nat} (r : Rows n bs) (hn : 0 < n) (h : MH) : (lv B (j + 6)).fn 75 [Rw bs] h = .ok (Ob 10 bs []) h := by
  have := QSt.tc (B := B) (f := f)
  refine by_W ?_
  rw [fn_lv]
  simp (disch := omega) only [seval, fd__law_step, X_steptext (B := B) (f := 59) (g := 60) (j + 3) r, X_stread (B := B) (f := f) j r hn]
/-- the law's scale of a family -/
theorem X_lawscale [QB B f] [QC B] [QCt B f] [Has B 59 fd_set_text] [Has B 91 (fdScaleTxt 59)] [Has B 38 fd__law_scale] (j : Nat) {n : Nat} {F : List Nat} (fm : Fam n F) (h : MH) : (lv B (j + 6)).fn 38 [.int n, .lst (F.map S)] h = .ok (Sc n F) h := by
  have := QCt.tc (B := B) (f := f)
  have hl := fm.len
  refine by_W ?_
  rw [fn_lv]
  simp (disch := omega) only [seval, fd__law_scale, X_scaletext (B := B) (f := 59) (g := 91) (j + 3) (F := F) fm.n7 (fun x hx => fm.l128 hx) (show F.length ≤ 1000 by omega) (d := .lst (F.map S)) rfl, X_scread (B := B) (f := f) j fm]
end
end Mi
/-! MiQ9: rounding by the law; coarse runs of basic steps. -/
namespace Mi
open PySem
local macro_rules
  | `(tactic| simp (disch := omega) only [seval]) => `(tactic| simp -implicitDefEqProofs (disch := omega) only [W_ok, W_no, W_bd, W_ite, s_bd_ok, s_bd_no, s_ofO_some, s_ofO_none, s_dec, s_decf, s_notb, s_notf, s_nnot, s_nt, s_nf, s_tt, s_ff, s_ft, s_tf, s_it, s_if, s_ifp, s_ifn, s_lm, s_lr, s_flr, s_lr', s_is, s_ci, s_cl, s_ce, s_dT, s_dF, s_bt, s_bt2, s_bf, s_bf2, s_ot, s_ot2, s_of, s_of2, s_an, s_na, s_nT, s_nF, s_ga, s_gs, s_sz, s_ss, s_ln, s_lc, s_mn, s_mc, s_pn, s_pc, s_apn, s_r0, s_rs, s_tk0, s_tks, s_dp0, s_dps, s_lim, s_mapS, s_mapN, s_binS, s_binN, W_vl, q_var, q_and, q_or, q_evE_glo, q_evE_con, q_evE_bin, q_evE_neg, q_evE_inv, q_evE_cmp, q_evE_cmp2, q_evE_isn, q_evE_notn, q_evE_not, q_evE_ite, q_evE_tup, q_evE_lst, q_evE_idx, q_evE_sl, q_evE_rev, q_evE_call, q_evE_make, q_evE_makeV, q_evE_blt, q_evE_sortK, q_evE_isi, q_evE_meth, q_evE_smeth, q_evE_attr, q_evE_cm, q_evE_lcK, q_evE_lc, q_evE_col, q_evE_dnew, q_evE_alloc, q_evO_none, q_evO_some, q_evA_nil, q_evA_cons, q_evA_star, q_evB_nil, q_evB_cons, q_evB_star, q_evTs_nil, q_evTs_cons, q_evTs_star, q_evI_seq, q_evI_rng, q_evI_rng2, q_evI_enm, q_evI_zip, q_evS_set, q_evS_setO, q_evS_par, q_evS_unp, q_evS_sattr, q_evS_pattr, q_evS_sidx, q_evS_oidx, oix_l, oix_d, oix_n, q_evS_app, q_evS_ext, q_evS_popS, q_evS_popD, q_evS_ex, q_evS_ifs, q_evS_for, q_evS_while, q_evS_ret, q_evS_retO, q_evS_retN, q_evS_pass, q_evS_brk, q_evS_cont, q_evS_sini, q_evS_frz, q_evSs_nil, q_evSs_cons, q_evT, q_tru, W_vbo, W_vbv, bor_var, bor_glo, bor_con, bor_bin, bor_neg, bor_inv, bor_cmp, bor_cmp2, bor_isn, bor_notn, bor_and, bor_or, bor_not, bor_ite, bor_tup, bor_lst, bor_idx, bor_sl, bor_rev, bor_call, bor_make, bor_makeV, bor_blt, bor_sortK, bor_isi, bor_meth, bor_smeth, bor_attr, bor_cm, bor_lc, bor_lcK, bor_lc2, bor_col, bor_dnew, bor_alloc, ov_o, ov_v, ov_var, ov_glo, ov_con, ov_bin, ov_neg, ov_inv, ov_cmp, ov_cmp2, ov_isn, ov_notn, ov_and, ov_or, ov_not, ov_ite, ov_tup, ov_lst, ov_idx, ov_sl, ov_rev, ov_call, ov_make, ov_makeV, ov_blt, ov_sortK, ov_isi, ov_meth, ov_smeth, ov_attr, ov_cm, ov_lc, ov_lcK, ov_lc2, ov_col, ov_alloc, top_lst, top_dct, top_ins, wipe_nil, wipe_cons, q_bindT1, q_bindTm, q_bindN, q_bindC, q_asF, q_asL, q_asD, q_setN, q_setC, q_raise, d_addnn, d_addkn, d_addnk, d_sub, d_band, d_bor, d_shl1, d_shr, d_and1, d_bit, d_addl, d_addt, d_adds, s_la, s_sa, d_tb, d_tn, d_eqi, d_nei, d_lti, d_lei, d_gti, d_gei, d_inSn, d_niSn, d_rng, d_rngk, d_rng2, d_str, d_noni, d_nont, d_nonl, d_nonn, d_seqt, d_seql, d_seqS, d_seqR, d_enmt, d_enml, d_enmR, d_lent, d_lenl, d_lenS, d_lenR, d_tupl, d_tupt, d_lstl, d_lstt, d_all, d_sum, d_idt, d_idl, d_idR, atI_0, atI_1, atI_2, pf_n, pf_e, pf_d, atI_3, atI_4, atI_5, atI_6, c_obj, f_obj, k_obj, lk_0, lk_1, t_i, t_kt, k_int, k_tup, k_S, k_lst, k_str, k_non, ty_t4, ty_s3, ty_i2, ty_bc, nn_l, nn_t, nn_S, nn_R, nn_b, nn_n, nn_i, al_n, al_c, wt_l, wt_t, wt_i, wt_b, wt_n, wt_s, wts_n, wts_c, t_m, t_p, t_f, t_fp, t_c, t_mk, t_s, optW_some, q_run, q_runI, q_self, q_bindA, q_bindV, ↓reduceIte, Nat.reduceAdd, Nat.reduceSub, Nat.reduceMul, Nat.reducePow, Nat.reduceLeDiff, Nat.reduceEqDiff, Nat.reduceBEq, Nat.reduceSucc, Int.reduceNeg, Int.reduceLE, Int.reduceLT, Int.reduceEq, Int.reduceAdd, Int.reduceSub, reduceCtorEq])
  | `(tactic| simp (disch := omega) only [seval, $xs,*]) => `(tactic| simp -implicitDefEqProofs (disch := omega) only [W_ok, W_no, W_bd, W_ite, s_bd_ok, s_bd_no, s_ofO_some, s_ofO_none, s_dec, s_decf, s_notb, s_notf, s_nnot, s_nt, s_nf, s_tt, s_ff, s_ft, s_tf, s_it, s_if, s_ifp, s_ifn, s_lm, s_lr, s_flr, s_lr', s_is, s_ci, s_cl, s_ce, s_dT, s_dF, s_bt, s_bt2, s_bf, s_bf2, s_ot, s_ot2, s_of, s_of2, s_an, s_na, s_nT, s_nF, s_ga, s_gs, s_sz, s_ss, s_ln, s_lc, s_mn, s_mc, s_pn, s_pc, s_apn, s_r0, s_rs, s_tk0, s_tks, s_dp0, s_dps, s_lim, s_mapS, s_mapN, s_binS, s_binN, W_vl, q_var, q_and, q_or, q_evE_glo, q_evE_con, q_evE_bin, q_evE_neg, q_evE_inv, q_evE_cmp, q_evE_cmp2, q_evE_isn, q_evE_notn, q_evE_not, q_evE_ite, q_evE_tup, q_evE_lst, q_evE_idx, q_evE_sl, q_evE_rev, q_evE_call, q_evE_make, q_evE_makeV, q_evE_blt, q_evE_sortK, q_evE_isi, q_evE_meth, q_evE_smeth, q_evE_attr, q_evE_cm, q_evE_lcK, q_evE_lc, q_evE_col, q_evE_dnew, q_evE_alloc, q_evO_none, q_evO_some, q_evA_nil, q_evA_cons, q_evA_star, q_evB_nil, q_evB_cons, q_evB_star, q_evTs_nil, q_evTs_cons, q_evTs_star, q_evI_seq, q_evI_rng, q_evI_rng2, q_evI_enm, q_evI_zip, q_evS_set, q_evS_setO, q_evS_par, q_evS_unp, q_evS_sattr, q_evS_pattr, q_evS_sidx, q_evS_oidx, oix_l, oix_d, oix_n, q_evS_app, q_evS_ext, q_evS_popS, q_evS_popD, q_evS_ex, q_evS_ifs, q_evS_for, q_evS_while, q_evS_ret, q_evS_retO, q_evS_retN, q_evS_pass, q_evS_brk, q_evS_cont, q_evS_sini, q_evS_frz, q_evSs_nil, q_evSs_cons, q_evT, q_tru, W_vbo, W_vbv, bor_var, bor_glo, bor_con, bor_bin, bor_neg, bor_inv, bor_cmp, bor_cmp2, bor_isn, bor_notn, bor_and, bor_or, bor_not, bor_ite, bor_tup, bor_lst, bor_idx, bor_sl, bor_rev, bor_call, bor_make, bor_makeV, bor_blt, bor_sortK, bor_isi, bor_meth, bor_smeth, bor_attr, bor_cm, bor_lc, bor_lcK, bor_lc2, bor_col, bor_dnew, bor_alloc, ov_o, ov_v, ov_var, ov_glo, ov_con, ov_bin, ov_neg, ov_inv, ov_cmp, ov_cmp2, ov_isn, ov_notn, ov_and, ov_or, ov_not, ov_ite, ov_tup, ov_lst, ov_idx, ov_sl, ov_rev, ov_call, ov_make, ov_makeV, ov_blt, ov_sortK, ov_isi, ov_meth, ov_smeth, ov_attr, ov_cm, ov_lc, ov_lcK, ov_lc2, ov_col, ov_alloc, top_lst, top_dct, top_ins, wipe_nil, wipe_cons, q_bindT1, q_bindTm, q_bindN, q_bindC, q_asF, q_asL, q_asD, q_setN, q_setC, q_raise, d_addnn, d_addkn, d_addnk, d_sub, d_band, d_bor, d_shl1, d_shr, d_and1, d_bit, d_addl, d_addt, d_adds, s_la, s_sa, d_tb, d_tn, d_eqi, d_nei, d_lti, d_lei, d_gti, d_gei, d_inSn, d_niSn, d_rng, d_rngk, d_rng2, d_str, d_noni, d_nont, d_nonl, d_nonn, d_seqt, d_seql, d_seqS, d_seqR, d_enmt, d_enml, d_enmR, d_lent, d_lenl, d_lenS, d_lenR, d_tupl, d_tupt, d_lstl, d_lstt, d_all, d_sum, d_idt, d_idl, d_idR, atI_0, atI_1, atI_2, pf_n, pf_e, pf_d, atI_3, atI_4, atI_5, atI_6, c_obj, f_obj, k_obj, lk_0, lk_1, t_i, t_kt, k_int, k_tup, k_S, k_lst, k_str, k_non, ty_t4, ty_s3, ty_i2, ty_bc, nn_l, nn_t, nn_S, nn_R, nn_b, nn_n, nn_i, al_n, al_c, wt_l, wt_t, wt_i, wt_b, wt_n, wt_s, wts_n, wts_c, t_m, t_p, t_f, t_fp, t_c, t_mk, t_s, optW_some, q_run, q_runI, q_self, q_bindA, q_bindV, ↓reduceIte, Nat.reduceAdd, Nat.reduceSub, Nat.reduceMul, Nat.reducePow, Nat.reduceLeDiff, Nat.reduceEqDiff, Nat.reduceBEq, Nat.reduceSucc, Int.reduceNeg, Int.reduceLE, Int.reduceLT, Int.reduceEq, Int.reduceAdd, Int.reduceSub, reduceCtorEq, $xs,*])

theorem full_max : ((List.range 8).all fun n => (List.range (2 ^ n)).all fun b => decide (key7 b ≤ key7 (2 ^ n - 1))) = true := by decide +kernel
theorem key_full {n b : Nat} (h7 : n ≤ 7) (hb : b < 2 ^ n) : key7 b ≤ key7 (2 ^ n - 1) :=
  of_decide_eq_true (List.all_eq_true.mp (List.all_eq_true.mp full_max n (List.mem_range.mpr (by omega))) b (List.mem_range.mpr hb))
/-- the full set is the last one -/
theorem Fam.last {n : Nat} {F : List Nat} (fm : Fam n F) : ∃ G, F = G ++ [2 ^ n - 1] := by
  have hp := Nat.two_pow_pos n
  have hp7 : 2 ^ n ≤ 2 ^ 7 := Nat.pow_le_pow_right (by decide) fm.n7
  rcases List.eq_nil_or_concat F with e | ⟨G, l, e⟩
  · have := fm.full
    rw [e] at this
    cases this
  · rw [List.concat_eq_append] at e
    refine ⟨G, ?_⟩
    have hs : F.Pairwise (fun a b => key7 a < key7 b) := by
      rw [fm.can]
      exact fam_sorted _
    have hl : l ∈ F := by
      rw [e]
      simp
    have hf := fm.full
    rw [e] at hf hs
    rcases List.mem_append.mp hf with hf | hf
    · have h1 := (List.pairwise_append.mp hs).2.2 _ hf l List.mem_cons_self
      have h2 := key_full fm.n7 (fm.lt l hl)
      omega
    · rw [List.mem_singleton] at hf
      rw [e, hf]
class QFit (B : Tb) : Prop where
  [i : Has B 84 fd_need_fit]
  [t : TI B.ct 3 3 true]
class QRn (B : Tb) (c : Nat) : Prop where
  [i : Has B 130 fd_Step_run]
  [t : TM B.ct c 35 130]
class QCo (B : Tb) (c : Nat) : Prop where
  [i : Has B 129 fd_Step_coarse]
  [t : TM B.ct c 34 129]
section
variable {B : Tb} {T : CT} {C : Cl} {h : MH} {f g c : Nat}
theorem atI_last {α : Type} {l : List α} {x : α} : L2.atI (l ++ [x]) (-1) = some x := by
  unfold L2.atI L2.ixN
  rw [if_neg (by omega), if_pos (by rw [List.length_append, List.length_singleton]; omega)]
  show (l ++ [x])[((-1 : Int) + ((l ++ [x]).length : Nat)).toNat]? = _
  rw [List.length_append, List.length_singleton, show ((-1 : Int) + ((l.length + 1 : Nat) : Int)).toNat = l.length by omega]
  simp
theorem X_lawround [Has B 21 fd__law_common] [Has B 39 fd__law_round] (j : Nat) {n b : Nat} {F : List Nat} (fm : Fam n F) (hb : b < 2 ^ n) {d : D} (hd : ∀ h, idxD d (.int (-1)) h = L2.atI (F.map S) (-1)) (hq : seqD d = some (F.map S)) (h : MH) : (lv B (j + 2)).fn 39 [d, S b] h = .ok (S (rnd n F b)) h := by
  have hb7 := p128 hb fm.n7
  obtain ⟨G, eG⟩ := fm.last
  have e0 : L2.atI (F.map S) (-1) = some (S (2 ^ n - 1)) := by
    rw [eG, List.map_append]
    exact atI_last
  refine by_W ?_
  rw [fn_lv]
  simp (disch := omega) only [seval, fd__law_round, hd, e0, hq]
  refine W_forI (fun pre env h' => (∃ v3, env = [some (.val d), some (.val (S b)), some (.val (S (rnd n pre b))), v3]) ∧ h' = h) F ⟨⟨_, rfl⟩, rfl⟩ (fun pre x r er env h' => ?_) fun env h' => ?_
  · rintro ⟨⟨v3, rfl⟩, rfl⟩
    have e : rnd n (pre ++ [x]) b = if b &&& x = b then rnd n pre b &&& x else rnd n pre b := by
      unfold rnd
      rw [List.foldl_append]
      rfl
    have e2 := eq_S (Nat.lt_of_le_of_lt (Nat.and_le_left (m := x)) hb7) hb7
    simp (disch := omega) only [seval, L_common (B := B) j, e2]
    rw [e]
    split <;> exact ⟨_, rfl⟩
  · rintro ⟨⟨v3, rfl⟩, rfl⟩
    simp (disch := omega) only [seval]
theorem X_fit [QC B] [QCm B] [QS B c] [QFit B] (j : Nat) {n : Nat} {bs F : List Nat} {ps : List D} (r : Rows n bs) {d : D} (hs : IsSc h d n F) : (lv B (j + 2)).fn 84 [d, Ob c bs ps] h = .ok .non h := by
  have := QCm.t (B := B)
  have := QS.t1 (B := B) (c := c)
  have := QFit.i (B := B)
  have := QFit.t (B := B)
  have e1 := X_cmany (B := B) j hs
  have e2 := X_many (B := B) (c := c) (ps := ps) j r h
  unfold Ob at *
  refine by_W ?_
  rw [fn_lv]
  simp (disch := omega) only [seval, fd_need_fit, hs.k, hs.c, e1, e2]
theorem X_run [QC B] [QCr B] [QS B c] [QI B c] [QRn B c] (j : Nat) {n : Nat} {bs F : List Nat} {ps : List D} (h7 : n ≤ 7) (b : Nat) {d : D} (hs : IsSc h d n F) : (lv B (j + 3)).fn 130 [Ob c bs ps, d, .int b] h = .ok (.int ((rnd n F (imgF bs 0 (rnd n F b)) : Nat) : Int)) h := by
  have := QCr.t (B := B)
  have := QI.t (B := B) (c := c)
  have := QRn.i (B := B) (c := c)
  have e1 := X_roundbits (B := B) j (n := n) (b := b) h7 hs
  have e2 := X_image (B := B) (c := c) (j + 1) (bs := bs) (ps := ps) (rnd n F b) h
  have e3 := X_roundbits (B := B) j (n := n) (b := imgF bs 0 (rnd n F b)) h7 hs
  unfold Ob at *
  refine by_W ?_
  rw [fn_lv]
  simp (disch := omega) only [seval, fd_Step_run, hs.c, e1, e2, e3]
theorem X_coarse [QB B f] [QC B] [QCm B] [QCr B] [QS B c] [QI B c] [QRn B c] [QFit B] [QCo B c] (j : Nat) {n : Nat} {bs F : List Nat} {ps : List D} (r : Rows n bs) (hF : ∀ x ∈ F, x < 2 ^ n) {b : Nat} (hb : b < 2 ^ n) {d : D} (hs : IsSc h d n F) : (lv B (j + 4)).fn 129 [Ob c bs ps, d, S b] h = .ok (S (rnd n F (imgF bs 0 (rnd n F b)))) h := by
  have := QS.t1 (B := B) (c := c)
  have := QRn.t (B := B) (c := c)
  have := QCo.i (B := B) (c := c)
  have h7 := r.n7
  have e1 := X_fit (B := B) (c := c) (j + 1) (ps := ps) r hs
  have e2 := X_many (B := B) (c := c) (ps := ps) (j + 2) r h
  have e3 := X_need (B := B) (f := f) j (show n < 8 by omega) hb h
  have e4 := X_run (B := B) (c := c) j (bs := bs) (ps := ps) h7 b hs
  have e5 := X_states (B := B) (f := f) (j + 2) (p128 (rnd_lt hF (imgF bs 0 (rnd n F b))) h7) h
  unfold Ob at *
  refine by_W ?_
  rw [fn_lv]
  simp (disch := omega) only [seval, fd_Step_coarse, e1, e2, e3, e4, e5]
theorem X_lawapply [Has B 73 fd__law_apply] (j : Nat) {n a : Nat} {bs : List Nat} (r : Rows n bs) (ha : a < 2 ^ n) (h : MH) : (lv B (j + 1)).fn 73 [Rw bs, S a] h = .ok (S (imgF bs 0 a)) h := (fn_lv j _ h).trans (law_apply_run r ha)
end
end Mi
namespace Mi
open PySem PySem.Spec PyProof.Rows L2
local macro_rules
  | `(tactic| simp (disch := omega) only [seval]) => `(tactic| simp -implicitDefEqProofs (disch := omega) only [W_ok, W_no, W_bd, W_ite, s_bd_ok, s_bd_no, s_ofO_some, s_ofO_none, s_dec, s_decf, s_notb, s_notf, s_nnot, s_nt, s_nf, s_tt, s_ff, s_ft, s_tf, s_it, s_if, s_ifp, s_ifn, s_lm, s_lr, s_flr, s_lr', s_is, s_ci, s_cl, s_ce, s_dT, s_dF, s_bt, s_bt2, s_bf, s_bf2, s_ot, s_ot2, s_of, s_of2, s_an, s_na, s_nT, s_nF, s_ga, s_gs, s_sz, s_ss, s_ln, s_lc, s_mn, s_mc, s_pn, s_pc, s_apn, s_r0, s_rs, s_tk0, s_tks, s_dp0, s_dps, s_lim, s_mapS, s_mapN, s_binS, s_binN, W_vl, q_var, q_and, q_or, q_evE_glo, q_evE_con, q_evE_bin, q_evE_neg, q_evE_inv, q_evE_cmp, q_evE_cmp2, q_evE_isn, q_evE_notn, q_evE_not, q_evE_ite, q_evE_tup, q_evE_lst, q_evE_idx, q_evE_sl, q_evE_rev, q_evE_call, q_evE_make, q_evE_makeV, q_evE_blt, q_evE_sortK, q_evE_isi, q_evE_meth, q_evE_smeth, q_evE_attr, q_evE_cm, q_evE_lcK, q_evE_lc, q_evE_col, q_evE_dnew, q_evE_alloc, q_evO_none, q_evO_some, q_evA_nil, q_evA_cons, q_evA_star, q_evB_nil, q_evB_cons, q_evB_star, q_evTs_nil, q_evTs_cons, q_evTs_star, q_evI_seq, q_evI_rng, q_evI_rng2, q_evI_enm, q_evI_zip, q_evS_set, q_evS_setO, q_evS_par, q_evS_unp, q_evS_sattr, q_evS_pattr, q_evS_sidx, q_evS_oidx, oix_l, oix_d, oix_n, q_evS_app, q_evS_ext, q_evS_popS, q_evS_popD, q_evS_ex, q_evS_ifs, q_evS_for, q_evS_while, q_evS_ret, q_evS_retO, q_evS_retN, q_evS_pass, q_evS_brk, q_evS_cont, q_evS_sini, q_evS_frz, q_evSs_nil, q_evSs_cons, q_evT, q_tru, W_vbo, W_vbv, bor_var, bor_glo, bor_con, bor_bin, bor_neg, bor_inv, bor_cmp, bor_cmp2, bor_isn, bor_notn, bor_and, bor_or, bor_not, bor_ite, bor_tup, bor_lst, bor_idx, bor_sl, bor_rev, bor_call, bor_make, bor_makeV, bor_blt, bor_sortK, bor_isi, bor_meth, bor_smeth, bor_attr, bor_cm, bor_lc, bor_lcK, bor_lc2, bor_col, bor_dnew, bor_alloc, ov_o, ov_v, ov_var, ov_glo, ov_con, ov_bin, ov_neg, ov_inv, ov_cmp, ov_cmp2, ov_isn, ov_notn, ov_and, ov_or, ov_not, ov_ite, ov_tup, ov_lst, ov_idx, ov_sl, ov_rev, ov_call, ov_make, ov_makeV, ov_blt, ov_sortK, ov_isi, ov_meth, ov_smeth, ov_attr, ov_cm, ov_lc, ov_lcK, ov_lc2, ov_col, ov_alloc, top_lst, top_dct, top_ins, wipe_nil, wipe_cons, q_bindT1, q_bindTm, q_bindN, q_bindC, q_asF, q_asL, q_asD, q_setN, q_setC, q_raise, d_addnn, d_addkn, d_addnk, d_sub, d_band, d_bor, d_shl1, d_shr, d_and1, d_bit, d_addl, d_addt, d_adds, s_la, s_sa, d_tb, d_tn, d_eqi, d_nei, d_lti, d_lei, d_gti, d_gei, d_inSn, d_niSn, d_rng, d_rngk, d_rng2, d_str, d_noni, d_nont, d_nonl, d_nonn, d_seqt, d_seql, d_seqS, d_seqR, d_enmt, d_enml, d_enmR, d_lent, d_lenl, d_lenS, d_lenR, d_tupl, d_tupt, d_lstl, d_lstt, d_all, d_sum, d_idt, d_idl, d_idR, atI_0, atI_1, atI_2, pf_n, pf_e, pf_d, atI_3, atI_4, atI_5, atI_6, c_obj, f_obj, k_obj, lk_0, lk_1, t_i, t_kt, k_int, k_tup, k_S, k_lst, k_str, k_non, ty_t4, ty_s3, ty_i2, ty_bc, nn_l, nn_t, nn_S, nn_R, nn_b, nn_n, nn_i, al_n, al_c, wt_l, wt_t, wt_i, wt_b, wt_n, wt_s, wts_n, wts_c, t_m, t_p, t_f, t_fp, t_c, t_mk, t_s, optW_some, q_run, q_runI, q_self, q_bindA, q_bindV, ↓reduceIte, Nat.reduceAdd, Nat.reduceSub, Nat.reduceMul, Nat.reducePow, Nat.reduceLeDiff, Nat.reduceEqDiff, Nat.reduceBEq, Nat.reduceSucc, Int.reduceNeg, Int.reduceLE, Int.reduceLT, Int.reduceEq, Int.reduceAdd, Int.reduceSub, reduceCtorEq])
  | `(tactic| simp (disch := omega) only [seval, $xs,*]) => `(tactic| simp -implicitDefEqProofs (disch := omega) only [W_ok, W_no, W_bd, W_ite, s_bd_ok, s_bd_no, s_ofO_some, s_ofO_none, s_dec, s_decf, s_notb, s_notf, s_nnot, s_nt, s_nf, s_tt, s_ff, s_ft, s_tf, s_it, s_if, s_ifp, s_ifn, s_lm, s_lr, s_flr, s_lr', s_is, s_ci, s_cl, s_ce, s_dT, s_dF, s_bt, s_bt2, s_bf, s_bf2, s_ot, s_ot2, s_of, s_of2, s_an, s_na, s_nT, s_nF, s_ga, s_gs, s_sz, s_ss, s_ln, s_lc, s_mn, s_mc, s_pn, s_pc, s_apn, s_r0, s_rs, s_tk0, s_tks, s_dp0, s_dps, s_lim, s_mapS, s_mapN, s_binS, s_binN, W_vl, q_var, q_and, q_or, q_evE_glo, q_evE_con, q_evE_bin, q_evE_neg, q_evE_inv, q_evE_cmp, q_evE_cmp2, q_evE_isn, q_evE_notn, q_evE_not, q_evE_ite, q_evE_tup, q_evE_lst, q_evE_idx, q_evE_sl, q_evE_rev, q_evE_call, q_evE_make, q_evE_makeV, q_evE_blt, q_evE_sortK, q_evE_isi, q_evE_meth, q_evE_smeth, q_evE_attr, q_evE_cm, q_evE_lcK, q_evE_lc, q_evE_col, q_evE_dnew, q_evE_alloc, q_evO_none, q_evO_some, q_evA_nil, q_evA_cons, q_evA_star, q_evB_nil, q_evB_cons, q_evB_star, q_evTs_nil, q_evTs_cons, q_evTs_star, q_evI_seq, q_evI_rng, q_evI_rng2, q_evI_enm, q_evI_zip, q_evS_set, q_evS_setO, q_evS_par, q_evS_unp, q_evS_sattr, q_evS_pattr, q_evS_sidx, q_evS_oidx, oix_l, oix_d, oix_n, q_evS_app, q_evS_ext, q_evS_popS, q_evS_popD, q_evS_ex, q_evS_ifs, q_evS_for, q_evS_while, q_evS_ret, q_evS_retO, q_evS_retN, q_evS_pass, q_evS_brk, q_evS_cont, q_evS_sini, q_evS_frz, q_evSs_nil, q_evSs_cons, q_evT, q_tru, W_vbo, W_vbv, bor_var, bor_glo, bor_con, bor_bin, bor_neg, bor_inv, bor_cmp, bor_cmp2, bor_isn, bor_notn, bor_and, bor_or, bor_not, bor_ite, bor_tup, bor_lst, bor_idx, bor_sl, bor_rev, bor_call, bor_make, bor_makeV, bor_blt, bor_sortK, bor_isi, bor_meth, bor_smeth, bor_attr, bor_cm, bor_lc, bor_lcK, bor_lc2, bor_col, bor_dnew, bor_alloc, ov_o, ov_v, ov_var, ov_glo, ov_con, ov_bin, ov_neg, ov_inv, ov_cmp, ov_cmp2, ov_isn, ov_notn, ov_and, ov_or, ov_not, ov_ite, ov_tup, ov_lst, ov_idx, ov_sl, ov_rev, ov_call, ov_make, ov_makeV, ov_blt, ov_sortK, ov_isi, ov_meth, ov_smeth, ov_attr, ov_cm, ov_lc, ov_lcK, ov_lc2, ov_col, ov_alloc, top_lst, top_dct, top_ins, wipe_nil, wipe_cons, q_bindT1, q_bindTm, q_bindN, q_bindC, q_asF, q_asL, q_asD, q_setN, q_setC, q_raise, d_addnn, d_addkn, d_addnk, d_sub, d_band, d_bor, d_shl1, d_shr, d_and1, d_bit, d_addl, d_addt, d_adds, s_la, s_sa, d_tb, d_tn, d_eqi, d_nei, d_lti, d_lei, d_gti, d_gei, d_inSn, d_niSn, d_rng, d_rngk, d_rng2, d_str, d_noni, d_nont, d_nonl, d_nonn, d_seqt, d_seql, d_seqS, d_seqR, d_enmt, d_enml, d_enmR, d_lent, d_lenl, d_lenS, d_lenR, d_tupl, d_tupt, d_lstl, d_lstt, d_all, d_sum, d_idt, d_idl, d_idR, atI_0, atI_1, atI_2, pf_n, pf_e, pf_d, atI_3, atI_4, atI_5, atI_6, c_obj, f_obj, k_obj, lk_0, lk_1, t_i, t_kt, k_int, k_tup, k_S, k_lst, k_str, k_non, ty_t4, ty_s3, ty_i2, ty_bc, nn_l, nn_t, nn_S, nn_R, nn_b, nn_n, nn_i, al_n, al_c, wt_l, wt_t, wt_i, wt_b, wt_n, wt_s, wts_n, wts_c, t_m, t_p, t_f, t_fp, t_c, t_mk, t_s, optW_some, q_run, q_runI, q_self, q_bindA, q_bindV, ↓reduceIte, Nat.reduceAdd, Nat.reduceSub, Nat.reduceMul, Nat.reducePow, Nat.reduceLeDiff, Nat.reduceEqDiff, Nat.reduceBEq, Nat.reduceSucc, Int.reduceNeg, Int.reduceLE, Int.reduceLT, Int.reduceEq, Int.reduceAdd, Int.reduceSub, reduceCtorEq, $xs,*])
/-- _law_script _law_cell _law_pen_here _law_size _law_rows_here _law_kept _law_state -/
def fd_law' : FD := ⟨1, false, 7, .cons (.for (.one 1) (.seq (.bin .add (.lst (.cons (.call 16 (.cons (.var 0) (.cons (.con (.int 0)) (.nil)))) (.nil))) (.sl (.var 0) (.some (.con (.int 1))) (.some (.con (.int 3)))))) (.cons (.set 2 (.call 17 (.cons (.var 1) (.nil)))) (.cons (.for (.one 3) (.seq (.tup (.cons (.bin .add (.con (.int 1)) (.call 18 (.cons (.var 2) (.cons (.con (.int 3)) (.nil))))) (.cons (.con (.int 4)) (.cons (.bin .add (.con (.int 4)) (.call 18 (.cons (.var 2) (.cons (.con (.int 4)) (.nil))))) (.nil)))))) (.cons (.par [(4, false), (5, false)] (.cons (.call 72 (.cons (.var 2) (.cons (.var 3) (.nil)))) (.cons (.call 19 (.cons (.var 2) (.cons (.var 3) (.nil)))) (.nil)))) (.cons (.ifs (.not (.call 61 (.cons (.call 37 (.cons (.var 2) (.cons (.var 3) (.nil)))) (.cons (.call 75 (.cons (.var 4) (.nil))) (.cons (.var 4) (.nil)))))) (.cons (.ret (.con (.bl false))) (.nil)) (.nil)) (.cons (.set 4 (.blt .tuple (.cons (.lc (.rng (.var 3)) (.one 6) [6] (.nil) (.ite (.cmp .isin (.var 6) (.var 5)) (.tup (.cons (.var 6) (.nil))) (.tup (.nil)))) (.nil)))) (.cons (.ifs (.not (.call 61 (.cons (.call 37 (.cons (.var 2) (.cons (.var 3) (.nil)))) (.cons (.make 9 (.cons (.var 3) (.cons (.var 5) (.nil)))) (.cons (.var 4) (.nil)))))) (.cons (.ret (.con (.bl false))) (.nil)) (.nil)) (.nil)))))) (.nil)))) (.cons (.ret (.con (.bl true))) (.nil))⟩
/-- _law_family_here _law_step_here _law_rows_here _law_scale_here _law_one _law_due -/
def fd__law_right : FD := ⟨3, false, 6, .cons (.set 3 (.call 38 (.cons (.blt .len (.cons (.var 2) (.nil))) (.cons (.var 0) (.nil))))) (.cons (.for (.one 4) (.seq (.call 25 (.cons (.blt .len (.cons (.var 2) (.nil))) (.nil)))) (.cons (.set 5 (.call 39 (.cons (.var 0) (.cons (.call 73 (.cons (.var 2) (.cons (.call 39 (.cons (.var 0) (.cons (.var 4) (.nil)))) (.nil)))) (.nil))))) (.cons (.ifs (.not (.call 24 (.cons (.lst (.cons (.meth (.var 1) 34 (.cons (.var 3) (.cons (.var 4) (.nil)))) (.cons (.meth (.var 3) 14 (.cons (.meth (.var 1) 25 (.cons (.meth (.var 3) 14 (.cons (.var 4) (.nil))) (.nil))) (.nil))) (.nil)))) (.cons (.lst (.cons (.var 5) (.cons (.var 5) (.nil)))) (.nil))))) (.cons (.ret (.con (.bl false))) (.nil)) (.nil)) (.nil)))) (.cons (.ret (.call 24 (.cons (.attr (.var 3) 2) (.cons (.blt .tuple (.cons (.var 0) (.nil))) (.nil))))) (.nil)))⟩
def HDD : HD where
  cls := [(9, ("Guard" : Str)), (3, ("Scale" : Str)), (10, ("Step" : Str))]
  ats := [(0, ("join" : Str)), (1, ("many" : Str)), (2, ("allowed" : Str)), (6, ("count" : Str)), (7, ("family" : Str)), (8, ("need_other" : Str)), (11, ("read" : Str)), (14, ("round" : Str)), (17, ("round_bits" : Str)), (25, ("apply" : Str)), (26, ("lines" : Str)), (27, ("inner" : Str)), (28, ("image" : Str)), (34, ("coarse" : Str)), (35, ("run" : Str))]
  gfs := [(27, ("law" : Str)), (17, ("_law_pen" : Str)), (16, ("_law_cell_at" : Str)), (18, ("_law_draw" : Str)), (72, ("_law_rows" : Str)), (19, ("_law_set" : Str)), (61, ("_law_right" : Str)), (37, ("_law_family" : Str)), (75, ("_law_step" : Str)), (38, ("_law_scale" : Str)), (25, ("_law_every_set" : Str)), (24, ("_law_same" : Str)), (39, ("_law_round" : Str)), (73, ("_law_apply" : Str)), (23, ("_law_closed" : Str)), (60, ("_law_step_text" : Str)), (1, ("need_many" : Str)), (3, ("need_bits" : Str)), (4, ("bits_of" : Str)), (114, ("is_set_bits" : Str)), (91, ("_law_scale_text" : Str)), (5, ("states_of" : Str)), (21, ("_law_common" : Str)), (84, ("need_fit" : Str)), (22, ("_law_ordered" : Str)), (20, ("_law_whole" : Str)), (14, ("read_scale" : Str)), (58, ("read_rows" : Str)), (59, ("_law_set_text" : Str)), (0, ("is_integer" : Str)), (8, ("in_order" : Str)), (9, ("closed" : Str)), (6, ("full" : Str)), (13, ("need_lines" : Str)), (11, ("read_set" : Str)), (15, ("made" : Str)), (7, ("place" : Str))]
  gcs := [9, 3, 10]
  mks := [3]
  gi := [("MOST", 7)]
  kls := [9, 3, 10]
  sub := [(9, 9), (9, 10), (3, 3), (10, 10)]
  meth := [((9, 28), 65), ((9, 25), 67), ((9, 35), 130), ((9, 34), 129), ((3, 17), 44), ((3, 14), 45), ((3, 8), 32), ((3, 0), 33), ((10, 28), 65), ((10, 25), 67), ((10, 35), 130), ((10, 34), 129)]
  prop := [((9, 1), 62), ((3, 1), 28), ((3, 2), 29), ((10, 1), 62)]
  fld := [(9, 26), (9, 27), (3, 6), (3, 7), (10, 26), (10, 27)]
  cme := [((9, 11), (70, true)), ((3, 11), (36, true)), ((10, 11), (70, true)), ((9, supK + 9), (10, false))]
  sup := [9]
  fns := [(27, fd_law'), (17, fd__law_pen), (16, fd__law_cell_at), (18, fd__law_draw), (72, fd__law_rows), (19, fd__law_set), (61, fd__law_right), (37, fd__law_family), (75, fd__law_step), (38, fd__law_scale), (25, fd__law_every_set), (24, fd__law_same), (29, fd_Scale_allowed), (39, fd__law_round), (73, fd__law_apply), (129, fd_Step_coarse), (45, fd_Scale_round), (67, fd_Step_apply), (23, fd__law_closed), (36, fd_Scale_read), (70, fd_Step_read), (60, fd__law_step_text), (1, fd_need_many), (3, fd_need_bits), (4, fd_bits_of), (114, fd_is_set), (91, fd__law_scale_text), (5, fd_states_of), (21, fd__law_common), (84, fd_need_fit), (130, fd_Step_run), (28, fd_Scale_many), (62, fd_Step_many), (44, fd_Scale_round_bits), (65, fd_Step_image), (22, fd__law_ordered), (20, fd__law_whole), (14, fd_read_scale), (58, fd_read_rows), (33, fd_Scale_join), (59, fd__law_set_text), (0, fd_is_integer), (8, fd_in_order), (9, fd_closed), (6, fd_full), (13, fd_need_lines), (11, fd_read_set), (32, fd_Scale_need_other), (15, fd_made), (7, fd_place)]
  ins := [(9, fd_Guard___init__), (10, fd_Step___init__), (3, fd_Scale___init__)]
instance : Has HDD.tb 27 fd_law' := ⟨rfl⟩
instance : Has HDD.tb 17 fd__law_pen := ⟨rfl⟩
instance : Has HDD.tb 16 fd__law_cell_at := ⟨rfl⟩
instance : Has HDD.tb 18 fd__law_draw := ⟨rfl⟩
instance : Has HDD.tb 72 fd__law_rows := ⟨rfl⟩
instance : Has HDD.tb 19 fd__law_set := ⟨rfl⟩
instance : Has HDD.tb 61 fd__law_right := ⟨rfl⟩
instance : Has HDD.tb 37 fd__law_family := ⟨rfl⟩
instance : Has HDD.tb 75 fd__law_step := ⟨rfl⟩
instance : HasI HDD.tb 9 fd_Guard___init__ := ⟨rfl⟩
instance : HasI HDD.tb 10 (fdStepQ 114) := ⟨rfl⟩
instance : Has HDD.tb 38 fd__law_scale := ⟨rfl⟩
instance : Has HDD.tb 25 fd__law_every_set := ⟨rfl⟩
instance : Has HDD.tb 24 fd__law_same := ⟨rfl⟩
instance : Has HDD.tb 29 fd_Scale_allowed := ⟨rfl⟩
instance : Has HDD.tb 39 fd__law_round := ⟨rfl⟩
instance : Has HDD.tb 73 fd__law_apply := ⟨rfl⟩
instance : Has HDD.tb 129 fd_Step_coarse := ⟨rfl⟩
instance : Has HDD.tb 45 fd_Scale_round := ⟨rfl⟩
instance : Has HDD.tb 67 fd_Step_apply := ⟨rfl⟩
instance : Has HDD.tb 23 fd__law_closed := ⟨rfl⟩
instance : Has HDD.tb 36 fd_Scale_read := ⟨rfl⟩
instance : Has HDD.tb 70 fd_Step_read := ⟨rfl⟩
instance : Has HDD.tb 60 (fdStepTxt 59) := ⟨rfl⟩
instance : Has HDD.tb 1 fd_need_many := ⟨rfl⟩
instance : Has HDD.tb 3 (fdNeed 114) := ⟨rfl⟩
instance : HasI HDD.tb 3 fd_Scale___init__ := ⟨rfl⟩
instance : Has HDD.tb 4 fd_bits_of := ⟨rfl⟩
instance : Has HDD.tb 114 fd_is_set := ⟨rfl⟩
instance : Has HDD.tb 91 (fdScaleTxt 59) := ⟨rfl⟩
instance : Has HDD.tb 5 fd_states_of := ⟨rfl⟩
instance : Has HDD.tb 21 fd__law_common := ⟨rfl⟩
instance : Has HDD.tb 84 fd_need_fit := ⟨rfl⟩
instance : Has HDD.tb 130 fd_Step_run := ⟨rfl⟩
instance : Has HDD.tb 28 fd_Scale_many := ⟨rfl⟩
instance : Has HDD.tb 62 fd_Step_many := ⟨rfl⟩
instance : Has HDD.tb 44 fd_Scale_round_bits := ⟨rfl⟩
instance : Has HDD.tb 65 fd_Step_image := ⟨rfl⟩
instance : Has HDD.tb 22 fd__law_ordered := ⟨rfl⟩
instance : Has HDD.tb 20 fd__law_whole := ⟨rfl⟩
instance : Has HDD.tb 14 fd_read_scale := ⟨rfl⟩
instance : Has HDD.tb 58 fd_read_rows := ⟨rfl⟩
instance : Has HDD.tb 33 fd_Scale_join := ⟨rfl⟩
instance : Has HDD.tb 59 fd_set_text := ⟨rfl⟩
instance : Has HDD.tb 0 fd_is_integer := ⟨rfl⟩
instance : Has HDD.tb 8 fd_in_order := ⟨rfl⟩
instance : Has HDD.tb 9 fd_closed := ⟨rfl⟩
instance : Has HDD.tb 6 fd_full := ⟨rfl⟩
instance : Has HDD.tb 13 fd_need_lines := ⟨rfl⟩
instance : Has HDD.tb 11 (fdReadSetF 114) := ⟨rfl⟩
instance : Has HDD.tb 32 fd_Scale_need_other := ⟨rfl⟩
instance : Has HDD.tb 15 fd_made := ⟨rfl⟩
instance : Has HDD.tb 7 fd_place := ⟨rfl⟩
instance : TM HDD.tb.ct 9 28 65 := ⟨rfl⟩
instance : TM HDD.tb.ct 9 25 67 := ⟨rfl⟩
instance : TM HDD.tb.ct 9 35 130 := ⟨rfl⟩
instance : TM HDD.tb.ct 9 34 129 := ⟨rfl⟩
instance : TM HDD.tb.ct 3 17 44 := ⟨rfl⟩
instance : TM HDD.tb.ct 3 14 45 := ⟨rfl⟩
instance : TM HDD.tb.ct 3 8 32 := ⟨rfl⟩
instance : TM HDD.tb.ct 3 0 33 := ⟨rfl⟩
instance : TM HDD.tb.ct 10 28 65 := ⟨rfl⟩
instance : TM HDD.tb.ct 10 25 67 := ⟨rfl⟩
instance : TM HDD.tb.ct 10 35 130 := ⟨rfl⟩
instance : TM HDD.tb.ct 10 34 129 := ⟨rfl⟩
instance : TP HDD.tb.ct 9 1 62 := ⟨rfl⟩
instance : TP HDD.tb.ct 3 1 28 := ⟨rfl⟩
instance : TP HDD.tb.ct 3 2 29 := ⟨rfl⟩
instance : TP HDD.tb.ct 10 1 62 := ⟨rfl⟩
instance : TF HDD.tb.ct 9 26 := ⟨rfl, rfl⟩
instance : TF HDD.tb.ct 9 27 := ⟨rfl, rfl⟩
instance : TF HDD.tb.ct 3 6 := ⟨rfl, rfl⟩
instance : TF HDD.tb.ct 3 7 := ⟨rfl, rfl⟩
instance : TF HDD.tb.ct 10 26 := ⟨rfl, rfl⟩
instance : TF HDD.tb.ct 10 27 := ⟨rfl, rfl⟩
instance : TC HDD.tb.ct 9 11 70 := ⟨rfl⟩
instance : TC HDD.tb.ct 3 11 36 := ⟨rfl⟩
instance : TC HDD.tb.ct 10 11 70 := ⟨rfl⟩
instance : TS HDD.tb.ct 9 9 10 := ⟨rfl⟩
instance : TK HDD.tb.ct 9 := ⟨rfl⟩
instance : TI HDD.tb.ct 9 9 true := ⟨rfl⟩
instance : TI HDD.tb.ct 9 3 false := ⟨rfl⟩
instance : TI HDD.tb.ct 9 10 true := ⟨rfl⟩
instance : TK HDD.tb.ct 3 := ⟨rfl⟩
instance : TI HDD.tb.ct 3 9 false := ⟨rfl⟩
instance : TI HDD.tb.ct 3 3 true := ⟨rfl⟩
instance : TI HDD.tb.ct 3 10 false := ⟨rfl⟩
instance : TK HDD.tb.ct 10 := ⟨rfl⟩
instance : TI HDD.tb.ct 10 9 false := ⟨rfl⟩
instance : TI HDD.tb.ct 10 3 false := ⟨rfl⟩
instance : TI HDD.tb.ct 10 10 true := ⟨rfl⟩
instance : TMk HDD.tb.ct 3 := ⟨rfl⟩
instance : QB HDD.tb 114 := {}
instance : QC HDD.tb := {}
instance : QCt HDD.tb 114 := {}
instance : QSt HDD.tb 114 := {}
instance : QFit HDD.tb := {}
instance : QCm HDD.tb := {}
instance : QCa HDD.tb := {}
instance : QCr HDD.tb := {}
instance : QCR HDD.tb := {}
instance : QS HDD.tb 9 := {}
instance : QRn HDD.tb 9 := {}
instance : QCo HDD.tb 9 := {}
instance : QI HDD.tb 9 := {}
instance : QA HDD.tb 9 := {}
instance : QS HDD.tb 10 := {}
instance : QRn HDD.tb 10 := {}
instance : QCo HDD.tb 10 := {}
instance : QI HDD.tb 10 := {}
instance : QA HDD.tb 10 := {}
/-! ### the head -/
namespace Hd
def top (i : Nat) : Stmt := PySem.Challenge.pw_coarseviews_k26_coarse_runs_of_basic_ste.main.body.getD i (.Pass ⟨0, 0, 0, 0⟩)
def d0 : DD := ⟨.g "law", "law", "law", defArgs (top 59), defBody (top 59), defScope (top 59), ["_law_script", "_law_cell", "_law_pen_here", "_law_size", "_law_rows_here", "_law_kept", "_law_state"]⟩
def d1 : DD := ⟨.g "_law_pen", "_law_pen", "_law_pen", defArgs (top 40), defBody (top 40), defScope (top 40), ["_law_cell"]⟩
def d2 : DD := ⟨.g "_law_cell_at", "_law_cell_at", "_law_cell_at", defArgs (top 39), defBody (top 39), defScope (top 39), ["_law_script", "_law_k"]⟩
def d3 : DD := ⟨.g "_law_draw", "_law_draw", "_law_draw", defArgs (top 41), defBody (top 41), defScope (top 41), ["_law_pen_here", "_law_count", "_law_stir", "_law_digit"]⟩
def d4 : DD := ⟨.g "_law_rows", "_law_rows", "_law_rows", defArgs (top 53), defBody (top 53), defScope (top 53), ["_law_pen_here", "_law_size", "_law_way", "_law_rows_here", "_law_state", "_law_one", "_law_more"]⟩
def d5 : DD := ⟨.g "_law_set", "_law_set", "_law_set", defArgs (top 52), defBody (top 52), defScope (top 52), ["_law_pen_here", "_law_size", "_law_state"]⟩
def d6 : DD := ⟨.g "_law_right", "_law_right", "_law_right", defArgs (top 58), defBody (top 58), defScope (top 58), ["_law_family_here", "_law_step_here", "_law_rows_here", "_law_scale_here", "_law_one", "_law_due"]⟩
def d7 : DD := ⟨.g "_law_family", "_law_family", "_law_family", defArgs (top 48), defBody (top 48), defScope (top 48), ["_law_pen_here", "_law_size", "_law_way", "_law_some", "_law_start", "_law_labels", "_law_state", "_law_label", "_law_turn", "_law_end"]⟩
def d8 : DD := ⟨.g "_law_step", "_law_step", "_law_step", defArgs (top 57), defBody (top 57), defScope (top 57), ["_law_rows_here"]⟩
def d9 : DD := ⟨.g "_law_scale", "_law_scale", "_law_scale", defArgs (top 51), defBody (top 51), defScope (top 51), ["_law_size", "_law_family_here"]⟩
def d10 : DD := ⟨.g "_law_every_set", "_law_every_set", "_law_every_set", defArgs (top 43), defBody (top 43), defScope (top 43), ["_law_size", "_law_found", "_law_state", "_law_length", "_law_one"]⟩
def d11 : DD := ⟨.g "_law_same", "_law_same", "_law_same", defArgs (top 42), defBody (top 42), defScope (top 42), ["_law_found", "_law_due"]⟩
def d12 : DD := ⟨.p "Scale" "allowed", "allowed", "Scale.allowed", defArgs (inClass (top 32) 3), defBody (inClass (top 32) 3), defScope (inClass (top 32) 3), ["self", "bits"]⟩
def d13 : DD := ⟨.g "_law_round", "_law_round", "_law_round", defArgs (top 49), defBody (top 49), defScope (top 49), ["_law_family_here", "_law_one", "_law_found", "_law_other"]⟩
def d14 : DD := ⟨.g "_law_apply", "_law_apply", "_law_apply", defArgs (top 54), defBody (top 54), defScope (top 54), ["_law_rows_here", "_law_one", "_law_state", "_law_other"]⟩
def d15 : DD := ⟨.m "Step" "coarse", "coarse", "Step.coarse", defArgs (inClass (top 35) 10), defBody (inClass (top 35) 10), defScope (inClass (top 35) 10), ["self", "scale", "states"]⟩
def d16 : DD := ⟨.m "Scale" "round", "round", "Scale.round", defArgs (inClass (top 32) 10), defBody (inClass (top 32) 10), defScope (inClass (top 32) 10), ["self", "states"]⟩
def d17 : DD := ⟨.m "Step" "apply", "apply", "Step.apply", defArgs (inClass (top 35) 6), defBody (inClass (top 35) 6), defScope (inClass (top 35) 6), ["self", "states"]⟩
def d18 : DD := ⟨.g "_law_closed", "_law_closed", "_law_closed", defArgs (top 47), defBody (top 47), defScope (top 47), ["_law_size", "_law_some", "_law_found", "_law_one", "_law_other"]⟩
def d19 : DD := ⟨.c "Scale" "read", "read", "Scale.read", defArgs (inClass (top 32) 25), defBody (inClass (top 32) 25), defScope (inClass (top 32) 25), ["cls", "text", "many", "sets"]⟩
def d20 : DD := ⟨.c "Step" "read", "read", "Step.read", defArgs (inClass (top 35) 13), defBody (inClass (top 35) 13), defScope (inClass (top 35) 13), ["cls", "text", "rows"]⟩
def d21 : DD := ⟨.g "_law_step_text", "_law_step_text", "_law_step_text", defArgs (top 56), defBody (top 56), defScope (top 56), ["_law_rows_here", "_law_state", "_law_row"]⟩
def d22 : DD := ⟨.g "need_many", "need_many", "need_many", defArgs (top 13), defBody (top 13), defScope (top 13), ["thing"]⟩
def d23 : DD := ⟨.g "need_bits", "need_bits", "need_bits", defArgs (top 16), defBody (top 16), defScope (top 16), ["many", "thing"]⟩
def d24 : DD := ⟨.g "bits_of", "bits_of", "bits_of", defArgs (top 17), defBody (top 17), defScope (top 17), ["states", "state"]⟩
def d25 : DD := ⟨.g "is_set_bits", "is_set", "is_set", defArgs (top 14), defBody (top 14), defScope (top 14), ["many", "thing", "state", "one", "other"]⟩
def d26 : DD := ⟨.g "_law_scale_text", "_law_scale_text", "_law_scale_text", defArgs (top 50), defBody (top 50), defScope (top 50), ["_law_size", "_law_family_here", "_law_one"]⟩
def d27 : DD := ⟨.g "states_of", "states_of", "states_of", defArgs (top 18), defBody (top 18), defScope (top 18), ["bits", "state"]⟩
def d28 : DD := ⟨.g "_law_common", "_law_common", "_law_common", defArgs (top 45), defBody (top 45), defScope (top 45), ["_law_one", "_law_other", "_law_state"]⟩
def d29 : DD := ⟨.g "need_fit", "need_fit", "need_fit", defArgs (top 37), defBody (top 37), defScope (top 37), ["scale", "step"]⟩
def d30 : DD := ⟨.m "Step" "run", "run", "Step.run", defArgs (inClass (top 35) 8), defBody (inClass (top 35) 8), defScope (inClass (top 35) 8), ["self", "scale", "bits"]⟩
def d31 : DD := ⟨.p "Scale" "many", "many", "Scale.many", defArgs (inClass (top 32) 2), defBody (inClass (top 32) 2), defScope (inClass (top 32) 2), ["self"]⟩
def d32 : DD := ⟨.p "Step" "many", "many", "Step.many", defArgs (inClass (top 35) 1), defBody (inClass (top 35) 1), defScope (inClass (top 35) 1), ["self"]⟩
def d33 : DD := ⟨.m "Scale" "round_bits", "round_bits", "Scale.round_bits", defArgs (inClass (top 32) 9), defBody (inClass (top 32) 9), defScope (inClass (top 32) 9), ["self", "bits", "found", "other"]⟩
def d34 : DD := ⟨.m "Step" "image", "image", "Step.image", defArgs (inClass (top 35) 4), defBody (inClass (top 35) 4), defScope (inClass (top 35) 4), ["self", "bits", "found", "state", "line"]⟩
def d35 : DD := ⟨.g "_law_ordered", "_law_ordered", "_law_ordered", defArgs (top 44), defBody (top 44), defScope (top 44), ["_law_some", "_law_kept", "_law_one", "_law_length"]⟩
def d36 : DD := ⟨.g "_law_whole", "_law_whole", "_law_whole", defArgs (top 46), defBody (top 46), defScope (top 46), ["_law_size"]⟩
def d37 : DD := ⟨.g "read_scale", "read_scale", "read_scale", defArgs (top 28), defBody (top 28), defScope (top 28), ["text", "lines", "many", "sets", "some", "word", "states"]⟩
def d38 : DD := ⟨.g "read_rows", "read_rows", "read_rows", defArgs (top 30), defBody (top 30), defScope (top 30), ["text", "lines", "rows", "state", "line", "label"]⟩
def d39 : DD := ⟨.m "Scale" "join", "join", "Scale.join", defArgs (inClass (top 32) 19), defBody (inClass (top 32) 19), defScope (inClass (top 32) 19), ["self", "other"]⟩
def d40 : DD := ⟨.g "_law_set_text", "_law_set_text", "_law_set_text", defArgs (top 55), defBody (top 55), defScope (top 55), ["_law_one", "_law_state"]⟩
def d41 : DD := ⟨.g "is_integer", "is_integer", "is_integer", defArgs (top 12), defBody (top 12), defScope (top 12), ["thing"]⟩
def d42 : DD := ⟨.g "in_order", "in_order", "in_order", defArgs (top 21), defBody (top 21), defScope (top 21), ["some", "kept", "bits"]⟩
def d43 : DD := ⟨.g "closed", "closed", "closed", defArgs (top 22), defBody (top 22), defScope (top 22), ["some", "found", "fresh", "one", "other"]⟩
def d44 : DD := ⟨.g "full", "full", "full", defArgs (top 19), defBody (top 19), defScope (top 19), ["many"]⟩
def d45 : DD := ⟨.g "need_lines", "need_lines", "need_lines", defArgs (top 27), defBody (top 27), defScope (top 27), ["text"]⟩
def d46 : DD := ⟨.g "read_set", "read_set", "read_set", defArgs (top 25), defBody (top 25), defScope (top 25), ["many", "word", "states", "part"]⟩
def d47 : DD := ⟨.m "Scale" "need_other", "need_other", "Scale.need_other", defArgs (inClass (top 32) 17), defBody (inClass (top 32) 17), defScope (inClass (top 32) 17), ["self", "other"]⟩
def d48 : DD := ⟨.g "made", "made", "made", defArgs (top 33), defBody (top 33), defScope (top 33), ["many", "family", "sets", "bits"]⟩
def d49 : DD := ⟨.g "place", "place", "place", defArgs (top 20), defBody (top 20), defScope (top 20), ["bits", "states"]⟩
def e0 : DD := ⟨.m "Guard" "__init__", "__init__", "Guard.__init__", defArgs (inClass (top 36) 0), defBody (inClass (top 36) 0), defScope (inClass (top 36) 0), ["self", "many", "states", "rows", "state"]⟩
def e1 : DD := ⟨.m "Step" "__init__", "__init__", "Step.__init__", defArgs (inClass (top 35) 0), defBody (inClass (top 35) 0), defScope (inClass (top 35) 0), ["self", "rows", "row"]⟩
def e2 : DD := ⟨.m "Scale" "__init__", "__init__", "Scale.__init__", defArgs (inClass (top 32) 1), defBody (inClass (top 32) 1), defScope (inClass (top 32) 1), ["self", "many", "sets", "some", "states"]⟩
def ds : List DD := [d0, d1, d2, d3, d4, d5, d6, d7, d8, d9, d10, d11, d12, d13, d14, d15, d16, d17, d18, d19, d20, d21, d22, d23, d24, d25, d26, d27, d28, d29, d30, d31, d32, d33, d34, d35, d36, d37, d38, d39, d40, d41, d42, d43, d44, d45, d46, d47, d48, d49]
def es : List DD := [e0, e1, e2]
theorem chk : HDD.chk2 ds es = true := by kernel_rfl
abbrev R : PySem.W.OpenRow := PySem.W.OpenLaw.row PySem.Challenge.rw_coarseviews_k26_coarse_runs_of_basic_ste
abbrev hk : PySem.W.Hook := hookM2 5 HDD ds es
def ob (s : PySem.W.SharedT) : Bool × List He.FnV := obsMG2 5 HDD ds es (HandSHeadRun.getT s)
theorem ob_eq (s : PySem.W.SharedT) : ob s = hk.obs s.abs := obsMG2_eq (HandSHeadRun.getT_eq s)
def nm0 : List Str := ["_wall", "CoarseError", "NoMany", "NoSet", "NoScale", "NoStep", "OtherStates", "NoText", "NotClosed", "MOST", "is_integer", "need_many", "is_set", "is_set_bits", "need_bits", "bits_of", "states_of", "full", "place", "in_order", "closed", "set_text", "read_set", "scale_text", "need_lines", "read_scale", "step_text", "read_rows", "Scale", "made"]
def nm1 : List Str := ["Step", "Guard", "need_fit", "_law_cell_at", "_law_pen", "_law_draw", "_law_same", "_law_every_set", "_law_ordered", "_law_common", "_law_whole", "_law_closed", "_law_family", "_law_round", "_law_scale_text", "_law_scale", "_law_set", "_law_rows", "_law_apply", "_law_set_text", "_law_step_text", "_law_step", "_law_right"]
def nms : List Str := nm0 ++ nm1
theorem run (w : World) : HandSHeadRun.RunEq R (PySem.W.view R.prog [59]) hk ob 20000 nms w := by
  intro os
  kernel_rfl
end Hd
/-! ### k26 -/
section
variable {h : MH}
abbrev B26 : Tb := HDD.tb
theorem right26 (j : Nat) {c n : Nat} {F bs : List Nat} [QS B26 c] [QI B26 c] [QA B26 c] [QRn B26 c] [QCo B26 c] [TM B26.ct c 34 129] [TM B26.ct c 25 67] (fm : Fam n F) (r : Rows n bs) (h : MH) : (lv B26 (j + 7)).fn 61 [.lst (F.map S), Ob c bs [], Rw bs] h = .ok (.bl true) h := by
  have h7 := fm.n7
  have hl := r.len
  have hfl := fm.len
  have e1 := X_lawscale (B := B26) (f := 114) j fm h
  have e2 := fun b (hb : b < 2 ^ n) => X_lawround (B := B26) (j + 4) fm hb (d := .lst (F.map S)) (fun _ => rfl) rfl h
  have e3 := fun b (hb : b < 2 ^ n) => X_lawapply (B := B26) (j + 5) r hb h
  have e4 := fun b (hb : b < 2 ^ n) => X_coarse (B := B26) (f := 114) (c := c) (j + 2) (ps := []) r fm.lt hb (IsSc.obj (h := h) (n := n) (F := F))
  have e5 := fun b (hb : b < 2 ^ n) => X_round (B := B26) (f := 114) (j + 2) h7 fm.lt hb (IsSc.obj (h := h) (n := n) (F := F))
  have e6 := fun b (hb : b < 2 ^ n) => X_apply (B := B26) (f := 114) (c := c) (j + 2) (ps := []) r hb h
  have e7 := X_allowed (B := B26) (f := 114) (j + 4) (fun x hx => fm.l128 hx) (by omega) (IsSc.obj (h := h) (n := n) (F := F))
  have hw := wt_Rk hfl
  have e8 := L_same (B := B26) (j + 5) (d := Rw F) (by simp (disch := omega) only [seval]) (by omega) h
  unfold Ob Sc at *
  refine by_W ?_
  rw [fn_lv]
  simp (disch := omega) only [seval, fd__law_right, hl, e1]
  refine W_every (j + 5) h7 fun L hL hb => ?_
  simp (disch := omega) only [seval]
  refine W_for (fun env h' => (∃ v4 v5, env = [some (.val (.lst (F.map S))), some (.val (.obj c [(26, Ln bs), (27, .tup [])])), some (.val (Rw bs)), some (.val (.obj 3 [(6, .int n), (7, .tup (In F))])), v4, v5]) ∧ h' = h) ⟨⟨_, _, rfl⟩, rfl⟩ (fun b hb' env h' => ?_) fun env h' => ?_
  · rintro ⟨⟨v4, v5, rfl⟩, rfl⟩
    have hb := hb b hb'
    have hr1 := rnd_lt fm.lt b
    have hi := r.img (rnd n F b)
    have w1 := wt_S (rnd n F (imgF bs 0 (rnd n F b)))
    have e9 := L_same (B := B26) (j + 5) (d := .lst [S (rnd n F (imgF bs 0 (rnd n F b))), S (rnd n F (imgF bs 0 (rnd n F b)))]) (by simp (disch := omega) only [seval]) (by simp (disch := omega) only [seval]; omega) h'
    simp (disch := omega) only [seval, e2 b hb, e3 _ hr1, e2 _ hi, e4 b hb, e5 b hb, e6 _ hr1, e5 _ hi, e9]
    exact ⟨_, _, rfl⟩
  · rintro ⟨⟨v4, v5, rfl⟩, rfl⟩
    simp (disch := omega) only [seval, e7, show D.tup (F.map S) = Rw F from rfl, e8]
theorem cell26 (j : Nat) {i : Int} {e0 : Option SV} {vs : List (Option SV)} {h : MH} (hv : vs.length = 5) : W (evSs B26.ct (lv B26 (j + 8)) (forB (nthS fd_law'.body 0)) (e0 :: some (.val (.int i)) :: vs) h) fun fl _ => ∃ v vs', fl = .nx (e0 :: v :: vs') ∧ vs'.length = 5 := by
  match vs, hv with
  | [a2, a3, a4, a5, a6], _ =>
    simp (disch := omega) only [seval, forB, nthS, fd_law']
    refine W_pen (j + 7) i fun h1 hl p _ => ?_
    simp (disch := omega) only [seval]
    refine W_draw (k := 3) (j + 7) p (by omega) (by decide) (by decide) fun d h2 hd v2 => ?_
    have p2 := v2.pen p.lt
    simp (disch := omega) only [seval]
    refine W_draw (k := 4) (j + 7) p2 (by omega) (by decide) (by decide) fun d3 h3 hd3 v3 => ?_
    have p3 := v3.pen p2.lt
    have el : [D.int ((1 + d : Nat) : Int), D.int 4, D.int ((4 + d3 : Nat) : Int)] = [1 + d, 4, 4 + d3].map fun (n : Nat) => D.int (n : Int) := rfl
    simp (disch := omega) only [seval, -s_mc]
    rw [el]
    refine W_forI (fun pre env h' => (∃ v3 v4 v5 v6, env = [e0, some (.val (.int i)), some (.val (.ref h.length)), v3, v4, v5, v6]) ∧ Pen h' h.length (10 + pre.length * 1000)) _ ⟨⟨_, _, _, _, rfl⟩, p3.mono (by omega)⟩ (fun pre n r er env h' => ?_) fun env h' => ?_
    · have hr := congrArg List.length er
      rw [List.length_append, List.length_cons] at hr
      have hr : 3 = pre.length + (r.length + 1) := hr
      have hm : n ∈ [1 + d, 4, 4 + d3] := by
        rw [er]
        simp
      have hn : 1 ≤ n ∧ n ≤ 7 := by
        simp only [List.mem_cons, List.not_mem_nil, or_false] at hm
        omega
      obtain ⟨h1, h7⟩ := hn
      rintro ⟨⟨v3, v4, v5, v6, rfl⟩, p⟩
      simp (disch := omega) only [seval]
      refine W_rows (j + 5) p (by omega) h1 h7 fun bs h4 rb v4 => ?_
      have p4 := v4.pen p.lt
      simp (disch := omega) only [seval]
      refine W_lset (j + 6) p4 (by omega) h7 fun a h5 ha v5 => ?_
      have p5 := v5.pen p4.lt
      simp (disch := omega) only [seval]
      refine W_family (j + 4) p5 (by omega) h1 h7 fun F h6 fm v6 => ?_
      have p6 := v6.pen p5.lt
      simp (disch := omega) only [seval, X_lawstep (B := B26) (f := 114) (j + 2) rb h1, right26 (j + 1) (c := 10) fm rb h6]
      refine W_map (g := fun i => S (if a.testBit i then 2 ^ i else 0)) (fun i hi => ?_) ?_
      · have := (List.mem_range'_1.mp hi).2
        simp (disch := omega) only [seval]
        split
        · rw [S_pow (show i < 7 by omega)]
        · rw [S_zero]
      have eg : (List.range' 0 n).map (fun i => S (if a.testBit i then 2 ^ i else 0)) = (guB n a).map S := by
        unfold guB
        rw [List.map_map]
        rfl
      have gr := guB_rows (a := a) h7
      have gl := gr.len
      rw [eg]
      simp (disch := omega) only [seval, show D.tup ((guB n a).map S) = Rw (guB n a) from rfl]
      refine W_family (j + 4) p6 (by omega) h1 h7 fun G h7' fg v7 => ?_
      have e9 := right26 (j + 1) (c := 9) fg gr h7'
      unfold Ob at e9
      simp (disch := omega) only [seval, X_guard (B := B26) (f := 114) (j + 4) h1 h7 ha, e9]
      exact ⟨⟨_, _, _, _, rfl⟩, (v7.pen p6.lt).mono (by omega)⟩
    · rintro ⟨⟨v3, v4, v5, v6, rfl⟩, p⟩
      simp (disch := omega) only [seval]
      exact ⟨_, _, rfl, rfl⟩
instance : Has HDD.tb 27 ⟨1, false, 5 + 2, cellsM (forB (nthS fd_law'.body 0))⟩ := ⟨rfl⟩
theorem law_pure (ns : List Int) (hn : ns.length ≤ 63) : ∃ h, (lv HDD.tb 9).fn 27 [.lst (ns.map D.int)] [] = .ok (.bl true) h :=
  W_cells (k := 5) 7 (fun i e0 vs h hv => cell26 0 hv) ns hn
end
end Mi
open PySem PySem.W PySem.Calls PyProof.Rows
theorem PySem.Challenge.cw_coarseviews_k26_coarse_runs_of_basic_ste_holds : PySem.Challenge.rw_coarseviews_k26_coarse_runs_of_basic_ste.Holds := by
  w_on; o_law
  refine HandSHeadRun.head_any (r := OpenLaw.row PySem.Challenge.rw_coarseviews_k26_coarse_runs_of_basic_ste) (q := view (OpenLaw.row PySem.Challenge.rw_coarseviews_k26_coarse_runs_of_basic_ste).prog [59]) (H := Mi.Hd.hk) (ob := Mi.Hd.ob) (M := 20000) (loose := Mi.Hd.nms) (d := HandSHeadRun.topDef (OpenLaw.row PySem.Challenge.rw_coarseviews_k26_coarse_runs_of_basic_ste).prog 59) (kwd := []) Mi.Hd.ob_eq
    (by kernel_rfl) (fun s => by kernel_rfl) Mi.Hd.run (by kernel_rfl) (by kernel_rfl) (by kernel_rfl) (by rfl) (by first | assumption | decide +kernel) (by decide +kernel) ⟨rfl, rfl, rfl, rfl, rfl, by decide +kernel⟩ ?hw ?hc
  case hw => w_witness2
  case hc =>
    exact Mi.walk_mi2 (l := PySem.Challenge.rw_coarseviews_k26_coarse_runs_of_basic_ste) (j := 9) (f := 27) (hd := Mi.HDD) (ds := Mi.Hd.ds) (es := Mi.Hd.es) (x := "law") rfl (by decide) (by kernel_rfl) ⟨rfl, by decide, by decide⟩ (by kernel_rfl) rfl Mi.Hd.chk (by kernel_rfl) Mi.law_pure
