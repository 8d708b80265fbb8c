import PyProof.Rows.All
import Wide.All
import OpenK.AllK
import Wide.FinOn
import HandS.ForMost
import HandS.Deep
import HandS.Zip
import HandS.DictComp
import HandS.Flow
import HandS.Style
import HandS.TupMul
import HandS.TupAny
import HandS.Wide
import HandS.IsInst
import HandS.Walk
import HandS.Small
import HandS.Conv
import HandS.Defaults
import KE.SortData
import KE.KRevSl
import PyProof.TupleOfSeq
import HandS.Set
import HandS.SetFor
import HandS.Strs
import HandS.More
import HandS.NoneIn
import HandS.Sort
import HandS.HeadEnd
import HandS.HeadHook1
import HandS.HeadHook2
import HandS.Head0
import HandS.Head1
import HandS.Head2
import PySem.Challenge.RW_whichmethod_k10_kinds_or_none
set_option Elab.async false
set_option linter.all false
set_option maxRecDepth 100000
set_option maxHeartbeats 4000000
/-! Mp, part A: values, syntax without positions, the evaluator, the eraser. -/
namespace Mp
open PySem

abbrev Key := L2.Key

inductive D where
  | non
  | bl (b : Bool)
  | int (i : Int)
  | str (s : Str)
  | tup (xs : List D)
  | lst (xs : List D)
  | dK (kvs : List (Key × D))
  | dT (kvs : List (List Key × D))
  | ins (c : Str) (fs : List (Str × D))
  | box (k : Nat)
  | scr (is : List Int)
  deriving Inhabited

mutual
def D.py : D → PyData
  | .non => .none
  | .bl b => .bool b
  | .int i => .int i
  | .str s => .str s
  | .tup xs => .tuple (pyL xs)
  | .lst xs => .list (pyL xs)
  | .dK _ => .none
  | .dT _ => .none
  | .ins _ _ => .none
  | .box _ => .none
  | .scr _ => .none
def pyL : List D → List PyData
  | [] => []
  | x :: xs => x.py :: pyL xs
end
mutual
/-- none, truths, numbers, texts, tuples and lists of these -/
def D.pl : D → Bool
  | .non => true
  | .bl _ => true
  | .int _ => true
  | .str _ => true
  | .tup xs => plL xs
  | .lst xs => plL xs
  | .dK _ => false
  | .dT _ => false
  | .ins _ _ => false
  | .box _ => false
  | .scr _ => false
def plL : List D → Bool
  | [] => true
  | x :: xs => x.pl && plL xs
end
mutual
/-- nothing in it that can be changed -/
def D.lf : D → Bool
  | .non => true
  | .bl _ => true
  | .int _ => true
  | .str _ => true
  | .tup xs => lfL xs
  | .lst _ => false
  | .dK _ => false
  | .dT _ => false
  | .ins _ _ => false
  | .box _ => true
  | .scr _ => false
def lfL : List D → Bool
  | [] => true
  | x :: xs => x.lf && lfL xs
end
def D.sh (d : D) : Bool := d.pl && d.py.canLay0 && decide (d.py.depth ≤ 60)
def eqD (a b : D) : Option Bool := if a.sh && b.sh then some (PyData.eqv a.py b.py) else none
def inL (a : D) (xs : List D) : Option Bool := if a.sh && (D.lst xs).sh then some (xs.any fun z => PyData.eqv z.py a.py) else none

/-! ### sorting -/
def tupOne : D → Bool
  | .tup (_ :: _) => true
  | _ => false
def notTup : D → Bool
  | .non => false
  | .tup _ => false
  | _ => true
def sortable (xs : List D) : Bool := xs.all (fun x => x.sh) && (xs.all fun x => xs.all fun y => W.alike x.py y.py) && (xs.all tupOne || xs.all notTup)
def leD (x y : D) : Bool := W.dataLe false D.py x y
def insD (x : D) : List D → List D
  | [] => [x]
  | y :: ys => if leD x y then x :: y :: ys else y :: insD x ys
def srt : List D → List D
  | [] => []
  | x :: xs => insD x (srt xs)
/-- each once, the first of equal ones kept -/
def dd : List D → List D
  | [] => []
  | x :: xs => x :: (dd xs).filter fun y => !PyData.eqv y.py x.py
def isStr : D → Bool
  | .str _ => true
  | _ => false
def strsOf : List D → Option (List Str)
  | [] => some []
  | .str b :: r => do
    let bs ← strsOf r
    some (b :: bs)
  | _ => none
/-! ### ascending texts, each once -/
def ltS (x y : Str) : Bool := decide (x.cps.toList < y.cps.toList)
def insU (x : Str) : List Str → List Str
  | [] => [x]
  | y :: ys => if x = y then y :: ys else if ltS x y = true then x :: y :: ys else y :: insU x ys
def ssrt : List Str → List Str
  | [] => []
  | x :: xs => insU x (ssrt xs)

/-! ### keys of dicts -/
def key1 : D → Option Key
  | .int i => some (.inl i)
  | .str s => some (.inr s)
  | _ => none
def keyS : List D → Option (List Key)
  | [] => some []
  | x :: xs => do
    let k ← key1 x
    let ks ← keyS xs
    some (k :: ks)
def kD : Key → D
  | .inl i => .int i
  | .inr s => .str s
section
variable {κ : Type} [DecidableEq κ]
def lk (kvs : List (κ × D)) (k : κ) : Option D := (kvs.find? fun kv => decide (kv.1 = k)).map (·.2)
def pt (kvs : List (κ × D)) (k : κ) (v : D) : List (κ × D) :=
  if (kvs.any fun kv => decide (kv.1 = k)) = true then kvs.map fun kv => if kv.1 = k then (kv.1, v) else kv else kvs ++ [(k, v)]
end
/-- pairs of a key and a value -/
def prsOf : List D → Option (List (Key × D))
  | [] => some []
  | .tup [k, v] :: r => do
    let k ← key1 k
    let l ← prsOf r
    some ((k, v) :: l)
  | _ => none
def ptAll (l : List (Key × D)) : List (Key × D) := l.foldl (fun a p => pt a p.1 p.2) []
/-- d[k]; none: no such thing here; some none: no such key -/
def dGet (d k : D) : Option (Option D) :=
  match d, k with
  | .dK kvs, .tup xs => match kvs, keyS xs with
    | [], some _ => some none
    | _, _ => none
  | .dK kvs, k => do
    let k ← key1 k
    some (lk kvs k)
  | .dT kvs, .tup xs => do
    let ks ← keyS xs
    some (lk kvs ks)
  | _, _ => none
def dPut (d k v : D) : Option D :=
  match d, k with
  | .dK kvs, .tup xs => match kvs, keyS xs with
    | [], some ks => some (.dT [(ks, v)])
    | _, _ => none
  | .dK kvs, k => do
    let k ← key1 k
    if kvs.length < sizeLine then some (.dK (pt kvs k v)) else none
  | .dT kvs, .tup xs => do
    let ks ← keyS xs
    if kvs.length < sizeLine then some (.dT (pt kvs ks v)) else none
  | _, _ => none
def dPuts : D → List (D × D) → Option D
  | d, [] => some d
  | d, (k, v) :: r => do
    let d ← dPut d k v
    dPuts d r

/-! ### operators -/
/-- a number that is small either way; written so that it is stuck at once where the number is not known -/
def inB (i : Int) : Bool := match i with
  | .ofNat n => Nat.ble n 1000000
  | .negSucc n => Nat.ble n 1000000
theorem inB_iff (i : Int) : inB i = true ↔ -1000001 ≤ i ∧ i ≤ 1000000 := by
  unfold inB
  cases i with
  | ofNat n =>
    dsimp only
    rw [Nat.ble_eq]
    have : Int.ofNat n = (n : Int) := rfl
    omega
  | negSucc n =>
    dsimp only
    rw [Nat.ble_eq, Int.negSucc_eq]
    omega
def mulOk (i j : Int) : Bool := (decide (-(2 ^ 64) < i) && decide (i < 2 ^ 64)) || (decide (-(2 ^ 64) < j) && decide (j < 2 ^ 64))
def binD (op : Operator) (x y : D) : Option (D × Bool) :=
  match op, x, y with
  | .Add, .int i, .int j => some (.int (i + j), false)
  | .Add, .str s, .str t => if s.length + t.length ≤ sizeLine then some (.str (s ++ t), false) else none
  | .Add, .lst xs, .lst ys => if xs.length + ys.length ≤ sizeLine then some (.lst (xs ++ ys), true) else none
  | .Add, .tup xs, .tup ys => if xs.length + ys.length ≤ sizeLine then some (.tup (xs ++ ys), false) else none
  | .Sub, .int i, .int j => some (.int (i - j), false)
  | .Mult, .int i, .int j => if mulOk i j then some (.int (i * j), false) else none
  | .Mult, .lst xs, .int k => if inB k = true ∧ xs.length * k.toNat ≤ sizeLine then some (.lst (List.replicate k.toNat xs).flatten, true) else none
  | .Mult, .tup xs, .int k => if k = 1 then some (.tup xs, false) else if xs.isEmpty = false ∧ 2 ≤ k ∧ k ≤ 1000 ∧ xs.length ≤ 1000 then some (.tup (List.replicate k.toNat xs).flatten, false) else none
  | .Mod, .int i, .int j => if 0 < j then some (.int (i % j), false) else none
  | .FloorDiv, .int i, .int j => if 0 < j ∧ j.natAbs.log2 < 9000 then some (.int (i / j), false) else none
  | .Pow, .int i, .int j => if 0 ≤ j ∧ j ≤ 1000000 ∧ i.natAbs < 2 ^ 64 then some (.int (i ^ j.toNat), false) else none
  | _, _, _ => none
def inD (x y : D) : Option Bool :=
  match y with
  | .lst xs => inL x xs
  | .tup xs => inL x xs
  | .str t => match x with
    | .str s => some (!(Builtin.Str.occurrences t s 0 t.length 1).isEmpty)
    | _ => none
  | y => do
    let o ← dGet y x
    some o.isSome
def ordD (op : CmpOp) (x y : D) : Option Bool :=
  match op, x, y with
  | .Lt, .int i, .int j => some (decide (i < j))
  | .LtE, .int i, .int j => some (decide (i ≤ j))
  | .Gt, .int i, .int j => some (decide (j < i))
  | .GtE, .int i, .int j => some (decide (j ≤ i))
  | .Lt, .str i, .str j => some (decide (i.cps.toList < j.cps.toList))
  | _, _, _ => none
def isNon : D → Bool
  | .non => true
  | _ => false
def isB : D → D → Option Bool
  | .bl a, .bl b => some (decide (a = b))
  | _, _ => none
def cmpD (op : CmpOp) (x y : D) : Option Bool :=
  match op with
  | .Eq => eqD x y
  | .NotEq => (eqD x y).map (!·)
  | .In => inD x y
  | .NotIn => (inD x y).map (!·)
  | .Is => if isNon y then some (isNon x) else isB x y
  | .IsNot => if isNon y then some (!isNon x) else (isB x y).map (!·)
  | op => ordD op x y
def truth : D → Option Bool
  | .non => some false
  | .bl b => some b
  | .int i => some (i != 0)
  | .str s => if s.length ≤ sizeLine then some ((s.length : Int) != 0) else none
  | .lst xs => some (!xs.isEmpty)
  | .tup xs => some (!xs.isEmpty)
  | _ => none
def chr (c : Nat) : D := .str ⟨#[c]⟩
def ixD (x y : D) : Option D :=
  match x, y with
  | .lst xs, .int i => L2.atI xs i
  | .tup xs, .int i => L2.atI xs i
  | .str z, .int i => if z.length ≤ sizeLine then (L2.atI z.cps.toList i).map chr else none
  | .scr is, .int i => (L2.atI is i).map .int
  | x, y => do
    let o ← dGet x y
    o
def cut (xs : List D) (lo hi : Option Int) : List D := (xs.drop (HT.sIx xs.length 0 lo)).take (HT.sIx xs.length xs.length hi - HT.sIx xs.length 0 lo)
def slD (x : D) (lo hi : Option Int) : Option (D × Bool) :=
  match x with
  | .lst xs => some (.lst (cut xs lo hi), true)
  | .tup xs => some (.tup (cut xs lo hi), false)
  | .scr is => some (.lst (cut (is.map .int) lo hi), true)
  | _ => none
/-- the fields of the program's classes -/
def flds : List Str := ["own_generic", "own_above", "own_calls", "own_partings", "own_up", "own_shapes", "own_ups", "own_pairs", "own_wishes"]
def fldD (x : D) (f : Str) : Option D :=
  match x with
  | .ins _ fs => if f ∈ flds then fs.lookup f else none
  | _ => none
def boolsOf : List D → Option (List Bool)
  | [] => some []
  | .bl b :: r => do
    let bs ← boolsOf r
    some (b :: bs)
  | _ => none
def intsOf : List D → Option (List Int)
  | [] => some []
  | .int b :: r => do
    let bs ← intsOf r
    some (b :: bs)
  | _ => none
def leastI : Int → List Int → Int
  | m, [] => m
  | m, x :: xs => leastI (if x < m then x else m) xs
def itemsOf : D → Option (List D)
  | .lst xs => some xs
  | .tup xs => some xs
  | .str s => some (s.cps.toList.map chr)
  | .dK kvs => some (kvs.map fun kv => kD kv.1)
  | .dT kvs => some (kvs.map fun kv => .tup (kv.1.map kD))
  | _ => none
def tyOf : D → String
  | .non => "NoneType"
  | .bl _ => "bool"
  | .int _ => "int"
  | .str _ => "str"
  | .tup _ => "tuple"
  | .lst _ => "list"
  | .dK _ => "dict"
  | _ => ""
def isi (d : D) (ts : List String) : Option Bool := if tyOf d = "" then none else some (ts.any fun t => tyOf d == t || (tyOf d == "bool" && t == "int"))
/-- built-in functions -/
def biD (f : Str) (ds : List D) : Option (D × Bool) :=
  match ds with
  | [d] =>
    if f = ("len" : Str) then (match d with
      | .lst xs => some (.int xs.length, false)
      | .tup xs => some (.int xs.length, false)
      | .scr is => some (.int is.length, false)
      | .str s => if s.length ≤ sizeLine then some (.int s.length, false) else none
      | .dK kvs => some (.int kvs.length, false)
      | _ => none)
    else if f = ("int" : Str) then (match d with
      | .int i => some (.int i, false)
      | .bl b => some (.int (if b then 1 else 0), false)
      | _ => none)
    else if f = ("abs" : Str) then (match d with
      | .int i => some (.int (if i < 0 then -i else i), false)
      | _ => none)
    else if f = ("all" : Str) then (match d with
      | .lst xs => do
        let bs ← boolsOf xs
        some (.bl (bs.all id), false)
      | _ => none)
    else if f = ("any" : Str) then (match d with
      | .lst xs => do
        let bs ← boolsOf xs
        some (.bl (bs.any id), false)
      | _ => none)
    else if f = ("tuple" : Str) then (match d with
      | .lst xs => some (.tup xs, false)
      | .tup xs => some (.tup xs, false)
      | _ => none)
    else if f = ("list" : Str) then (match d with
      | .lst xs => some (.lst xs, true)
      | .tup xs => some (.lst xs, true)
      | _ => none)
    else if f = ("sorted" : Str) then (match d with
      | .lst xs => if sortable xs && decide (xs.length ≤ sizeLine) then some (.lst (srt xs), true) else none
      | .tup xs => if sortable xs && decide (xs.length ≤ sizeLine) then some (.lst (srt xs), true) else none
      | .dK kvs => do
        let ks ← strsOf (kvs.map fun kv => kD kv.1)
        if ks.length < 64 ∧ ks.Nodup then some (.lst ((ssrt ks).map .str), true) else none
      | _ => none)
    else if f = ("min" : Str) then (match d with
      | .lst (.int x :: xs) => do
        let is ← intsOf xs
        some (.int (leastI x is), false)
      | _ => none)
    else if f = ("dict" : Str) then (match d with
      | .lst xs => do
        let l ← prsOf xs
        some (.dK (ptAll l), true)
      | _ => none)
    else if f = ("repr" : Str) then (match d with
      | .tup xs => if ((D.tup xs).sh && ((D.tup xs).py.showable && decide ((D.tup xs).py.shown.length ≤ sizeLine))) = true then some (.str (D.tup xs).py.shown, false) else none
      | .lst xs => if ((D.lst xs).sh && ((D.lst xs).py.showable && decide ((D.lst xs).py.shown.length ≤ sizeLine))) = true then some (.str (D.lst xs).py.shown, false) else none
      | .str z => if (PyData.str z).shown.length ≤ sizeLine then some (.str (PyData.str z).shown, false) else none
      | .int i => if i.natAbs.log2 < 1920 then some (.str (PyData.int i).shown, false) else none
      | .bl b => some (.str (PyData.bool b).shown, false)
      | .non => some (.str PyData.none.shown, false)
      | _ => none)
    else none
  | _ => none
def mutD (m : Str) (d : D) (ds : List D) : Option (D × D) :=
  match d, ds with
  | .lst xs, [y] =>
    if m = ("append" : Str) then (if xs.length < sizeLine then some (.lst (xs ++ [y]), .non) else none)
    else if m = ("extend" : Str) then (match y with
      | .lst ys => if xs.length + ys.length ≤ sizeLine then some (.lst (xs ++ ys), .non) else none
      | _ => none)
    else if m = ("pop" : Str) then (match y with
      | .int i => do
        let k ← L2.ixN xs.length i
        let v ← xs[k]?
        some (.lst (xs.eraseIdx k), v)
      | _ => none)
    else if m = ("remove" : Str) then (match xs.findIdx? fun z => PyData.eqv z.py y.py with
      | some k => if y.sh && (D.lst xs).sh then some (.lst (xs.eraseIdx k), .non) else none
      | none => none)
    else none
  | .lst xs, [] =>
    if m = ("pop" : Str) then do
      let v ← xs.getLast?
      some (.lst xs.dropLast, v)
    else none
  | .dK kvs, [.dK more] =>
    if m = ("update" : Str) then (if kvs.length + more.length ≤ sizeLine then some (.dK (more.foldl (fun a kv => pt a kv.1 kv.2) kvs), .non) else none)
    else none
  | _, _ => none
def muts : List Str := ["append", "extend", "pop", "remove", "update"]
/-- o.f = v -/
def ptF (f : Str) (v : D) : List (Str × D) → List (Str × D)
  | [] => [(f, v)]
  | (g, x) :: r => if g = f then (g, v) :: r else (g, x) :: ptF f v r
/-- what a changing method is called on -/
def mutK (m : Str) : Option (D × Bool) → Bool
  | some (.lst _, true) => decide (m ≠ ("update" : Str)) && decide (m ≠ ("remove" : Str))
  | _ => false
/-- methods of values that change nothing -/
def metD (m : Str) (d : D) (ds : List D) : Option (D × Bool) :=
  match d, ds with
  | .lst xs, [y] =>
    if m = ("index" : Str) then (match xs.findIdx? fun z => PyData.eqv z.py y.py with
      | some k => if y.sh && (D.lst xs).sh then some (.int k, false) else none
      | none => none)
    else none
  | .dK kvs, [y] =>
    if m = ("get" : Str) then do
      let k ← key1 y
      some ((lk kvs k).getD .non, false)
    else none
  | _, _ => none
def metK (m : Str) : D → Bool
  | .lst _ => decide (m = ("index" : Str))
  | .dK _ => decide (m = ("get" : Str))
  | _ => false
/-- o[i] = v, a list's or a dict's -/
def setD (d i v : D) : Option D :=
  match d, i with
  | .lst xs, .int i => do
    let k ← L2.ixN xs.length i
    some (.lst (xs.set k v))
  | d, k => dPut d k v

/-! ### syntax -/
inductive Tg where
  | nm (i : Nat)
  | tp (is : List Nat)
mutual
inductive E where
  | loc (i : Nat)
  | glob (x : Str)
  | int (i : Int)
  | str (s : Str)
  | bl (b : Bool)
  | non
  | tup (es : List E)
  | lst (es : List E)
  | nbox (es : List E)
  | dic (kvs : List (E × E))
  | bin (op : Operator) (a b : E)
  | neg (a : E)
  | cmp (op : CmpOp) (a b : E)
  | chn (o1 o2 : CmpOp) (a b c : E)
  | and (es : List E)
  | or (es : List E)
  | not (a : E)
  | ite (c a b : E)
  | ix (a i : E)
  | sl (a : E) (lo hi : Option E)
  | rev (a : E)
  | fld (a : E) (f : Str)
  | call (f : Str) (es : List E)
  | callK (f : Str) (es : List E) (ks : List Str) (ws : List E)
  | bi (f : Str) (es : List E)
  | isi (a : E) (ts : List Str) (tp : Bool)
  | sset (a : E)
  | lset (a : E)
  | lof (it : It)
  | meth (o : E) (m : Str) (es : List E)
  | lc (el : E) (g : Gn) (own : List Nat)
  | lc2 (el : E) (g h : Gn) (own : List Nat)
  | dc (k v : E) (g : Gn) (own : List Nat)
  | dc2 (k v : E) (g h : Gn) (own : List Nat)
inductive It where
  | ex (e : E)
  | rng (a b : E)
  | zip (a b : E)
  | enum (a : E) (k : Int)
  | items (a : E)
  | vals (a : E)
inductive Gn where
  | mk (tg : Tg) (it : It) (ifs : List E)
end
inductive S where
  | asg (i : Nat) (e : E)
  | asgT (is : List Nat) (e : E)
  | par (is : List Nat) (es : List E)
  | asgI (o i e : E)
  | asgF (o : E) (f : Str) (e : E)
  | aug (i : Nat) (op : Operator) (e : E)
  | ex (e : E)
  | ret (e : E)
  | iff (c : E) (a b : List S)
  | for_ (tg : Tg) (it : It) (b : List S)
  | whl (c : E) (b : List S)
  | pass
  | stop
inductive Kd where
  | fn | ini
structure FDef where
  kd : Kd := .fn
  np : Nat
  ns : Nat
  body : List S

/-! ### the evaluator -/
structure St where
  e : List (Option (D × Bool))
  b : List (List Int)
inductive Tmp where
  | v (d : D) (fr : Bool)
  | x (i : Nat)
def St.get (s : St) (i : Nat) : Option (D × Bool) := s.e.getD i none
def St.put (s : St) (i : Nat) (d : D) (o : Bool) : St := { s with e := s.e.set i (some (d, o)) }
def St.frz (s : St) (i : Nat) : St := match s.get i with
  | some (d, _) => s.put i d false
  | none => s
def Tmp.d (t : Tmp) (s : St) : Option D := match t with
  | .v d _ => some d
  | .x i => (s.get i).map (·.1)
def take (t : Tmp) (s : St) : Option (D × St) := match t with
  | .v d _ => some (d, s)
  | .x i => do
    let p ← s.get i
    some (p.1, s.frz i)
def takes : List Tmp → St → Option (List D × St)
  | [], s => some ([], s)
  | t :: ts, s => do
    let (d, s) ← take t s
    let (ds, s) ← takes ts s
    some (d :: ds, s)
/-- an argument: a changeable list is lent, anything else is settled -/
def arg (t : Tmp) (s : St) : Option (D × St) := match t with
  | .v d _ => some (d, s)
  | .x i => (match s.get i with
    | some (.lst ds, true) => some (.lst ds, s)
    | some p => some (p.1, s.frz i)
    | none => none)
def args : List Tmp → St → Option (List D × St)
  | [], s => some ([], s)
  | t :: ts, s => do
    let (d, s) ← arg t s
    let (ds, s) ← args ts s
    some (d :: ds, s)
def dsOf : List Tmp → St → Option (List D)
  | [], _ => some []
  | t :: ts, s => do
    let d ← t.d s
    let ds ← dsOf ts s
    some (d :: ds)
def St.wipe (s : St) (own : List Nat) : St := { s with e := own.foldr (fun i e => e.set i none) s.e }
/-- behind a comprehension: its own names as they were -/
def St.back (s s0 : St) (own : List Nat) : St := { s with e := own.foldr (fun i e => e.set i (s0.e.getD i none)) s.e }
def bindT (tg : Tg) (x : D) (s : St) : Option St :=
  match tg with
  | .nm i => some (s.put i x false)
  | .tp is => match x with
    | .tup xs => if xs.length = is.length then some ((is.zip xs).foldl (fun s p => s.put p.1 p.2 false) s) else none
    | _ => none
inductive Src where
  | fix (xs : List D)
  | var (i : Nat)
/-- a list unpacked as a tuple is -/
def unl : D → D
  | .lst xs => .tup xs
  | d => d
abbrev CallF := Str → List D → List (List Int) → Option (D × Bool × List (List Int))
section
variable {α : Type}
def evL (f : E → St → Option (Tmp × St)) : List E → St → Option (List Tmp × St)
  | [], s => some ([], s)
  | e :: es, s => do
    let (t, s) ← f e s
    let (ts, s) ← evL f es s
    some (t :: ts, s)
def andV (f : E → St → Option (Tmp × St)) : List E → St → Option (Tmp × St)
  | [], _ => none
  | [e], s => f e s
  | e :: e' :: es, s => do
    let (t, s) ← f e s
    let d ← t.d s
    let b ← truth d
    if b then andV f (e' :: es) s else some (t, s)
def orV (f : E → St → Option (Tmp × St)) : List E → St → Option (Tmp × St)
  | [], _ => none
  | [e], s => f e s
  | e :: e' :: es, s => do
    let (t, s) ← f e s
    let d ← t.d s
    let b ← truth d
    if b then some (t, s) else orV f (e' :: es) s
def andT (f : E → St → Option (Bool × St)) : List E → St → Option (Bool × St)
  | [], _ => none
  | [e], s => f e s
  | e :: e' :: es, s => do
    let (b, s) ← f e s
    if b then andT f (e' :: es) s else some (false, s)
def orT (f : E → St → Option (Bool × St)) : List E → St → Option (Bool × St)
  | [], _ => none
  | [e], s => f e s
  | e :: e' :: es, s => do
    let (b, s) ← f e s
    if b then some (true, s) else orT f (e' :: es) s
/-- a clause's tests: none, or one -/
def tests (f : E → St → Option (Bool × St)) : List E → St → Option (Bool × St)
  | [], s => some (true, s)
  | [e], s => f e s
  | _, _ => none
def gat (step : D → St → Option (List α × St)) : List D → St → Option (List α × St)
  | [], s => some ([], s)
  | x :: xs, s => do
    let (l, s) ← step x s
    let (r, s) ← gat step xs s
    some (l ++ r, s)
def gatV (step : D → St → Option (List α × St)) (i : Nat) : Nat → Nat → St → Option (List α × St)
  | 0, _, _ => none
  | f + 1, j, s => match s.get i with
    | some (.lst xs, true) => (match xs[j]? with
      | none => some ([], s)
      | some x => do
        let (l, s) ← step x s
        let (r, s) ← gatV step i f (j + 1) s
        some (l ++ r, s))
    | _ => none
def big : Nat := 100000
def gats (step : D → St → Option (List α × St)) : Src → St → Option (List α × St)
  | .fix xs, s => gat step xs s
  | .var i, s => gatV step i big 0 s
end
def optD (f : E → St → Option (Tmp × St)) : Option E → St → Option (Option Int × St)
  | none, s => some (none, s)
  | some e, s => do
    let (t, s) ← f e s
    match ← t.d s with
    | .int i => some (some i, s)
    | _ => none
def varsOf : List Tmp → List Nat
  | [] => []
  | .x i :: r => i :: varsOf r
  | _ :: r => varsOf r
def St.frzs (s : St) (is : List Nat) : St := is.foldl St.frz s
/-- a call's end: what may be an alias of a changeable variable is changeable no more -/
def called (ts : List Tmp) (s : St) (r : D × Bool × List (List Int)) : Tmp × St :=
  (.v r.1 r.2.1, { (if r.1.lf then s else s.frzs (varsOf ts)) with b := r.2.2 })
def pairsOf : List Tmp → St → Option (List (D × D) × St)
  | k :: v :: r, s => do
    let (k, s) ← take k s
    let (v, s) ← take v s
    let (kvs, s) ← pairsOf r s
    some ((k, v) :: kvs, s)
  | [], s => some ([], s)
  | _, _ => none
/-- the values in the parameters' order -/
def reordV {α : Type} (ps ks : List Str) (ws : List α) : List α := ps.filterMap fun p => (ks.zip ws).lookup p
def nmOf : E → Str
  | .str z => z
  | _ => ""
def nmsOf (es : List E) : List Str := es.map nmOf
def zipD : List D → List D → List D
  | x :: xs, y :: ys => .tup [x, y] :: zipD xs ys
  | _, _ => []
def enumD : Int → List D → List D
  | _, [] => []
  | k, x :: xs => .tup [.int k, x] :: enumD (k + 1) xs
def rngD (lo : Int) : Nat → List D
  | 0 => []
  | n + 1 => .int lo :: rngD (lo + 1) n
def slotsT : Tg → List Nat
  | .nm i => [i]
  | .tp is => is
section
variable {α : Type}
/-- a turn: the target bound, the body run, the block's own names forgotten -/
def stepB (tg : Tg) (own : List Nat) (B : St → Option (List α × St)) (x : D) (s : St) : Option (List α × St) := do
  let s ← bindT tg x s
  let (l, s) ← B s
  some (l, s.wipe own)
def bodyL (Tt : St → Option (Bool × St)) (Te : St → Option (Tmp × St)) (s : St) : Option (List D × St) := do
  let (b, s) ← Tt s
  if b then do
    let (t, s) ← Te s
    let (d, s) ← take t s
    some ([d], s)
  else some ([], s)
def bodyK (Tt : St → Option (Bool × St)) (Tk Tv : St → Option (Tmp × St)) (s : St) : Option (List (Key × D) × St) := do
  let (b, s) ← Tt s
  if b then do
    let (t, s) ← Tk s
    let k ← (← t.d s) |> key1
    let (u, s) ← Tv s
    let (v, s) ← take u s
    some ([(k, v)], s)
  else some ([], s)
def body2 (Tt : St → Option (Bool × St)) (It : St → Option (Src × St)) (tg2 : Tg) (B2 : St → Option (List α × St)) (s : St) : Option (List α × St) := do
  let (b, s) ← Tt s
  if b then do
    let (src, s) ← It s
    let (l, s1) ← gats (stepB tg2 (slotsT tg2) B2) src (s.wipe (slotsT tg2))
    some (l, s1.back s (slotsT tg2))
  else some ([], s)
end
mutual
def ev (C : CallF) : Nat → E → St → Option (Tmp × St)
  | 0, _, _ => none
  | n + 1, e, s => match e with
    | .loc i => (match s.get i with
      | some (_, true) => some (.x i, s)
      | some (d, false) => some (.v d false, s)
      | none => none)
    | .glob _ => none
    | .int i => some (.v (.int i) false, s)
    | .str z => some (.v (.str z) false, s)
    | .bl b => some (.v (.bl b) false, s)
    | .non => some (.v .non false, s)
    | .tup es => do
      let (ts, s) ← evL (ev C n) es s
      let (ds, s) ← takes ts s
      if ds.length ≤ sizeLine then some (.v (.tup ds) false, s) else none
    | .lst es => do
      let (ts, s) ← evL (ev C n) es s
      let (ds, s) ← takes ts s
      if ds.length ≤ sizeLine then some (.v (.lst ds) true, s) else none
    | .nbox es => do
      let (ts, s) ← evL (ev C n) es s
      let (ds, s) ← takes ts s
      let is ← intsOf ds
      if is.length ≤ sizeLine then some (.v (.box s.b.length) false, { s with b := s.b ++ [is] }) else none
    | .dic kvs => (match kvs with
      | [] => some (.v (.dK []) true, s)
      | _ => none)
    | .bin op a b => do
      let (t, s) ← ev C n a s
      let (u, s) ← ev C n b s
      let x ← t.d s
      let y ← u.d s
      let (d, f) ← binD op x y
      some (.v d f, s)
    | .neg a => do
      let (t, s) ← ev C n a s
      match ← t.d s with
      | .int i => some (.v (.int (-i)) false, s)
      | _ => none
    | .cmp op a b => do
      let (t, s) ← ev C n a s
      let (u, s) ← ev C n b s
      let x ← t.d s
      let y ← u.d s
      let r ← cmpD op x y
      some (.v (.bl r) false, s)
    | .chn o1 o2 a b c => do
      let (t, s) ← ev C n a s
      let (u, s) ← ev C n b s
      let x ← t.d s
      let y ← u.d s
      let r ← cmpD o1 x y
      if r then do
        let (w, s) ← ev C n c s
        let y ← u.d s
        let z ← w.d s
        let r ← cmpD o2 y z
        some (.v (.bl r) false, s)
      else some (.v (.bl false) false, s)
    | .and es => andV (ev C n) es s
    | .or es => orV (ev C n) es s
    | .not a => do
      let (t, s) ← ev C n a s
      let d ← t.d s
      let b ← truth d
      some (.v (.bl (!b)) false, s)
    | .ite c a b => do
      let (r, s) ← tst C n c s
      if r then ev C n a s else ev C n b s
    | .ix a i => do
      let (t, s) ← ev C n a s
      let (u, s) ← ev C n i s
      let x ← t.d s
      let y ← u.d s
      match x with
      | .box k => (match y with
        | .int j => do
          let ds ← s.b[k]?
          let d ← L2.atI ds j
          some (.v (.int d) false, s)
        | _ => none)
      | x => do
        let d ← ixD x y
        some (.v d false, s)
    | .sl a lo hi => do
      let (t, s) ← ev C n a s
      let (l, s) ← optD (ev C n) lo s
      let (h, s) ← optD (ev C n) hi s
      let x ← t.d s
      let (d, f) ← slD x l h
      some (.v d f, s)
    | .rev a => do
      let (t, s) ← ev C n a s
      match ← t.d s with
      | .lst xs => some (.v (.lst xs.reverse) true, s)
      | .tup xs => some (.v (.tup xs.reverse) false, s)
      | _ => none
    | .fld a f => do
      let (t, s) ← ev C n a s
      let x ← t.d s
      let d ← fldD x f
      some (.v d false, s)
    | .call f es => if f.cps.toList.contains 46 then none else do
      let (ts, s) ← evL (ev C n) es s
      let (ds, s) ← args ts s
      let r ← C f ds s.b
      some (called ts s r)
    | .callK f es ks ws => if f.cps.toList.contains 46 then none else do
      let (ts, s) ← evL (ev C n) ws s
      let (ds, s) ← args ts s
      let r ← C f (reordV (nmsOf es) ks ds) s.b
      some (called ts s r)
    | .bi f es => do
      let (ts, s) ← evL (ev C n) es s
      let ds ← dsOf ts s
      let (d, fr) ← biD f ds
      some (.v d fr, s)
    | .isi a ts _ => do
      let (t, s) ← ev C n a s
      let x ← t.d s
      let b ← isi x (ts.map fun z => String.ofList (z.cps.toList.map Char.ofNat))
      some (.v (.bl b) false, s)
    | .sset a => do
      let (t, s) ← ev C n a s
      match ← t.d s with
      | .lst xs => do
        let ys ← strsOf xs
        if ys.length + 1 < scanBound then some (.v (.lst ((ssrt ys).map .str)) true, s) else none
      | .tup xs => do
        let ys ← strsOf xs
        if ys.length + 1 < scanBound then some (.v (.lst ((ssrt ys).map .str)) true, s) else none
      | _ => none
    | .lset a => none
    | .lof it => (match it with
      | .vals a => do
        let (t, s) ← ev C n a s
        match ← t.d s with
        | .dK kvs => some (.v (.lst (kvs.map (·.2))) true, s)
        | _ => none
      | .rng (.int lo) b => do
        let (u, s) ← ev C n b s
        match ← u.d s with
        | .int hi => if (lo == 0 && inB hi) = true then some (.v (.lst (rngD 0 hi.toNat)) true, s) else none
        | _ => none
      | _ => none)
    | .meth o m es =>
      if muts.contains m then (match o with
        | .loc i => if mutK m (s.get i) then do
          let (ts, s) ← evL (ev C n) es s
          let (ds, s) ← takes ts s
          match s.get i with
          | some (d, true) => do
            let (d, r) ← mutD m d ds
            some (.v r false, s.put i d true)
          | _ => none
          else none
        | _ => none)
      else do
        let (t, s) ← ev C n o s
        let x0 ← t.d s
        match x0 with
        | .ins c fs => if (fs.lookup m).isSome then none else do
          let (ts, s) ← evL (ev C n) es s
          let (ds, s) ← args (t :: ts) s
          let r ← C (c ++ ("." : Str) ++ m) ds s.b
          some (called (t :: ts) s r)
        | x0 => if metK m x0 = false then none else do
          let (ts, s) ← evL (ev C n) es s
          let x ← t.d s
          let ds ← dsOf ts s
          let (d, fr) ← metD m x ds
          some (.v d fr, s)
    | .lc el g own => (match g with
      | .mk tg it ifs => do
        let (src, s) ← itr C n it s
        let (l, s1) ← gats (stepB tg own (bodyL (tests (tst C n) ifs) (ev C n el))) src (s.wipe own)
        if l.length ≤ sizeLine then some (.v (.lst l) true, s1.back s own) else none)
    | .lc2 el g h own => (match g, h with
      | .mk tg it ifs, .mk tg2 it2 ifs2 => do
        let (src, s) ← itr C n it s
        let (l, s1) ← gats (stepB tg own (body2 (tests (tst C n) ifs) (itr C n it2) tg2 (bodyL (tests (tst C n) ifs2) (ev C n el)))) src (s.wipe own)
        if l.length ≤ sizeLine then some (.v (.lst l) true, s1.back s own) else none)
    | .dc k v g own => (match g with
      | .mk tg it ifs => do
        let (src, s) ← itr C n it s
        let (l, s1) ← gats (stepB tg own (bodyK (tests (tst C n) ifs) (ev C n k) (ev C n v))) src (s.wipe own)
        if l.length ≤ sizeLine then some (.v (.dK (ptAll l)) true, s1.back s own) else none)
    | .dc2 _ _ _ _ _ => none
def tst (C : CallF) : Nat → E → St → Option (Bool × St)
  | 0, _, _ => none
  | n + 1, e, s => match e with
    | .and es => andT (tst C n) es s
    | .or es => orT (tst C n) es s
    | .not a => do
      let (b, s) ← tst C n a s
      some (!b, s)
    | .ite _ _ _ => none
    | e => do
      let (t, s) ← ev C n e s
      let d ← t.d s
      let b ← truth d
      some (b, s)
def itr (C : CallF) : Nat → It → St → Option (Src × St)
  | 0, _, _ => none
  | n + 1, it, s => match it with
    | .ex e => do
      let (t, s) ← ev C n e s
      match t with
      | .x i => (match s.get i with
        | some (.lst _, _) => some (.var i, s)
        | some (.dK kvs, _) => some (.fix (kvs.map fun kv => kD kv.1), s.frz i)
        | some (.dT kvs, _) => some (.fix (kvs.map fun kv => .tup (kv.1.map kD)), s.frz i)
        | _ => none)
      | .v d _ => do
        let xs ← itemsOf d
        some (.fix xs, s)
    | .rng a b => do
      let (t, s) ← ev C n a s
      let (u, s) ← ev C n b s
      match ← t.d s, ← u.d s with
      | .int lo, .int hi => if (inB lo && inB hi) = true then some (.fix (rngD lo (hi - lo).toNat), s) else none
      | _, _ => none
    | .zip a b => do
      let (t, s) ← ev C n a s
      let (u, s) ← ev C n b s
      let (x, s) ← take t s
      let (y, s) ← take u s
      match x, y with
      | .lst xs, .lst ys => some (.fix (zipD xs ys), s)
      | .tup xs, .tup ys => some (.fix (zipD xs ys), s)
      | _, _ => none
    | .enum a k => if k = 0 then do
      let (t, s) ← ev C n a s
      let (x, s) ← take t s
      match x with
      | .lst xs => some (.fix (enumD 0 xs), s)
      | _ => none
      else none
    | .items a => do
      let (t, s) ← ev C n a s
      let (x, s) ← take t s
      match x with
      | .dK kvs => some (.fix (kvs.map fun kv => .tup [kD kv.1, kv.2]), s)
      | _ => none
    | .vals a => do
      let (t, s) ← ev C n a s
      let (x, s) ← take t s
      match x with
      | .dK kvs => some (.fix (kvs.map (·.2)), s)
      | _ => none
end
inductive Fl where
  | nx
  | rt (d : D) (fr : Bool)
def runL (f : S → St → Option (Fl × St)) : List S → St → Option (Fl × St)
  | [], s => some (.nx, s)
  | a :: r, s => do
    let (fl, s) ← f a s
    match fl with
    | .nx => runL f r s
    | .rt d b => some (.rt d b, s)
def forL (step : D → St → Option (Fl × St)) : List D → St → Option (Fl × St)
  | [], s => some (.nx, s)
  | x :: xs, s => do
    let (fl, s) ← step x s
    match fl with
    | .nx => forL step xs s
    | .rt d b => some (.rt d b, s)
def whlL (tt : St → Option (Bool × St)) (body : St → Option (Fl × St)) : Nat → St → Option (Fl × St)
  | 0, _ => none
  | f + 1, s => do
    let (b, s) ← tt s
    if b then do
      let (fl, s) ← body s
      match fl with
      | .nx => whlL tt body f s
      | .rt d b => some (.rt d b, s)
    else some (.nx, s)
/-- values with a variable's own object settled -/
def setl : List Tmp → St → Option (List (D × Bool) × St)
  | [], s => some ([], s)
  | .v d fr :: ts, s => do
    let (r, s) ← setl ts s
    some ((d, fr) :: r, s)
  | .x i :: ts, s => do
    let p ← s.get i
    let (r, s) ← setl ts (s.frz i)
    some ((p.1, false) :: r, s)
def puts : List Nat → List (D × Bool) → St → Option St
  | [], [], s => some s
  | i :: is, p :: ps, s => puts is ps (s.put i p.1 p.2)
  | _, _, _ => none
def asgs (is : List Nat) (ts : List Tmp) (s : St) : Option St := do
  let (ps, s) ← setl ts s
  puts is ps s
/-- one name stored to: what another name owned is its own now, and the other one is forgotten -/
def asg1 (i : Nat) (t : Tmp) (s : St) : Option St := match t with
  | .v d fr => some (s.put i d fr)
  | .x j => match s.get j with
    | some (d, true) => if i = j then none else some ((s.wipe [j]).put i d true)
    | _ => none
def ex (C : CallF) (N : Nat) : Nat → S → St → Option (Fl × St)
  | 0, _, _ => none
  | n + 1, a, s => match a with
    | .asg i e => do
      let (t, s) ← ev C N e s
      let s ← asg1 i t s
      some (.nx, s)
    | .asgT is e => do
      let (t, s) ← ev C N e s
      let (d, s) ← take t s
      let s ← bindT (.tp is) (unl d) s
      some (.nx, s)
    | .par is es => do
      let (ts, s) ← evL (ev C N) es s
      if ts.length ≤ sizeLine then do
        let s ← asgs is ts s
        some (.nx, s)
      else none
    | .asgI o i e => do
      let (t, s) ← ev C N e s
      let (d, s) ← take t s
      match o with
      | .loc j => if (s.get j).isSome = false then none else do
        let (u, s) ← ev C N i s
        let k ← u.d s
        match s.get j with
        | some (.box m, _) => (match k, d with
          | .int p, .int z => do
            let ds ← s.b[m]?
            let q ← L2.ixN ds.length p
            some (.nx, { s with b := s.b.set m (ds.set q z) })
          | _, _ => none)
        | some (x, true) => do
          let x ← setD x k d
          some (.nx, s.put j x true)
        | _ => none
      | _ => none
    | .asgF o f e => do
      let (t, s) ← ev C N e s
      let (d, s) ← take t s
      match o with
      | .loc j => (match s.get j with
        | some (.ins c fs, true) => if fs.length < 1000 ∧ f ∈ flds then some (.nx, s.put j (.ins c (ptF f d fs)) true) else none
        | _ => none)
      | _ => none
    | .aug i op e => do
      match s.get i with
      | some (.int x, _) => do
        let (t, s) ← ev C N e s
        match op, ← t.d s with
        | .Add, .int y => some (.nx, s.put i (.int (x + y)) false)
        | _, _ => none
      | _ => none
    | .ex e => do
      let (_, s) ← ev C N e s
      some (.nx, s)
    | .ret e => do
      let (t, s) ← ev C N e s
      match t with
      | .v d fr => some (.rt d fr, s)
      | .x i => do
        let p ← s.get i
        some (.rt p.1 p.2, s)
    | .iff c a b => do
      let (r, s) ← tst C N c s
      if r then runL (ex C N n) a s else runL (ex C N n) b s
    | .for_ tg it b => do
      let (src, s) ← itr C N it s
      let (xs, s) ← match src with
        | .fix xs => some (xs, s)
        | .var i => (match s.get i with
          | some (.lst xs, _) => some (xs, s.frz i)
          | _ => none)
      forL (fun x s => do
        let s ← bindT tg x s
        runL (ex C N n) b s) xs s
    | .whl c b => whlL (tst C N c) (fun s => runL (ex C N n) b s) big s
    | .pass => some (.nx, s)
    | .stop => none

/-! ### defs -/
def initSt (F : FDef) (ds : List D) (b : List (List Int)) : St := { e := ds.map (fun d => some (d, false)) ++ List.replicate (F.ns - ds.length) none, b := b }
/-- a def's body run: its value, and whether it is new -/
def runF (C : CallF) (N : Nat) (F : FDef) (ds : List D) (b : List (List Int)) : Option (D × Bool × List (List Int)) :=
  if ds.length = F.np then do
    let (fl, s) ← runL (ex C N N) F.body (initSt F ds b)
    match fl with
    | .nx => some (.non, false, s.b)
    | .rt d fr => some (d, fr, s.b)
  else none
/-- a class called: its __init__ run over a new instance -/
def runI (C : CallF) (N : Nat) (c : Str) (F : FDef) (ds : List D) (b : List (List Int)) : Option (D × Bool × List (List Int)) :=
  if ds.length + 1 = F.np ∧ ds.isEmpty = false then do
    let s0 := initSt F (.ins c [] :: ds) b
    let (fl, s) ← runL (ex C N N) F.body (s0.put 0 (.ins c []) true)
    match fl with
    | .nx => do
      let p ← s.get 0
      match p.1 with
      | .ins c fs => some (.ins c fs, false, s.b)
      | _ => none
    | .rt _ _ => none
  else none
abbrev Tbl := List (Str × FDef)
def callAt (T : Tbl) (N : Nat) : Nat → CallF
  | 0, _, _, _ => none
  | k + 1, f, ds, b => match T.lookup f with
    | none => none
    | some F => (match F.kd with
      | .fn => runF (callAt T N k) N F ds b
      | .ini => runI (callAt T N k) N f F ds b)

/-! ### the eraser -/
def nameOf? : Expr → Option Str
  | .Name x _ => some x
  | _ => none
/-- a name here: a slot, or a global's -/
def slotOf (N : List Str) (sc : Scope) (x : Str) : Option Nat :=
  match sc.names.lookup x with
  | some .local => N.findIdx? (fun y => decide (y = x))
  | some .cell => N.findIdx? (fun y => decide (y = x))
  | some .free => N.findIdx? (fun y => decide (y = x))
  | _ => none
def globOf (sc : Scope) (x : Str) : Bool := match sc.names.lookup x with
  | some .globalImplicit => true
  | _ => false
def mapO {α β : Type} (f : α → Option β) : List α → Option (List β)
  | [] => some []
  | x :: xs => do
    let y ← f x
    let ys ← mapO f xs
    some (y :: ys)
/-- a name that is stored to here -/
def slotL (N : List Str) (sc : Scope) (x : Str) : Option Nat :=
  match sc.names.lookup x with
  | some .local => N.findIdx? (fun y => decide (y = x))
  | some .cell => N.findIdx? (fun y => decide (y = x))
  | _ => none
def ownOf (N : List Str) (sc : Scope) : Option (List (Str × Nat)) :=
  mapO (fun y => (N.findIdx? fun z => decide (z = y)).map fun i => (y, i)) ((sc.names.filter fun y => (y.2 == .local || y.2 == .cell) && decide (y.1 ≠ (".0" : Str))).map (·.1))
def isName : Expr → Bool
  | .Name _ _ => true
  | _ => false
def isTup : Expr → Bool
  | .Tuple _ _ _ => true
  | _ => false
def inOwn (own : List (Str × Nat)) (tg : Tg) : Bool := (slotsT tg).all fun i => (own.map (·.2)).contains i
def tgOf (N : List Str) (sc : Scope) : Expr → Option Tg
  | .Name x _ => (slotL N sc x).map .nm
  | .Tuple es _ _ => do
    let is ← mapO (fun e => do
      let x ← nameOf? e
      slotL N sc x) es
    some (.tp is)
  | _ => none
def biNames : List Str := ["len", "int", "abs", "all", "any", "tuple", "list", "sorted", "min", "max", "sum", "str", "dict", "repr"]
def isiNames : List Str := ["list", "tuple", "int", "bool", "str", "dict"]
def itNames : List Str := ["range", "zip", "enumerate", "set", "super", "isinstance"]
/-- bx: list displays make boxes here -/
structure Ec where
  N : List Str
  bx : Bool
  gs : List (Str × Key) := []
  pm : List (Str × List Str) := []
mutual
def erE (c : Ec) : Nat → Scope → Expr → Option E
  | 0, _, _ => none
  | n + 1, sc, e => match e with
    | .Name x _ => if x == ("__debug__" : Str) || x == ("__classdict__" : Str) then none else (match slotOf c.N sc x with
      | some i => some (.loc i)
      | none => if globOf sc x then (match c.gs.lookup x with
        | some (.inr z) => some (.str z)
        | some (.inl i) => some (.int i)
        | none => none) else none)
    | .Constant k _ _ => (match k with
      | .int i => some (.int i)
      | .str s => some (.str s)
      | .bool b => some (.bl b)
      | .none => some .non
      | _ => none)
    | .Tuple es _ _ => do
      let es ← mapO (erE c n sc) es
      some (.tup es)
    | .List es _ => do
      let es ← mapO (erE c n sc) es
      some (if c.bx then .nbox es else .lst es)
    | .Dict ks vs _ => do
      let ks ← mapO (fun k => do
        let k ← k
        erE c n sc k) ks
      let vs ← mapO (erE c n sc) vs
      if ks.length = vs.length then some (.dic (ks.zip vs)) else none
    | .BinOp a op b _ => do
      let a ← erE c n sc a
      let b ← erE c n sc b
      some (.bin op a b)
    | .UnaryOp op a _ => do
      let a ← erE c n sc a
      match op with
      | .Not => some (.not a)
      | .USub => some (.neg a)
      | _ => none
    | .BoolOp op es _ => do
      let es ← mapO (erE c n sc) es
      match op with
      | .And => some (.and es)
      | .Or => some (.or es)
    | .IfExp t a b _ => do
      let t ← erE c n sc t
      let a ← erE c n sc a
      let b ← erE c n sc b
      some (.ite t a b)
    | .Compare a [op] [b] _ => if behindInMarks op b then none else do
      let a ← erE c n sc a
      let b ← erE c n sc b
      some (.cmp op a b)
    | .Compare a [o1, o2] [b, d] _ => if lastMarks [o1, o2] [b, d] then none else do
      let a ← erE c n sc a
      let b ← erE c n sc b
      let d ← erE c n sc d
      some (.chn o1 o2 a b d)
    | .Subscript a i _ => (match i with
      | .Slice lo hi none _ => do
        let a ← erE c n sc a
        let lo ← (match lo with
          | none => some none
          | some e => (erE c n sc e).map some)
        let hi ← (match hi with
          | none => some none
          | some e => (erE c n sc e).map some)
        some (.sl a lo hi)
      | .Slice none none (some (.UnaryOp .USub (.Constant (.int 1) _ _) _)) _ => do
        let a ← erE c n sc a
        some (.rev a)
      | .Slice _ _ _ _ => none
      | i => do
        let a ← erE c n sc a
        let i ← erE c n sc i
        some (.ix a i))
    | .Attribute a f _ => do
      let a ← erE c n sc a
      some (.fld a f)
    | .ListComp el gs s _ => do
      let own ← ownOf c.N s
      if L2.blkC c.N sc s own then (match gs with
      | [⟨tg, it, ifs, 0⟩] => do
        let it ← erI c n sc tg it
        let tg ← tgOf c.N s tg
        let ifs ← mapO (erE c n s) ifs
        let el ← erE c n s el
        if inOwn own tg then some (.lc el (.mk tg it ifs) (own.map (·.2))) else none
      | [⟨tg, it, ifs, 0⟩, ⟨tg2, it2, ifs2, 0⟩] => do
        let it ← erI c n sc tg it
        let tg ← tgOf c.N s tg
        let ifs ← mapO (erE c n s) ifs
        let it2 ← erI c n s tg2 it2
        let tg2 ← tgOf c.N s tg2
        let ifs2 ← mapO (erE c n s) ifs2
        let el ← erE c n s el
        if inOwn own tg && inOwn own tg2 then some (.lc2 el (.mk tg it ifs) (.mk tg2 it2 ifs2) (own.map (·.2))) else none
      | _ => none)
      else none
    | .DictComp k v gs s _ => do
      let own ← ownOf c.N s
      if L2.blkC c.N sc s own then (match gs with
      | [⟨tg, it, ifs, 0⟩] => do
        let it ← erI c n sc tg it
        let tg ← tgOf c.N s tg
        let ifs ← mapO (erE c n s) ifs
        let k ← erE c n s k
        let v ← erE c n s v
        if inOwn own tg then some (.dc k v (.mk tg it ifs) (own.map (·.2))) else none
      | [⟨tg, it, ifs, 0⟩, ⟨tg2, it2, ifs2, 0⟩] => do
        let it ← erI c n sc tg it
        let tg ← tgOf c.N s tg
        let ifs ← mapO (erE c n s) ifs
        let it2 ← erI c n s tg2 it2
        let tg2 ← tgOf c.N s tg2
        let ifs2 ← mapO (erE c n s) ifs2
        let k ← erE c n s k
        let v ← erE c n s v
        if inOwn own tg && inOwn own tg2 then some (.dc2 k v (.mk tg it ifs) (.mk tg2 it2 ifs2) (own.map (·.2))) else none
      | _ => none)
      else none
    | .Call f as ks p => if 28 < as.length then none else (match f with
      | .Name x _ =>
        if globOf sc x then
          (if x = ("isinstance" : Str) then (match as, ks with
            | [a, .Name t _], [] => do
              let a ← erE c n sc a
              if globOf sc t && isiNames.contains t then some (.isi a [t] false) else none
            | [a, .Tuple ts _ _], [] => do
              let a ← erE c n sc a
              let ts ← mapO nameOf? ts
              if ts.all (fun t => globOf sc t && isiNames.contains t) && decide (ts.length ≤ 6) then some (.isi a ts true) else none
            | _, _ => none)
          else if biNames.contains x then (match as, ks with
            | [.Call (.Name y _) [a] [] _], [] =>
              if x = ("sorted" : Str) ∧ y = ("set" : Str) ∧ globOf sc y then do
                let a ← erE c n sc a
                some (.sset a)
              else if x = ("len" : Str) ∧ y = ("set" : Str) ∧ globOf sc y then do
                let a ← erE c n sc a
                some (.lset a)
              else if x = ("list" : Str) ∧ y = ("range" : Str) ∧ globOf sc y then do
                let a ← erE c n sc a
                some (.lof (.rng (.int 0) a))
              else do
                let es ← mapO (erE c n sc) as
                some (.bi x es)
            | [.Call (.Attribute o m ap) [] [] cp], [] =>
              if x = ("list" : Str) ∧ m = ("values" : Str) ∧ ap.endLine == cp.line then do
                let o ← erE c n sc o
                some (.lof (.vals o))
              else do
                let es ← mapO (erE c n sc) as
                some (.bi x es)
            | as, [] => do
              let es ← mapO (erE c n sc) as
              some (.bi x es)
            | _, _ => none)
          else if itNames.contains x || x == ("__debug__" : Str) then none
          else (match ks with
            | [] => do
              let es ← mapO (erE c n sc) as
              some (.call x es)
            | ks => (match as with
              | [] => do
                let ps ← c.pm.lookup x
                let ns ← mapO (fun k : Keyword => k.arg) ks
                let ws ← mapO (fun k : Keyword => erE c n sc k.value) ks
                if List.isPerm ns ps then some (.callK x (ps.map .str) ns ws) else none
              | _ => none)))
        else none
      | .Attribute o m ap => (match ks with
        | [] => if !(ap.endLine == p.line) then none else do
          let o' ← erE c n sc o
          let es ← mapO (erE c n sc) as
          if muts.contains m && !isName o then none else some (.meth o' m es)
        | _ => none)
      | _ => none)
    | _ => none
def erI (c : Ec) : Nat → Scope → Expr → Expr → Option It
  | 0, _, _, _ => none
  | n + 1, sc, tg, e => match e with
    | .Call (.Name x p) as [] q =>
      if globOf sc x && x == ("range" : Str) then (match as with
        | [b] => do
          let b ← erE c n sc b
          some (.rng (.int 0) b)
        | [a, b] => do
          let a ← erE c n sc a
          let b ← erE c n sc b
          some (.rng a b)
        | _ => none)
      else if globOf sc x && x == ("zip" : Str) then (match as, isTup tg with
        | [a, b], true => do
          let a ← erE c n sc a
          let b ← erE c n sc b
          some (.zip a b)
        | _, _ => none)
      else if globOf sc x && x == ("enumerate" : Str) then (match as, isTup tg with
        | [a], true => do
          let a ← erE c n sc a
          some (.enum a 0)
        | [a, .Constant (.int k) _ _], true => if k = 0 then none else do
          let a ← erE c n sc a
          some (.enum a k)
        | _, _ => none)
      else do
        let e ← erE c n sc (.Call (.Name x p) as [] q)
        some (.ex e)
    | .Call (.Attribute o m ap) [] [] cp =>
      if m == ("items" : Str) && (ap.endLine == cp.line) then do
        let o ← erE c n sc o
        if isTup tg then some (.items o) else none
      else if m == ("values" : Str) && (ap.endLine == cp.line) then do
        let o ← erE c n sc o
        some (.vals o)
      else do
        let e ← erE c n sc (.Call (.Attribute o m ap) [] [] cp)
        some (.ex e)
    | e => do
      let e ← erE c n sc e
      some (.ex e)
end
/-- how a tuple is stored to a tuple of names: some (some names): from the right, no tuple seen; some none: by a tuple -/
def starIn (vs : List Expr) : Bool := vs.any fun | .Starred .. => true | _ => false
def parNm (sc : Scope) (l : Nat) : Expr → Option Str
  | .Name id pos => if sc.names.lookup id == some .local && pos.line == l then some id else none
  | _ => none
def parNames (sc : Scope) (ts : List Expr) : List Str := ts.filterMap (parNm sc ((ts.head?.map (·.pos.line)).getD 0))
def parC (sc : Scope) (ts vs : List Expr) : Option (Option (List Str)) :=
  if !(ts.length == 2 || ts.length == 3) || vs.length != ts.length then some none
  else if starIn vs then some none
  else if (parNames sc ts).length != ts.length || (parNames sc ts).eraseDups.length != (parNames sc ts).length then some none
  else if vs.all (foldedForSure 8) then some none
  else if vs.all (constantsAlone 8) then none
  else some (some (parNames sc ts))
def notComp : Expr → Bool
  | .ListComp _ _ _ _ => false
  | .SetComp _ _ _ _ => false
  | .DictComp _ _ _ _ _ => false
  | _ => true
def erS (c : Ec) (F : Nat) : Nat → Scope → Stmt → Option S
  | 0, _, _ => none
  | n + 1, sc, a => match a with
    | .Assign [.Name x _] e _ => do
      let i ← slotL c.N sc x
      let e ← erE c F sc e
      some (.asg i e)
    | .Assign [.Tuple ts _ _] e _ => do
      let tg ← tgOf c.N sc (.Tuple ts 0 ⟨0, 0, 0, 0⟩)
      match tg with
      | .tp is => (match e with
        | .Tuple es _ _ => do
          let _ ← parC sc ts es
          let es ← mapO (erE c F sc) es
          if es.length = is.length then some (.par is es) else none
        | e => do
          let e' ← erE c F sc e
          if notComp e then some (.asgT is e') else none)
      | _ => none
    | .Assign [.Subscript o i _] e _ => do
      let o' ← erE c F sc o
      let i ← erE c F sc i
      let e' ← erE c F sc e
      if notComp e && isName o then some (.asgI o' i e') else none
    | .Assign [.Attribute o f _] e _ => do
      let o' ← erE c F sc o
      let e' ← erE c F sc e
      if notComp e && isName o then some (.asgF o' f e') else none
    | .AugAssign (.Name x _) op e _ => do
      let i ← slotL c.N sc x
      let e ← erE c F sc e
      some (.aug i op e)
    | .Expr e _ => do
      let e' ← erE c F sc e
      if notComp e then some (.ex e') else none
    | .Return (some e) _ => do
      let e ← erE c F sc e
      some (.ret e)
    | .If t a b _ => do
      let t ← erE c F sc t
      let a ← mapO (erS c F n sc) a
      let b ← mapO (erS c F n sc) b
      some (.iff t a b)
    | .For tg it b [] _ => do
      let it ← erI c F sc tg it
      let tg ← tgOf c.N sc tg
      let b ← mapO (erS c F n sc) b
      some (.for_ tg it b)
    | .While t b [] _ => do
      let t ← erE c F sc t
      let b ← mapO (erS c F n sc) b
      some (.whl t b)
    | .Pass _ => some .pass
    | .Raise _ _ _ => some .stop
    | _ => none
/-- all names of comprehensions within -/
def addN (N : List Str) (sc : Scope) : List Str := sc.names.foldl (fun N y => if (y.2 == .local || y.2 == .cell) && decide (y.1 ≠ (".0" : Str)) && !N.contains y.1 then N ++ [y.1] else N) N
def lay (c : Ec) (F : Nat) (kd : Kd) (np : Nat) (sc : Scope) (body : List Stmt) : Option FDef := do
  let b ← mapO (erS c F F sc) body
  some ⟨kd, np, c.N.length, b⟩
end Mp
/-! Mp, part B: what a value tree stands for over the hand layer's heap; frames. -/
namespace Mp
open PySem PySem.Spec PyProof.Rows L2
abbrev Fr0 := PySem.W.Frag

mutual
inductive Rep (K : Fr0) (cm : Str → Option Addr) (F : Hp) (L : List Addr) : D → V → Prop
  | non : Rep K cm F L .non .non
  | bl (b : Bool) : Rep K cm F L (.bl b) (.bl b)
  | int (i : Int) : Rep K cm F L (.int i) (.int i)
  | str (x : Str) : Rep K cm F L (.str x) (.str x)
  | tup {a : Addr} {vs : List V} {ds : List D} : F a = some (.tup vs) → RepL K cm F L ds vs → Rep K cm F L (.tup ds) (.ref a)
  | lst {a : Addr} {vs : List V} {ds : List D} : F a = some (.lst vs) → RepL K cm F L ds vs → Rep K cm F L (.lst ds) (.ref a)
  | scr {a : Addr} {is : List Int} : SqL K F a (is.map V.int) → Rep K cm F L (.scr is) (.ref a)
  | dK {a : Addr} {o : Obj} {ks : List (Key × D)} {vs : List (Key × V)} : F a = some (.frz o (.dK vs)) → RepK K cm F L ks vs → Rep K cm F L (.dK ks) (.ref a)
  | dT {a : Addr} {o : Obj} {ks : List (List Key × D)} {vs : List (List Key × V)} : F a = some (.frz o (.dT vs)) → RepT K cm F L ks vs → Rep K cm F L (.dT ks) (.ref a)
  | ins {a C dx : Addr} {c : Str} {fs : List (Str × D)} {vs : List (Str × V)} : cm c = some C → F a = some (.ins C dx vs) → RepF K cm F L fs vs → Rep K cm F L (.ins c fs) (.ref a)
  | box {k : Nat} {a : Addr} : L[k]? = some a → Rep K cm F L (.box k) (.ref a)
inductive RepL (K : Fr0) (cm : Str → Option Addr) (F : Hp) (L : List Addr) : List D → List V → Prop
  | nil : RepL K cm F L [] []
  | cons {d : D} {v : V} {ds : List D} {vs : List V} : Rep K cm F L d v → RepL K cm F L ds vs → RepL K cm F L (d :: ds) (v :: vs)
inductive RepK (K : Fr0) (cm : Str → Option Addr) (F : Hp) (L : List Addr) : List (Key × D) → List (Key × V) → Prop
  | nil : RepK K cm F L [] []
  | cons {k : Key} {d : D} {v : V} {ds : List (Key × D)} {vs : List (Key × V)} : Rep K cm F L d v → RepK K cm F L ds vs → RepK K cm F L ((k, d) :: ds) ((k, v) :: vs)
inductive RepT (K : Fr0) (cm : Str → Option Addr) (F : Hp) (L : List Addr) : List (List Key × D) → List (List Key × V) → Prop
  | nil : RepT K cm F L [] []
  | cons {k : List Key} {d : D} {v : V} {ds : List (List Key × D)} {vs : List (List Key × V)} : Rep K cm F L d v → RepT K cm F L ds vs → RepT K cm F L ((k, d) :: ds) ((k, v) :: vs)
inductive RepF (K : Fr0) (cm : Str → Option Addr) (F : Hp) (L : List Addr) : List (Str × D) → List (Str × V) → Prop
  | nil : RepF K cm F L [] []
  | cons {k : Str} {d : D} {v : V} {ds : List (Str × D)} {vs : List (Str × V)} : Rep K cm F L d v → RepF K cm F L ds vs → RepF K cm F L ((k, d) :: ds) ((k, v) :: vs)
end

/-- the frozen part grows -/
def Sub (F F' : Hp) : Prop := ∀ a o, F a = some o → F' a = some o
theorem Sub.refl (F : Hp) : Sub F F := fun _ _ h => h
theorem Sub.trans {F G H : Hp} (h : Sub F G) (h' : Sub G H) : Sub F H := fun a o e => h' a o (h a o e)
theorem Sub.rd {F F' : Hp} (h : Sub F F') {a : Addr} {u : HO} (r : Rd F a u) : Rd F' a u := by
  rcases r with r | ⟨o, r⟩
  · exact .inl (h _ _ r)
  · exact .inr ⟨o, h _ _ r⟩
theorem Sub.sqL {K : Fr0} {F F' : Hp} (h : Sub F F') {a : Addr} {xs : List V} (r : SqL K F a xs) : SqL K F' a xs := by
  rcases r with r | r
  · exact .inl (h.rd r)
  · exact .inr r
section
variable {K : Fr0} {cm : Str → Option Addr} {F F' : Hp} {L L' : List Addr}
/-- places of boxes kept -/
def Pfx (L L' : List Addr) : Prop := ∀ (k : Nat) (a : Addr), L[k]? = some a → L'[k]? = some a
theorem Pfx.refl (L : List Addr) : Pfx L L := fun _ _ h => h
theorem Pfx.trans {L L' L'' : List Addr} (h : Pfx L L') (h' : Pfx L' L'') : Pfx L L'' := fun k a e => h' k a (h k a e)
theorem Pfx.snoc (L M : List Addr) : Pfx L (L ++ M) := fun k a e => by
  have hk : k < L.length := by
    rcases Nat.lt_or_ge k L.length with h | h
    · exact h
    · rw [List.getElem?_eq_none h] at e; cases e
  rw [List.getElem?_append_left hk]; exact e
mutual
theorem Rep.mono (h : Sub F F') (p : Pfx L L') : ∀ {d : D} {v : V}, Rep K cm F L d v → Rep K cm F' L' d v
  | _, _, .non => .non
  | _, _, .bl b => .bl b
  | _, _, .int i => .int i
  | _, _, .str x => .str x
  | _, _, .tup q r => .tup (h _ _ q) (RepL.mono h p r)
  | _, _, .lst q r => .lst (h _ _ q) (RepL.mono h p r)
  | _, _, .scr q => .scr (h.sqL q)
  | _, _, .dK q r => .dK (h _ _ q) (RepK.mono h p r)
  | _, _, .dT q r => .dT (h _ _ q) (RepT.mono h p r)
  | _, _, .ins c q r => .ins c (h _ _ q) (RepF.mono h p r)
  | _, _, .box e => .box (p _ _ e)
theorem RepL.mono (h : Sub F F') (p : Pfx L L') : ∀ {d : List D} {v : List V}, RepL K cm F L d v → RepL K cm F' L' d v
  | _, _, .nil => .nil
  | _, _, .cons r t => .cons (Rep.mono h p r) (RepL.mono h p t)
theorem RepK.mono (h : Sub F F') (p : Pfx L L') : ∀ {d : List (Key × D)} {v : List (Key × V)}, RepK K cm F L d v → RepK K cm F' L' d v
  | _, _, .nil => .nil
  | _, _, .cons r t => .cons (Rep.mono h p r) (RepK.mono h p t)
theorem RepT.mono (h : Sub F F') (p : Pfx L L') : ∀ {d : List (List Key × D)} {v : List (List Key × V)}, RepT K cm F L d v → RepT K cm F' L' d v
  | _, _, .nil => .nil
  | _, _, .cons r t => .cons (Rep.mono h p r) (RepT.mono h p t)
theorem RepF.mono (h : Sub F F') (p : Pfx L L') : ∀ {d : List (Str × D)} {v : List (Str × V)}, RepF K cm F L d v → RepF K cm F' L' d v
  | _, _, .nil => .nil
  | _, _, .cons r t => .cons (Rep.mono h p r) (RepF.mono h p t)
end
theorem RepL.len : ∀ {ds : List D} {vs : List V}, RepL K cm F L ds vs → ds.length = vs.length
  | _, _, .nil => rfl
  | _, _, .cons _ t => by simp [RepL.len t]
theorem RepL.get : ∀ {ds : List D} {vs : List V} {i : Nat} {d : D}, RepL K cm F L ds vs → ds[i]? = some d → ∃ v, vs[i]? = some v ∧ Rep K cm F L d v
  | _, _, _, _, .nil, e => by simp at e
  | _, _, 0, _, .cons r _, e => by simp at e; subst e; exact ⟨_, rfl, r⟩
  | _, _, i + 1, _, .cons _ t, e => by
    obtain ⟨v, h1, h2⟩ := RepL.get (i := i) t (by simpa using e)
    exact ⟨v, by simpa using h1, h2⟩
theorem RepL.app : ∀ {ds es : List D} {vs ws : List V}, RepL K cm F L ds vs → RepL K cm F L es ws → RepL K cm F L (ds ++ es) (vs ++ ws)
  | _, _, _, _, .nil, h => h
  | _, _, _, _, .cons r t, h => .cons r (RepL.app t h)
theorem RepL.take : ∀ (n : Nat) {ds : List D} {vs : List V}, RepL K cm F L ds vs → RepL K cm F L (ds.take n) (vs.take n)
  | 0, _, _, _ => .nil
  | _ + 1, _, _, .nil => .nil
  | n + 1, _, _, .cons r t => .cons r (RepL.take n t)
theorem RepL.drop : ∀ (n : Nat) {ds : List D} {vs : List V}, RepL K cm F L ds vs → RepL K cm F L (ds.drop n) (vs.drop n)
  | 0, _, _, h => h
  | _ + 1, _, _, .nil => .nil
  | n + 1, _, _, .cons _ t => RepL.drop n t
theorem RepL.set : ∀ (n : Nat) {ds : List D} {vs : List V} {d : D} {v : V}, RepL K cm F L ds vs → Rep K cm F L d v → RepL K cm F L (ds.set n d) (vs.set n v)
  | _, _, _, _, _, .nil, _ => .nil
  | 0, _, _, _, _, .cons _ t, h => .cons h t
  | n + 1, _, _, _, _, .cons r t, h => .cons r (RepL.set n t h)
theorem RepL.erase : ∀ (n : Nat) {ds : List D} {vs : List V}, RepL K cm F L ds vs → RepL K cm F L (ds.eraseIdx n) (vs.eraseIdx n)
  | _, _, _, .nil => .nil
  | 0, _, _, .cons _ t => t
  | n + 1, _, _, .cons r t => .cons r (RepL.erase n t)
theorem RepL.snoc {ds : List D} {vs : List V} {d : D} {v : V} (h : RepL K cm F L ds vs) (r : Rep K cm F L d v) : RepL K cm F L (ds ++ [d]) (vs ++ [v]) := h.app (.cons r .nil)
theorem RepL.rev : ∀ {ds : List D} {vs : List V}, RepL K cm F L ds vs → RepL K cm F L ds.reverse vs.reverse
  | _, _, .nil => .nil
  | _, _, .cons r t => by rw [List.reverse_cons, List.reverse_cons]; exact (RepL.rev t).snoc r
theorem RepL.repl {ds : List D} {vs : List V} (h : RepL K cm F L ds vs) : ∀ n : Nat, RepL K cm F L (List.replicate n ds).flatten (List.replicate n vs).flatten
  | 0 => .nil
  | n + 1 => by rw [List.replicate_succ, List.replicate_succ, List.flatten_cons, List.flatten_cons]; exact h.app (RepL.repl h n)
theorem RepF.look : ∀ {fs : List (Str × D)} {vs : List (Str × V)} {f : Str} {d : D}, RepF K cm F L fs vs → fs.lookup f = some d → ∃ v, vs.lookup f = some v ∧ Rep K cm F L d v
  | _, _, _, _, .nil, e => by simp at e
  | _, _, f, _, .cons (k := k) r t, e => by
    rw [List.lookup_cons] at e ⊢
    cases h : (f == k) with
    | true => rw [h] at e; cases e; exact ⟨_, rfl, r⟩
    | false => rw [h] at e; exact RepF.look t e
theorem RepF.none : ∀ {fs : List (Str × D)} {vs : List (Str × V)} {f : Str}, RepF K cm F L fs vs → fs.lookup f = none → vs.lookup f = none
  | _, _, _, .nil, _ => rfl
  | _, _, f, .cons (k := k) r t, e => by
    rw [List.lookup_cons] at e ⊢
    cases h : (f == k) with
    | true => rw [h] at e; cases e
    | false => rw [h] at e; exact RepF.none t e
theorem RepF.len : ∀ {fs : List (Str × D)} {vs : List (Str × V)}, RepF K cm F L fs vs → fs.length = vs.length
  | _, _, .nil => rfl
  | _, _, .cons _ t => by simp [RepF.len t]
end

/-! ### a value as it can be read -/
section
variable (K : Fr0) (cm : Str → Option Addr)
/-- d stands at v, its parts frozen in F; its own object is anywhere in H -/
def Vw (H F : Hp) (L : List Addr) : D → V → Prop
  | .lst ds, v => ∃ a vs, v = .ref a ∧ H a = some (.lst vs) ∧ RepL K cm F L ds vs
  | .dK ks, v => ∃ a vs, v = .ref a ∧ Rd H a (.dK vs) ∧ RepK K cm F L ks vs
  | .dT ks, v => ∃ a vs, v = .ref a ∧ Rd H a (.dT vs) ∧ RepT K cm F L ks vs
  | .ins c fs, v => ∃ a C dx vs, v = .ref a ∧ cm c = some C ∧ H a = some (.ins C dx vs) ∧ RepF K cm F L fs vs
  | d, v => Rep K cm F L d v
/-- an object that one variable (or nobody yet) holds -/
def Top (H F : Hp) (L : List Addr) : D → Addr → Prop
  | .lst ds, a => ∃ vs, H a = some (.lst vs) ∧ RepL K cm F L ds vs
  | .dK ks, a => ∃ vs, H a = some (.dK vs) ∧ RepK K cm F L ks vs
  | .dT ks, a => ∃ vs, H a = some (.dT vs) ∧ RepT K cm F L ks vs
  | .ins c fs, a => ∃ C dx vs, cm c = some C ∧ H a = some (.ins C dx vs) ∧ RepF K cm F L fs vs
  | _, _ => False
structure Good (s : St) (σ : L2.St) (H F : Hp) (L : List Addr) : Prop where
  sub : Sub F H
  len : s.e.length = σ.length
  pure : ∀ i d, s.get i = some (d, false) → ∃ v, σ[i]? = some (some v) ∧ Rep K cm F L d v
  own : ∀ i d, s.get i = some (d, true) → ∃ a, σ[i]? = some (some (.ref a)) ∧ F a = none ∧ a ∉ L ∧ Top K cm H F L d a
  apart : ∀ i j d e a, i ≠ j → s.get i = some (d, true) → s.get j = some (e, true) → σ[i]? = some (some (.ref a)) → σ[j]? ≠ some (some (.ref a))
  box : ∀ (k : Nat) is, s.b[k]? = some is → ∃ a, L[k]? = some a ∧ F a = none ∧ H a = some (.lst (is.map V.int))
  lenB : s.b.length = L.length
  nd : L.Nodup
def Own (s : St) (σ : L2.St) (a : Addr) : Prop := ∃ i d, s.get i = some (d, true) ∧ σ[i]? = some (some (.ref a))
def TRep (s : St) (σ : L2.St) (H F : Hp) (L : List Addr) (t : Tmp) (v : V) : Prop :=
  match t with
  | .v d false => Rep K cm F L d v
  | .v d true => ∃ a, v = .ref a ∧ F a = none ∧ a ∉ L ∧ Top K cm H F L d a ∧ ¬ Own s σ a
  | .x i => ∃ p, s.get i = some p ∧ σ[i]? = some (some v)
end
/-- an expression's run: from s, H, F, L to s', H', F', L' -/
structure Ext (σ : L2.St) (s : St) (H F : Hp) (L : List Addr) (s' : St) (H' F' : Hp) (L' : List Addr) : Prop where
  sub : Sub F F'
  new : ∀ a, F' a ≠ none → F a ≠ none ∨ H a = none ∨ Own s σ a ∨ ∃ vs, H a = some (.tup vs)
  pre : Pfx L L'
  newL : ∀ a ∈ L', a ∈ L ∨ H a = none
  frame : ∀ a o, H a = some o → ¬ Own s σ a → a ∉ L → H' a = some o
  dom : ∀ a, H a ≠ none → H' a ≠ none
  ownS : ∀ i d, s'.get i = some (d, true) → ∃ e, s.get i = some (e, true)
  have_ : ∀ i p, s.get i = some p → ∃ q, s'.get i = some q
  same : ∀ i d, s.get i = some (d, false) → s'.get i = some (d, false)
  no : ∀ i, s.get i = none → s'.get i = none
theorem Ext.refl {σ : L2.St} {s : St} {H F : Hp} {L : List Addr} : Ext σ s H F L s H F L :=
  ⟨Sub.refl F, fun _ h => .inl h, Pfx.refl L, fun _ h => .inl h, fun _ _ h _ _ => h, fun _ h => h, fun _ d h => ⟨d, h⟩, fun _ p h => ⟨p, h⟩, fun _ _ h => h, fun _ h => h⟩
theorem Ext.own {σ : L2.St} {s s' : St} {H F H' F' : Hp} {L L' : List Addr} (x : Ext σ s H F L s' H' F' L') {a : Addr} (h : Own s' σ a) : Own s σ a := by
  obtain ⟨i, d, h1, h2⟩ := h
  obtain ⟨e, h3⟩ := x.ownS i d h1
  exact ⟨i, e, h3, h2⟩
theorem Ext.trans {σ : L2.St} {s s1 s2 : St} {H F H1 F1 H2 F2 : Hp} {L L1 L2 : List Addr} (x : Ext σ s H F L s1 H1 F1 L1) (y : Ext σ s1 H1 F1 L1 s2 H2 F2 L2) (hsub : ∀ a, F1 a ≠ none → H1 a ≠ none) (hL : ∀ a ∈ L1, H1 a ≠ none) (hT : ∀ a vs, a ∈ L1 → H1 a ≠ some (.tup vs)) : Ext σ s H F L s2 H2 F2 L2 where
  sub := x.sub.trans y.sub
  new := fun a h => by
    rcases y.new a h with h | h | h | ⟨vs, h⟩
    · exact x.new a h
    · refine .inr (.inl ?_)
      cases e : H a with
      | none => rfl
      | some o => exact absurd h (x.dom a (by rw [e]; simp))
    · exact .inr (.inr (.inl (x.own h)))
    · cases e : H a with
      | none => exact .inr (.inl rfl)
      | some o =>
        by_cases ow : Own s σ a
        · exact .inr (.inr (.inl ow))
        · by_cases al : a ∈ L
          · obtain ⟨k, hk, e2⟩ := List.getElem_of_mem al
            exact absurd h (hT a vs (List.mem_of_getElem? (x.pre k a (by rw [List.getElem?_eq_getElem hk, e2]))))
          · have q := x.frame a o e ow al
            rw [h] at q
            cases q
            exact .inr (.inr (.inr ⟨vs, rfl⟩))
  pre := x.pre.trans y.pre
  newL := fun a h => by
    rcases y.newL a h with h | h
    · exact x.newL a h
    · right
      cases e : H a with
      | none => rfl
      | some o => exact absurd h (x.dom a (by rw [e]; simp))
  frame := fun a o h h1 h2 => by
    have q := x.frame a o h h1 h2
    refine y.frame a o q (fun z => h1 (x.own z)) fun z => ?_
    rcases x.newL a z with z | z
    · exact h2 z
    · rw [h] at z; cases z
  dom := fun a h => y.dom a (x.dom a h)
  ownS := fun i d h => by
    obtain ⟨e, h⟩ := y.ownS i d h
    exact x.ownS i e h
  have_ := fun i p h => by
    obtain ⟨q, h⟩ := x.have_ i p h
    exact y.have_ i q h
  same := fun i d h => y.same i d (x.same i d h)
  no := fun i h => y.no i (x.no i h)

section
variable {K : Fr0} {cm : Str → Option Addr} {σ : L2.St} {s s' : St} {H F H' F' : Hp} {L L' : List Addr} {d : D} {v : V} {t : Tmp}
theorem Good.dF (g : Good K cm s σ H F L) {a : Addr} (h : F a ≠ none) : H a ≠ none := by
  cases e : F a with
  | none => exact absurd e h
  | some o => rw [g.sub a o e]; simp
theorem Good.dL (g : Good K cm s σ H F L) {a : Addr} (h : a ∈ L) : H a ≠ none := by
  obtain ⟨k, hk, e⟩ := List.getElem_of_mem h
  have hb : k < s.b.length := by rw [g.lenB]; exact hk
  obtain ⟨a', h1, _, h3⟩ := g.box k s.b[k] (by simp [hb])
  rw [List.getElem?_eq_getElem hk, e] at h1
  cases h1
  rw [h3]; simp
theorem Good.dO (g : Good K cm s σ H F L) {a : Addr} (h : Own s σ a) : H a ≠ none := by
  obtain ⟨i, d, h1, h2⟩ := h
  obtain ⟨a', h3, _, _, h5⟩ := g.own i d h1
  rw [h2] at h3; cases h3
  cases d <;> simp only [Top] at h5 <;> first
    | exact h5.elim
    | (obtain ⟨vs, e, _⟩ := h5; rw [e]; simp)
    | (obtain ⟨_, _, _, _, e, _⟩ := h5; rw [e]; simp)
theorem Good.noT (g : Good K cm s σ H F L) {a : Addr} {vs : List V} (h : a ∈ L) : H a ≠ some (.tup vs) := fun e0 => by
  obtain ⟨k, hk, e⟩ := List.getElem_of_mem h
  have hb : k < s.b.length := by rw [g.lenB]; exact hk
  obtain ⟨a', h1, _, h3⟩ := g.box k s.b[k] (by simp [hb])
  rw [List.getElem?_eq_getElem hk, e] at h1
  cases h1
  rw [h3] at e0; cases e0
theorem Ext.then {s1 : St} {H1 F1 : Hp} {L1 : List Addr} (x : Ext σ s H F L s1 H1 F1 L1) (g : Good K cm s1 σ H1 F1 L1) {s2 : St} {H2 F2 : Hp} {L2 : List Addr} (y : Ext σ s1 H1 F1 L1 s2 H2 F2 L2) : Ext σ s H F L s2 H2 F2 L2 :=
  x.trans y (fun _ h => g.dF h) (fun _ h => g.dL h) fun a vs h e => g.noT h e
theorem Top.mono {a : Addr} (h : Sub F F') (p : Pfx L L') (e : H' a = H a) (q : Top K cm H F L d a) : Top K cm H' F' L' d a := by
  cases d <;> simp only [Top] at q ⊢ <;> first
    | exact q
    | (obtain ⟨vs, e1, r⟩ := q; exact ⟨vs, by rw [e]; exact e1, r.mono h p⟩)
    | (obtain ⟨C, dx, vs, e0, e1, r⟩ := q; exact ⟨C, dx, vs, e0, by rw [e]; exact e1, r.mono h p⟩)
theorem TRep.ext (g : Good K cm s σ H F L) (x : Ext σ s H F L s' H' F' L') (q : TRep K cm s σ H F L t v) : TRep K cm s' σ H' F' L' t v := by
  cases t with
  | x i =>
    obtain ⟨p, h1, h2⟩ := q
    obtain ⟨p', h3⟩ := x.have_ i p h1
    exact ⟨p', h3, h2⟩
  | v d b => cases b with
    | false => exact Rep.mono x.sub x.pre q
    | true =>
      obtain ⟨a, h1, h2, h3, h4, h5⟩ := q
      have ha : ∃ o, H a = some o := by
        cases d <;> simp only [Top] at h4 <;> first
          | exact h4.elim
          | (obtain ⟨vs, e, _⟩ := h4; exact ⟨_, e⟩)
          | (obtain ⟨_, _, _, _, e, _⟩ := h4; exact ⟨_, e⟩)
      obtain ⟨o, ho⟩ := ha
      have e := x.frame a o ho h5 h3
      refine ⟨a, h1, ?_, ?_, h4.mono x.sub x.pre (by rw [e, ho]), fun z => h5 (x.own z)⟩
      · cases e' : F' a with
        | none => rfl
        | some u =>
          rcases x.new a (by rw [e']; simp) with z | z | z | ⟨vs, z⟩
          · exact absurd h2 z
          · rw [ho] at z; cases z
          · exact absurd z h5
          · cases d <;> simp only [Top] at h4 <;> first
              | exact h4.elim
              | (obtain ⟨ws, e1, _⟩ := h4; rw [z] at e1; cases e1)
              | (obtain ⟨_, _, _, _, e1, _⟩ := h4; rw [z] at e1; cases e1)
      · intro z
        rcases x.newL a z with z | z
        · exact h3 z
        · rw [ho] at z; cases z
theorem Rep.vw (h : Sub F H) (q : Rep K cm F L d v) : Vw K cm H F L d v := by
  cases q with
  | lst q r => exact ⟨_, _, rfl, h _ _ q, r⟩
  | scr q => exact .scr q
  | dK q r => exact ⟨_, _, rfl, .inr ⟨_, h _ _ q⟩, r⟩
  | dT q r => exact ⟨_, _, rfl, .inr ⟨_, h _ _ q⟩, r⟩
  | ins c q r => exact ⟨_, _, _, _, rfl, c, h _ _ q, r⟩
  | non => exact .non
  | bl b => exact .bl b
  | int i => exact .int i
  | str x => exact .str x
  | tup q r => exact .tup q r
  | box e => exact .box e
theorem Top.vw {a : Addr} (q : Top K cm H F L d a) : Vw K cm H F L d (.ref a) := by
  cases d <;> simp only [Top] at q <;> first
    | exact q.elim
    | (obtain ⟨vs, e, r⟩ := q; first | exact ⟨a, vs, rfl, e, r⟩ | exact ⟨a, vs, rfl, .inl e, r⟩)
    | (obtain ⟨C, dx, vs, e0, e, r⟩ := q; exact ⟨a, C, dx, vs, rfl, e0, e, r⟩)
/-- a value that is held can be read -/
theorem TRep.vw (g : Good K cm s σ H F L) (q : TRep K cm s σ H F L t v) (h : t.d s = some d) : Vw K cm H F L d v := by
  cases t with
  | x i =>
    obtain ⟨⟨d', o⟩, h1, h2⟩ := q
    have h : (s.get i).map (·.1) = some d := h
    rw [h1] at h
    cases h
    cases o with
    | false =>
      obtain ⟨v', h3, r⟩ := g.pure i _ h1
      rw [h2] at h3; cases h3
      exact r.vw g.sub
    | true =>
      obtain ⟨a, h3, _, _, r⟩ := g.own i _ h1
      rw [h2] at h3; cases h3
      exact r.vw
  | v d' b =>
    have h : some d' = some d := h
    cases h
    cases b with
    | false => exact Rep.vw g.sub q
    | true =>
      obtain ⟨a, rfl, _, _, r, _⟩ := q
      exact r.vw
/-! ### plain data -/
mutual
theorem Rep.dp (h : Sub F H) : ∀ {d : D} {v : V}, Rep K cm F L d v → d.pl = true → Dp K H v d.py
  | _, _, .non, _ => .non
  | _, _, .bl b, _ => .bl b
  | _, _, .int i, _ => .int i
  | _, _, .str x, _ => .str x
  | _, _, .tup q r, e => .tup (.inl (.inl (h _ _ q))) (RepL.dp h r (by simpa [D.pl] using e))
  | _, _, .lst q r, e => .lst (.inl (.inl (h _ _ q))) (RepL.dp h r (by simpa [D.pl] using e))
  | _, _, .scr _, e => by simp [D.pl] at e
  | _, _, .dK _ _, e => by simp [D.pl] at e
  | _, _, .dT _ _, e => by simp [D.pl] at e
  | _, _, .ins _ _ _, e => by simp [D.pl] at e
  | _, _, .box _, e => by simp [D.pl] at e
theorem RepL.dp (h : Sub F H) : ∀ {ds : List D} {vs : List V}, RepL K cm F L ds vs → plL ds = true → DpAll K H vs (pyL ds)
  | _, _, .nil, _ => .nil
  | _, _, .cons r t, e => by
    rw [plL, Bool.and_eq_true] at e
    exact .cons (Rep.dp h r e.1) (RepL.dp h t e.2)
end
theorem Vw.dp (h : Sub F H) (q : Vw K cm H F L d v) (e : d.pl = true) : Dp K H v d.py := by
  cases d with
  | lst ds =>
    obtain ⟨a, vs, rfl, q, r⟩ := q
    exact .lst (.inl (.inl q)) (r.dp h (by simpa [D.pl] using e))
  | dK => simp [D.pl] at e
  | dT => simp [D.pl] at e
  | ins => simp [D.pl] at e
  | box => simp [D.pl] at e
  | scr => simp [D.pl] at e
  | non => exact Rep.dp (d := .non) h q e
  | bl b => exact Rep.dp (d := .bl b) h q e
  | int i => exact Rep.dp (d := .int i) h q e
  | str x => exact Rep.dp (d := .str x) h q e
  | tup ds => exact Rep.dp (d := .tup ds) h q e
end
theorem shaped_of {d : D} (h : d.sh = true) : SeqAt.shaped d.py = true := by
  unfold D.sh at h
  rw [Bool.and_eq_true, Bool.and_eq_true, decide_eq_true_eq] at h
  show (d.py.canLay0 && decide (d.py.depth ≤ 64)) = true
  rw [h.1.2, Bool.true_and, decide_eq_true_eq]
  omega
theorem pl_of {d : D} (h : d.sh = true) : d.pl = true := by
  unfold D.sh at h
  rw [Bool.and_eq_true, Bool.and_eq_true] at h
  exact h.1.1
end Mp
/-! Mp, part C: settling values, the readings of evaluated expressions. -/
namespace Mp
open PySem PySem.Spec PyProof.Rows L2

/-! ### locks (of dicts that change no more) -/
/-- some locks, then R -/
structure Lk (H : Hp) (R : Hp → Prop) : Prop where
  run : ∀ (X : Cx) (pins : List (Addr × Obj)) (σ : L2.St) (s : Shared), Inv X pins σ H s → ∃ H', Inv X pins σ H' s ∧ R H'
theorem Lk.ret {H : Hp} {R : Hp → Prop} (h : R H) : Lk H R := ⟨fun _ _ _ _ I => ⟨H, I, h⟩⟩
theorem Lk.bind {H : Hp} {R R' : Hp → Prop} (h : Lk H R) (k : ∀ H', R H' → Lk H' R') : Lk H R' := ⟨fun X pins σ s I => by
  obtain ⟨H', I', r⟩ := h.run X pins σ s I
  exact (k H' r).run X pins σ s I'⟩
theorem Lk.imp {H : Hp} {R R' : Hp → Prop} (h : Lk H R) (k : ∀ H', R H' → R' H') : Lk H R' := h.bind fun H' r => .ret (k H' r)
theorem Lk.lock {H : Hp} {R : Hp → Prop} {d : Addr} {u : HO} (h : H d = some u) (mu : Mut (some u)) (k : ∀ od, R (upd H d (.frz od u))) : Lk H R := ⟨fun X pins σ s I => by
  obtain ⟨od, I'⟩ := I.lock h mu
  exact ⟨_, I', k od⟩⟩
theorem _root_.L2.PE.lk {X : Cx} {e : Expr} {t : TE} (h : PE X e t) : PE X e (fun σ H Q => t σ H fun v H1 => Lk H1 (Q v)) := ⟨fun pins s σ H Q I q => by
  refine thn (h.run pins s σ H _ I q) fun u s1 ⟨v, H1, I1, r, q1⟩ => ?_
  obtain ⟨H2, I2, q2⟩ := q1.run _ _ _ _ I1
  exact ⟨v, H2, I2, r, q2⟩⟩
theorem _root_.L2.PA.lk {X : Cx} {es : List Expr} {t : TA} (h : PA X es t) : PA X es (fun σ H Q => t σ H fun vs H1 => Lk H1 (Q vs)) := ⟨fun pos pins s σ H Q I q => by
  refine thn (h.run pos pins s σ H _ I q) fun u s1 ⟨v, H1, I1, r, q1⟩ => ?_
  obtain ⟨H2, I2, q2⟩ := q1.run _ _ _ _ I1
  exact ⟨v, H2, I2, r, q2⟩⟩
theorem _root_.L2.PE.imp {X : Cx} {e : Expr} {t t' : TE} (h : PE X e t) (k : ∀ σ H Q, t' σ H Q → t σ H Q) : PE X e t' := ⟨fun pins s σ H Q I q => h.run pins s σ H Q I (k σ H Q q)⟩
theorem _root_.L2.PA.imp {X : Cx} {es : List Expr} {t t' : TA} (h : PA X es t) (k : ∀ σ H Q, t' σ H Q → t σ H Q) : PA X es t' := ⟨fun pos pins s σ H Q I q => h.run pos pins s σ H Q I (k σ H Q q)⟩
theorem _root_.L2.PT.imp {X : Cx} {e : Expr} {t t' : TT} (h : PT X e t) (k : ∀ σ H Q, t' σ H Q → t σ H Q) : PT X e t' := ⟨fun pins s σ H Q I q => h.run pins s σ H Q I (k σ H Q q)⟩

/-! ### slots -/
theorem get_put (s : St) (i j : Nat) (d : D) (o : Bool) : (s.put i d o).get j = if j = i ∧ i < s.e.length then some (d, o) else s.get j := by
  unfold St.get St.put
  simp only [List.getD_eq_getElem?_getD, List.getElem?_set]
  by_cases h : i = j
  · subst h
    by_cases hl : i < s.e.length
    · simp [hl]
    · simp [hl, List.getElem?_eq_none (Nat.le_of_not_lt hl)]
  · have h' : ¬ j = i := fun e => h e.symm
    simp [h, h']
theorem get_lt {s : St} {i : Nat} {p : D × Bool} (h : s.get i = some p) : i < s.e.length := by
  rcases Nat.lt_or_ge i s.e.length with q | q
  · exact q
  · unfold St.get at h
    rw [List.getD_eq_getElem?_getD, List.getElem?_eq_none q] at h
    cases h
theorem get_put_ne {s : St} {i j : Nat} {d : D} {o : Bool} (h : j ≠ i) : (s.put i d o).get j = s.get j := by rw [get_put, if_neg fun z => h z.1]
theorem get_frz (s : St) (i j : Nat) : (s.frz i).get j = if j = i then (s.get i).map (fun p => (p.1, false)) else s.get j := by
  unfold St.frz
  cases h : s.get i with
  | none =>
    by_cases e : j = i
    · rw [if_pos e, e, h]; rfl
    · rw [if_neg e]
  | some p =>
    obtain ⟨d, o⟩ := p
    show (s.put i d false).get j = _
    rw [get_put]
    have hl := get_lt h
    by_cases e : j = i
    · rw [if_pos e, if_pos ⟨e, hl⟩]; rfl
    · rw [if_neg e, if_neg fun z => e z.1]
theorem frz_b (s : St) (i : Nat) : (s.frz i).b = s.b := by
  unfold St.frz
  split <;> rfl
theorem frz_len (s : St) (i : Nat) : (s.frz i).e.length = s.e.length := by
  unfold St.frz
  split
  · simp [St.put]
  · rfl
theorem upd_self {H : Hp} {a : Addr} {o : HO} (h : H a = some o) : upd H a o = H := by
  funext b
  unfold upd
  split
  · rename_i e; rw [e, h]
  · rfl

/-- s' is s with some slots settled -/
structure Fz (s s' : St) : Prop where
  ownS : ∀ i d, s'.get i = some (d, true) → s.get i = some (d, true)
  have_ : ∀ i d o, s.get i = some (d, o) → ∃ o', s'.get i = some (d, o')
  same : ∀ i d, s.get i = some (d, false) → s'.get i = some (d, false)
  no : ∀ i, s.get i = none → s'.get i = none
  b : s'.b = s.b
  len : s'.e.length = s.e.length
theorem Fz.refl (s : St) : Fz s s := ⟨fun _ _ h => h, fun _ _ o h => ⟨o, h⟩, fun _ _ h => h, fun _ h => h, rfl, rfl⟩
theorem Fz.trans {s s' s'' : St} (h : Fz s s') (k : Fz s' s'') : Fz s s'' :=
  ⟨fun i d q => h.ownS i d (k.ownS i d q), fun i d o q => let ⟨o', q'⟩ := h.have_ i d o q; k.have_ i d o' q', fun i d q => k.same i d (h.same i d q), fun i q => k.no i (h.no i q), k.b.trans h.b, k.len.trans h.len⟩
theorem Fz.frz (s : St) (i : Nat) : Fz s (s.frz i) := by
  refine ⟨fun j d h => ?_, fun j d o h => ?_, fun j d h => ?_, fun j h => ?_, frz_b s i, frz_len s i⟩
  · rw [get_frz] at h
    by_cases e : j = i
    · rw [if_pos e] at h
      cases q : s.get i with
      | none => rw [q] at h; cases h
      | some p => rw [q] at h; simp at h
    · rwa [if_neg e] at h
  · rw [get_frz]
    by_cases e : j = i
    · subst e; rw [if_pos rfl, h]; exact ⟨false, rfl⟩
    · rw [if_neg e]; exact ⟨o, h⟩
  · rw [get_frz]
    by_cases e : j = i
    · subst e; rw [if_pos rfl, h]; rfl
    · rw [if_neg e]; exact h
  · rw [get_frz]
    by_cases e : j = i
    · subst e; rw [if_pos rfl, h]; rfl
    · rw [if_neg e]; exact h
theorem Fz.own {s s' : St} {σ : L2.St} (h : Fz s s') {a : Addr} (q : Own s' σ a) : Own s σ a := let ⟨i, d, h1, h2⟩ := q; ⟨i, d, h.ownS i d h1, h2⟩

section
variable {K : Fr0} {cm : Str → Option Addr} {σ : L2.St} {s s' s0 : St} {H F H' F' H0 F0 : Hp} {L L' L0 : List Addr} {d : D} {v : V} {t : Tmp} {a : Addr} {o : HO}
theorem sub_upd (h : F a = none) : Sub F (upd F a o) := fun b u e => by
  rw [upd_ne (fun z => by rw [z, h] at e; cases e)]; exact e
theorem Top.some (q : Top K cm H F L d a) : ∃ o, H a = some o := by
  cases d <;> simp only [Top] at q <;> first
    | exact q.elim
    | (obtain ⟨vs, e, _⟩ := q; exact ⟨_, e⟩)
    | (obtain ⟨_, _, _, _, e, _⟩ := q; exact ⟨_, e⟩)
/-- the run so far, one object settled -/
theorem Ext.upd1 (x : Ext σ s0 H0 F0 L0 s H F L) (ha : H0 a = none ∨ Own s0 σ a) (hf : F a = none) (z : Fz s s') : Ext σ s0 H0 F0 L0 s' (upd H a o) (upd F a o) L where
  sub := x.sub.trans (sub_upd hf)
  new := fun b h => by
    by_cases e : b = a
    · subst e; exact .inr (ha.elim .inl fun z => .inr (.inl z))
    · rw [upd_ne e] at h; exact x.new b h
  pre := x.pre
  newL := x.newL
  frame := fun b u h h1 h2 => by
    have e : b ≠ a := by
      rintro rfl
      rcases ha with q | q
      · rw [h] at q; cases q
      · exact h1 q
    rw [upd_ne e]; exact x.frame b u h h1 h2
  dom := fun b h => by
    by_cases e : b = a
    · subst e; rw [upd_same]; simp
    · rw [upd_ne e]; exact x.dom b h
  ownS := fun i d h => x.ownS i d (z.ownS i d h)
  have_ := fun i p h => by
    obtain ⟨q, h'⟩ := x.have_ i p h
    obtain ⟨o', h''⟩ := z.have_ i q.1 q.2 h'
    exact ⟨_, h''⟩
  same := fun i d h => z.same i d (x.same i d h)
  no := fun i h => z.no i (x.no i h)
theorem Ext.fz (x : Ext σ s0 H0 F0 L0 s H F L) (z : Fz s s') : Ext σ s0 H0 F0 L0 s' H F L where
  sub := x.sub
  new := x.new
  pre := x.pre
  newL := x.newL
  frame := x.frame
  dom := x.dom
  ownS := fun i d h => x.ownS i d (z.ownS i d h)
  have_ := fun i p h => by
    obtain ⟨q, h'⟩ := x.have_ i p h
    obtain ⟨o', h''⟩ := z.have_ i q.1 q.2 h'
    exact ⟨_, h''⟩
  same := fun i d h => z.same i d (x.same i d h)
  no := fun i h => z.no i (x.no i h)
/-- what is read stays, when an object of another is settled -/
theorem TRep.upd1 (q : TRep K cm s σ H F L t v) (hf : F a = none) (z : Fz s s') (hne : ∀ d, t = .v d true → v ≠ .ref a) : TRep K cm s' σ (upd H a o) (upd F a o) L t v := by
  cases t with
  | x i =>
    obtain ⟨⟨d, o'⟩, h1, h2⟩ := q
    obtain ⟨o2, h3⟩ := z.have_ i d o' h1
    exact ⟨_, h3, h2⟩
  | v d b => cases b with
    | false => exact Rep.mono (sub_upd hf) (Pfx.refl L) q
    | true =>
      obtain ⟨b, rfl, h2, h3, h4, h5⟩ := q
      have e : b ≠ a := fun z => hne d rfl (by rw [z])
      exact ⟨b, rfl, by rw [upd_ne e]; exact h2, h3, h4.mono (sub_upd hf) (Pfx.refl L) (upd_ne e), fun y => h5 (z.own y)⟩
/-- an object of one's own settled: how -/
theorem top_frz (q : Top K cm H F L d a) (hf : F a = none) : Lk H fun H' => ∃ o, H' = upd H a o ∧ Rep K cm (upd F a o) L d (.ref a) := by
  cases d with
  | lst ds =>
    obtain ⟨vs, e, r⟩ := q
    exact .ret ⟨.lst vs, (upd_self e).symm, .lst upd_same (r.mono (sub_upd hf) (Pfx.refl L))⟩
  | dK ds =>
    obtain ⟨vs, e, r⟩ := q
    exact Lk.lock e trivial fun od => ⟨_, rfl, .dK upd_same (r.mono (sub_upd hf) (Pfx.refl L))⟩
  | dT ds =>
    obtain ⟨vs, e, r⟩ := q
    exact Lk.lock e trivial fun od => ⟨_, rfl, .dT upd_same (r.mono (sub_upd hf) (Pfx.refl L))⟩
  | ins c fs =>
    obtain ⟨C, dx, vs, e0, e, r⟩ := q
    exact .ret ⟨.ins C dx vs, (upd_self e).symm, .ins e0 upd_same (r.mono (sub_upd hf) (Pfx.refl L))⟩
  | _ => exact q.elim
/-- .. in the state of all variables: s' is s but that the variable that holds a, if one does, holds it no more as its own -/
theorem Good.settle (g : Good K cm s σ H F L) (hf : F a = none) (hl : a ∉ L) (z : Fz s s') (r : ∀ i d, s.get i = some (d, true) → σ[i]? = some (some (.ref a)) → s'.get i = some (d, false) ∧ Rep K cm (upd F a o) L d (.ref a))
    (h : ∀ i d, s.get i = some (d, true) → σ[i]? ≠ some (some (.ref a)) → s'.get i = some (d, true)) : Good K cm s' σ (upd H a o) (upd F a o) L where
  sub := fun b u e => by
    by_cases q : b = a
    · subst q; rw [upd_same] at e ⊢; exact e
    · rw [upd_ne q] at e ⊢; exact g.sub b u e
  len := by rw [z.len]; exact g.len
  pure := fun i d e => by
    cases q : s.get i with
    | none => rw [z.no i q] at e; cases e
    | some p =>
      obtain ⟨d', b⟩ := p
      cases b with
      | false =>
        rw [z.same i d' q] at e; cases e
        obtain ⟨v, h1, h2⟩ := g.pure i _ q
        exact ⟨v, h1, Rep.mono (sub_upd hf) (Pfx.refl L) h2⟩
      | true =>
        by_cases w : σ[i]? = some (some (.ref a))
        · obtain ⟨h1, h2⟩ := r i d' q w
          rw [h1] at e; cases e
          exact ⟨_, w, h2⟩
        · rw [h i d' q w] at e; cases e
  own := fun i d e => by
    have q := z.ownS i d e
    obtain ⟨b, h1, h2, h3, h4⟩ := g.own i d q
    have ne : b ≠ a := by
      rintro rfl
      have := (r i d q h1).1
      rw [e] at this; cases this
    exact ⟨b, h1, by rw [upd_ne ne]; exact h2, h3, h4.mono (sub_upd hf) (Pfx.refl L) (upd_ne ne)⟩
  apart := fun i j d e b hij h1 h2 => g.apart i j d e b hij (z.ownS i d h1) (z.ownS j e h2)
  box := fun k is e => by
    rw [z.b] at e
    obtain ⟨b, h1, h2, h3⟩ := g.box k is e
    have ne : b ≠ a := fun w => hl (w ▸ List.mem_of_getElem? h1)
    exact ⟨b, h1, by rw [upd_ne ne]; exact h2, by rw [upd_ne ne]; exact h3⟩
  lenB := by rw [z.b]; exact g.lenB
  nd := g.nd
/-- a value settled -/
theorem take_ok (g : Good K cm s σ H F L) (g0 : Good K cm s0 σ H0 F0 L0) (x : Ext σ s0 H0 F0 L0 s H F L) (q : TRep K cm s σ H F L t v) (hn : ∀ d b, t = .v d true → v = .ref b → H0 b = none) (h : take t s = some (d, s')) :
    Lk H fun H' => ∃ F', Good K cm s' σ H' F' L ∧ Ext σ s0 H0 F0 L0 s' H' F' L ∧ Rep K cm F' L d v ∧ Fz s s' ∧ ((H' = H ∧ F' = F) ∨ ∃ a o, F a = none ∧ H' = upd H a o ∧ F' = upd F a o ∧ v = .ref a ∧ ((∃ d, t = .v d true) ∨ Own s σ a)) := by
  cases t with
  | v d' b =>
    cases h
    cases b with
    | false => exact .ret ⟨F, g, x, q, Fz.refl s, .inl ⟨rfl, rfl⟩⟩
    | true =>
      obtain ⟨a, rfl, h2, h3, h4, h5⟩ := q
      refine (top_frz h4 h2).imp fun H' ⟨o, e, r⟩ => ?_
      subst e
      refine ⟨_, g.settle h2 h3 (Fz.refl s) (fun i d e1 e2 => absurd ⟨i, d, e1, e2⟩ h5) (fun i d e1 _ => e1), x.upd1 (.inl (hn d a rfl rfl)) h2 (Fz.refl s), r, Fz.refl s, .inr ⟨a, o, h2, rfl, rfl, rfl, .inl ⟨d, rfl⟩⟩⟩
  | x i =>
    obtain ⟨⟨d', b⟩, h1, h2⟩ := q
    have h' : (do let p ← s.get i; some (p.1, s.frz i)) = some (d, s') := h
    rw [h1] at h'
    cases h'
    have zf := Fz.frz s i
    cases b with
    | false =>
      obtain ⟨v', e1, r⟩ := g.pure i _ h1
      rw [h2] at e1; cases e1
      refine .ret ⟨F, ?_, x.fz zf, r, zf, .inl ⟨rfl, rfl⟩⟩
      have same : ∀ j, (s.frz i).get j = s.get j := fun j => by
        rw [get_frz]
        by_cases e : j = i
        · subst e; rw [if_pos rfl, h1]; rfl
        · rw [if_neg e]
      exact ⟨g.sub, by rw [zf.len]; exact g.len, fun j d e => g.pure j d (by rw [← same]; exact e), fun j d e => g.own j d (by rw [← same]; exact e), fun j k d e b hjk e1 e2 => g.apart j k d e b hjk (by rw [← same]; exact e1) (by rw [← same]; exact e2),
        fun k is e => g.box k is (by rw [← zf.b]; exact e), by rw [zf.b]; exact g.lenB, g.nd⟩
    | true =>
      obtain ⟨a, e1, e2, e3, e4⟩ := g.own i _ h1
      rw [h2] at e1; cases e1
      have ow : Own s σ a := ⟨i, _, h1, h2⟩
      have ow0 : H0 a = none ∨ Own s0 σ a := .inr (x.own ow)
      refine (top_frz e4 e2).imp fun H' ⟨o, e, r⟩ => ?_
      subst e
      refine ⟨_, g.settle e2 e3 zf (fun j d e5 e6 => ?_) (fun j d e5 e6 => ?_), x.upd1 ow0 e2 zf, r, zf, .inr ⟨a, o, e2, rfl, rfl, rfl, .inr ow⟩⟩
      · by_cases w : j = i
        · subst w
          rw [h1] at e5; cases e5
          exact ⟨by rw [get_frz, if_pos rfl, h1]; rfl, r⟩
        · exact absurd h2 (g.apart j i d _ a w e5 h1 e6)
      · have w : j ≠ i := by
          rintro rfl
          exact e6 h2
        rw [get_frz, if_neg w]; exact e5
end

/-! ### several values -/
def TReps (K : Fr0) (cm : Str → Option Addr) (s : St) (σ : L2.St) (H F : Hp) (L : List Addr) (ts : List Tmp) (vs : List V) : Prop := Paired (TRep K cm s σ H F L) ts vs
/-- where the new ones stand -/
def frA : List Tmp → List V → List Addr
  | .v _ true :: ts, .ref a :: vs => a :: frA ts vs
  | _ :: ts, _ :: vs => frA ts vs
  | _, _ => []
/-- new behind H0, and apart -/
structure News (H0 : Hp) (ts : List Tmp) (vs : List V) : Prop where
  new : ∀ a ∈ frA ts vs, H0 a = none
  nd : (frA ts vs).Nodup
section
variable {K : Fr0} {cm : Str → Option Addr} {σ : L2.St} {s s' s0 : St} {H F H' F' H0 F0 : Hp} {L L' L0 : List Addr} {d : D} {v : V} {t : Tmp} {a : Addr} {o : HO} {ts : List Tmp} {vs : List V}
theorem frA_mem : ∀ {ts : List Tmp} {vs : List V} {t : Tmp} {v : V}, (t, v) ∈ ts.zip vs → ∀ d a, t = .v d true → v = .ref a → a ∈ frA ts vs
  | [], _, _, _, h => by simp at h
  | _ :: _, [], _, _, h => by simp at h
  | t :: ts, v :: vs, t', v', h => by
    intro d a e1 e2
    rw [List.zip_cons_cons, List.mem_cons] at h
    rcases h with h | h
    · cases h
      subst e1 e2
      simp [frA]
    · have q := frA_mem h d a e1 e2
      cases t with
      | x i => simpa [frA] using q
      | v d' b => cases b with
        | false => simpa [frA] using q
        | true => cases v with
          | ref b => simp [frA, q]
          | _ => simpa [frA] using q
theorem TReps.upd1 (q : TReps K cm s σ H F L ts vs) (hf : F a = none) (z : Fz s s') (hne : a ∉ frA ts vs) : TReps K cm s' σ (upd H a o) (upd F a o) L ts vs := by
  unfold TReps at q ⊢
  induction q with
  | nil => exact .nil
  | @cons t v ts vs h _ ih =>
    refine .cons (h.upd1 hf z fun d e1 e2 => hne (frA_mem (t := t) (v := v) (by simp) d a e1 e2)) (ih fun hm => hne ?_)
    cases t with
    | x i => simpa [frA] using hm
    | v d' b => cases b with
      | false => simpa [frA] using hm
      | true => cases v with
        | ref b => simp [frA, hm]
        | _ => simpa [frA] using hm
theorem TReps.fz (q : TReps K cm s σ H F L ts vs) (z : Fz s s') : TReps K cm s' σ H F L ts vs := by
  unfold TReps at q ⊢
  induction q with
  | nil => exact .nil
  | @cons t v ts vs h _ ih =>
    refine .cons ?_ ih
    cases t with
    | x i =>
      obtain ⟨⟨d, o'⟩, h1, h2⟩ := h
      obtain ⟨o2, h3⟩ := z.have_ i d o' h1
      exact ⟨_, h3, h2⟩
    | v d b => cases b with
      | false => exact h
      | true =>
        obtain ⟨b, rfl, h2, h3, h4, h5⟩ := h
        exact ⟨b, rfl, h2, h3, h4, fun y => h5 (z.own y)⟩
theorem TReps.ext (g : Good K cm s σ H F L) (x : Ext σ s H F L s' H' F' L') (q : TReps K cm s σ H F L ts vs) : TReps K cm s' σ H' F' L' ts vs := by
  unfold TReps at q ⊢
  induction q with
  | nil => exact .nil
  | cons h _ ih => exact .cons (h.ext g x) ih
theorem Own.notFr (q : TReps K cm s σ H F L ts vs) (h : Own s σ a) : a ∉ frA ts vs := by
  unfold TReps at q
  induction q with
  | nil => simp [frA]
  | @cons t v ts vs r _ ih =>
    cases t with
    | x i => simpa [frA] using ih
    | v d b => cases b with
      | false => simpa [frA] using ih
      | true =>
        obtain ⟨b, rfl, _, _, _, h5⟩ := r
        simp only [frA, List.mem_cons, not_or]
        exact ⟨fun e => h5 (e ▸ h), ih⟩
theorem News.tail (n : News H0 (t :: ts) (v :: vs)) : News H0 ts vs := by
  cases t with
  | x i => exact ⟨fun a h => n.new a (by simpa [frA] using h), by simpa [frA] using n.nd⟩
  | v d b => cases b with
    | false => exact ⟨fun a h => n.new a (by simpa [frA] using h), by simpa [frA] using n.nd⟩
    | true => cases v with
      | ref b =>
        have h1 := n.new
        have h2 := n.nd
        simp only [frA, List.mem_cons, List.nodup_cons] at h1 h2
        exact ⟨fun a h => h1 a (.inr h), h2.2⟩
      | _ => exact ⟨fun a h => n.new a (by simpa [frA] using h), by simpa [frA] using n.nd⟩
theorem News.head (n : News H0 (t :: ts) (v :: vs)) : ∀ d b, t = .v d true → v = .ref b → H0 b = none ∧ b ∉ frA ts vs := fun d b e1 e2 => by
  subst e1 e2
  have h1 := n.new
  have h2 := n.nd
  simp only [frA, List.mem_cons, List.nodup_cons] at h1 h2
  exact ⟨h1 b (.inl rfl), h2.1⟩
theorem takes_ok (g0 : Good K cm s0 σ H0 F0 L0) : ∀ {ts : List Tmp} {vs : List V} {s s' : St} {H F : Hp} {ds : List D}, Good K cm s σ H F L → Ext σ s0 H0 F0 L0 s H F L → TReps K cm s σ H F L ts vs → News H0 ts vs → takes ts s = some (ds, s') →
    Lk H fun H' => ∃ F', Good K cm s' σ H' F' L ∧ Ext σ s0 H0 F0 L0 s' H' F' L ∧ RepL K cm F' L ds vs ∧ Sub F F' ∧ Fz s s'
  | [], _, s, s', H, F, ds, g, x, q, n, h => by
    cases q
    cases h
    exact .ret ⟨F, g, x, .nil, Sub.refl F, Fz.refl s⟩
  | t :: ts, _, s, s', H, F, ds, g, x, q, n, h => by
    cases q with
    | @cons _ v _ vs q1 q2 =>
      have h' : (do let (d, s) ← take t s; let (ds, s) ← takes ts s; some (d :: ds, s)) = some (ds, s') := h
      cases e1 : take t s with
      | none => rw [e1] at h'; cases h'
      | some p =>
        obtain ⟨d, s1⟩ := p
        rw [e1] at h'
        have h2 : (do let (ds, s) ← takes ts s1; some (d :: ds, s)) = some (ds, s') := h'
        cases e2 : takes ts s1 with
        | none => rw [e2] at h2; cases h2
        | some p =>
          obtain ⟨ds', s2⟩ := p
          rw [e2] at h2
          cases h2
          refine (take_ok g g0 x q1 (fun d b e3 e4 => (n.head d b e3 e4).1) e1).bind fun H1 ⟨F1, g1, x1, r1, z1, c⟩ => ?_
          have q3 : TReps K cm s1 σ H1 F1 L ts vs ∧ Sub F F1 := by
            rcases c with ⟨rfl, rfl⟩ | ⟨a, o, hf, rfl, rfl, hv, ho⟩
            · exact ⟨TReps.fz q2 z1, Sub.refl _⟩
            · refine ⟨TReps.upd1 q2 hf z1 ?_, sub_upd hf⟩
              rcases ho with ⟨d, ho⟩ | ho
              · exact (n.head d a ho hv).2
              · exact Own.notFr q2 ho
          exact (takes_ok g0 g1 x1 q3.1 n.tail e2).imp fun H2 ⟨F2, g2, x2, r2, u2, z2⟩ => ⟨F2, g2, x2, .cons (Rep.mono u2 (Pfx.refl L) r1) r2, q3.2.trans u2, z1.trans z2⟩
end
end Mp
/-! Mp, part D: operators. -/
namespace Mp
open PySem PySem.Spec PyProof.Rows L2

/-- what is wanted of a result: an old value, a new tuple, a new list -/
structure RsF (K : Fr0) (cm : Str → Option Addr) (H F : Hp) (L : List Addr) (d : D) (fr : Bool) (Q : VK) : Prop where
  old : fr = false → ∀ v, Rep K cm F L d v → Q v H
  tup : ∀ ds, d = .tup ds → fr = false → ∀ p vs, H p = none → RepL K cm F L ds vs → Q (.ref p) (upd H p (.tup vs))
  lst : ∀ ds, d = .lst ds → fr = true → ∀ p vs, H p = none → RepL K cm F L ds vs → Q (.ref p) (upd H p (.lst vs))
  dic : ∀ ks, d = .dK ks → fr = true → ∀ p vs, H p = none → RepK K cm F L ks vs → Q (.ref p) (upd H p (.dK vs))
def OpOk (X : Cx) (cm : Str → Option Addr) (f : Value → Value → Sem Value) (g : D → D → Option (D × Bool)) : Prop :=
  OpR X f fun x y H Q => ∃ F L dx dy d fr, Sub F H ∧ Vw X.K cm H F L dx x ∧ Vw X.K cm H F L dy y ∧ g dx dy = some (d, fr) ∧ RsF X.K cm H F L d fr Q
section
variable {X : Cx} {cm : Str → Option Addr} {K : Fr0} {H F : Hp} {L : List Addr} {v : V} {Q : VK}
theorem vw_int {i : Int} (h : Vw K cm H F L (.int i) v) : v = .int i := by cases (show Rep K cm F L (.int i) v from h); rfl
theorem vw_str {i : Str} (h : Vw K cm H F L (.str i) v) : v = .str i := by cases (show Rep K cm F L (.str i) v from h); rfl
theorem vw_bl {i : Bool} (h : Vw K cm H F L (.bl i) v) : v = .bl i := by cases (show Rep K cm F L (.bl i) v from h); rfl
theorem vw_non (h : Vw K cm H F L .non v) : v = .non := by cases (show Rep K cm F L .non v from h); rfl
theorem vw_tup {ds : List D} (h : Vw K cm H F L (.tup ds) v) : ∃ a vs, v = .ref a ∧ F a = some (.tup vs) ∧ RepL K cm F L ds vs := by
  cases (show Rep K cm F L (.tup ds) v from h) with
  | tup q r => exact ⟨_, _, rfl, q, r⟩
theorem vw_lst {ds : List D} (h : Vw K cm H F L (.lst ds) v) : ∃ a vs, v = .ref a ∧ H a = some (.lst vs) ∧ RepL K cm F L ds vs := h
theorem vw_scr {ds : List Int} (h : Vw K cm H F L (.scr ds) v) : ∃ a, v = .ref a ∧ SqL K F a (ds.map V.int) := by
  cases (show Rep K cm F L (.scr ds) v from h) with
  | scr q => exact ⟨_, rfl, q⟩
theorem RepL.nil_iff {ds : List D} {vs : List V} (h : RepL K cm F L ds vs) : vs = [] ↔ ds = [] := by cases h <;> simp
theorem RsF.int {i : Int} (r : RsF K cm H F L (.int i) false Q) : Q (.int i) H := r.old rfl _ (.int i)
theorem RsF.str {i : Str} (r : RsF K cm H F L (.str i) false Q) : Q (.str i) H := r.old rfl _ (.str i)
theorem RsF.bl {i : Bool} (r : RsF K cm H F L (.bl i) false Q) : Q (.bl i) H := r.old rfl _ (.bl i)

theorem op_add_ok : OpOk X cm (binaryOp .Add) (binD .Add) := by
  intro pins s σ H x y v u Q I rx ry h
  obtain ⟨F, L, dx, dy, d, fr, hs, vx, vy, e, r⟩ := h
  unfold binD at e
  split at e <;> simp only [reduceCtorEq] at *
  case h_1 i j _ =>
    cases e
    exact op_add pins s σ H x y v u Q I rx ry ⟨i, j, vw_int vx, vw_int vy, r.int⟩
  case h_2 i j _ =>
    split at e
    · cases e
      exact op_add_str pins s σ H x y v u Q I rx ry ⟨i, j, vw_str vx, vw_str vy, by assumption, r.str⟩
    · cases e
  case h_3 i j _ =>
    split at e
    · cases e
      obtain ⟨a, vs, rfl, h1, r1⟩ := vw_lst vx
      obtain ⟨b, ws, rfl, h2, r2⟩ := vw_lst vy
      exact op_cat pins s σ H _ _ v u Q I rx ry ⟨a, b, vs, ws, rfl, rfl, h1, h2, by rw [← r1.len, ← r2.len]; assumption, fun p hp => r.lst _ rfl rfl p _ hp (r1.app r2)⟩
    · cases e
  case h_4 i j _ =>
    split at e
    · cases e
      obtain ⟨a, vs, rfl, h1, r1⟩ := vw_tup vx
      obtain ⟨b, ws, rfl, h2, r2⟩ := vw_tup vy
      refine op_catA pins s σ H _ _ v u Q I rx ry ⟨a, b, vs, ws, rfl, rfl, SqT.of (hs _ _ h1), SqT.of (hs _ _ h2), by rw [← r1.len, ← r2.len]; assumption, fun e => ?_, fun _ e => ?_, fun _ _ p hp => r.tup _ rfl rfl p _ hp (r1.app r2)⟩
      · have := r1.nil_iff.mp e
        subst this
        exact r.old rfl _ (.tup h2 r2)
      · have := r2.nil_iff.mp e
        subst this
        rw [List.append_nil] at r
        exact r.old rfl _ (.tup h1 r1)
    · cases e
  all_goals cases e
theorem op_sub_ok : OpOk X cm (binaryOp .Sub) (binD .Sub) := by
  intro pins s σ H x y v u Q I rx ry h
  obtain ⟨F, L, dx, dy, d, fr, hs, vx, vy, e, r⟩ := h
  unfold binD at e
  split at e <;> simp only [reduceCtorEq] at *
  case h_5 i j _ =>
    cases e
    exact op_sub pins s σ H x y v u Q I rx ry ⟨i, j, vw_int vx, vw_int vy, r.int⟩
  all_goals cases e
/-- a tuple, once -/
theorem tup_once (l : Addr) (items : Array Value) (n : Nat) (dd : Option Addr) (sl : Array (Option Value)) (u : Tok) :
    Meets (Builtin.«tuple.__mul__» ⟨[.ref l, .int 1 u], []⟩) (fun _ R s => s.heap.get? l = some { cls := .type "tuple", dict := dd, data := .seq items n, slots := sl } ∧ R (.ok (.ret (Value.ref l))) s) :=
  .of_wp fun prog w A R s h => by
    obtain ⟨hp, gg, dw, tk, os⟩ := s
    obtain ⟨hl, h⟩ := h
    have ix := AutoSeq1.idx_int
    wp_walk using wpAny_loadPart' hl
    repeat (first
      | (refine wpAny_ite_false (by decide) ?_; wp_walk using wpAny_loadPart' hl)
      | (refine wpAny_ite_true (by simp) ?_; wp_walk using wpAny_loadPart' hl))
    exact ⟨_, rfl, h⟩
theorem op_once : OpR X (binaryOp .Mult) (fun x y H Q => ∃ l xs, x = V.ref l ∧ y = V.int 1 ∧ SqT X.K H l xs ∧ Q (.ref l) H) := by
  intro pins s σ H x y v u Q I rx ry h
  obtain ⟨l, xs, rfl, rfl, hT, q⟩ := h
  cases rx
  obtain ⟨tk, rfl⟩ := ry
  obtain ⟨its, rv, ⟨⟨cl, dd, da, sl⟩, ho, hc, n, hd⟩, hz⟩ := I.tuple hT
  simp only at hc hd
  subst hc hd
  refine wpAny_binaryOp_repeat_ref (T := "tuple") (U := "int") (by decide) ⟨_, ho, rfl⟩ (fun s' => typeIs_int s' 1 tk) noFill_tuple_mul F.fills_int_mul F.slot_int_rmul repeat_tuple F.slot_int_index.lookup (call_meets F.slot_int_rmul (typeIs_int s 1 tk) F.entry_int_rmul (F.args_int_rmul_2 _ _) (int_rmul_tuple 1 tk l its.toArray n dd sl) ⟨ho, rfl, ⟨_, ho, rfl⟩, call_meets F.slot_tuple_mul ⟨_, ho, rfl⟩ F.entry_tuple_mul (F.args_tuple_mul_2 _ _) (tup_once l its.toArray n dd sl tk) ⟨ho, ?_⟩⟩)
  exact ⟨.ref l, H, I, rfl, q⟩
theorem mulOk_of {i j : Int} (h : mulOk i j = true) : CMul i j := by
  unfold mulOk at h
  simp only [Bool.or_eq_true, Bool.and_eq_true, decide_eq_true_eq] at h
  exact h
theorem op_mul_ok : OpOk X cm (binaryOp .Mult) (binD .Mult) := by
  intro pins s σ H x y v u Q I rx ry h
  obtain ⟨F, L, dx, dy, d, fr, hs, vx, vy, e, r⟩ := h
  unfold binD at e
  split at e <;> simp only [reduceCtorEq] at *
  case h_6 i j _ =>
    split at e
    · cases e
      exact op_mul pins s σ H x y v u Q I rx ry ⟨i, j, vw_int vx, vw_int vy, mulOk_of (by assumption), r.int⟩
    · cases e
  case h_7 ds k _ =>
    split at e
    · rename_i c
      cases e
      obtain ⟨a, vs, rfl, h1, r1⟩ := vw_lst vx
      exact op_rep pins s σ H _ _ v u Q I rx ry ⟨a, k, vs, rfl, vw_int vy, h1, by have := (inB_iff _).mp c.1; omega, by have := (inB_iff _).mp c.1; omega, by rw [← r1.len]; exact c.2, fun p hp => r.lst _ rfl rfl p _ hp (r1.repl k.toNat)⟩
    · cases e
  case h_8 ds k _ =>
    split at e
    · rename_i c
      cases e
      obtain ⟨a, vs, rfl, h1, r1⟩ := vw_tup vx
      refine op_once pins s σ H _ _ v u Q I rx ry ⟨a, vs, rfl, by rw [vw_int vy, c], SqT.of (hs _ _ h1), r.old rfl _ (.tup h1 r1)⟩
    split at e
    · rename_i c
      cases e
      obtain ⟨a, vs, rfl, h1, r1⟩ := vw_tup vx
      refine op_repT pins s σ H _ _ v u Q I rx ry ⟨a, k, vs, rfl, vw_int vy, SqT.of (hs _ _ h1), fun z => ?_, c.2.1, c.2.2.1, by rw [← r1.len]; exact c.2.2.2, fun p hp => r.tup _ rfl rfl p _ hp (r1.repl k.toNat)⟩
      have := r1.nil_iff.mp z
      subst this
      exact absurd c.1 (by simp)
    · cases e
  all_goals cases e
theorem op_mod_ok : OpOk X cm (binaryOp .Mod) (binD .Mod) := by
  intro pins s σ H x y v u Q I rx ry h
  obtain ⟨F, L, dx, dy, d, fr, hs, vx, vy, e, r⟩ := h
  unfold binD at e
  split at e <;> simp only [reduceCtorEq] at *
  case h_9 i j _ =>
    split at e
    · cases e
      exact op_mod pins s σ H x y v u Q I rx ry ⟨i, j, vw_int vx, vw_int vy, by assumption, r.int⟩
    · cases e
  all_goals cases e
theorem op_fdiv_ok : OpOk X cm (binaryOp .FloorDiv) (binD .FloorDiv) := by
  intro pins s σ H x y v u Q I rx ry h
  obtain ⟨F, L, dx, dy, d, fr, hs, vx, vy, e, r⟩ := h
  unfold binD at e
  split at e <;> simp only [reduceCtorEq] at *
  case h_10 i j _ =>
    split at e
    · cases e
      exact op_fdivW pins s σ H x y v u Q I rx ry ⟨i, j, vw_int vx, vw_int vy, by assumption, r.int⟩
    · cases e
  all_goals cases e
theorem op_pow_ok : OpOk X cm (binaryOp .Pow) (binD .Pow) := by
  intro pins s σ H x y v u Q I rx ry h
  obtain ⟨F, L, dx, dy, d, fr, hs, vx, vy, e, r⟩ := h
  unfold binD at e
  split at e <;> simp only [reduceCtorEq] at *
  case h_11 i j _ =>
    split at e
    · cases e
      exact op_pow pins s σ H x y v u Q I rx ry ⟨i, j, vw_int vx, vw_int vy, by assumption, r.int⟩
    · cases e
  all_goals cases e
theorem op_bin_ok (op : Operator) : OpOk X cm (binaryOp op) (binD op) := by
  cases op with
  | Add => exact op_add_ok
  | Sub => exact op_sub_ok
  | Mult => exact op_mul_ok
  | Mod => exact op_mod_ok
  | FloorDiv => exact op_fdiv_ok
  | Pow => exact op_pow_ok
  | _ =>
    intro pins s σ H x y v u Q I rx ry h
    obtain ⟨F, L, dx, dy, d, fr, hs, vx, vy, e, r⟩ := h
    simp [binD] at e
end

/-! ### comparisons -/
def CmpOk (X : Cx) (cm : Str → Option Addr) (op : CmpOp) : Prop :=
  OpR X (compareOp op) fun x y H Q => ∃ F L dx dy b, Sub F H ∧ Vw X.K cm H F L dx x ∧ Vw X.K cm H F L dy y ∧ cmpD op dx dy = some b ∧ Q (.bl b) H
section
variable {X : Cx} {cm : Str → Option Addr} {K : Fr0} {H F : Hp} {L : List Addr} {v : V} {Q : VK}
theorem eqD_some {a b : D} {r : Bool} (h : eqD a b = some r) : a.sh = true ∧ b.sh = true ∧ r = PyData.eqv a.py b.py := by
  unfold eqD at h
  split at h
  · rename_i c
    rw [Bool.and_eq_true] at c
    cases h
    exact ⟨c.1, c.2, rfl⟩
  · cases h
theorem any_pyL (f : PyData → Bool) : ∀ xs : List D, (pyL xs).any f = xs.any fun z => f z.py
  | [] => rfl
  | x :: xs => by simp [pyL, any_pyL f xs]
theorem cmp_eq_ok (hu : X.A.units + 65 < cLine) : CmpOk X cm .Eq := by
  intro pins s σ H x y v u Q I rx ry h
  obtain ⟨F, L, dx, dy, b, hs, vx, vy, e, q⟩ := h
  obtain ⟨h1, h2, rfl⟩ := eqD_some (show eqD dx dy = some b from e)
  exact op_eqD (by omega) pins s σ H x y v u Q I rx ry ⟨_, _, vx.dp hs (pl_of h1), vy.dp hs (pl_of h2), shaped_of h1, shaped_of h2, q⟩
theorem cmp_ne_ok (hu : X.A.units + 65 < cLine) : CmpOk X cm .NotEq := by
  intro pins s σ H x y v u Q I rx ry h
  obtain ⟨F, L, dx, dy, b, hs, vx, vy, e, q⟩ := h
  have e' : (eqD dx dy).map (!·) = some b := e
  cases e2 : eqD dx dy with
  | none => rw [e2] at e'; cases e'
  | some r =>
    rw [e2] at e'
    cases e'
    obtain ⟨h1, h2, rfl⟩ := eqD_some e2
    exact op_neD (by omega) pins s σ H x y v u Q I rx ry ⟨_, _, vx.dp hs (pl_of h1), vy.dp hs (pl_of h2), shaped_of h1, shaped_of h2, q⟩
theorem isB_some : ∀ {x y : D} {b : Bool}, isB x y = some b → ∃ p q : Bool, x = .bl p ∧ y = .bl q ∧ b = decide (p = q)
  | .bl p, .bl q, _, h => by cases h; exact ⟨p, q, rfl, rfl, rfl⟩
theorem cmp_is_ok : CmpOk X cm .Is := by
  intro pins s σ H x y v u Q I rx ry h
  obtain ⟨F, L, dx, dy, b, hs, vx, vy, e, q⟩ := h
  have e' : (if isNon dy then some (isNon dx) else isB dx dy) = some b := e
  split at e'
  · rename_i c
    cases e'
    have hy : dy = .non := by cases dy <;> simp [isNon] at c <;> rfl
    subst hy
    refine op_isN pins s σ H x y v u Q I rx ry ⟨vw_non vy, ?_⟩
    have : decide (x = V.non) = isNon dx := by
      cases dx <;> simp only [isNon, decide_eq_true_eq, decide_eq_false_iff_not]
      · exact vw_non vx
      · rw [vw_bl vx]; simp
      · rw [vw_int vx]; simp
      · rw [vw_str vx]; simp
      · obtain ⟨a, _, rfl, _⟩ := vw_tup vx; simp
      · obtain ⟨a, _, rfl, _⟩ := vw_lst vx; simp
      · obtain ⟨a, _, rfl, _⟩ := vx; simp
      · obtain ⟨a, _, rfl, _⟩ := vx; simp
      · obtain ⟨a, _, _, _, rfl, _⟩ := vx; simp
      · cases (show Rep X.K cm F L (.box _) x from vx); simp
      · obtain ⟨a, rfl, _⟩ := vw_scr vx; simp
    rw [this]; exact q
  · obtain ⟨p, q', rfl, rfl, rfl⟩ := isB_some e'
    exact op_isBl pins s σ H x y v u Q I rx ry ⟨p, q', vw_bl vx, vw_bl vy, q⟩
theorem cmp_isnot_ok : CmpOk X cm .IsNot := by
  intro pins s σ H x y v u Q I rx ry h
  obtain ⟨F, L, dx, dy, b, hs, vx, vy, e, q⟩ := h
  have e' : (if isNon dy then some (!isNon dx) else (isB dx dy).map (!·)) = some b := e
  split at e'
  · rename_i c
    cases e'
    have hy : dy = .non := by cases dy <;> simp [isNon] at c <;> rfl
    subst hy
    refine op_notN pins s σ H x y v u Q I rx ry ⟨vw_non vy, ?_⟩
    have : decide (x = V.non) = isNon dx := by
      cases dx <;> simp only [isNon, decide_eq_true_eq, decide_eq_false_iff_not]
      · exact vw_non vx
      · rw [vw_bl vx]; simp
      · rw [vw_int vx]; simp
      · rw [vw_str vx]; simp
      · obtain ⟨a, _, rfl, _⟩ := vw_tup vx; simp
      · obtain ⟨a, _, rfl, _⟩ := vw_lst vx; simp
      · obtain ⟨a, _, rfl, _⟩ := vx; simp
      · obtain ⟨a, _, rfl, _⟩ := vx; simp
      · obtain ⟨a, _, _, _, rfl, _⟩ := vx; simp
      · cases (show Rep X.K cm F L (.box _) x from vx); simp
      · obtain ⟨a, rfl, _⟩ := vw_scr vx; simp
    rw [this]; exact q
  · obtain ⟨b1, e3, e4⟩ := Option.map_eq_some_iff.mp e'
    obtain ⟨p, q', rfl, rfl, rfl⟩ := isB_some e3
    cases e4
    exact op_notBl pins s σ H x y v u Q I rx ry ⟨p, q', vw_bl vx, vw_bl vy, q⟩
theorem lk_val {κ : Type} [DecidableEq κ] {ks : List (κ × D)} {vs : List (κ × V)} {P : D → V → Prop} (h : Paired (fun p q => p.1 = q.1 ∧ P p.2 q.2) ks vs) (k : κ) : (lk ks k = none ∧ valV vs k = none) ∨ ∃ d v, lk ks k = some d ∧ valV vs k = some v ∧ P d v := by
  induction h with
  | nil => exact .inl ⟨rfl, rfl⟩
  | @cons p q ks vs r _ ih =>
    obtain ⟨k1, d⟩ := p
    obtain ⟨k2, w⟩ := q
    obtain ⟨rfl, r2⟩ := r
    by_cases e : k1 = k
    · subst e
      exact .inr ⟨d, w, by simp [lk], by simp [valV], r2⟩
    · rcases ih with ⟨h1, h2⟩ | ⟨d', w', h1, h2, h3⟩
      · exact .inl ⟨by simp only [lk, List.find?_cons, e, decide_false] at h1 ⊢; exact h1, by rw [valV_neg (by exact e)]; exact h2⟩
      · exact .inr ⟨d', w', by simp only [lk, List.find?_cons, e, decide_false] at h1 ⊢; exact h1, by rw [valV_neg (by exact e)]; exact h2, h3⟩
theorem RepK.paired : ∀ {ks : List (Key × D)} {vs : List (Key × V)}, RepK K cm F L ks vs → Paired (fun p q => p.1 = q.1 ∧ Rep K cm F L p.2 q.2) ks vs
  | _, _, .nil => .nil
  | _, _, .cons r t => .cons ⟨rfl, r⟩ (RepK.paired t)
theorem RepT.paired : ∀ {ks : List (List Key × D)} {vs : List (List Key × V)}, RepT K cm F L ks vs → Paired (fun p q => p.1 = q.1 ∧ Rep K cm F L p.2 q.2) ks vs
  | _, _, .nil => .nil
  | _, _, .cons r t => .cons ⟨rfl, r⟩ (RepT.paired t)
theorem RepK.of : ∀ {ks : List (Key × D)} {vs : List (Key × V)}, Paired (fun p q => p.1 = q.1 ∧ Rep K cm F L p.2 q.2) ks vs → RepK K cm F L ks vs
  | _, _, .nil => .nil
  | (k, d) :: _, (k', v) :: _, .cons r t => by obtain ⟨e, r⟩ := r; cases (show k = k' from e); exact .cons r (RepK.of t)
theorem RepT.of : ∀ {ks : List (List Key × D)} {vs : List (List Key × V)}, Paired (fun p q => p.1 = q.1 ∧ Rep K cm F L p.2 q.2) ks vs → RepT K cm F L ks vs
  | _, _, .nil => .nil
  | (k, d) :: _, (k', v) :: _, .cons r t => by obtain ⟨e, r⟩ := r; cases (show k = k' from e); exact .cons r (RepT.of t)
/-- a key's value -/
theorem key1_v {k : Key} {d : D} {v : V} (h : key1 d = some k) (r : Vw K cm H F L d v) : v = kV k ∧ d = kD k := by
  cases d <;> simp only [key1, Option.some.injEq, reduceCtorEq] at h
  · subst h; exact ⟨vw_int r, rfl⟩
  · subst h; exact ⟨vw_str r, rfl⟩
theorem keyS_v : ∀ {ks : List Key} {ds : List D} {vs : List V}, keyS ds = some ks → RepL K cm F L ds vs → vs = ks.map kV ∧ ds = ks.map kD
  | ks, [], _, h, r => by
    cases r
    cases h
    exact ⟨rfl, rfl⟩
  | ks, d :: ds, _, h, r => by
    cases r with
    | cons r1 r2 =>
      have h' : (do let k ← key1 d; let ks ← keyS ds; some (k :: ks)) = some ks := h
      cases e1 : key1 d with
      | none => rw [e1] at h'; cases h'
      | some k =>
        rw [e1] at h'
        have h2 : (do let ks ← keyS ds; some (k :: ks)) = some ks := h'
        cases e2 : keyS ds with
        | none => rw [e2] at h2; cases h2
        | some ks' =>
          rw [e2] at h2
          cases h2
          obtain ⟨a1, a2⟩ := key1_v (H := F) e1 (r1.vw (Sub.refl F))
          obtain ⟨b1, b2⟩ := keyS_v e2 r2
          exact ⟨by rw [a1, b1]; rfl, by rw [a2, b2]; rfl⟩
/-- an empty dict is one with tuples for keys, too -/
def DG (K : Fr0) (cm : Str → Option Addr) (H F : Hp) (L : List Addr) (a : Addr) (y : V) (o : Option D) : Prop := ∃ r, DGet H a y r ∧ ((o = none ∧ r = none) ∨ ∃ d v, o = some d ∧ r = some v ∧ Rep K cm F L d v)
theorem dGet_ok {dx dy : D} {x y : V} {o : Option D} (hs : Sub F H) (vx : Vw K cm H F L dx x) (vy : Vw K cm H F L dy y) (h : dGet dx dy = some o) (hne : ∀ xs, ¬ (dx = .dK [] ∧ dy = .tup xs)) : ∃ a, x = .ref a ∧ DG K cm H F L a y o := by
  unfold dGet at h
  split at h
  · rename_i kvs xs
    split at h
    · exact absurd ⟨rfl, rfl⟩ (hne xs)
    · cases h
  · rename_i kvs _ hn
    cases e : key1 dy with
    | none => rw [e] at h; cases h
    | some k =>
      rw [e] at h
      cases h
      obtain ⟨a, vs, rfl, h1, r1⟩ := vx
      obtain ⟨e1, _⟩ := key1_v e vy
      subst e1
      refine ⟨a, rfl, valV vs k, .inl ⟨vs, k, h1, rfl, rfl⟩, ?_⟩
      rcases lk_val r1.paired k with ⟨h3, h4⟩ | ⟨d, w, h3, h4, h5⟩
      · exact .inl ⟨h3, h4⟩
      · exact .inr ⟨d, w, h3, h4, h5⟩
  · rename_i kvs xs
    cases e : keyS xs with
    | none => rw [e] at h; cases h
    | some ks =>
      rw [e] at h
      cases h
      obtain ⟨a, vs, rfl, h1, r1⟩ := vx
      obtain ⟨b, ws, rfl, h2, r2⟩ := vw_tup vy
      obtain ⟨e1, _⟩ := keyS_v e r2
      subst e1
      refine ⟨a, rfl, valV vs ks, .inr ⟨vs, ks, b, h1, rfl, hs _ _ h2, rfl⟩, ?_⟩
      rcases lk_val r1.paired ks with ⟨h3, h4⟩ | ⟨d, w, h3, h4, h5⟩
      · exact .inl ⟨h3, h4⟩
      · exact .inr ⟨d, w, h3, h4, h5⟩
  · cases h
theorem dk_dt0 {P : Program} {w : World} {h : Heap} {a : Addr} (ok : HOk P w H h) (e : Rd H a (.dK [])) : (a == sysModules) = false ∧ h.DictOfH (tupleKind (mixKind P w)) a [] := by
  obtain ⟨_, hd, vs, r, o, es, ep, h1, h2, h3, h4, h5, h6⟩ := dk_rd ok e
  cases r
  have hes : es.toList = [] := by
    cases q : es.toList with
    | nil => rfl
    | cons x xs => rw [q] at h5; cases h5
  exact ⟨hd, o, es, ep, h1, h2, h3, by rw [hes]; rfl, fun x hx => (List.not_mem_nil hx).elim, List.nodup_nil⟩
theorem in_any_ok (neg : Bool) (hu : X.A.units + 65 < cLine) {pins : List (Addr × Obj)} {s : Shared} {σ : L2.St} {x y : V} {v u : Value} {dx dy : D} {b : Bool} (I : Inv X pins σ H s) (rx : RelV x v) (ry : RelV y u) (hs : Sub F H) (vx : Vw X.K cm H F L dx x) (vy : Vw X.K cm H F L dy y)
    (e : inD dx dy = some b) (q : Q (.bl (if neg then !b else b)) H) : wpAny (model X.prog X.w) X.A (compareOp (if neg then .NotIn else .In) v u) (EP X pins σ Q) X.xe s := by
  have dict : ∀ o, dGet dy dx = some o → b = o.isSome → wpAny (model X.prog X.w) X.A (compareOp (if neg then .NotIn else .In) v u) (EP X pins σ Q) X.xe s := by
    intro o h1 h2
    subst h2
    by_cases hc : ∃ xs, dy = .dK [] ∧ dx = .tup xs
    · obtain ⟨xs, rfl, rfl⟩ := hc
      obtain ⟨a, vs, rfl, g1, r1⟩ := vy
      cases r1
      obtain ⟨b, ws, rfl, g2, r2⟩ := vw_tup vx
      have h1' : (match ([] : List (Key × D)), keyS xs with
        | [], some _ => some none
        | _, _ => none) = some o := h1
      cases e1 : keyS xs with
      | none => rw [e1] at h1'; cases h1'
      | some ks =>
        rw [e1] at h1'
        cases h1'
        obtain ⟨e2, _⟩ := keyS_v e1 r2
        subst e2
        cases (show v = Value.ref b from rx)
        cases (show u = Value.ref a from ry)
        obtain ⟨hd, dd⟩ := dk_dt0 I.hok g1
        have key := key_of I.hok (hs _ _ g2)
        cases neg with
        | false => exact wpAny_in_heap (tupleKind_room_in1 (by omega)) key hd dd ⟨.bl false, H, I.tok _, rfl, q⟩
        | true => exact wpAny_notIn_heap (tupleKind_room_in1 (by omega)) key hd dd ⟨.bl true, H, I.tok _, rfl, q⟩
    · obtain ⟨a, rfl, r, g, c⟩ := dGet_ok hs vy vx h1 fun xs z => hc ⟨xs, z⟩
      cases (show u = Value.ref a from ry)
      have er : r.isSome = o.isSome := by
        rcases c with ⟨h3, h4⟩ | ⟨d, w, h3, h4, _⟩ <;> rw [h3, h4] <;> rfl
      cases neg with
      | false => exact d_in (by omega) I g rx fun s' I' => ⟨.bl r.isSome, H, I', rfl, by rw [er]; exact q⟩
      | true => exact d_notIn (by omega) I g rx fun s' I' => ⟨.bl (!r.isSome), H, I', rfl, by rw [er]; exact q⟩
  unfold inD at e
  split at e
  · rename_i xs
    obtain ⟨a, vs, rfl, h1, r1⟩ := vw_lst vy
    unfold inL at e
    split at e
    · rename_i c
      rw [Bool.and_eq_true] at c
      cases e
      have dxp := vx.dp hs (pl_of c.1)
      have dyp : Dp X.K H (.ref a) (.list (pyL xs)) := Vw.dp (d := .lst xs) hs ⟨a, vs, rfl, h1, r1⟩ (pl_of c.2)
      cases neg with
      | false => exact op_inD hu pins s σ H x _ v u Q I rx ry ⟨_, _, dxp, dyp, shaped_of c.1, shaped_of c.2, by rw [any_pyL]; exact q⟩
      | true => exact op_notInD hu pins s σ H x _ v u Q I rx ry ⟨_, _, dxp, dyp, shaped_of c.1, shaped_of c.2, by rw [any_pyL]; exact q⟩
    · cases e
  · rename_i xs
    obtain ⟨a, vs, rfl, h1, r1⟩ := vw_tup vy
    unfold inL at e
    split at e
    · rename_i c
      rw [Bool.and_eq_true] at c
      cases e
      have dxp := vx.dp hs (pl_of c.1)
      have dyp : Dp X.K H (.ref a) (.tuple (pyL xs)) := .tup (.of (hs _ _ h1)) (r1.dp hs (by have := pl_of c.2; simpa [D.pl] using this))
      obtain ⟨as, q1⟩ := Dp.reads I _ _ _ dxp rx
      obtain ⟨bs, q2⟩ := Dp.reads I _ _ _ dyp ry
      have c2 : PyData.canLayAll0 (pyL xs) = true := SeqAt.canLay_of_shaped (shaped_of c.2)
      have room : X.A.units + 1 + min (PyData.depthAll (pyL xs)) dx.py.depth < cLine := by
        have := SeqAt.depth_of_shaped (shaped_of c.1)
        omega
      cases neg with
      | false => exact SeqAt.in_tuple_reads q2 q1 c2 (SeqAt.canLay_of_shaped (shaped_of c.1)) room ⟨.bl _, H, I, rfl, by rw [any_pyL]; exact q⟩
      | true => exact SeqAt.notIn_tuple_reads q2 q1 c2 (SeqAt.canLay_of_shaped (shaped_of c.1)) room ⟨.bl _, H, I, rfl, by rw [any_pyL]; exact q⟩
    · cases e
  · rename_i t
    split at e
    · rename_i z
      cases e
      have e1 := vw_str vx
      have e2 := vw_str vy
      subst e1 e2
      cases neg with
      | false => exact op_in_str pins s σ H _ _ v u Q I rx ry ⟨z, t, rfl, rfl, q⟩
      | true => exact op_notin_str pins s σ H _ _ v u Q I rx ry ⟨z, t, rfl, rfl, q⟩
    · cases e
  · cases e1 : dGet dy dx with
    | none => rw [e1] at e; cases e
    | some o =>
      rw [e1] at e
      cases e
      exact dict o e1 rfl
theorem cmp_in_ok (hu : X.A.units + 65 < cLine) : CmpOk X cm .In := by
  intro pins s σ H x y v u Q I rx ry h
  obtain ⟨F, L, dx, dy, b, hs, vx, vy, e, q⟩ := h
  exact in_any_ok false hu I rx ry hs vx vy e q
theorem cmp_notin_ok (hu : X.A.units + 65 < cLine) : CmpOk X cm .NotIn := by
  intro pins s σ H x y v u Q I rx ry h
  obtain ⟨F, L, dx, dy, b, hs, vx, vy, e, q⟩ := h
  have e' : (inD dx dy).map (!·) = some b := e
  cases e2 : inD dx dy with
  | none => rw [e2] at e'; cases e'
  | some r =>
    rw [e2] at e'
    cases e'
    exact in_any_ok true hu I rx ry hs vx vy e2 q
theorem cmp_ok (hu : X.A.units + 65 < cLine) (op : CmpOp) : CmpOk X cm op := by
  cases op with
  | Eq => exact cmp_eq_ok hu
  | NotEq => exact cmp_ne_ok hu
  | Is => exact cmp_is_ok
  | IsNot => exact cmp_isnot_ok
  | In => exact cmp_in_ok hu
  | NotIn => exact cmp_notin_ok hu
  | Lt =>
    intro pins s σ H x y v u Q I rx ry h
    obtain ⟨F, L, dx, dy, b, hs, vx, vy, e, q⟩ := h
    have e' : ordD .Lt dx dy = some b := e
    unfold ordD at e'
    split at e' <;> simp only [reduceCtorEq] at *
    case h_1 => cases e'; exact op_lt pins s σ H x y v u Q I rx ry ⟨_, _, vw_int vx, vw_int vy, q⟩
    case h_5 => cases e'; exact op_lt_str pins s σ H x y v u Q I rx ry ⟨_, _, vw_str vx, vw_str vy, q⟩
    all_goals cases e'
  | LtE =>
    intro pins s σ H x y v u Q I rx ry h
    obtain ⟨F, L, dx, dy, b, hs, vx, vy, e, q⟩ := h
    have e' : ordD .LtE dx dy = some b := e
    unfold ordD at e'
    split at e' <;> simp only [reduceCtorEq] at *
    case h_2 => cases e'; exact op_le pins s σ H x y v u Q I rx ry ⟨_, _, vw_int vx, vw_int vy, q⟩
    all_goals cases e'
  | Gt =>
    intro pins s σ H x y v u Q I rx ry h
    obtain ⟨F, L, dx, dy, b, hs, vx, vy, e, q⟩ := h
    have e' : ordD .Gt dx dy = some b := e
    unfold ordD at e'
    split at e' <;> simp only [reduceCtorEq] at *
    case h_3 => cases e'; exact op_gt pins s σ H x y v u Q I rx ry ⟨_, _, vw_int vx, vw_int vy, q⟩
    all_goals cases e'
  | GtE =>
    intro pins s σ H x y v u Q I rx ry h
    obtain ⟨F, L, dx, dy, b, hs, vx, vy, e, q⟩ := h
    have e' : ordD .GtE dx dy = some b := e
    unfold ordD at e'
    split at e' <;> simp only [reduceCtorEq] at *
    case h_4 => cases e'; exact op_ge pins s σ H x y v u Q I rx ry ⟨_, _, vw_int vx, vw_int vy, q⟩
    all_goals cases e'

/-! ### truth, items, slices, fields -/
theorem truth_ok {d : D} {b : Bool} (hs : Sub F H) (vx : Vw K cm H F L d v) (e : truth d = some b) : TruV K v H b := by
  cases d <;> simp only [truth, reduceCtorEq] at e
  · cases e; rw [vw_non vx]; rfl
  · cases e; rw [vw_bl vx]; rfl
  · cases e; rw [vw_int vx]; rfl
  · split at e
    · cases e; rw [vw_str vx]; exact ⟨by assumption, rfl⟩
    · cases e
  · cases e
    obtain ⟨a, vs, rfl, h1, r1⟩ := vw_tup vx
    exact .inr (.inl ⟨vs, .of (hs _ _ h1), by cases r1 <;> rfl⟩)
  · cases e
    obtain ⟨a, vs, rfl, h1, r1⟩ := vw_lst vx
    exact .inl ⟨vs, .of h1, by cases r1 <;> rfl⟩
theorem atI_get {α : Type} {xs : List α} {i : Int} {d : α} (h : atI xs i = some d) : ∃ k, ixN xs.length i = some k ∧ xs[k]? = some d := by
  unfold atI at h
  cases e : ixN xs.length i with
  | none => rw [e] at h; cases h
  | some k => rw [e] at h; exact ⟨k, rfl, h⟩
theorem atI_of {α : Type} {xs : List α} {i : Int} {k : Nat} {d : α} (h : ixN xs.length i = some k) (h2 : xs[k]? = some d) : atI xs i = some d := by
  unfold atI
  rw [h]; exact h2
theorem ix_any (hu : X.A.units + 65 < cLine) : IxR X (fun x y H Q => ∃ F L dx dy d, Sub F H ∧ Vw X.K cm H F L dx x ∧ Vw X.K cm H F L dy y ∧ ixD dx dy = some d ∧ ∀ v, Rep X.K cm F L d v → Q v H) := by
  intro value slice pins s σ H x y v u Q I rx ry h hsub
  obtain ⟨F, L, dx, dy, d, hs, vx, vy, e, q⟩ := h
  unfold ixD at e
  split at e
  · obtain ⟨a, vs, rfl, h1, r1⟩ := vw_lst vx
    obtain ⟨k, e1, e2⟩ := atI_get e
    obtain ⟨w, e3, r2⟩ := r1.get e2
    exact ix_list value slice pins s σ H _ _ v u Q I rx ry ⟨a, vs, _, w, rfl, vw_int vy, .of h1, atI_of (by rw [← r1.len]; exact e1) e3, q w r2⟩ hsub
  · obtain ⟨a, vs, rfl, h1, r1⟩ := vw_tup vx
    obtain ⟨k, e1, e2⟩ := atI_get e
    obtain ⟨w, e3, r2⟩ := r1.get e2
    exact ix_tup value slice pins s σ H _ _ v u Q I rx ry ⟨a, vs, _, w, rfl, vw_int vy, .of (hs _ _ h1), atI_of (by rw [← r1.len]; exact e1) e3, q w r2⟩ hsub
  · split at e
    · rename_i z i c
      cases e1 : atI z.cps.toList i with
      | none => rw [e1] at e; cases e
      | some k =>
        rw [e1] at e
        cases e
        exact ix_str value slice pins s σ H _ _ v u Q I rx ry ⟨z, i, k, vw_str vx, vw_int vy, c, e1, q _ (.str _)⟩ hsub
    · cases e
  · rename_i is i
    cases e1 : atI is i with
    | none => rw [e1] at e; cases e
    | some k =>
      rw [e1] at e
      cases e
      obtain ⟨a, rfl, h1⟩ := vw_scr vx
      obtain ⟨j, e2, e3⟩ := atI_get e1
      exact ix_list value slice pins s σ H _ _ v u Q I rx ry ⟨a, _, i, .int k, rfl, vw_int vy, hs.sqL h1, atI_of (by rw [List.length_map]; exact e2) (by rw [List.getElem?_map, e3]; rfl), q _ (.int k)⟩ hsub
  · cases e1 : dGet dx dy with
    | none => rw [e1] at e; cases e
    | some o =>
      rw [e1] at e
      have eo : o = some d := e
      subst eo
      have hne : ∀ xs, ¬ (dx = .dK [] ∧ dy = .tup xs) := fun xs ⟨z1, z2⟩ => by
        subst z1 z2
        have h1 : (match ([] : List (Key × D)), keyS xs with
          | [], some _ => some none
          | _, _ => none) = some (some d) := e1
        cases e2 : keyS xs with
        | none => rw [e2] at h1; cases h1
        | some ks => rw [e2] at h1; cases h1
      obtain ⟨a, rfl, r, g, c⟩ := dGet_ok hs vx vy e1 hne
      rcases c with ⟨h3, _⟩ | ⟨d', w, h3, h4, h5⟩
      · cases h3
      · cases h3
        subst h4
        cases (show v = Value.ref a from rx)
        exact tail_any (dict_typeIs I g) PySem.F.slot_dict_getitem.lookup (d_getItem (by omega) I g ry fun w' s' I' rw' => ⟨w, H, I', rw', q w h5⟩) hsub
end
end Mp
/-! Mp, part E: the readings of evaluated expressions, put together. -/
namespace Mp
open PySem PySem.Spec PyProof.Rows L2

/-- what is wanted behind a run to t, s' -/
def Fin (K : Fr0) (cm : Str → Option Addr) (σ : L2.St) (s : St) (H F : Hp) (L : List Addr) (t : Tmp) (s' : St) (Q : VK) : Prop :=
  ∀ v H' F' L', Good K cm s' σ H' F' L' → Ext σ s H F L s' H' F' L' → TRep K cm s' σ H' F' L' t v → (∀ d a, t = .v d true → v = .ref a → H a = none) → Q v H'
def FinB (K : Fr0) (cm : Str → Option Addr) (σ : L2.St) (s : St) (H F : Hp) (L : List Addr) (b : Bool) (s' : St) (Q : Bool → Hp → Prop) : Prop :=
  ∀ H' F' L', Good K cm s' σ H' F' L' → Ext σ s H F L s' H' F' L' → Q b H'
def FinL (K : Fr0) (cm : Str → Option Addr) (σ : L2.St) (s : St) (H F : Hp) (L : List Addr) (ts : List Tmp) (s' : St) (Q : List V → Hp → Prop) : Prop :=
  ∀ vs H' F' L', Good K cm s' σ H' F' L' → Ext σ s H F L s' H' F' L' → TReps K cm s' σ H' F' L' ts vs → News H ts vs → Q vs H'
def tE (K : Fr0) (cm : Str → Option Addr) (s : St) (t : Tmp) (s' : St) : TE := fun σ H Q => ∃ F L, Good K cm s σ H F L ∧ Fin K cm σ s H F L t s' Q
def tTs (K : Fr0) (cm : Str → Option Addr) (s : St) (b : Bool) (s' : St) : TT := fun σ H Q => ∃ F L, Good K cm s σ H F L ∧ FinB K cm σ s H F L b s' Q
def tAs (K : Fr0) (cm : Str → Option Addr) (s : St) (ts : List Tmp) (s' : St) : TA := fun σ H Q => ∃ F L, Good K cm s σ H F L ∧ FinL K cm σ s H F L ts s' Q
section
variable {K : Fr0} {cm : Str → Option Addr} {σ : L2.St} {s s1 s2 s' : St} {H F H1 F1 H2 F2 : Hp} {L L1 L2 : List Addr} {t : Tmp} {Q : VK} {d : D}
theorem Ext.gone (x : Ext σ s H F L s1 H1 F1 L1) {a : Addr} (h : H1 a = none) : H a = none := by
  cases e : H a with
  | none => rfl
  | some o => exact absurd h (x.dom a (by rw [e]; simp))
theorem Fin.step (k : Fin K cm σ s H F L t s' Q) (g : Good K cm s1 σ H1 F1 L1) (x : Ext σ s H F L s1 H1 F1 L1) : Fin K cm σ s1 H1 F1 L1 t s' Q :=
  fun v H' F' L' g' x' q n => k v H' F' L' g' (x.then g x') q fun d a e1 e2 => x.gone (n d a e1 e2)
/-- a new object beside -/
theorem Good.laid (g : Good K cm s σ H F L) {p : Addr} {o : HO} (hp : H p = none) : Good K cm s σ (upd H p o) F L where
  sub := fun a u e => by rw [upd_ne (fun z => by rw [z] at e; exact g.dF (by rw [e]; simp) hp)]; exact g.sub a u e
  len := g.len
  pure := g.pure
  own := fun i d e => by
    obtain ⟨a, h1, h2, h3, h4⟩ := g.own i d e
    obtain ⟨o', ho⟩ := h4.some
    exact ⟨a, h1, h2, h3, h4.mono (Sub.refl F) (Pfx.refl L) (upd_ne (fun z => by rw [z, hp] at ho; cases ho))⟩
  apart := g.apart
  box := fun k is e => by
    obtain ⟨a, h1, h2, h3⟩ := g.box k is e
    exact ⟨a, h1, h2, by rw [upd_ne (fun z => by rw [z, hp] at h3; cases h3)]; exact h3⟩
  lenB := g.lenB
  nd := g.nd
theorem Good.laidF (g : Good K cm s σ H F L) {p : Addr} {o : HO} (hp : H p = none) : Good K cm s σ (upd H p o) (upd F p o) L where
  sub := fun a u e => by
    by_cases z : a = p
    · subst z; rw [upd_same] at e ⊢; exact e
    · rw [upd_ne z] at e ⊢; exact g.sub a u e
  len := g.len
  pure := fun i d e => by
    obtain ⟨v, h1, h2⟩ := g.pure i d e
    refine ⟨v, h1, Rep.mono (sub_upd ?_) (Pfx.refl L) h2⟩
    cases q : F p with
    | none => rfl
    | some u => rw [g.sub p u q] at hp; cases hp
  own := fun i d e => by
    obtain ⟨a, h1, h2, h3, h4⟩ := g.own i d e
    obtain ⟨o', ho⟩ := h4.some
    have ne : a ≠ p := fun z => by rw [z, hp] at ho; cases ho
    refine ⟨a, h1, by rw [upd_ne ne]; exact h2, h3, h4.mono (sub_upd ?_) (Pfx.refl L) (upd_ne ne)⟩
    cases q : F p with
    | none => rfl
    | some u => rw [g.sub p u q] at hp; cases hp
  apart := g.apart
  box := fun k is e => by
    obtain ⟨a, h1, h2, h3⟩ := g.box k is e
    have ne : a ≠ p := fun z => by rw [z, hp] at h3; cases h3
    exact ⟨a, h1, by rw [upd_ne ne]; exact h2, by rw [upd_ne ne]; exact h3⟩
  lenB := g.lenB
  nd := g.nd
theorem Good.fnone (g : Good K cm s σ H F L) {p : Addr} (hp : H p = none) : F p = none := by
  cases q : F p with
  | none => rfl
  | some u => rw [g.sub p u q] at hp; cases hp
theorem Ext.laid {p : Addr} {o : HO} (hp : H p = none) : Ext σ s H F L s (upd H p o) F L where
  sub := Sub.refl F
  new := fun _ h => .inl h
  pre := Pfx.refl L
  newL := fun _ h => .inl h
  frame := fun a u e _ _ => by rw [upd_ne (fun z => by rw [z, hp] at e; cases e)]; exact e
  dom := fun a h => by rw [upd_ne (fun z => h (by rw [z]; exact hp))]; exact h
  ownS := fun i d h => ⟨d, h⟩
  have_ := fun i p h => ⟨p, h⟩
  same := fun _ _ h => h
  no := fun _ h => h
theorem Ext.laidF {p : Addr} (hf : F p = none) {o : HO} (hp : H p = none) : Ext σ s H F L s (upd H p o) (upd F p o) L where
  sub := sub_upd hf
  new := fun a h => by
    by_cases z : a = p
    · subst z; exact .inr (.inl hp)
    · rw [upd_ne z] at h; exact .inl h
  pre := Pfx.refl L
  newL := fun _ h => .inl h
  frame := fun a u e _ _ => by rw [upd_ne (fun z => by rw [z, hp] at e; cases e)]; exact e
  dom := fun a h => by rw [upd_ne (fun z => h (by rw [z]; exact hp))]; exact h
  ownS := fun i d h => ⟨d, h⟩
  have_ := fun i p h => ⟨p, h⟩
  same := fun _ _ h => h
  no := fun _ h => h
theorem Fin.old (k : Fin K cm σ s H F L (.v d false) s Q) (g : Good K cm s σ H F L) {v : V} (r : Rep K cm F L d v) : Q v H :=
  k v H F L g Ext.refl r fun _ _ e => by cases e
theorem Fin.newT {ds : List D} (k : Fin K cm σ s H F L (.v (.tup ds) false) s Q) (g : Good K cm s σ H F L) {p : Addr} {vs : List V} (hp : H p = none) (r : RepL K cm F L ds vs) : Q (.ref p) (upd H p (.tup vs)) :=
  k (.ref p) _ _ L (g.laidF hp) (Ext.laidF (g.fnone hp) hp) (.tup upd_same (r.mono (sub_upd (g.fnone hp)) (Pfx.refl L))) fun _ _ e => by cases e
theorem Fin.newTop (k : Fin K cm σ s H F L (.v d true) s Q) (g : Good K cm s σ H F L) {p : Addr} {o : HO} (hp : H p = none) (r : Top K cm (upd H p o) F L d p) : Q (.ref p) (upd H p o) :=
  k (.ref p) _ F L (g.laid hp) (Ext.laid hp) ⟨p, rfl, g.fnone hp, fun z => g.dL z hp, r, fun z => g.dO z hp⟩ fun _ a _ e => by cases e; exact hp
theorem Fin.newL {ds : List D} (k : Fin K cm σ s H F L (.v (.lst ds) true) s Q) (g : Good K cm s σ H F L) {p : Addr} {vs : List V} (hp : H p = none) (r : RepL K cm F L ds vs) : Q (.ref p) (upd H p (.lst vs)) :=
  k.newTop g hp ⟨vs, upd_same, r⟩
theorem Fin.rsF {fr : Bool} (k : Fin K cm σ s H F L (.v d fr) s Q) (g : Good K cm s σ H F L) : RsF K cm H F L d fr Q :=
  ⟨fun e v r => by subst e; exact k.old g r, fun ds e1 e2 p vs hp r => by subst e1 e2; exact k.newT g hp r, fun ds e1 e2 p vs hp r => by subst e1 e2; exact k.newL g hp r, fun ks e1 e2 p vs hp r => by subst e1 e2; exact k.newTop g hp ⟨vs, upd_same, r⟩⟩
end

/-! ### rules -/
section
variable {X : Cx} {cm : Str → Option Addr} {s s1 s2 s' : St} {t u : Tmp} {a b c : Expr} {pos : Pos}
theorem re_const {v : V} {d : D} {e : Expr} (h : PE X e (tC v)) (r : ∀ F L, Rep X.K cm F L d v) : PE X e (tE X.K cm s (.v d false) s) :=
  h.imp fun σ H Q ⟨F, L, g, k⟩ => k.old g (r F L)
theorem re_loc {i : Nat} {e : Expr} (h : PE X e (tVar i)) (ht : (∃ d, s.get i = some (d, true) ∧ t = .x i) ∨ ∃ d, s.get i = some (d, false) ∧ t = .v d false) : PE X e (tE X.K cm s t s) :=
  h.imp fun σ H Q ⟨F, L, g, k⟩ => by
    rcases ht with ⟨d, h1, rfl⟩ | ⟨d, h1, rfl⟩
    · obtain ⟨a, h2, h3, h4, h5⟩ := g.own i d h1
      exact ⟨.ref a, h2, k _ H F L g Ext.refl ⟨_, h1, h2⟩ fun _ _ e => by cases e⟩
    · obtain ⟨v, h2, r⟩ := g.pure i d h1
      exact ⟨v, h2, k.old g r⟩
theorem ra_nil : PA X [] (tAs X.K cm s [] s) := pa_nil.imp fun σ H Q ⟨F, L, g, k⟩ => k [] H F L g Ext.refl .nil ⟨fun _ h => by simp [frA] at h, List.nodup_nil⟩
theorem ra_cons {e : Expr} {es : List Expr} {ts : List Tmp} (he : PE X e (tE X.K cm s t s1)) (hr : PA X es (tAs X.K cm s1 ts s2)) (hs : starEach (e :: es) X.env = (false, eval e X.env) :: starEach es X.env) : PA X (e :: es) (tAs X.K cm s (t :: ts) s2) :=
  (pa_cons he hr hs).imp fun σ H Q ⟨F, L, g, k⟩ => ⟨F, L, g, fun v H1 F1 L1 g1 x1 q1 n1 => ⟨F1, L1, g1, fun vs H2 F2 L2 g2 x2 q2 n2 => by
    refine k (v :: vs) H2 F2 L2 g2 (x1.then g1 x2) (.cons (q1.ext g1 x2) q2) ?_
    have tl : ∀ a ∈ frA ts vs, H a = none := fun a h => x1.gone (n2.new a h)
    cases t with
    | x i => exact ⟨fun a h => tl a (by simpa [frA] using h), by simpa [frA] using n2.nd⟩
    | v d b => cases b with
      | false => exact ⟨fun a h => tl a (by simpa [frA] using h), by simpa [frA] using n2.nd⟩
      | true =>
        obtain ⟨a, rfl, _, _, h4, _⟩ := q1
        obtain ⟨o, e⟩ := h4.some
        refine ⟨fun b h => ?_, ?_⟩
        · simp only [frA, List.mem_cons] at h
          rcases h with rfl | h
          · exact n1 d _ rfl rfl
          · exact tl b h
        · simp only [frA, List.nodup_cons]
          exact ⟨fun z => by (have := n2.new a z; rw [e] at this; cases this), n2.nd⟩⟩⟩
theorem PK_imp {kws : List Keyword} {t t' : TA} (h : PK X kws t) (k : ∀ σ H Q, t' σ H Q → t σ H Q) : PK X kws t' := ⟨fun pos pins s σ H Q I q => h.run pos pins s σ H Q I (k σ H Q q)⟩
theorem rk_nil : PK X [] (tAs X.K cm s [] s) := PK_imp pk_nil fun σ H Q ⟨F, L, g, k⟩ => k [] H F L g Ext.refl .nil ⟨fun _ h => by simp [frA] at h, List.nodup_nil⟩
theorem rk_cons {nm : Option Str} {kpos : Pos} {e : Expr} {es : List Keyword} {ts : List Tmp} (he : PE X e (tE X.K cm s t s1)) (hr : PK X es (tAs X.K cm s1 ts s2)) : PK X (⟨nm, e, kpos⟩ :: es) (tAs X.K cm s (t :: ts) s2) :=
  PK_imp (pk_cons he hr) fun σ H Q ⟨F, L, g, k⟩ => ⟨F, L, g, fun v H1 F1 L1 g1 x1 q1 n1 => ⟨F1, L1, g1, fun vs H2 F2 L2 g2 x2 q2 n2 => by
    refine k (v :: vs) H2 F2 L2 g2 (x1.then g1 x2) (.cons (q1.ext g1 x2) q2) ?_
    have tl : ∀ a ∈ frA ts vs, H a = none := fun a h => x1.gone (n2.new a h)
    cases t with
    | x i => exact ⟨fun a h => tl a (by simpa [frA] using h), by simpa [frA] using n2.nd⟩
    | v d b => cases b with
      | false => exact ⟨fun a h => tl a (by simpa [frA] using h), by simpa [frA] using n2.nd⟩
      | true =>
        obtain ⟨a, rfl, _, _, h4, _⟩ := q1
        obtain ⟨o, e⟩ := h4.some
        refine ⟨fun b h => ?_, ?_⟩
        · simp only [frA, List.mem_cons] at h
          rcases h with rfl | h
          · exact n1 d _ rfl rfl
          · exact tl b h
        · simp only [frA, List.nodup_cons]
          exact ⟨fun z => by (have := n2.new a z; rw [e] at this; cases this), n2.nd⟩⟩⟩
theorem re_tup {es : List Expr} {k : Nat} {ts : List Tmp} {ds : List D} (h : PA X es (tAs X.K cm s ts s1)) (ht : takes ts s1 = some (ds, s2)) (hz : ds.length ≤ sizeLine) : PE X (.Tuple es k pos) (tE X.K cm s (.v (.tup ds) false) s2) :=
  (pe_tup h.lk).imp fun σ H Q ⟨F, L, g, k⟩ => ⟨F, L, g, fun vs H1 F1 L1 g1 x1 q1 n1 => (takes_ok g g1 x1 q1 n1 ht).imp fun H2 ⟨F2, g2, x2, r2, _, _⟩ =>
    ⟨by rw [← r2.len]; exact hz, fun p hp => (k.step g2 x2).newT g2 hp r2⟩⟩
theorem re_lst {es : List Expr} {ts : List Tmp} {ds : List D} (h : PA X es (tAs X.K cm s ts s1)) (ht : takes ts s1 = some (ds, s2)) (hz : ds.length ≤ sizeLine) : PE X (.List es pos) (tE X.K cm s (.v (.lst ds) true) s2) :=
  (pe_lst h.lk).imp fun σ H Q ⟨F, L, g, k⟩ => ⟨F, L, g, fun vs H1 F1 L1 g1 x1 q1 n1 => (takes_ok g g1 x1 q1 n1 ht).imp fun H2 ⟨F2, g2, x2, r2, _, _⟩ =>
    ⟨by rw [← r2.len]; exact hz, fun p hp => (k.step g2 x2).newL g2 hp r2⟩⟩
theorem re_bin {op : Operator} {x y d : D} {f : Bool} (ha : PE X a (tE X.K cm s t s1)) (hb : PE X b (tE X.K cm s1 u s2)) (hx : t.d s2 = some x) (hy : u.d s2 = some y) (h : binD op x y = some (d, f)) : PE X (.BinOp a op b pos) (tE X.K cm s (.v d f) s2) :=
  (pe_op (op_bin_ok op) ha hb).imp fun σ H Q ⟨F, L, g, k⟩ => ⟨F, L, g, fun v1 H1 F1 L1 g1 x1 q1 n1 => ⟨F1, L1, g1, fun v2 H2 F2 L2 g2 x2 q2 n2 =>
    ⟨F2, L2, x, y, d, f, g2.sub, (q1.ext g1 x2).vw g2 hx, q2.vw g2 hy, h, (k.step g2 (x1.then g1 x2)).rsF g2⟩⟩⟩
theorem re_cmp {op : CmpOp} {x y : D} {r : Bool} (hu : X.A.units + 65 < cLine) (ha : PE X a (tE X.K cm s t s1)) (hb : PE X b (tE X.K cm s1 u s2)) (hx : t.d s2 = some x) (hy : u.d s2 = some y) (h : cmpD op x y = some r) (hm : behindInMarks op b = false) : PE X (.Compare a [op] [b] pos) (tE X.K cm s (.v (.bl r) false) s2) :=
  (pe_cmpR (cmp_ok hu op) ha hb hm).imp fun σ H Q ⟨F, L, g, k⟩ => ⟨F, L, g, fun v1 H1 F1 L1 g1 x1 q1 n1 => ⟨F1, L1, g1, fun v2 H2 F2 L2 g2 x2 q2 n2 =>
    ⟨F2, L2, x, y, r, g2.sub, (q1.ext g1 x2).vw g2 hx, q2.vw g2 hy, h, (k.step g2 (x1.then g1 x2)).old g2 (.bl r)⟩⟩⟩
theorem rt_cmp {op : CmpOp} {x y : D} {r : Bool} (hu : X.A.units + 65 < cLine) (ha : PE X a (tE X.K cm s t s1)) (hb : PE X b (tE X.K cm s1 u s2)) (hx : t.d s2 = some x) (hy : u.d s2 = some y) (h : cmpD op x y = some r) (hm : behindInMarks op b = false) : PT X (.Compare a [op] [b] pos) (tTs X.K cm s r s2) :=
  (pt_cmpR (cmp_ok hu op) ha hb hm).imp fun σ H Q ⟨F, L, g, k⟩ => ⟨F, L, g, fun v1 H1 F1 L1 g1 x1 q1 n1 => ⟨F1, L1, g1, fun v2 H2 F2 L2 g2 x2 q2 n2 =>
    ⟨F2, L2, x, y, r, g2.sub, (q1.ext g1 x2).vw g2 hx, q2.vw g2 hy, h, ⟨r, rfl, k H2 F2 L2 g2 (x1.then g1 x2)⟩⟩⟩⟩
/-- a test by a value's truth -/
theorem rt_truth {d : D} {r : Bool} (ha : PE X a (tE X.K cm s t s1)) (hd : t.d s1 = some d) (h : truth d = some r) (he : ∀ whole, isTrue a X.env whole = (do let v ← whole; standAt a.pos; holding [v] (truthy v))) : PT X a (tTs X.K cm s r s1) :=
  (pt_truth ha he).imp fun σ H Q ⟨F, L, g, k⟩ => ⟨F, L, g, fun v1 H1 F1 L1 g1 x1 q1 n1 => ⟨r, truth_ok g1.sub (q1.vw g1 hd) h, k H1 F1 L1 g1 x1⟩⟩
theorem re_not {d : D} {r : Bool} (ha : PE X a (tE X.K cm s t s1)) (hd : t.d s1 = some d) (h : truth d = some r) : PE X (.UnaryOp .Not a pos) (tE X.K cm s (.v (.bl (!r)) false) s1) :=
  (pe_notT ha).imp fun σ H Q ⟨F, L, g, k⟩ => ⟨F, L, g, fun v1 H1 F1 L1 g1 x1 q1 n1 => ⟨r, truth_ok g1.sub (q1.vw g1 hd) h, (k.step g1 x1).old g1 (.bl _)⟩⟩
theorem re_neg {i : Int} (ha : PE X a (tE X.K cm s t s1)) (hd : t.d s1 = some (.int i)) : PE X (.UnaryOp .USub a pos) (tE X.K cm s (.v (.int (-i)) false) s1) :=
  (pe_un un_neg ha).imp fun σ H Q ⟨F, L, g, k⟩ => ⟨F, L, g, fun v1 H1 F1 L1 g1 x1 q1 n1 => ⟨i, vw_int (q1.vw g1 hd), (k.step g1 x1).old g1 (.int _)⟩⟩
theorem rt_not {r : Bool} (ha : PT X a (tTs X.K cm s r s1)) : PT X (.UnaryOp .Not a pos) (tTs X.K cm s (!r) s1) :=
  (pt_not ha).imp fun σ H Q ⟨F, L, g, k⟩ => ⟨F, L, g, fun H1 F1 L1 g1 x1 => k H1 F1 L1 g1 x1⟩
theorem re_ite {r : Bool} (hc : PT X c (tTs X.K cm s r s1)) (ha : r = true → PE X a (tE X.K cm s1 t s2)) (hb : r = false → PE X b (tE X.K cm s1 t s2)) : PE X (.IfExp c a b pos) (tE X.K cm s t s2) := by
  refine ⟨fun pins s0 σ H Q I h => ?_⟩
  obtain ⟨F, L, g, k⟩ := h
  refine wpAny_IfExp (thn (hc.run pins s0 σ H (fun c H1 => c = r ∧ tE X.K cm s1 t s2 σ H1 Q) I ⟨F, L, g, fun H1 F1 L1 g1 x1 => ⟨rfl, F1, L1, g1, k.step g1 x1⟩⟩) fun d s3 ⟨H1, I1, e, q1⟩ => ?_)
  subst e
  cases d with
  | true => exact (ha rfl).run pins s3 σ H1 Q I1 q1
  | false => exact (hb rfl).run pins s3 σ H1 Q I1 q1
/-- and, or as values -/
theorem re_and {rest : List Expr} {d : D} {r : Bool} (ha : PE X a (tE X.K cm s t s1)) (hd : t.d s1 = some d) (h : truth d = some r) (hb : r = true → PE X (.BoolOp .And (b :: rest) pos) (tE X.K cm s1 u s2)) (h2 : r = false → u = t ∧ s2 = s1) :
    PE X (.BoolOp .And (a :: b :: rest) pos) (tE X.K cm s u s2) := by
  refine ⟨fun pins s0 σ H Q I h0 => ?_⟩
  obtain ⟨F, L, g, k⟩ := h0
  refine BoolOp_and (thn (ha.run pins s0 σ H (fun v H1 => ∃ F1 L1, Good X.K cm s1 σ H1 F1 L1 ∧ Ext σ s H F L s1 H1 F1 L1 ∧ TRep X.K cm s1 σ H1 F1 L1 t v ∧ (∀ d a, t = .v d true → v = .ref a → H a = none)) I ⟨F, L, g, fun v H1 F1 L1 g1 x1 q1 n1 => ⟨F1, L1, g1, x1, q1, n1⟩⟩) fun v s3 ⟨x, H1, I1, r1, F1, L1, g1, x1, q1, n1⟩ => ?_)
  refine thn (tru_ok pins s3 σ H1 x v (fun b H2 => b = r ∧ H2 = H1) I1 r1 ⟨r, truth_ok g1.sub (q1.vw g1 hd) h, rfl, rfl⟩) fun b s4 ⟨H2, I2, e1, e2⟩ => ?_
  subst e1 e2
  cases b with
  | true => exact (hb rfl).run pins s4 σ H2 Q I2 ⟨F1, L1, g1, k.step g1 x1⟩
  | false =>
    obtain ⟨rfl, rfl⟩ := h2 rfl
    exact ⟨x, H2, I2, r1, k x H2 F1 L1 g1 x1 q1 n1⟩
theorem re_or {rest : List Expr} {d : D} {r : Bool} (ha : PE X a (tE X.K cm s t s1)) (hd : t.d s1 = some d) (h : truth d = some r) (hb : r = false → PE X (.BoolOp .Or (b :: rest) pos) (tE X.K cm s1 u s2)) (h2 : r = true → u = t ∧ s2 = s1) :
    PE X (.BoolOp .Or (a :: b :: rest) pos) (tE X.K cm s u s2) := by
  refine ⟨fun pins s0 σ H Q I h0 => ?_⟩
  obtain ⟨F, L, g, k⟩ := h0
  refine BoolOp_or (thn (ha.run pins s0 σ H (fun v H1 => ∃ F1 L1, Good X.K cm s1 σ H1 F1 L1 ∧ Ext σ s H F L s1 H1 F1 L1 ∧ TRep X.K cm s1 σ H1 F1 L1 t v ∧ (∀ d a, t = .v d true → v = .ref a → H a = none)) I ⟨F, L, g, fun v H1 F1 L1 g1 x1 q1 n1 => ⟨F1, L1, g1, x1, q1, n1⟩⟩) fun v s3 ⟨x, H1, I1, r1, F1, L1, g1, x1, q1, n1⟩ => ?_)
  refine thn (tru_ok pins s3 σ H1 x v (fun b H2 => b = r ∧ H2 = H1) I1 r1 ⟨r, truth_ok g1.sub (q1.vw g1 hd) h, rfl, rfl⟩) fun b s4 ⟨H2, I2, e1, e2⟩ => ?_
  subst e1 e2
  cases b with
  | false => exact (hb rfl).run pins s4 σ H2 Q I2 ⟨F1, L1, g1, k.step g1 x1⟩
  | true =>
    obtain ⟨rfl, rfl⟩ := h2 rfl
    exact ⟨x, H2, I2, r1, k x H2 F1 L1 g1 x1 q1 n1⟩
/-- .. as tests -/
theorem rw_one {op : BoolOp} {r : Bool} (ha : PT X a (tTs X.K cm s r s1)) : PW X (.BoolOp op [a] pos) (tTs X.K cm s r s1) := by
  cases op
  · exact pw_and1 ha
  · exact pw_or1 ha
theorem rw_and {rest : List Expr} {r r2 : Bool} (ha : PT X a (tTs X.K cm s r s1)) (hb : r = true → PW X (.BoolOp .And (b :: rest) pos) (tTs X.K cm s1 r2 s2)) (h2 : r = false → r2 = false ∧ s2 = s1) : PW X (.BoolOp .And (a :: b :: rest) pos) (tTs X.K cm s r2 s2) := by
  refine ⟨fun wh pins s0 σ H Q I ⟨F, L, g, k⟩ => ?_⟩
  refine isTrue_and (thn (ha.run pins s0 σ H (fun c H1 => c = r ∧ ∃ F1 L1, Good X.K cm s1 σ H1 F1 L1 ∧ Ext σ s H F L s1 H1 F1 L1) I ⟨F, L, g, fun H1 F1 L1 g1 x1 => ⟨rfl, F1, L1, g1, x1⟩⟩) fun c s3 ⟨H1, I1, e, F1, L1, g1, x1⟩ => ?_)
  subst e
  cases c with
  | true => exact (hb rfl).run wh pins s3 σ H1 Q I1 ⟨F1, L1, g1, fun H2 F2 L2 g2 x2 => k H2 F2 L2 g2 (x1.then g1 x2)⟩
  | false =>
    obtain ⟨rfl, rfl⟩ := h2 rfl
    exact ⟨H1, I1, k H1 F1 L1 g1 x1⟩
theorem rw_or {rest : List Expr} {r r2 : Bool} (ha : PT X a (tTs X.K cm s r s1)) (hb : r = false → PW X (.BoolOp .Or (b :: rest) pos) (tTs X.K cm s1 r2 s2)) (h2 : r = true → r2 = true ∧ s2 = s1) : PW X (.BoolOp .Or (a :: b :: rest) pos) (tTs X.K cm s r2 s2) := by
  refine ⟨fun wh pins s0 σ H Q I ⟨F, L, g, k⟩ => ?_⟩
  refine isTrue_or (thn (ha.run pins s0 σ H (fun c H1 => c = r ∧ ∃ F1 L1, Good X.K cm s1 σ H1 F1 L1 ∧ Ext σ s H F L s1 H1 F1 L1) I ⟨F, L, g, fun H1 F1 L1 g1 x1 => ⟨rfl, F1, L1, g1, x1⟩⟩) fun c s3 ⟨H1, I1, e, F1, L1, g1, x1⟩ => ?_)
  subst e
  cases c with
  | false => exact (hb rfl).run wh pins s3 σ H1 Q I1 ⟨F1, L1, g1, fun H2 F2 L2 g2 x2 => k H2 F2 L2 g2 (x1.then g1 x2)⟩
  | true =>
    obtain ⟨rfl, rfl⟩ := h2 rfl
    exact ⟨H1, I1, k H1 F1 L1 g1 x1⟩
theorem re_ix {x y d : D} (hu : X.A.units + 65 < cLine) (ha : PE X a (tE X.K cm s t s1)) (hb : PE X b (tE X.K cm s1 u s2)) (hx : t.d s2 = some x) (hy : u.d s2 = some y) (h : ixD x y = some d) (hs : PlainIx b) : PE X (.Subscript a b pos) (tE X.K cm s (.v d false) s2) :=
  (pe_ix (ix_any hu) ha hb hs).imp fun σ H Q ⟨F, L, g, k⟩ => ⟨F, L, g, fun v1 H1 F1 L1 g1 x1 q1 n1 => ⟨F1, L1, g1, fun v2 H2 F2 L2 g2 x2 q2 n2 =>
    ⟨F2, L2, x, y, d, g2.sub, (q1.ext g1 x2).vw g2 hx, q2.vw g2 hy, h, fun v r => (k.step g2 (x1.then g1 x2)).old g2 r⟩⟩⟩
theorem re_bix {m : Nat} {j : Int} {is : List Int} {z : Int} (ha : PE X a (tE X.K cm s t s1)) (hb : PE X b (tE X.K cm s1 u s2)) (hx : t.d s2 = some (.box m)) (hy : u.d s2 = some (.int j)) (h1 : s2.b[m]? = some is) (h : atI is j = some z) (hs : PlainIx b) : PE X (.Subscript a b pos) (tE X.K cm s (.v (.int z) false) s2) :=
  (pe_ix ix_list ha hb hs).imp fun σ H Q ⟨F, L, g, k⟩ => ⟨F, L, g, fun v1 H1 F1 L1 g1 x1 q1 n1 => ⟨F1, L1, g1, fun v2 H2 F2 L2 g2 x2 q2 n2 => by
    have r1 : Rep X.K cm F2 L2 (.box m) v1 := (q1.ext g1 x2).vw g2 hx
    cases r1 with
    | box e =>
      obtain ⟨a', e1, e2, e3⟩ := g2.box m is h1
      rw [e] at e1; cases e1
      obtain ⟨k', e4, e5⟩ := Mp.atI_get h
      exact ⟨_, _, j, .int z, rfl, vw_int (q2.vw g2 hy), .of e3, Mp.atI_of (by rw [List.length_map]; exact e4) (by rw [List.getElem?_map, e5]; rfl), (k.step g2 (x1.then g1 x2)).old g2 (.int z)⟩⟩⟩
end
end Mp
/-! Mp, part Rv: a tuple backwards. -/
namespace Mp
open PySem PySem.Spec PyProof.Rows L2
theorem rev_pick (xs : Array Value) : ((List.range xs.size).filterMap fun (k : Nat) => xs[((xs.size : Int) - 1 + (k : Int) * (-1)).toNat]?).toArray = xs.toList.reverse.toArray := by
  have h : (fun (k : Nat) => xs[((xs.size : Int) - 1 + (k : Int) * (-1)).toNat]?) = (fun j => xs[j]?) ∘ fun k => xs.size - 1 - k := by
    funext k
    show xs[((xs.size : Int) - 1 + (k : Int) * (-1)).toNat]? = xs[xs.size - 1 - k]?
    congr 1
    omega
  rw [h, ← List.filterMap_map, PySem.W.krv_range, List.filterMap_reverse, PySem.W.krv_all]
theorem rev_adjust (n : Nat) : Builtin.Slice.sliceAdjust none none (-1) (n : Int) = ((n : Int) - 1, -1) := rfl
theorem rev_places (n : Nat) : Builtin.Slice.slicePlaces ((n : Int) - 1) (-1) (-1) = n := by
  unfold Builtin.Slice.slicePlaces
  rw [if_neg (by decide)]
  by_cases h : (n : Int) - 1 > -1
  · rw [if_pos h]
    have : ((n : Int) - 1 - -1 - 1) / - -1 = (n : Int) - 1 := by
      show ((n : Int) - 1 - -1 - 1) / 1 = _
      rw [Int.ediv_one]; omega
    rw [this]; omega
  · rw [if_neg h]
    show 0 = n
    omega
section
variable {prog : Program} {w : World} {A : Around} {E : Value → Shared → Prop} {s : Shared}
theorem rev_applied {sl : Addr} {n : Nat} {u : Tok} {Q : Int × Int × Nat → Shared → Prop} (hs : s.heap.IsSliceOf sl .none .none (.int (-1) u)) (h : Q ((n : Int) - 1, -1, n) s) :
    wpAny (model prog w) A (Builtin.Slice.sliceApplied (.ref sl) (pure (n : Int))) Q E s := by
  obtain ⟨o, ho, hc, hd⟩ := id hs
  unfold Builtin.Slice.sliceApplied Builtin.Slice.sliceFields
  refine wpAny_bind (wpAny_bind (wpAny_field ho hd (x := .none) rfl (wpAny_bind (wpAny_field ho hd (x := .none) rfl (wpAny_bind (wpAny_field ho hd (x := .int (-1) u) rfl (wpAny_pure ?_)))))))
  refine wpAny_bind (slicePart_int ?_)
  show wpAny _ _ (if ((-1 : Int) == 0) = true then _ else _) _ _ s
  rw [if_neg (by decide)]
  refine wpAny_bind (slicePart_none (wpAny_bind (slicePart_none (wpAny_bind (wpAny_pure ?_)))))
  show wpAny _ _ (match Builtin.Slice.sliceAdjust none none (-1) (n : Int) with | (lo, hi) => pure (lo, (-1 : Int), Builtin.Slice.slicePlaces lo hi (-1))) _ _ s
  rw [rev_adjust n]
  show wpAny _ _ (pure ((n : Int) - 1, (-1 : Int), Builtin.Slice.slicePlaces ((n : Int) - 1) (-1) (-1))) _ _ s
  rw [rev_places n]
  exact wpAny_pure h
theorem rev_item {t sl : Addr} {items : Array Value} {u : Tok} {Q : Value → Shared → Prop} (ht : IsTup s.heap t items) (hs : s.heap.IsSliceOf sl .none .none (.int (-1) u))
    (h : Q (.ref s.heap.objs.size) { s with heap := s.heap.push { cls := .type "tuple", data := .seq items.toList.reverse.toArray } }) (hz : items.size ≤ sizeLine) : wpAny (model prog w) A (getItem (.ref t) (.ref sl)) Q E s := by
  have small : sizeOk (.seq items.toList.reverse.toArray) := by
    show items.toList.reverse.toArray.size ≤ sizeLine
    rw [List.size_toArray, List.length_reverse, Array.length_toList]; exact hz
  obtain ⟨o, ho, hc, hd⟩ := id hs
  have hT : s.TypeIs (.ref sl) "slice" := ⟨o, ho, hc⟩
  unfold getItem
  try with_reducible refine wpAny_holding ?_
  first | refine wpAny_bind (wpAny_pure ?_) | skip
  refine wpAny_bind (wpAny_sequenceKey ht.typeIs (by decide) ?_)
  refine wpAny_bind (wpAny_callSpecial?_slot (name := Str.ofString "__getitem__") ht.typeIs slot_tuple_getitem (wpAny_call_entry slot_tuple_getitem ht.typeIs entry_tuple_getitem ?_ (args_tuple_getitem _ _)))
  show wpAny _ _ (Builtin.Tuple.tupleItemsOf (.ref t) >>= _) _ _ s
  refine wpAny_bind (tupleItemsOf_ ht (wpAny_bind (wpAny_typeOf hT ?_)))
  rw [if_pos (by decide)]
  refine wpAny_bind (rev_applied hs ?_)
  have no : ¬ (((items.size : Int) - 1 == 0 && (-1 : Int) == 1 && items.size == items.size) = true) := by
    have : ((-1 : Int) == 1) = false := rfl
    rw [this]; simp
  show wpAny _ _ (if ((items.size : Int) - 1 == 0 && (-1 : Int) == 1 && items.size == items.size) = true then _ else _) _ _ s
  rw [if_neg no, rev_pick items]
  first
    | exact wpAny_bind (m := Builtin.Tuple.tupleExact _) (wpAny_newObj_type (wpAny_pure ⟨_, rfl, wpAny_pure h⟩) small)
    | exact wpAny_bind (m := Builtin.Tuple.tupleExact _) (wpAny_newObj_type (wpAny_bind (wpAny_pure (wpAny_pure ⟨_, rfl, wpAny_pure h⟩))) small)
    | exact wpAny_bind (wpAny_bind (m := Builtin.Tuple.tupleExact _) (wpAny_newObj_type (wpAny_pure (wpAny_pure ⟨_, rfl, wpAny_pure h⟩)) small))
    | exact wpAny_bind (wpAny_bind (m := Builtin.Tuple.tupleExact _) (wpAny_newObj_type (wpAny_pure ⟨_, rfl, wpAny_pure h⟩) small))
end
section
variable {X : Cx}
def tRevT (K : Fr0) (te : TE) : TE := fun σ H Q => te σ H fun x H1 => ∃ a xs, x = .ref a ∧ SqT K H1 a xs ∧ ∀ p, H1 p = none → Q (.ref p) (upd H1 p (.tup xs.reverse))
theorem pe_revT {e : Expr} {te : TE} {k : Nat} {p1 p2 p3 pos : Pos} (he : PE X e te) : PE X (.Subscript e (.Slice none none (some (.UnaryOp .USub (.Constant (.int 1) k p1) p2)) p3) pos) (tRevT X.K te) where
  run := fun pins s σ H Q I h => by
    refine Subscript_ (thn (he.run pins s σ H _ I h) fun v s1 hh => ?_)
    obtain ⟨x, H1, I1, r1, a, xs, rfl, hx, q⟩ := hh
    cases (show v = Value.ref a from r1)
    have step : PO X (some (.UnaryOp .USub (.Constant (.int 1) k p1) p2)) (tPart (tUn (rU fun i => .int (-i)) (tC (.int 1)))) := po_some (pe_un un_neg pe_int)
    refine wpAny_Slice (thn (po_none.run pins s1 σ H1 (fun o H2 => o = none ∧ H2 = H1) I1 ⟨rfl, rfl⟩) fun vl s2 hl => ?_)
    obtain ⟨l, H2, I2, pl, rfl, rfl⟩ := hl
    refine thn (po_none.run pins s2 σ H2 (fun o H3 => o = none ∧ H3 = H2) I2 ⟨rfl, rfl⟩) fun vu s3 hu => ?_
    obtain ⟨u, H3, I3, pu, rfl, rfl⟩ := hu
    refine thn (step.run pins s3 σ H3 (fun o H4 => o = some (-1) ∧ H4 = H3) I3 ⟨1, rfl, -1, rfl, rfl, rfl⟩) fun vs s4 hv => ?_
    obtain ⟨o, H4, I4, ps, rfl, rfl⟩ := hv
    cases pl
    cases pu
    cases ps
    rename_i tk
    have J : Inv X pins σ H4 { s4 with heap := s4.heap.push { cls := .type "slice", data := .fields #[.none, .none, .int (-1) tk] } } := I4.kept (t' := s4.toks) fun b ob hb => Heap.get?_push_of_some _ hb
    obtain ⟨its, r, ht, hz⟩ := J.tuple hx
    show wpAny (model X.prog X.w) X.A (subscriptTail e (.Slice none none (some (.UnaryOp .USub (.Constant (.int 1) k p1) p2)) p3) (.ref a) (.ref s4.heap.objs.size)) (EP X pins σ Q) X.xe { s4 with heap := s4.heap.push { cls := .type "slice", data := .fields #[.none, .none, .int (-1) tk] } }
    refine tail_any (ops := [.ref a, .ref s4.heap.objs.size]) ht.typeIs slot_tuple_getitem.lookup (rev_item ht (Heap.IsSliceOf.new _ .none .none (.int (-1) tk)) ?_ (by rw [List.size_toArray, ← r.length]; exact hz)) (by with_unfolding_all rfl)
    refine ⟨.ref _, _, J.laid (t' := s4.toks) (o := .tup xs.reverse) (fun b ob hb => Heap.get?_push_of_some _ hb) (Nat.le_refl _) ?_, rfl, q _ (J.hok.fresh (Nat.le_refl _))⟩
    exact ⟨by rw [List.length_reverse]; exact hz, its.reverse, r.reverse, ⟨_, Heap.get?_push_size _ rfl, rfl, 0, rfl⟩⟩
end
end Mp
/-! Mp, part F: slices, fields, isinstance, built-in functions. -/
namespace Mp
open PySem PySem.Spec PyProof.Rows L2

theorem _root_.L2.PO.imp {X : Cx} {e : Option Expr} {t t' : TO} (h : PO X e t) (k : ∀ σ H Q, t' σ H Q → t σ H Q) : PO X e t' := ⟨fun pins s σ H Q I q => h.run pins s σ H Q I (k σ H Q q)⟩
def tOs (K : Fr0) (cm : Str → Option Addr) (s : St) (o : Option Int) (s' : St) : TO := fun σ H Q => ∃ F L, Good K cm s σ H F L ∧ ∀ H' F' L', Good K cm s' σ H' F' L' → Ext σ s H F L s' H' F' L' → Q o H'
section
variable {X : Cx} {cm : Str → Option Addr} {K : Fr0} {s s1 s2 s3 s' : St} {t u : Tmp} {a b c : Expr} {pos : Pos} {H F : Hp} {L : List Addr}
theorem ro_none : PO X none (tOs X.K cm s none s) := po_none.imp fun σ H Q ⟨F, L, g, k⟩ => k H F L g Ext.refl
theorem ro_some {e : Expr} {i : Int} (h : PE X e (tE X.K cm s t s1)) (hd : t.d s1 = some (.int i)) : PO X (some e) (tOs X.K cm s (some i) s1) :=
  (po_some h).imp fun σ H Q ⟨F, L, g, k⟩ => ⟨F, L, g, fun v H1 F1 L1 g1 x1 q1 n1 => ⟨i, vw_int (q1.vw g1 hd), k H1 F1 L1 g1 x1⟩⟩
theorem cut_rep {F : Hp} {ds : List D} {vs : List V} (r : RepL K cm F L ds vs) (lo hi : Option Int) : RepL K cm F L (cut ds lo hi) (cutV vs lo hi) := by
  unfold cut cutV
  rw [r.len]
  exact (r.drop _).take _
theorem rep_ints {F : Hp} : ∀ is : List Int, RepL K cm F L (is.map D.int) (is.map V.int)
  | [] => .nil
  | i :: is => .cons (.int i) (rep_ints is)
theorem sl_any : SlR X (fun x lo hi H Q => ∃ F L dx d fr, Sub F H ∧ Vw X.K cm H F L dx x ∧ slD dx lo hi = some (d, fr) ∧ RsF X.K cm H F L d fr Q) := by
  intro pins s σ H x v vl vu lo hi sl Q I rx hs pl pu h
  obtain ⟨F, L, dx, d, fr, hsub, vx, e, r⟩ := h
  unfold slD at e
  split at e
  · cases e
    obtain ⟨a, vs, rfl, h1, r1⟩ := vw_lst vx
    exact sl_list pins s σ H _ v vl vu lo hi sl Q I rx hs pl pu ⟨a, vs, rfl, .of h1, fun p hp => r.lst _ rfl rfl p _ hp (cut_rep r1 lo hi)⟩
  · cases e
    obtain ⟨a, vs, rfl, h1, r1⟩ := vw_tup vx
    refine sl_tupA pins s σ H _ v vl vu lo hi sl Q I rx hs pl pu ⟨a, vs, rfl, .of (hsub _ _ h1), fun w => ?_, fun _ p hp => r.tup _ rfl rfl p _ hp (cut_rep r1 lo hi)⟩
    have e1 : cut _ lo hi = _ := (show cut _ lo hi = _ from by
      unfold cut
      rw [r1.len, w.1, w.2, List.drop_zero, Nat.sub_zero, ← r1.len, List.take_length])
    rw [e1] at r
    exact r.old rfl _ (.tup h1 r1)
  · cases e
    obtain ⟨a, rfl, h1⟩ := vw_scr vx
    exact sl_list pins s σ H _ v vl vu lo hi sl Q I rx hs pl pu ⟨a, _, rfl, hsub.sqL h1, fun p hp => r.lst _ rfl rfl p _ hp (cut_rep (rep_ints _) lo hi)⟩
  · cases e
theorem re_sl {lo hi : Option Expr} {l h : Option Int} {x d : D} {f : Bool} {p2 : Pos} (ha : PE X a (tE X.K cm s t s1)) (hl : PO X lo (tOs X.K cm s1 l s2)) (hh : PO X hi (tOs X.K cm s2 h s3)) (hx : t.d s3 = some x) (e : slD x l h = some (d, f)) :
    PE X (.Subscript a (.Slice lo hi none p2) pos) (tE X.K cm s (.v d f) s3) :=
  (pe_slice sl_any ha hl hh).imp fun σ H Q ⟨F, L, g, k⟩ => ⟨F, L, g, fun v1 H1 F1 L1 g1 x1 q1 n1 => ⟨F1, L1, g1, fun H2 F2 L2 g2 x2 => ⟨F2, L2, g2, fun H3 F3 L3 g3 x3 =>
    ⟨F3, L3, x, d, f, g3.sub, ((q1.ext g1 x2).ext g2 x3).vw g3 hx, e, (k.step g3 ((x1.then g1 x2).then g2 x3)).rsF g3⟩⟩⟩⟩
theorem re_rev {xs : List D} {k0 : Nat} {p1 p2 p3 : Pos} (ha : PE X a (tE X.K cm s t s1)) (hd : t.d s1 = some (.lst xs)) : PE X (.Subscript a (.Slice none none (some (.UnaryOp .USub (.Constant (.int 1) k0 p1) p2)) p3) pos) (tE X.K cm s (.v (.lst xs.reverse) true) s1) :=
  (pe_revL ha).imp fun σ H Q ⟨F, L, g, k⟩ => ⟨F, L, g, fun v1 H1 F1 L1 g1 x1 q1 n1 => by
    obtain ⟨a, vs, rfl, h1, r1⟩ := vw_lst (q1.vw g1 hd)
    exact ⟨a, vs, rfl, .of h1, fun p hp => (k.step g1 x1).newL g1 hp r1.rev⟩⟩
theorem re_revT {xs : List D} {k0 : Nat} {p1 p2 p3 : Pos} (ha : PE X a (tE X.K cm s t s1)) (hd : t.d s1 = some (.tup xs)) : PE X (.Subscript a (.Slice none none (some (.UnaryOp .USub (.Constant (.int 1) k0 p1) p2)) p3) pos) (tE X.K cm s (.v (.tup xs.reverse) false) s1) :=
  (pe_revT ha).imp fun σ H Q ⟨F, L, g, k⟩ => ⟨F, L, g, fun v1 H1 F1 L1 g1 x1 q1 n1 => by
    obtain ⟨a, vs, rfl, h1, r1⟩ := vw_tup (q1.vw g1 hd)
    exact ⟨a, vs, rfl, .of (g1.sub _ _ h1), fun p hp => (k.step g1 x1).newT g1 hp r1.rev⟩⟩
/-- what is known of the classes -/
structure ClsOk (K : Fr0) (cm : Str → Option Addr) : Prop where
  cls : ∀ c C, cm c = some C → Cls K C
  noat : ∀ c C f, cm c = some C → f ∈ flds → NoAttr K C f
theorem attr_base (e : Expr) (f : Str) (env : Env) (h : ∀ p q, e ≠ .Call (.Name ("super" : Str) p) [] [] q) : attributeBase e f env (eval e env) = eval e env := by
  unfold attributeBase
  split
  · rename_i id p q
    have : (id != ("super" : Str)) = true := by
      simp only [bne_iff_ne, ne_eq]
      rintro rfl
      exact h _ _ rfl
    rw [this]
    simp
  · rfl
theorem re_fld {x d : D} {f : Str} (ck : ClsOk X.K cm) (ha : PE X a (tE X.K cm s t s1)) (hx : t.d s1 = some x) (e : fldD x f = some d) (hb : ∀ p q, a ≠ .Call (.Name ("super" : Str) p) [] [] q) : PE X (.Attribute a f pos) (tE X.K cm s (.v d false) s1) :=
  (pe_fld ha (attr_base a f X.env hb)).imp fun σ H Q ⟨F, L, g, k⟩ => ⟨F, L, g, fun v1 H1 F1 L1 g1 x1 q1 n1 => by
    cases x <;> simp only [fldD, reduceCtorEq] at e
    rename_i c fs
    split at e
    · rename_i hf
      obtain ⟨a, C, dx, vs, rfl, hc, h1, r1⟩ := (show Vw X.K cm H1 F1 L1 (.ins c fs) v1 from q1.vw g1 hx)
      obtain ⟨w, h2, r2⟩ := r1.look e
      exact ⟨a, C, dx, vs, w, rfl, h1, ck.cls c C hc, ck.noat c C f hc hf, h2, (k.step g1 x1).old g1 r2⟩
    · cases e⟩
/-! isinstance -/
def isiTys : List String := ["list", "tuple", "int", "bool", "str", "dict"]
theorem kit_all : ∀ t ∈ ["NoneType", "bool", "int", "str", "tuple", "list", "dict"], ∀ c ∈ isiTys, kitB t c = some (t == c || (t == "bool" && c == "int")) := by decide +kernel
theorem tyX_of {d : D} {v : V} (hs : Sub F H) (vx : Vw K cm H F L d v) (h : tyOf d ≠ "") : TyX K H v (.type (tyOf d)) := by
  cases d with
  | non => rw [vw_non vx]; exact .base .non
  | bl b => rw [vw_bl vx]; exact .base (.bl b)
  | int i => rw [vw_int vx]; exact .base (.int i)
  | str x => rw [vw_str vx]; exact .base (.str x)
  | tup ds => obtain ⟨a, vs, rfl, h1, _⟩ := vw_tup vx; exact .base (.tup (hs _ _ h1))
  | lst ds => obtain ⟨a, vs, rfl, h1, _⟩ := vw_lst vx; exact .base (.lst h1)
  | dK ks =>
    obtain ⟨a, vs, rfl, h1, _⟩ := vx
    rcases h1 with h1 | ⟨o, h1⟩
    · exact .base (.dK h1)
    · exact .fDict h1
  | dT ks => exact absurd rfl h
  | ins c fs => exact absurd rfl h
  | box k => exact absurd rfl h
  | scr is => exact absurd rfl h
theorem tyOf_mem {d : D} (h : tyOf d ≠ "") : tyOf d ∈ ["NoneType", "bool", "int", "str", "tuple", "list", "dict"] := by
  cases d <;> simp_all [tyOf]
theorem kitAny_all {t : String} (ht : t ∈ ["NoneType", "bool", "int", "str", "tuple", "list", "dict"]) : ∀ cs : List String, (∀ c ∈ cs, c ∈ isiTys) → PySem.W.kitAny K (.type t) (cs.map Value.type) = some (cs.any fun c => t == c || (t == "bool" && c == "int"))
  | [], _ => kitAny_nil
  | c :: cs, h => by
    have h1 := kit_ty (K := K) (kit_all t ht c (h c List.mem_cons_self))
    have h2 := kitAny_all ht cs fun c' hc => h c' (List.mem_cons_of_mem _ hc)
    rw [List.map_cons, List.any_cons]
    refine kitAny_cons h1 (fun e => by rw [e, Bool.false_or]; exact h2) fun e => by rw [e, Bool.true_or]
theorem paired_ty : ∀ cs : List String, Paired ClsV (cs.map V.ty) (cs.map Value.type)
  | [] => .nil
  | c :: cs => .cons (.ty c) (paired_ty cs)
def tNames : TA := fun _ H Q => False
/-- isinstance(a, T) -/
theorem re_isi1 {x : D} {T : String} {y : Str} {p q : Pos} {b : Bool} (ha : PE X a (tE X.K cm s t s1)) (hx : t.d s1 = some x) (hT : T ∈ isiTys) (e : isi x [T] = some b) (hy : PE X (.Name y q) (tC (.ty T))) (hg : Gl X "isinstance") (hm : X.mg "isinstance" = none)
    (hs : starEach [a, .Name y q] X.env = (false, eval a X.env) :: starEach [.Name y q] X.env) : PE X (.Call (.Name "isinstance" p) [a, .Name y q] [] pos) (tE X.K cm s (.v (.bl b) false) s1) :=
  (pe_callB call_isi hg hm PyProof.Rows.boot_isinstance (pa_cons ha (pa_cons hy pa_nil rfl) hs) (by decide) (by decide) hs rfl).imp fun σ H Q ⟨F, L, g, k⟩ => ⟨F, L, g, fun v1 H1 F1 L1 g1 x1 q1 n1 => by
    unfold isi at e
    split at e
    · cases e
    · rename_i hne
      cases e
      have h1 := kit_ty (K := X.K) (kit_all _ (tyOf_mem hne) T hT)
      refine ⟨v1, .ty T, .type (tyOf x), .type T, _, rfl, .ty T, tyX_of g1.sub (q1.vw g1 hx) hne, h1, ?_⟩
      have := (k.step g1 x1).old g1 (.bl _)
      simpa using this⟩
theorem pa_tys : ∀ {ys : List Expr} {Ts : List String}, Paired (fun y T => PE X y (tC (.ty T)) ∧ ∀ r, starEach (y :: r) X.env = (false, eval y X.env) :: starEach r X.env) ys Ts → PA X ys (fun _ H Q => Q (Ts.map V.ty) H)
  | _, _, .nil => pa_nil
  | _, _, .cons h r => (pa_cons h.1 (pa_tys r) (h.2 _)).imp fun _ _ _ q => q
theorem re_isiT {x : D} {Ts : List String} {ys : List Expr} {kk : Nat} {p q : Pos} {b : Bool} (ha : PE X a (tE X.K cm s t s1)) (hx : t.d s1 = some x) (hT : ∀ T ∈ Ts, T ∈ isiTys) (hl : Ts.length ≤ sizeLine) (e : isi x Ts = some b) (hy : PA X ys (fun _ H Q => Q (Ts.map V.ty) H)) (hg : Gl X "isinstance") (hm : X.mg "isinstance" = none)
    (hs : starEach [a, .Tuple ys kk q] X.env = (false, eval a X.env) :: starEach [.Tuple ys kk q] X.env) : PE X (.Call (.Name "isinstance" p) [a, .Tuple ys kk q] [] pos) (tE X.K cm s (.v (.bl b) false) s1) :=
  (pe_callB call_isiT hg hm PyProof.Rows.boot_isinstance (pa_cons ha (pa_cons (pe_tup hy) pa_nil rfl) hs) (by decide) (by decide) hs rfl).imp fun σ H Q ⟨F, L, g, k⟩ => ⟨F, L, g, fun v1 H1 F1 L1 g1 x1 q1 n1 => by
    refine ⟨by simpa using hl, fun tp htp => ?_⟩
    unfold isi at e
    split at e
    · cases e
    · rename_i hne
      cases e
      have g2 := g1.laid (o := .tup (Ts.map V.ty)) htp
      have x2 : Ext σ s1 H1 F1 L1 s1 _ F1 L1 := Ext.laid (o := .tup (Ts.map V.ty)) htp
      refine ⟨v1, tp, Ts.map V.ty, .type (tyOf x), Ts.map Value.type, _, rfl, upd_same, paired_ty Ts, tyX_of g2.sub ((q1.ext g1 x2).vw g2 hx) hne, kitAny_all (tyOf_mem hne) Ts hT, ?_⟩
      exact (k.step g2 (x1.then g1 x2)).old g2 (.bl _)⟩

/-! built-in functions of one value -/
def BiOk (X : Cx) (cm : Str → Option Addr) (f : Value) (g : D → Option (D × Bool)) : Prop :=
  CallR X f fun xs H Q => ∃ F L x dx d fr, xs = [x] ∧ Sub F H ∧ Vw X.K cm H F L dx x ∧ g dx = some (d, fr) ∧ RsF X.K cm H F L d fr Q
theorem bi_len : BiOk X cm (.builtin "len") (fun d => biD "len" [d]) := by
  intro pins s σ H xs us Q I rx h
  obtain ⟨F, L, x, dx, d, fr, rfl, hs, vx, e, r⟩ := h
  have e' : (match (generalizing := false) dx with
      | .lst xs => some (D.int xs.length, false)
      | .tup xs => some (.int xs.length, false)
      | .scr is => some (.int is.length, false)
      | .str s => if s.length ≤ sizeLine then some (.int s.length, false) else none
      | .dK kvs => some (.int kvs.length, false)
      | _ => none) = some (d, fr) := e
  cases dx <;> simp only [reduceCtorEq] at e'
  · split at e'
    · cases e'
      rw [vw_str vx] at rx
      exact call_len_str pins s σ H _ us Q I rx ⟨_, rfl, by assumption, r.int⟩
    · cases e'
  · cases e'
    obtain ⟨a, vs, rfl, h1, r1⟩ := vw_tup vx
    exact call_len_seq pins s σ H _ us Q I rx ⟨a, vs, rfl, .inr (.of (hs _ _ h1)), by rw [← r1.len]; exact r.int⟩
  · cases e'
    obtain ⟨a, vs, rfl, h1, r1⟩ := vw_lst vx
    exact call_len_seq pins s σ H _ us Q I rx ⟨a, vs, rfl, .inl (.of h1), by rw [← r1.len]; exact r.int⟩
  · cases e'
    obtain ⟨a, vs, rfl, h1, r1⟩ := vx
    cases rx with
    | cons q1 q2 =>
      cases q2
      cases (show _ = Value.ref a from q1)
      exact d_len I h1 fun t s' I' => ⟨.int vs.length, H, I', ⟨t, rfl⟩, by rw [← Paired.length r1.paired]; exact r.int⟩
  · cases e'
    obtain ⟨a, rfl, h1⟩ := vw_scr vx
    exact call_len_seq pins s σ H _ us Q I rx ⟨a, _, rfl, .inl (hs.sqL h1), by rw [List.length_map]; exact r.int⟩
theorem bi_int : BiOk X cm (.type "int") (fun d => biD "int" [d]) := by
  intro pins s σ H xs us Q I rx h
  obtain ⟨F, L, x, dx, d, fr, rfl, hs, vx, e, r⟩ := h
  have e' : (match (generalizing := false) dx with
      | .int i => some (D.int i, false)
      | .bl b => some (.int (if b then 1 else 0), false)
      | _ => none) = some (d, fr) := e
  cases dx <;> simp only [reduceCtorEq] at e'
  · cases e'
    exact call_int1 pins s σ H _ us Q I rx (.inr ⟨_, by rw [vw_bl vx], r.int⟩)
  · cases e'
    exact call_int1 pins s σ H _ us Q I rx (.inl ⟨_, by rw [vw_int vx], r.int⟩)
theorem bi_abs : BiOk X cm (.builtin "abs") (fun d => biD "abs" [d]) := by
  intro pins s σ H xs us Q I rx h
  obtain ⟨F, L, x, dx, d, fr, rfl, hs, vx, e, r⟩ := h
  have e' : (match (generalizing := false) dx with
      | .int i => some (D.int (if i < 0 then -i else i), false)
      | _ => none) = some (d, fr) := e
  cases dx <;> simp only [reduceCtorEq] at e'
  cases e'
  exact call_abs pins s σ H _ us Q I rx ⟨_, by rw [vw_int vx], r.int⟩
theorem bools_v {F : Hp} : ∀ {ds : List D} {vs : List V} {bs : List Bool}, boolsOf ds = some bs → RepL K cm F L ds vs → vs = bs.map V.bl
  | [], _, bs, e, r => by cases r; cases e; rfl
  | d :: ds, _, bs, e, r => by
    cases r with
    | cons r1 r2 =>
      cases d <;> simp only [boolsOf, reduceCtorEq] at e
      cases e1 : boolsOf ds with
      | none => rw [e1] at e; cases e
      | some bs' =>
        rw [e1] at e
        cases e
        cases r1
        rw [bools_v e1 r2]; rfl
theorem ints_v {F : Hp} : ∀ {ds : List D} {vs : List V} {bs : List Int}, intsOf ds = some bs → RepL K cm F L ds vs → vs = bs.map V.int ∧ ds = bs.map D.int
  | [], _, bs, e, r => by cases r; cases e; exact ⟨rfl, rfl⟩
  | d :: ds, _, bs, e, r => by
    cases r with
    | cons r1 r2 =>
      cases d <;> simp only [intsOf, reduceCtorEq] at e
      cases e1 : intsOf ds with
      | none => rw [e1] at e; cases e
      | some bs' =>
        rw [e1] at e
        cases e
        cases r1
        obtain ⟨h1, h2⟩ := ints_v e1 r2
        rw [h1, h2]; exact ⟨rfl, rfl⟩
theorem bi_all (hc : X.calm = true) : BiOk X cm (.builtin "all") (fun d => biD "all" [d]) := by
  intro pins s σ H xs us Q I rx h
  obtain ⟨F, L, x, dx, d, fr, rfl, hs, vx, e, r⟩ := h
  have e' : (match (generalizing := false) dx with
      | .lst xs => do
        let bs ← boolsOf xs
        some (D.bl (bs.all id), false)
      | _ => none) = some (d, fr) := e
  cases dx <;> simp only [reduceCtorEq] at e'
  rename_i xs
  obtain ⟨a, vs, rfl, h1, r1⟩ := vw_lst vx
  cases e1 : boolsOf xs with
  | none => rw [e1] at e'; cases e'
  | some bs =>
    rw [e1] at e'
    cases e'
    have := bools_v e1 r1
    subst this
    exact cr_all hc pins s σ H _ us Q I rx ⟨a, bs, rfl, .of h1, r.bl⟩
theorem bi_any (hc : X.calm = true) : BiOk X cm (.builtin "any") (fun d => biD "any" [d]) := by
  intro pins s σ H xs us Q I rx h
  obtain ⟨F, L, x, dx, d, fr, rfl, hs, vx, e, r⟩ := h
  have e' : (match (generalizing := false) dx with
      | .lst xs => do
        let bs ← boolsOf xs
        some (D.bl (bs.any id), false)
      | _ => none) = some (d, fr) := e
  cases dx <;> simp only [reduceCtorEq] at e'
  rename_i xs
  obtain ⟨a, vs, rfl, h1, r1⟩ := vw_lst vx
  cases e1 : boolsOf xs with
  | none => rw [e1] at e'; cases e'
  | some bs =>
    rw [e1] at e'
    cases e'
    have := bools_v e1 r1
    subst this
    exact cr_any hc pins s σ H _ us Q I rx ⟨a, bs, rfl, .of h1, r.bl⟩
theorem bi_tuple : BiOk X cm (.type "tuple") (fun d => biD "tuple" [d]) := by
  intro pins s σ H xs us Q I rx h
  obtain ⟨F, L, x, dx, d, fr, rfl, hs, vx, e, r⟩ := h
  have e' : (match (generalizing := false) dx with
      | .lst xs => some (D.tup xs, false)
      | .tup xs => some (.tup xs, false)
      | _ => none) = some (d, fr) := e
  cases dx <;> simp only [reduceCtorEq] at e'
  · cases e'
    obtain ⟨a, vs, rfl, h1, r1⟩ := vw_tup vx
    exact call_tuple_of pins s σ H _ us Q I rx ⟨a, vs, rfl, .inr ⟨.of (hs _ _ h1), r.old rfl _ (.tup h1 r1)⟩⟩
  · cases e'
    obtain ⟨a, vs, rfl, h1, r1⟩ := vw_lst vx
    exact call_tuple_of pins s σ H _ us Q I rx ⟨a, vs, rfl, .inl ⟨.of h1, fun p hp => r.tup _ rfl rfl p _ hp r1⟩⟩
theorem bi_list : BiOk X cm (.type "list") (fun d => biD "list" [d]) := by
  intro pins s σ H xs us Q I rx h
  obtain ⟨F, L, x, dx, d, fr, rfl, hs, vx, e, r⟩ := h
  have e' : (match (generalizing := false) dx with
      | .lst xs => some (D.lst xs, true)
      | .tup xs => some (.lst xs, true)
      | _ => none) = some (d, fr) := e
  cases dx <;> simp only [reduceCtorEq] at e'
  · cases e'
    obtain ⟨a, vs, rfl, h1, r1⟩ := vw_tup vx
    exact call_list_of pins s σ H _ us Q I rx ⟨a, vs, rfl, .inr (.of (hs _ _ h1)), fun p hp => r.lst _ rfl rfl p _ hp r1⟩
  · cases e'
    obtain ⟨a, vs, rfl, h1, r1⟩ := vw_lst vx
    exact call_list_of pins s σ H _ us Q I rx ⟨a, vs, rfl, .inl (.of h1), fun p hp => r.lst _ rfl rfl p _ hp r1⟩
theorem leastI_mem : ∀ (xs : List Int) (m : Int), leastI m xs ∈ m :: xs ∧ ∀ y ∈ m :: xs, leastI m xs ≤ y
  | [], m => by simp [leastI]
  | x :: xs, m => by
    have ih := leastI_mem xs (if x < m then x else m)
    unfold leastI
    refine ⟨?_, fun y hy => ?_⟩
    · rcases List.mem_cons.mp ih.1 with h | h
      · rw [h]; split <;> simp
      · simp [h]
    · have h0 := ih.2 _ List.mem_cons_self
      rcases List.mem_cons.mp hy with rfl | hy
      · have : (if x < y then x else y) ≤ y := by split <;> omega
        omega
      · rcases List.mem_cons.mp hy with rfl | hy
        · have : (if y < m then y else m) ≤ y := by split <;> omega
          omega
        · exact ih.2 y (List.mem_cons_of_mem _ hy)
theorem bi_min (hc : X.calm = true) : BiOk X cm (.builtin "min") (fun d => biD "min" [d]) := by
  intro pins s σ H xs us Q I rx h
  obtain ⟨F, L, x, dx, d, fr, rfl, hs, vx, e, r⟩ := h
  have e' : (match (generalizing := false) dx with
      | .lst (.int x :: xs) => do
        let is ← intsOf xs
        some (D.int (leastI x is), false)
      | _ => none) = some (d, fr) := e
  split at e'
  · rename_i x0 xs
    obtain ⟨a, vs, rfl, h1, r1⟩ := vw_lst vx
    cases e1 : intsOf xs with
    | none => rw [e1] at e'; cases e'
    | some is =>
      rw [e1] at e'
      cases e'
      cases r1 with
      | cons r0 r1 =>
        cases r0
        obtain ⟨e2, _⟩ := ints_v e1 r1
        subst e2
        have hm := leastI_mem is x0
        refine cr_min hc pins s σ H _ us Q I rx ⟨a, x0 :: is, rfl, .of h1, by simp, fun m m1 m2 => ?_⟩
        have : m = leastI x0 is := by
          have a1 := m2 _ hm.1
          have a2 := hm.2 m m1
          omega
        rw [this]; exact r.int
  · cases e'
end
end Mp
/-! Mp, part Fa: dict(list of pairs). -/
namespace Mp
open PySem PySem.Spec PyProof.Rows L2
section
variable {X : Cx} {cm : Str → Option Addr} {K : Fr0} {H F : Hp} {L : List Addr}
theorem rel_putK {k : Key} {d : D} {v : V} {ks : List (Key × D)} {vs : List (Key × V)} (r : RepK K cm F L ks vs) (q : Rep K cm F L d v) : RepK K cm F L (pt ks k d) (putK vs k v) := by
  have hany : ∀ {ks : List (Key × D)} {vs : List (Key × V)}, RepK K cm F L ks vs → (ks.any fun kv => decide (kv.1 = k)) = (vs.any fun kv => decide (kv.1 = k)) := by
    intro ks
    induction ks with
    | nil => intro vs r; cases r; rfl
    | cons p ks ih =>
      intro vs r
      cases r with
      | cons r t => simp only [List.any_cons]; rw [ih t]
  have hmap : ∀ {ks : List (Key × D)} {vs : List (Key × V)}, RepK K cm F L ks vs → RepK K cm F L (ks.map fun kv => if kv.1 = k then (kv.1, d) else kv) (vs.map fun kv => if kv.1 = k then (kv.1, v) else kv) := by
    intro ks
    induction ks with
    | nil => intro vs r; cases r; exact .nil
    | cons p ks ih =>
      intro vs r
      cases r with
      | @cons k' d' _ v' vs' r t =>
        simp only [List.map_cons]
        by_cases e : k' = k
        · rw [if_pos e, if_pos e]; exact .cons q (ih t)
        · rw [if_neg e, if_neg e]; exact .cons r (ih t)
  have happ : ∀ {ks : List (Key × D)} {vs : List (Key × V)}, RepK K cm F L ks vs → RepK K cm F L (ks ++ [(k, d)]) (vs ++ [(k, v)]) := by
    intro ks
    induction ks with
    | nil => intro vs r; cases r; exact .cons q .nil
    | cons p ks ih =>
      intro vs r
      cases r with
      | cons r t => exact .cons r (ih t)
  unfold pt putK
  rw [hany r]
  split
  · exact hmap r
  · exact happ r
theorem rel_merge : ∀ {l : List (Key × D)} {ws : List (Key × V)} {ks : List (Key × D)} {vs : List (Key × V)}, RepK K cm F L l ws → RepK K cm F L ks vs → RepK K cm F L (l.foldl (fun a p => pt a p.1 p.2) ks) (mergeK vs ws) := by
  intro l
  induction l with
  | nil => intro ws ks vs h q; cases h; exact q
  | cons p l ih =>
    intro ws ks vs h q
    cases h with
    | @cons k _ _ _ _ r t =>
      have z := ih t (rel_putK (k := k) q r)
      exact z
theorem key1_kV {kd : D} {k : Key} {v : V} (h : key1 kd = some k) (r : Rep K cm F L kd v) : v = kV k := by
  cases kd <;> first | (cases h; done) | skip
  · cases h; cases r; rfl
  · cases h; cases r; rfl
theorem prs_ok (hs : Sub F H) : ∀ {xs : List D} {vs : List V} {l : List (Key × D)}, prsOf xs = some l → RepL K cm F L xs vs → ∃ (ps : List Addr) (kvs : List (Key × V)), vs = ps.map V.ref ∧ Paired (fun p kv => SqT K H p [kV kv.1, kv.2]) ps kvs ∧ RepK K cm F L l kvs
  | [], _, l, h, r => by
    cases r
    cases h
    exact ⟨[], [], rfl, .nil, .nil⟩
  | x :: xs, _, l, h, r => by
    cases r with
    | @cons _ v _ vs r t =>
      unfold prsOf at h
      split at h
      · rename_i h1; cases h1
      · rename_i k d rest h1
        cases h1
        have h : (key1 k).bind (fun kk => (prsOf xs).bind fun l => some ((kk, d) :: l)) = some l := h
        cases e1 : key1 k with
        | none => rw [e1] at h; cases h
        | some kk =>
          rw [e1] at h
          cases e2 : prsOf xs with
          | none => simp [e2] at h
          | some l' =>
            simp only [e2, Option.bind_some] at h
            cases h
            obtain ⟨ps, kvs, rfl, p2, p3⟩ := prs_ok hs e2 t
            cases r with
            | @tup a ws _ q rr =>
              cases rr with
              | @cons _ u _ _ r1 r2 =>
                cases r2 with
                | cons r2 r3 =>
                  cases r3
                  have := key1_kV e1 r1
                  subst this
                  exact ⟨a :: ps, (kk, _) :: kvs, rfl, .cons (.of (hs _ _ q)) p2, .cons r2 p3⟩
      · cases h
theorem bi_dict (hc : X.calm = true) : BiOk X cm (.type "dict") (fun d => biD "dict" [d]) := by
  intro pins s σ H xs us Q I rx h
  obtain ⟨F, L, x, dx, d, fr, rfl, hs, vx, e, r⟩ := h
  have e' : (match (generalizing := false) dx with
      | .lst xs => (prsOf xs).bind fun l => some (D.dK (ptAll l), true)
      | _ => none) = some (d, fr) := e
  cases dx <;> simp only [reduceCtorEq] at e'
  rename_i xs
  cases e1 : prsOf xs with
  | none => rw [e1] at e'; cases e'
  | some l =>
    rw [e1] at e'
    cases e'
    obtain ⟨a, vs, rfl, h1, r1⟩ := vw_lst vx
    obtain ⟨ps, kvs, rfl, p2, p3⟩ := prs_ok hs e1 r1
    exact call_dictP hc pins s σ H _ us Q I rx ⟨a, ps, kvs, rfl, .of h1, p2, fun p hp => r.dic _ rfl rfl p _ hp (rel_merge p3 .nil)⟩
end
end Mp
/-! Mp, part G: sorting. -/
namespace Mp
open PySem PySem.Spec PyProof.Rows L2

theorem leD_total : W.TotalLe leD := W.sortLe_total (listOrd itemOrd) false fun b => W.keyToks (D.py b)
theorem insD_mem (x y : D) : ∀ l, y ∈ insD x l ↔ y = x ∨ y ∈ l
  | [] => by simp [insD]
  | z :: l => by
    unfold insD
    split
    · simp
    · simp only [List.mem_cons, insD_mem x y l]
      constructor
      · rintro (h | h | h)
        · exact .inr (.inl h)
        · exact .inl h
        · exact .inr (.inr h)
      · rintro (h | h | h)
        · exact .inr (.inl h)
        · exact .inl h
        · exact .inr (.inr h)
theorem insD_pair (x : D) : ∀ l : List D, l.Pairwise (fun a b => leD a b = true) → (insD x l).Pairwise (fun a b => leD a b = true)
  | [], _ => by simp [insD]
  | z :: l, h => by
    rw [List.pairwise_cons] at h
    unfold insD
    split
    · rename_i c
      refine List.pairwise_cons.mpr ⟨fun y hy => ?_, List.pairwise_cons.mpr h⟩
      rcases List.mem_cons.mp hy with rfl | hy
      · exact c
      · exact leD_total.trans _ _ _ c (h.1 y hy)
    · rename_i c
      have c' : leD z x = true := (leD_total.total x z).resolve_left c
      refine List.pairwise_cons.mpr ⟨fun y hy => ?_, insD_pair x l h.2⟩
      rcases (insD_mem x y l).mp hy with rfl | hy
      · exact c'
      · exact h.1 y hy
theorem insD_rank (x c : D) : ∀ l : List D, (insD x l).filter (W.sameRank leD c) = (x :: l).filter (W.sameRank leD c)
  | [] => rfl
  | z :: l => by
    unfold insD
    split
    · rfl
    · rename_i h
      rw [List.filter_cons, insD_rank x c l, List.filter_cons]
      by_cases h1 : W.sameRank leD c x = true
      · have h2 : ¬ W.sameRank leD c z = true := fun h2 => by
          unfold W.sameRank at h1 h2
          rw [Bool.and_eq_true] at h1 h2
          exact h (leD_total.trans _ _ _ h1.2 h2.1)
        rw [if_neg h2, if_pos h1, List.filter_cons, if_pos h1, List.filter_cons, if_neg h2]
      · rw [if_neg h1, List.filter_cons (x := x), if_neg h1, List.filter_cons]
theorem srt_pair : ∀ l : List D, (srt l).Pairwise (fun a b => leD a b = true)
  | [] => List.Pairwise.nil
  | x :: l => insD_pair x _ (srt_pair l)
theorem srt_rank (c : D) : ∀ l : List D, (srt l).filter (W.sameRank leD c) = l.filter (W.sameRank leD c)
  | [] => rfl
  | x :: l => by
    show (insD x (srt l)).filter _ = _
    rw [insD_rank, List.filter_cons, srt_rank c l, ← List.filter_cons]
theorem srt_eq (l : List D) : srt l = l.mergeSort leD := W.sort_unique leD_total (srt_pair l) fun c => srt_rank c l
theorem insD_len (x : D) : ∀ l, (insD x l).length = l.length + 1
  | [] => rfl
  | z :: l => by
    unfold insD
    split
    · rfl
    · simp [insD_len x l]
theorem srt_len : ∀ l : List D, (srt l).length = l.length
  | [] => rfl
  | x :: l => by rw [srt, insD_len, srt_len l]; rfl
section
variable {X : Cx} {cm : Str → Option Addr} {K : Fr0} {H F : Hp} {L : List Addr}
/-- the item that a value stands for -/
def Itm (K : Fr0) (cm : Str → Option Addr) (F : Hp) (L : List Addr) (u : Value) (d : D) : Prop := ∃ v, RelV v u ∧ Rep K cm F L d v
theorem each_of : ∀ {ds : List D} {vs : List V} {us : List Value}, RepL K cm F L ds vs → Vals vs us → W.EachIs (Itm K cm F L) us ds
  | _, _, _, .nil, .nil => .nil
  | _, _, _, .cons r t, .cons q q2 => .cons ⟨_, q, r⟩ (each_of t q2)
theorem of_each : ∀ {ds : List D} {us : List Value}, W.EachIs (Itm K cm F L) us ds → ∃ vs, Vals vs us ∧ RepL K cm F L ds vs
  | _, _, .nil => ⟨[], .nil, .nil⟩
  | _, _, .cons ⟨v, h1, h2⟩ t => by
    obtain ⟨vs, h3, h4⟩ := of_each t
    exact ⟨v :: vs, .cons h1 h3, .cons h2 h4⟩
theorem each_reads {pins : List (Addr × Obj)} {s : Shared} {σ : L2.St} (I : Inv X pins σ H s) (hs : Sub F H) : ∀ {ds : List D} {us : List Value}, W.EachIs (Itm X.K cm F L) us ds → (∀ d ∈ ds, d.pl = true) → W.EachIs (fun v b => ∃ as, Reads s.heap v (D.py b) as) us ds
  | _, _, .nil, _ => .nil
  | _, _, .cons ⟨v, h1, h2⟩ t, h => .cons (Dp.reads I _ v _ (h2.dp hs (h _ List.mem_cons_self)) h1) (each_reads I hs t fun d hd => h d (List.mem_cons_of_mem _ hd))
theorem sortable_of {xs : List D} (h : sortable xs = true) : (∀ d ∈ xs, d.sh = true) ∧ W.AllAlike (xs.map D.py) ∧ W.Sortable (xs.map D.py) := by
  unfold sortable at h
  rw [Bool.and_eq_true, Bool.and_eq_true, List.all_eq_true, List.all_eq_true] at h
  refine ⟨fun d hd => h.1.1 d hd, fun d hd d' hd' => ?_, ?_⟩
  · obtain ⟨a, ha, rfl⟩ := List.mem_map.mp hd
    obtain ⟨b, hb, rfl⟩ := List.mem_map.mp hd'
    exact List.all_eq_true.mp (h.1.2 a ha) b hb
  · rcases Bool.or_eq_true_iff.mp h.2 with q | q
    · left
      intro d hd
      obtain ⟨a, ha, rfl⟩ := List.mem_map.mp hd
      have := List.all_eq_true.mp q a ha
      cases a <;> simp only [tupOne, Bool.false_eq_true] at this
      rename_i ys
      cases ys with
      | nil => simp [tupOne] at this
      | cons y ys => exact ⟨y.py, pyL ys, rfl⟩
    · right
      intro d hd
      obtain ⟨a, ha, rfl⟩ := List.mem_map.mp hd
      have := List.all_eq_true.mp q a ha
      have hp := pl_of (h.1.1 a ha)
      cases a <;> simp_all [notTup, D.py, D.pl]
theorem depth_sh {d : D} (h : d.sh = true) : d.py.depth ≤ 60 := by
  unfold D.sh at h
  rw [Bool.and_eq_true, decide_eq_true_eq] at h
  exact h.2
mutual
theorem reads_lt {h : Heap} : ∀ {v : Value} {d : PyData} {as : List Addr}, Reads h v d as → ∀ a ∈ as, a < h.objs.size
  | _, _, _, .none, a, q => by cases q
  | _, _, _, .bool _, a, q => by cases q
  | _, _, _, .int _ _, a, q => by cases q
  | _, _, _, .str _ _, a, q => by cases q
  | _, _, _, .list h1 _ _ r, a, q => by
    rcases List.mem_cons.mp q with q | q
    · rw [q]; exact Heap.lt_size h1
    · exact readsAll_lt r a q
  | _, _, _, .tuple _ _ _ r, a, q => readsAll_lt r a q
  | _, _, _, .dict h1 _ _ r1 r2, a, q => by
    rcases List.mem_append.mp q with q | q
    · rcases List.mem_cons.mp q with q | q
      · rw [q]; exact Heap.lt_size h1
      · exact readsAll_lt r1 a q
    · exact readsAll_lt r2 a q
theorem readsAll_lt {h : Heap} : ∀ {vs : List Value} {ds : List PyData} {as : List Addr}, ReadsAll h vs ds as → ∀ a ∈ as, a < h.objs.size
  | _, _, _, .nil, a, q => by cases q
  | _, _, _, .cons r1 r2, a, q => by
    rcases List.mem_append.mp q with q | q
    · exact reads_lt r1 a q
    · exact readsAll_lt r2 a q
end
theorem each_off {β : Type} {enc : β → PyData} {h h' : Heap} {p : Addr} (k : ∀ b o, h.get? b = some o → h'.get? b = some o) (hp : h.objs.size ≤ p) : ∀ {vs : List Value} {bs : List β}, W.EachIs (fun v b => ∃ as, Reads h v (enc b) as) vs bs → W.EachIs (fun v b => ∃ as, Reads h' v (enc b) as ∧ p ∉ as) vs bs
  | _, _, .nil => .nil
  | _, _, .cons ⟨as, r⟩ t => .cons ⟨as, Reads.keeps k r, fun q => absurd (reads_lt r p q) (Nat.not_lt.mpr hp)⟩ (each_off k hp t)
section
variable {P : Program} {w : World} {A : Around} {E : Value → Shared → Prop} {s : Shared}
/-- the heap once the items at hand stand in a new list -/
def listed (h : Heap) (vs : List Value) : Heap := (h.push (seqObj "list" #[] 0)).update h.objs.size (Obj.mapSeq (· ++ vs.toArray))
theorem listed_old {h : Heap} {vs : List Value} {b : Addr} {o : Obj} (e : h.get? b = some o) : (listed h vs).get? b = some o :=
  (Heap.get?_update_other _ _ (Nat.ne_of_gt (Heap.lt_size e))).trans (Heap.get?_push_of_some _ e)
theorem listed_size (h : Heap) (vs : List Value) : (listed h vs).objs.size = h.objs.size + 1 := by
  unfold listed
  rw [Heap.size_update, size_push']
theorem collect_tupl {a : Addr} {vs : List Value} {Q : List Value → Shared → Prop} (ht : IsTup s.heap a vs.toArray) (k : Q vs { s with heap := listed s.heap vs }) (hz : vs.length ≤ sizeLine) : wpAny (model P w) A (collect (.ref a)) Q E s := by
  obtain ⟨o, ho, hc, n, hd⟩ := ht
  unfold collect
  refine wpAny_bind (wpAny_runValue (codeAny_builtin entry_proto_collect' ?g1))
  show wpAny _ _ (newList [] >>= fun l => again (.builtin "list.__iadd__" ⟨[l, .ref a], []⟩)) _ _ s
  refine wpAny_bind (wpAny_newList (wpAny_pure ⟨Code.quiet_builtin _ (by decide +kernel), codeAny_builtin entry_list_iadd' ?g2⟩))
  have hS : (s.heap.push (seqObj "list" #[] 0)).get? s.heap.objs.size = some { cls := .type "list", data := .seq #[] 0 } := Heap.get?_push_size _ rfl
  have fin : wpAny (model P w) A (load s.heap.objs.size >>= fun o => match o.data with
      | .seq xs _ => pure xs.toList
      | _ => unsupported "internal:collect") Q E { s with heap := listed s.heap vs } := by
    refine wpAny_bind (wpAny_load (get?_update_seq (Heap.get?_push_size _ rfl) _) ?_)
    have e : ((#[] : Array Value) ++ vs.toArray).toList = vs := by simp
    show wpAny _ _ (pure ((#[] : Array Value) ++ vs.toArray).toList) Q E _
    rw [e]
    exact wpAny_pure k
  refine wpAny_mono (wpAny_extend_seq (hsz := by simpa using hz) (A := A) (R := fun r s' => r = .ok (.ret (.ref s.heap.objs.size)) ∧ s' = { s with heap := listed s.heap vs }) (s := { s with heap := s.heap.push (seqObj "list" #[] 0) }) s.heap.objs.size a (.ref s.heap.objs.size) 0 (.inr rfl) hS (Heap.get?_push_of_some _ ho) hc hd ⟨rfl, rfl⟩) (fun f s' hf => ?_) (fun e s' he => ?_)
  · cases f with
    | done f =>
      obtain ⟨e, rfl⟩ := hf
      cases e
      exact fin
    | again c' => exact ⟨hf.1, codeAny_mono hf.2 fun r s'' hr => by obtain ⟨rfl, rfl⟩ := hr; exact fin⟩
  · exact absurd he.1 (by simp)
theorem sorted_tupl {β : Type} {enc : β → PyData} {R : Value → β → Prop} {a : Addr} {its : List Value} {bs : List β} {Q : Value → Shared → Prop}
    (ht : IsTup s.heap a its.toArray) (hz : its.length ≤ sizeLine) (ea : W.EachIs R its bs) (er : W.EachIs (fun v b => ∃ as, Reads s.heap v (enc b) as) its bs) (hal : W.AllAlike (bs.map enc)) (hk : W.Sortable (bs.map enc)) (hu : ∀ b, b ∈ bs → A.units + 2 + (enc b).depth < cLine)
    (k : ∀ h' p (out : List Value) (c : Nat), (∀ b o, s.heap.get? b = some o → h'.get? b = some o) → s.heap.objs.size ≤ p → h'.get? p = some (seqObj "list" out.toArray c) → out.length = bs.length → W.EachIs R out (bs.mergeSort (W.dataLe false enc)) → Q (.ref p) { s with heap := h' }) :
    wpAny (model P w) A (call (.builtin "sorted") [.ref a]) Q E s := by
  refine Calls.call_function_entry kind_sorted plain_sorted entry_sorted (args_sorted1 _) ?_
  unfold Builtin.«sorted»
  refine wpAny_bind (m := checkCount "sorted" 1 1 _) (wpAny_pure ?_)
  refine wpAny_bind (collect_tupl ht ?_ hz)
  refine wpAny_bind (wpAny_newList ?_ hz)
  have hsz := listed_size s.heap its
  have hle : s.heap.objs.size ≤ (listed s.heap its).objs.size := by rw [hsz]; exact Nat.le_succ _
  have keep : ∀ b o, s.heap.get? b = some o → ((listed s.heap its).push (seqObj "list" its.toArray 0)).get? b = some o := fun b o e => Heap.get?_push_of_some _ (listed_old e)
  have hoL : ((listed s.heap its).push (seqObj "list" its.toArray 0)).get? (listed s.heap its).objs.size = some (seqObj "list" its.toArray 0) := Heap.get?_push_size _ rfl
  refine wpAny_bind (wpAny_holding (W.list_sort_data (s := { s with heap := (listed s.heap its).push (seqObj "list" its.toArray 0) }) (R := R) (enc := enc) (bs := bs) hoL ea (each_off keep hle er) hal hk (by rw [← ea.length]; exact hz) (fun b hb => by have := hu b hb; show A.units + 1 + 1 + (enc b).depth < cLine; omega) fun out hl ho2 => ?_))
  obtain ⟨c, hc⟩ := sortedHeap_at (vs := its) (out := out.toArray) hoL
  refine wpAny_pure ⟨_, rfl, k _ (listed s.heap its).objs.size out c (fun b u e => ?_) hle hc hl ho2⟩
  have lt := Heap.lt_size e
  show (sortedHeap ((listed s.heap its).push (seqObj "list" its.toArray 0)) (listed s.heap its).objs.size its out.toArray).get? b = some u
  rw [sortedHeap_old (Nat.ne_of_lt (Nat.lt_of_lt_of_le lt hle)) (by rw [size_push']; exact Nat.lt_succ_of_lt (Nat.lt_of_lt_of_le lt hle))]
  exact keep b u e
end
theorem bi_sortedT (hu : X.A.units + 65 < cLine) {xs : List D} {pins : List (Addr × Obj)} {s : Shared} {σ : L2.St} {v : V} {u : Value} {Q : VK} (I : Inv X pins σ H s) (hs : Sub F H) (vx : Vw X.K cm H F L (.tup xs) v) (rv : RelV v u) (c1 : sortable xs = true) (c2 : xs.length ≤ sizeLine) (r : RsF X.K cm H F L (.lst (srt xs)) true Q) :
    wpAny (model X.prog X.w) X.A (call (.builtin "sorted") [u]) (fun v' s' => ∃ w H', Inv X pins σ H' s' ∧ RelV w v' ∧ Q w H') X.xe s := by
  obtain ⟨a, vs, rfl, h1, r1⟩ := vw_tup vx
  obtain ⟨p1, p2, p3⟩ := sortable_of c1
  cases (show u = Value.ref a from rv)
  obtain ⟨its, rvs, pl, hz⟩ := I.tuple (SqT.of (hs _ _ h1))
  have ea := each_of r1 rvs
  refine sorted_tupl (enc := D.py) (bs := xs) (R := Itm X.K cm F L) pl (by rw [ea.length]; exact c2) ea (each_reads I hs ea fun d hd => pl_of (p1 d hd)) p2 p3 (fun b hb => by have := depth_sh (p1 b hb); omega) fun h' p out c k hp ho hl hq => ?_
  have ho' : W.EachIs (Itm X.K cm F L) out (srt xs) := by rw [srt_eq]; exact hq
  obtain ⟨ws, w1, w2⟩ := of_each ho'
  have hlen : ws.length ≤ sizeLine := by rw [← w2.len, srt_len]; exact c2
  refine ⟨.ref p, upd H p (.lst ws), I.laid (t' := s.toks) k hp ⟨hlen, out, c, w1, ho⟩, rfl, ?_⟩
  exact r.lst _ rfl rfl _ _ (I.hok.fresh hp) w2
end
end Mp
/-! Mp, part Sa: sorted(set(texts)): the set's own table. -/
namespace Mp
open PySem PySem.Spec PyProof.Rows L2
def stv : Value → Str
  | .str x _ => x
  | _ => Str.empty
section
variable (P : Program) (w : World)
def TxtE (e : Int × Value) : Prop := ∃ x t, e.2 = .str x t ∧ e.1 = (PySem.strKind P w).hash x
/-- the texts of a set's entries, whatever their order -/
structure TxtIn (es : Array (Int × Value)) (xs : List Str) : Prop where
  good : ∀ e ∈ es.toList, TxtE P w e
  perm : (es.toList.map fun e => stv e.2).Perm xs
  nd : xs.Nodup
/-- a table that can be walked -/
def TabOk (t : SetTable) : Prop := Ris t.place.toList ∧ (w.params.followText "set-order" = true ∨ t.led = true)
/-- a set of texts stands at a -/
def Bag (h : Heap) (a : Addr) (xs : List Str) : Prop := ∃ o es ep t, h.get? a = some o ∧ o.ExactSet ∧ o.data = .set es ep t ∧ TxtIn P w es xs ∧ es.size < scanBound ∧ t.fits es.size = true ∧ TabOk w t
end
section
variable {P : Program} {w : World} {A : Around} {E : Value → Shared → Prop} {s : Shared} {a : Addr} {xs : List Str} {es : Array (Int × Value)} {t : SetTable}
theorem TxtIn.len (B : TxtIn P w es xs) : es.size = xs.length := by
  have := B.perm.length_eq
  rwa [List.length_map, Array.length_toList] at this
theorem TxtIn.elems (B : TxtIn P w es xs) : ElemsOf (PySem.strKind P w) es.toList := fun e he => by
  obtain ⟨x, tk, e1, e2⟩ := B.good e he
  rw [e1]
  exact ⟨⟨x, strKind_is P w x tk, e2⟩, rfl⟩
theorem TxtIn.has (B : TxtIn P w es xs) {x : Str} : (∃ e ∈ es.toList, (PySem.strKind P w).is x e.2 = true) ↔ x ∈ xs := by
  rw [← B.perm.mem_iff, List.mem_map]
  constructor
  · rintro ⟨e, he, q⟩
    obtain ⟨y, tk, e1, _⟩ := B.good e he
    rw [e1] at q
    have : y = x := (PySem.strKind P w).inj _ _ _ (strKind_is P w y tk) q
    exact ⟨e, he, by rw [e1]; exact this⟩
  · rintro ⟨e, he, q⟩
    obtain ⟨y, tk, e1, _⟩ := B.good e he
    rw [e1] at q
    have q : y = x := q
    exact ⟨e, he, by rw [e1, ← q]; exact strKind_is P w y tk⟩
theorem TxtIn.same {es' : Array (Int × Value)} (B : TxtIn P w es xs) (p : es'.toList.Perm es.toList) : TxtIn P w es' xs :=
  ⟨fun e he => B.good e (p.mem_iff.mp he), (p.map _).trans B.perm, B.nd⟩
theorem TxtIn.more {es' : Array (Int × Value)} {x : Str} {tk : Tok} (B : TxtIn P w es xs) (hx : x ∉ xs) (p : es'.toList.Perm (((PySem.strKind P w).hash x, Value.str x tk) :: es.toList)) : TxtIn P w es' (x :: xs) := by
  refine ⟨fun e he => ?_, (p.map _).trans (List.Perm.cons _ B.perm), List.nodup_cons.mpr ⟨hx, B.nd⟩⟩
  rcases List.mem_cons.mp (p.mem_iff.mp he) with q | q
  · rw [q]; exact ⟨x, tk, rfl, rfl⟩
  · exact B.good e q
/-- the end of an addition: the table stored, and laid anew when it is too full -/
theorem bag_stored {say : Bool → Sem Unit} (quiet : ∀ (b : Bool) (s₁ : Shared) (Q' : Unit → Shared → Prop), Q' () s₁ → wpAny (model P w) A (say b) Q' E s₁) {o : Obj} {ep : Nat} {t0 : SetTable} {es0 : Array (Int × Value)} (ho : s.heap.get? a = some o) (hx : o.ExactSet) (hd : o.data = .set es0 ep t0)
    (B : TxtIn P w es xs) (hb : es.size < scanBound) (hf : t.fits es.size = true) (ok : TabOk w t) {dummy : Bool} {Q : Option Bool → Shared → Prop} (k : ∀ h', Heap.SameBut a s.heap h' → Bag P w h' a xs → Q (some true) { s with heap := h' }) :
    wpAny (model P w) A (do
      storeSet a es t
      if (!dummy && t.tooFull) = true then do
        say (relayAll t es (SetTable.grown es.size)).2.2
        storeSet a (relayAll t es (SetTable.grown es.size)).1 (relayAll t es (SetTable.grown es.size)).2.1
        pure (some true)
      else pure (some true)) Q E s := by
  have o1 := store_at (es' := es) (t' := t) ho hd
  have b1 := Heap.SameBut.update s.heap a (Obj.putSet es t)
  refine wpAny_bind (wpAny_storeSet_of ho hd ?_ (fits_of_scanBound hb))
  by_cases full : (!dummy && t.tooFull) = true
  · rw [if_pos full]
    have p1 := relayAll_perm t es (SetTable.grown es.size)
    have p2 := relayAll_fits t es (SetTable.grown es.size)
    have p3 := relayAll_ris t es (SetTable.grown es.size)
    have p4 := relayAll_led t es (SetTable.grown es.size)
    revert p1 p2 p3 p4
    generalize relayAll t es (SetTable.grown es.size) = Z
    obtain ⟨es2, t2, gave⟩ := Z
    intro p1 p2 p3 p4
    have B2 : TxtIn P w es2 xs := B.same p1
    have hb2 : es2.size < scanBound := by rw [B2.len, ← B.len]; exact hb
    refine wpAny_bind (quiet _ _ _ (wpAny_bind (wpAny_storeSet_of o1 rfl ?_ (fits_of_scanBound hb2))))
    refine wpAny_pure (k _ (b1.trans (Heap.SameBut.update _ a _)) ⟨_, es2, _, t2, store_at (es' := es2) (t' := t2) o1 rfl, hx, rfl, B2, hb2, p2, p3, ?_⟩)
    rcases ok.2 with q | q
    · exact .inl q
    · exact .inr (p4.trans q)
  · rw [if_neg full]
    exact wpAny_pure (k _ b1 ⟨_, es, _, t, o1, hx, rfl, B, hb, hf, ok⟩)
/-- a text added -/
theorem bag_add {x : Str} {tk : Tok} {Q : Bool → Shared → Prop} (B : Bag P w s.heap a xs) (room : xs.length + 1 < scanBound) (k : ∀ b h', Heap.SameBut a s.heap h' → Bag P w h' a (if x ∈ xs then xs else x :: xs) → Q b { s with heap := h' }) :
    wpAny (model P w) A (setAddHashed a (.str x tk) ((PySem.strKind P w).hash x)) Q E s := by
  obtain ⟨o, es, ep, t, ho, hx, hd, T, hb, hf, ok⟩ := B
  have key := strKind_is P w x tk
  unfold setAddHashed setAddHashedIn
  refine wpAny_holding (wpAny_bind (wpAny_setState_of ho hd hf ?_))
  dsimp only
  rw [byScan_of rfl hb T.elems]
  simp only [↓reduceIte]
  unfold setAddByScan
  refine wpAny_bind (wpAny_bind (wpAny_rule (wpAny_bind (wpAny_setScan_of key ho hd hf T.elems ?_))))
  cases fnd : List.findIdx? (fun e => (PySem.strKind P w).is x e.2) es.toList with
  | some j =>
    obtain ⟨hj, pj, _⟩ := List.findIdx?_eq_some_iff_getElem.mp fnd
    have hin : x ∈ xs := T.has.mp ⟨es.toList[j], List.getElem_mem hj, pj⟩
    have go := k false s.heap (Heap.SameBut.refl a s.heap)
    rw [if_pos hin] at go
    exact wpAny_pure (wpAny_pure (go ⟨o, es, ep, t, ho, hx, hd, T, hb, hf, ok⟩))
  | none =>
    have hin : x ∉ xs := fun z => by
      obtain ⟨e, he, q⟩ := T.has.mpr z
      rw [List.findIdx?_eq_none_iff.mp fnd e he] at q
      cases q
    have say : ∀ (b : Bool) (s₁ : Shared) (Q' : Unit → Shared → Prop), Q' () s₁ → wpAny (model P w) A (match b with
        | true => rule "set.scan.the-table-gave-way"
        | false => pure ()) Q' E s₁ := fun b s₁ Q' q => by
      cases b
      · exact wpAny_pure q
      · exact wpAny_rule q
    have p1 := layNew_perm t es ((PySem.strKind P w).hash x) (.str x tk)
    have p2 := layNew_fits t es ((PySem.strKind P w).hash x) (.str x tk)
    have p3 := layNew_ris t es ((PySem.strKind P w).hash x) (.str x tk) ok.1
    have p4 := layNew_led t es ((PySem.strKind P w).hash x) (.str x tk)
    dsimp only
    revert p1 p2 p3 p4
    generalize layNew t es ((PySem.strKind P w).hash x) (.str x tk) = Z
    obtain ⟨es1, t1, dm, gave⟩ := Z
    intro p1 p2 p3 p4
    dsimp only at p1 p2 p3 p4 ⊢
    rw [Array.toList_push] at p1
    have T1 : TxtIn P w es1 (x :: xs) := T.more hin (p1.trans (List.perm_append_singleton _ _))
    have hb1 : es1.size < scanBound := by rw [T1.len, List.length_cons]; exact room
    have ok1 : TabOk w t1 := ⟨p3, ok.2.imp id fun z => p4.trans z⟩
    have fin : ∀ h', Heap.SameBut a s.heap h' → Bag P w h' a (x :: xs) → Q true { s with heap := h' } := fun h' sb r => by
      have go := k true h' sb
      rw [if_neg hin] at go
      exact go r
    refine wpAny_bind (say _ _ _ ?_)
    by_cases pl : t1.plain = true
    · rw [if_pos pl]
      refine wpAny_bind ?_
      rw [hashByValue_scannable 8 (show (Value.str x tk).scannable = true from rfl)]
      refine wpAny_pure ?_
      refine bag_stored say ho hx hd T1 hb1 ?_ ?_ fun h' sb r => wpAny_pure (fin h' sb r)
      · exact p2
      · exact ok1
    · rw [if_neg pl]
      refine wpAny_bind (wpAny_pure ?_)
      simp only [↓reduceIte]
      exact bag_stored say ho hx hd T1 hb1 p2 ok1 fun h' sb r => wpAny_pure (fin h' sb r)
end
end Mp
/-! Mp, part Sb: set(list of texts), sorted of it. -/
namespace Mp
open PySem PySem.Spec PyProof.Rows L2
/-- the texts met, each once -/
def metS (xs : List Str) : List Str → List Str
  | [] => xs
  | y :: ys => metS (if y ∈ xs then xs else y :: xs) ys
theorem metS_len : ∀ (ys xs : List Str), (metS xs ys).length ≤ xs.length + ys.length
  | [], xs => by simp [metS]
  | y :: ys, xs => by
    have := metS_len ys (if y ∈ xs then xs else y :: xs)
    unfold metS
    split at this <;> rename_i h <;> simp only [h, if_true, if_false, List.length_cons] at this ⊢ <;> omega
theorem metS_mem {z : Str} : ∀ (ys xs : List Str), z ∈ metS xs ys ↔ z ∈ xs ∨ z ∈ ys
  | [], xs => by simp [metS]
  | y :: ys, xs => by
    unfold metS
    rw [metS_mem ys]
    split
    · rename_i h
      simp only [List.mem_cons]
      constructor
      · rintro (h1 | h1)
        · exact .inl h1
        · exact .inr (.inr h1)
      · rintro (h1 | rfl | h1)
        · exact .inl h1
        · exact .inl h
        · exact .inr h1
    · simp only [List.mem_cons]
      constructor
      · rintro ((rfl | h1) | h1)
        · exact .inr (.inl rfl)
        · exact .inl h1
        · exact .inr (.inr h1)
      · rintro (h1 | rfl | h1)
        · exact .inl (.inr h1)
        · exact .inl (.inl rfl)
        · exact .inr h1
section
variable {P : Program} {w : World} {A : Around} {E : Value → Shared → Prop} {s : Shared}
theorem Bag.at {h h' : Heap} {a : Addr} {xs : List Str} (B : Bag P w h a xs) (k : ∀ o, h.get? a = some o → h'.get? a = some o) : Bag P w h' a xs := by
  obtain ⟨o, es, ep, t, ho, r⟩ := B
  exact ⟨o, es, ep, t, k o ho, r⟩
/-- the loop of set.update over an iterator of texts -/
theorem bag_loop {I : Addr} {fp wr : List Addr} {G : Array GenState → Array GenState → Prop} {n : Nat} {Pv : Nat → Value → Prop} {St : Nat → Shared → Prop} {R : Result → Shared → Prop} (W : WalksS P w A.in1 I fp wr G n Pv St) (S : Addr) (off : S ∉ fp) (ys : List Str) (hn : ys.length = n)
    (few : ys.length + 1 < scanBound) (hv : ∀ i v, Pv i v → ∃ t, v = .str (ys.getD i Str.empty) t) : ∀ (m i : Nat) (xs : List Str) (s : Shared), n - i = m → i ≤ n → xs.length ≤ i → St i s → Bag P w s.heap S xs →
      (∀ s', Moved (S :: wr) G s s' → Bag P w s'.heap S (metS xs (ys.drop i)) → R (.ok (.ret .none)) s') → codeAny (model P w) A (.builtin "set.update.loop" ⟨[.ref S, .ref I], []⟩) R s := by
  have off2 : S ∉ wr := fun z => off (W.sub _ z)
  have up : ∀ b ∈ wr, b ∈ S :: wr := fun b hb => List.mem_cons_of_mem _ hb
  intro m
  induction m with
  | zero =>
    intro i xs s e1 e2 e3 st B k
    obtain rfl : i = n := by omega
    refine codeAny_builtin PyProof.Rows.F.entry_set_update_loop ?_
    rw [Around.under_plainId PyProof.Rows.F.plain_set_update_loop _]
    show wpAny _ A.in1 (pyNext (.ref I) >>= _) _ _ s
    refine wpAny_bind (W.done s _ _ st fun s' mv => ?_)
    show wpAny _ A.in1 (ret Value.none) _ _ s'
    refine wpAny_pure (k s' (mv.mono up) ?_)
    rw [List.drop_eq_nil_of_le (by omega)]
    exact B.at fun o e => mv.heap S o off2 e
  | succ m ih =>
    intro i xs s e1 e2 e3 st B k
    have lt : i < n := by omega
    refine codeAny_builtin PyProof.Rows.F.entry_set_update_loop ?_
    rw [Around.under_plainId PyProof.Rows.F.plain_set_update_loop _]
    show wpAny _ A.in1 (pyNext (.ref I) >>= _) _ _ s
    refine wpAny_bind (W.item i s _ _ lt st fun v s' pv st' mv => ?_)
    obtain ⟨tk, rfl⟩ := hv i v pv
    have B' : Bag P w s'.heap S xs := B.at fun o e => mv.heap S o off2 e
    show wpAny _ A.in1 (holding [Value.str (ys.getD i Str.empty) tk] (setAdd S (.str (ys.getD i Str.empty) tk)) >>= _) _ _ s'
    refine wpAny_bind (wpAny_holding ?_)
    unfold setAdd
    refine wpAny_holding (wpAny_bind ((PySem.strKind P w).pyHash (k := ys.getD i Str.empty) (strKind_is _ _ _ _) ?_))
    refine bag_add (s := { s' with toks := s'.toks + 1 }) B' (by omega) fun b h' sb B2 => ?_
    have dr : ys.drop i = ys.getD i Str.empty :: ys.drop (i + 1) := by
      have hi : i < ys.length := by omega
      rw [List.drop_eq_getElem_cons hi, List.getD_eq_getElem?_getD, List.getElem?_eq_getElem hi]
      rfl
    refine wpAny_pure ⟨plainId_quiet PyProof.Rows.F.plain_set_update_loop _, ih (i + 1) _ _ (by omega) lt ?_ (W.frame _ s' _ _ st' (Nat.le_succ _) fun b hb o e => ?_) B2 fun s'' mv2 B3 => ?_⟩
    · split
      · omega
      · simp only [List.length_cons]; omega
    · rw [sb.2 b fun z => off (z ▸ hb)]; exact e
    · refine k s'' (Moved.trans W.gtrans ((mv.mono up).then_heap (Nat.le_succ _) fun b o hb e => ?_) mv2) ?_
      · rw [sb.2 b fun z => hb (by rw [z]; exact List.mem_cons_self)]; exact e
      · rw [dr]; exact B3
theorem bag_fresh {h : Heap} {a : Addr} (ho : h.get? a = some { cls := .type "set", dict := none, data := .set #[] 0 (.fresh 0 0 (!w.params.followText "set-order")) }) : Bag P w h a [] := by
  refine ⟨_, #[], 0, _, ho, ⟨rfl, rfl, rfl⟩, rfl, ⟨fun e he => by simp at he, List.Perm.nil, List.nodup_nil⟩, by decide, by rfl, List.Pairwise.nil, ?_⟩
  cases e : w.params.followText "set-order"
  · exact .inr rfl
  · exact .inl rfl
/-- set(xs) of a list of texts -/
theorem call_setTxt {l : Addr} {items : Array Value} {ys : List Str} {Q : Value → Shared → Prop} (hh : A.handled = none) (hl : s.heap.IsList l items) (hi : PyProof.Rows.StrsAre items.toList ys) (few : ys.length + 1 < scanBound)
    (k : ∀ (h' : Heap) (tk : Nat), Bag P w h' s.heap.objs.size (metS [] ys) → (∀ b o, s.heap.get? b = some o → h'.get? b = some o) → Q (.ref s.heap.objs.size) { s with heap := h', toks := tk }) :
    wpAny (model P w) A (call (.type "set") [.ref l]) Q E s := by
  obtain ⟨c, tl, hmro⟩ := PySem.F.called_set.mro
  have hmade := PySem.F.called_set.made
  have hsub := PySem.F.called_set.sub
  refine wpAny_call (codeAny_of_tree ?_)
  show wpAny _ _ (callAny (.type "set") _) _ _ _
  refine wpAny_pure ⟨Code.quiet_builtin _ (by decide +kernel), codeAny_builtin PySem.F.entry_type_call ?_⟩
  rw [Around.under_plain (weight_type_call_type "set" [.ref l] []) rfl]
  have h1 := PySem.F.called_set.notType
  have h2 := PySem.F.called_set.canCreate
  have hct := PySem.F.typeCall_set_1 (.ref l)
  repeat (any_goals (first | assumption | wp_step))
  generalize hnew : ({ cls := .type "set", dict := none, data := .set #[] 0 (.fresh 0 0 (!w.params.followText "set-order")) } : Obj) = O
  refine codeAny_mono (code_set_led1 (.ref l) (E := E) (Q₁ := fun obj s₁ => obj = .ref s.heap.objs.size ∧ s₁ = { s with heap := s.heap.push O }) ⟨rfl, by rw [hnew]⟩) fun r s₁ hr => ?_
  rcases r with e | fl
  · exact hr
  cases fl with
  | ret obj =>
    obtain ⟨rfl, rfl⟩ := hr
    have hS : (s.heap.push O).get? s.heap.objs.size = some O := Heap.get?_push_size _ (by rw [← hnew]; rfl)
    have hT : Shared.TypeIs { s with heap := s.heap.push O } (.ref s.heap.objs.size) "set" := ⟨_, hS, by rw [← hnew]⟩
    have hli := PySem.F.called_set.init.lookup
    have hbi := PySem.F.called_set.init.bind (.ref s.heap.objs.size)
    repeat (any_goals (first | assumption | wp_step))
    refine codeAny_mono (codeAny_call_builtin (R := wants (fun r s₂ => r = .none ∧ ∃ h' tk, s₂ = { s with heap := h', toks := tk } ∧ Bag P w h' s.heap.objs.size (metS [] ys) ∧ (∀ b o, s.heap.get? b = some o → h'.get? b = some o)) E) PySem.F.called_set.init.plain PySem.F.entry_set_init (check_set_init_1 hT ?_)) fun r₂ s₂ hr₂ => ?_
    · have hl1 : (s.heap.push O).IsList l items := hl.push _
      obtain ⟨ol, hol, hcl, nl, hdl⟩ := hl
      obtain ⟨ocls, odict, odata, oslots⟩ := ol
      simp only at hcl hdl
      subst hcl; subst hdl
      have hlS : l < s.heap.objs.size := Heap.lt_size hol
      have hol' : (s.heap.push O).get? l = some { cls := .type "list", dict := odict, data := .seq items nl, slots := oslots } := Heap.get?_push_of_some _ hol
      have hsls := PySem.F.sub_list_set
      have hslf := PySem.F.sub_list_frozenset
      have hne : (Value.type "list" == Value.type "dict") = false := by decide
      have sz1 : (s.heap.push O).objs.size = s.heap.objs.size + 1 := Heap.size_push ..
      have hneI : l ≠ (s.heap.push O).objs.size := by rw [sz1]; exact Nat.ne_of_lt (Nat.lt_succ_of_lt hlS)
      have hlen : ys.length = items.size := by rw [← StrsAre.len_eq hi, Array.length_toList]
      have hoff : s.heap.objs.size ∉ [(s.heap.push O).objs.size, l] := by
        rw [sz1]
        simp only [List.mem_cons, List.not_mem_nil, or_false, not_or]
        exact ⟨Nat.ne_of_lt (Nat.lt_succ_self _), Nat.ne_of_gt hlS⟩
      have fresh0 : ∀ o, Bag P w ((s.heap.push O).push o) s.heap.objs.size [] := fun o => bag_fresh (Heap.get?_push_of_some _ (by rw [hnew]; exact hS))
      have off2 : ∀ b o, s.heap.get? b = some o → b ∉ [s.heap.objs.size, (s.heap.push O).objs.size] := fun b o e => by
        have hb := Heap.lt_size e
        rw [sz1]
        simp only [List.mem_cons, List.not_mem_nil, or_false, not_or]
        exact ⟨Nat.ne_of_lt hb, Nat.ne_of_lt (Nat.lt_succ_of_lt hb)⟩
      subst hnew
      unfold Builtin.«set.__init__» noKeywords Builtin.Frozenset.updateFrom
      generalize hPI : pyIter = PI
      wp_walk
      subst hPI
      refine wpAny_pyIter_list hl1 ?_
      refine wpAny_bind (wpAny_runValue ?_)
      refine bag_loop ((Walks.list (by simp [hh]) _ l hneI items).toS) s.heap.objs.size hoff ys hlen few (fun i v hv => SS.strs_at hi i v (by rw [Array.getElem?_toList]; exact hv)) (items.size - 0) 0 [] _ (by omega) (Nat.zero_le _) (Nat.zero_le _)
        ⟨⟨_, Heap.get?_push_size _ rfl, rfl, rfl⟩, hl1.push _⟩ (fresh0 _) fun s' mv B => ?_
      obtain ⟨h', g', d', tk', os'⟩ := s'
      obtain ⟨m1, m2, m3, m4, _⟩ := mv
      dsimp only at m1 m2 m3 m4
      subst m3; subst m4
      cases (show g' = s.gens from m2)
      show wpAny _ _ _ _ _ _
      refine wpAny_pure ?_
      show wpAny _ _ (ret Value.none) _ _ _
      refine wpAny_pure ⟨rfl, h', tk', rfl, B, fun b o e => ?_⟩
      exact m1 b o (off2 b o e) (Heap.get?_push_of_some _ (Heap.get?_push_of_some _ e))
    · rcases r₂ with e | fl₂
      · exact hr₂
      cases fl₂ with
      | ret r =>
        obtain ⟨rfl, h', tk, rfl, B, kp⟩ := hr₂
        repeat (any_goals (first | assumption | wp_step))
        exact k _ _ B kp
      | _ => exact hr₂.elim
  | _ => exact hr.elim
end
end Mp
/-! Mp, part Se: set(t) of a tuple of texts. -/
namespace Mp
open PySem PySem.Spec PyProof.Rows L2
section
variable {P : Program} {w : World} {A : Around} {E : Value → Shared → Prop} {s : Shared}
/-- set(t) of a tuple of texts -/
theorem call_setTup {l : Addr} {items : Array Value} {ys : List Str} {Q : Value → Shared → Prop} (hh : A.handled = none) (hl : s.heap.IsTuple l items) (hi : PyProof.Rows.StrsAre items.toList ys) (few : ys.length + 1 < scanBound)
    (k : ∀ (h' : Heap) (tk : Nat), Bag P w h' s.heap.objs.size (metS [] ys) → (∀ b o, s.heap.get? b = some o → h'.get? b = some o) → Q (.ref s.heap.objs.size) { s with heap := h', toks := tk }) :
    wpAny (model P w) A (call (.type "set") [.ref l]) Q E s := by
  obtain ⟨c, tl, hmro⟩ := PySem.F.called_set.mro
  have hmade := PySem.F.called_set.made
  have hsub := PySem.F.called_set.sub
  refine wpAny_call (codeAny_of_tree ?_)
  show wpAny _ _ (callAny (.type "set") _) _ _ _
  refine wpAny_pure ⟨Code.quiet_builtin _ (by decide +kernel), codeAny_builtin PySem.F.entry_type_call ?_⟩
  rw [Around.under_plain (weight_type_call_type "set" [.ref l] []) rfl]
  have h1 := PySem.F.called_set.notType
  have h2 := PySem.F.called_set.canCreate
  have hct := PySem.F.typeCall_set_1 (.ref l)
  repeat (any_goals (first | assumption | wp_step))
  generalize hnew : ({ cls := .type "set", dict := none, data := .set #[] 0 (.fresh 0 0 (!w.params.followText "set-order")) } : Obj) = O
  refine codeAny_mono (code_set_led1 (.ref l) (E := E) (Q₁ := fun obj s₁ => obj = .ref s.heap.objs.size ∧ s₁ = { s with heap := s.heap.push O }) ⟨rfl, by rw [hnew]⟩) fun r s₁ hr => ?_
  rcases r with e | fl
  · exact hr
  cases fl with
  | ret obj =>
    obtain ⟨rfl, rfl⟩ := hr
    have hS : (s.heap.push O).get? s.heap.objs.size = some O := Heap.get?_push_size _ (by rw [← hnew]; rfl)
    have hT : Shared.TypeIs { s with heap := s.heap.push O } (.ref s.heap.objs.size) "set" := ⟨_, hS, by rw [← hnew]⟩
    have hli := PySem.F.called_set.init.lookup
    have hbi := PySem.F.called_set.init.bind (.ref s.heap.objs.size)
    repeat (any_goals (first | assumption | wp_step))
    refine codeAny_mono (codeAny_call_builtin (R := wants (fun r s₂ => r = .none ∧ ∃ h' tk, s₂ = { s with heap := h', toks := tk } ∧ Bag P w h' s.heap.objs.size (metS [] ys) ∧ (∀ b o, s.heap.get? b = some o → h'.get? b = some o)) E) PySem.F.called_set.init.plain PySem.F.entry_set_init (check_set_init_1 hT ?_)) fun r₂ s₂ hr₂ => ?_
    · have hl1 : (s.heap.push O).IsTuple l items := hl.push _
      obtain ⟨ol, hol, hcl, nl, hdl⟩ := hl
      obtain ⟨ocls, odict, odata, oslots⟩ := ol
      simp only at hcl hdl
      subst hcl; subst hdl
      have hlS : l < s.heap.objs.size := Heap.lt_size hol
      have hol' : (s.heap.push O).get? l = some { cls := .type "tuple", dict := odict, data := .seq items nl, slots := oslots } := Heap.get?_push_of_some _ hol
      have hsls := PySem.F.sub_tuple_set
      have hslf := PySem.F.sub_tuple_frozenset
      have hne : (Value.type "tuple" == Value.type "dict") = false := by decide
      have sz1 : (s.heap.push O).objs.size = s.heap.objs.size + 1 := Heap.size_push ..
      have hneI : l ≠ (s.heap.push O).objs.size := by rw [sz1]; exact Nat.ne_of_lt (Nat.lt_succ_of_lt hlS)
      have hlen : ys.length = items.size := by rw [← StrsAre.len_eq hi, Array.length_toList]
      have hoff : s.heap.objs.size ∉ [(s.heap.push O).objs.size, l] := by
        rw [sz1]
        simp only [List.mem_cons, List.not_mem_nil, or_false, not_or]
        exact ⟨Nat.ne_of_lt (Nat.lt_succ_self _), Nat.ne_of_gt hlS⟩
      have fresh0 : ∀ o, Bag P w ((s.heap.push O).push o) s.heap.objs.size [] := fun o => bag_fresh (Heap.get?_push_of_some _ (by rw [hnew]; exact hS))
      have off2 : ∀ b o, s.heap.get? b = some o → b ∉ [s.heap.objs.size, (s.heap.push O).objs.size] := fun b o e => by
        have hb := Heap.lt_size e
        rw [sz1]
        simp only [List.mem_cons, List.not_mem_nil, or_false, not_or]
        exact ⟨Nat.ne_of_lt hb, Nat.ne_of_lt (Nat.lt_succ_of_lt hb)⟩
      subst hnew
      unfold Builtin.«set.__init__» noKeywords Builtin.Frozenset.updateFrom
      generalize hPI : pyIter = PI
      wp_walk
      subst hPI
      refine wpAny_pyIter_tuple hl1 ?_
      refine wpAny_bind (wpAny_runValue ?_)
      refine bag_loop ((Walks.tuple (by simp [hh]) _ l hneI items).toS) s.heap.objs.size hoff ys hlen few (fun i v hv => SS.strs_at hi i v (by rw [Array.getElem?_toList]; exact hv)) (items.size - 0) 0 [] _ (by omega) (Nat.zero_le _) (Nat.zero_le _)
        ⟨⟨_, Heap.get?_push_size _ rfl, rfl, rfl⟩, hl1.push _⟩ (fresh0 _) fun s' mv B => ?_
      obtain ⟨h', g', d', tk', os'⟩ := s'
      obtain ⟨m1, m2, m3, m4, _⟩ := mv
      dsimp only at m1 m2 m3 m4
      subst m3; subst m4
      cases (show g' = s.gens from m2)
      show wpAny _ _ _ _ _ _
      refine wpAny_pure ?_
      show wpAny _ _ (ret Value.none) _ _ _
      refine wpAny_pure ⟨rfl, h', tk', rfl, B, fun b o e => ?_⟩
      exact m1 b o (off2 b o e) (Heap.get?_push_of_some _ (Heap.get?_push_of_some _ e))
    · rcases r₂ with e | fl₂
      · exact hr₂
      cases fl₂ with
      | ret r =>
        obtain ⟨rfl, h', tk, rfl, B, kp⟩ := hr₂
        repeat (any_goals (first | assumption | wp_step))
        exact k _ _ B kp
      | _ => exact hr₂.elim
  | _ => exact hr.elim
end
end Mp
/-! Mp, part Sc: sorted(set(list of texts)). -/
namespace Mp
open PySem PySem.Spec PyProof.Rows L2
/-! ### ascending texts -/
theorem ltS_irr (x : Str) : ltS x x = false := by
  unfold ltS
  simp
theorem ltS_trans {x y z : Str} (h : ltS x y = true) (k : ltS y z = true) : ltS x z = true := by
  unfold ltS at *
  rw [decide_eq_true_eq] at *
  exact List.lt_trans h k
theorem str_eq {x y : Str} (h : x.cps.toList = y.cps.toList) : x = y := by
  cases x; cases y
  congr
  exact Array.toList_inj.mp h
theorem ltS_tri {x y : Str} (h : x ≠ y) (k : ltS x y = false) : ltS y x = true := by
  unfold ltS at *
  rw [decide_eq_true_eq]
  rw [decide_eq_false_iff_not, List.not_lt] at k
  rcases Decidable.em (y.cps.toList < x.cps.toList) with q | q
  · exact q
  · exact absurd (str_eq (List.le_antisymm (List.not_lt.mp q) k)) h
theorem insU_mem {x z : Str} : ∀ l, z ∈ insU x l ↔ z = x ∨ z ∈ l
  | [] => by simp [insU]
  | y :: ys => by
    unfold insU
    split
    · rename_i h
      subst h
      simp
    · split
      · simp
      · simp only [List.mem_cons, insU_mem ys]
        constructor
        · rintro (h | h | h)
          · exact .inr (.inl h)
          · exact .inl h
          · exact .inr (.inr h)
        · rintro (h | h | h)
          · exact .inr (.inl h)
          · exact .inl h
          · exact .inr (.inr h)
theorem insU_asc {x : Str} : ∀ l : List Str, l.Pairwise (fun a b => ltS a b = true) → (insU x l).Pairwise (fun a b => ltS a b = true)
  | [], _ => by simp [insU]
  | y :: ys, h => by
    obtain ⟨h1, h2⟩ := List.pairwise_cons.mp h
    unfold insU
    split
    · exact h
    · rename_i ne
      split
      · rename_i lt
        refine List.pairwise_cons.mpr ⟨fun z hz => ?_, h⟩
        rcases List.mem_cons.mp hz with rfl | hz
        · exact lt
        · exact ltS_trans lt (h1 z hz)
      · rename_i nlt
        refine List.pairwise_cons.mpr ⟨fun z hz => ?_, insU_asc ys h2⟩
        rcases (insU_mem ys).mp hz with rfl | hz
        · exact ltS_tri ne (by simpa using nlt)
        · exact h1 z hz
theorem ssrt_mem {z : Str} : ∀ l, z ∈ ssrt l ↔ z ∈ l
  | [] => by simp [ssrt]
  | x :: xs => by rw [ssrt, insU_mem, ssrt_mem xs, List.mem_cons]
theorem ssrt_asc : ∀ l, (ssrt l).Pairwise (fun a b => ltS a b = true)
  | [] => List.Pairwise.nil
  | x :: xs => insU_asc _ (ssrt_asc xs)
theorem insU_len (x : Str) : ∀ l, (insU x l).length ≤ l.length + 1
  | [] => by simp [insU]
  | y :: ys => by
    have := insU_len x ys
    unfold insU
    split
    · simp
    · split
      · simp
      · simp only [List.length_cons]; omega
theorem ssrt_len : ∀ l, (ssrt l).length ≤ l.length
  | [] => by simp [ssrt]
  | x :: xs => by
    have := insU_len x (ssrt xs)
    have := ssrt_len xs
    simp only [ssrt, List.length_cons]
    omega
/-- ascending lists of the same texts are the same -/
theorem asc_eq : ∀ {l m : List Str}, l.Pairwise (fun a b => ltS a b = true) → m.Pairwise (fun a b => ltS a b = true) → (∀ z, z ∈ l ↔ z ∈ m) → l = m
  | [], [], _, _, _ => rfl
  | [], y :: m, _, _, h => by have := (h y).mpr List.mem_cons_self; simp at this
  | x :: l, [], _, _, h => by have := (h x).mp List.mem_cons_self; simp at this
  | x :: l, y :: m, hl, hm, h => by
    obtain ⟨l1, l2⟩ := List.pairwise_cons.mp hl
    obtain ⟨m1, m2⟩ := List.pairwise_cons.mp hm
    have e : x = y := by
      rcases List.mem_cons.mp ((h x).mp List.mem_cons_self) with e | e
      · exact e
      · rcases List.mem_cons.mp ((h y).mpr List.mem_cons_self) with e2 | e2
        · exact e2.symm
        · have a := m1 x e
          have b := l1 y e2
          have := ltS_trans a b
          rw [ltS_irr] at this; cases this
    subst e
    congr 1
    refine asc_eq l2 m2 fun z => ⟨fun hz => ?_, fun hz => ?_⟩
    · rcases List.mem_cons.mp ((h z).mp (List.mem_cons_of_mem _ hz)) with e | e
      · subst e; have := l1 z hz; rw [ltS_irr] at this; cases this
      · exact e
    · rcases List.mem_cons.mp ((h z).mpr (List.mem_cons_of_mem _ hz)) with e | e
      · subst e; have := m1 z hz; rw [ltS_irr] at this; cases this
      · exact e
/-! ### sorted -/
def isTxt (v : Value) (x : Str) : Prop := ∃ t, v = .str x t
theorem each_txt : ∀ {vs : List Value}, (∀ v ∈ vs, ∃ x t, v = Value.str x t) → W.EachIs isTxt vs (vs.map stv)
  | [], _ => .nil
  | v :: vs, h => by
    obtain ⟨x, t, rfl⟩ := h v List.mem_cons_self
    exact .cons ⟨t, rfl⟩ (each_txt fun u hu => h u (List.mem_cons_of_mem _ hu))
theorem each_txtR {h : Heap} {a : Addr} : ∀ {vs : List Value} {xs : List Str}, W.EachIs isTxt vs xs → W.EachIs (fun v b => ∃ as, Reads h v (PyData.str b) as ∧ a ∉ as) vs xs
  | _, _, .nil => .nil
  | _, _, .cons ⟨t, e⟩ r => .cons ⟨[], by rw [e]; exact .str _ t, by simp⟩ (each_txtR r)
theorem vals_txt : ∀ {vs : List Value} {xs : List Str}, W.EachIs isTxt vs xs → Vals (xs.map V.str) vs
  | _, _, .nil => .nil
  | _, _, .cons h r => .cons h (vals_txt r)
section
variable {P : Program} {w : World} {A : Around} {E : Value → Shared → Prop} {s : Shared}
theorem sorted_bag {a : Addr} {xs : List Str} {Q : Value → Shared → Prop} (B : Bag P w s.heap a xs) (hh : A.handled = none) (hu : A.units + 4 < cLine)
    (k : ∀ s' p (out : Array Value) (c : Nat), (∀ b o, s.heap.get? b = some o → s'.heap.get? b = some o) → s'.gens = s.gens → s'.os = s.os → s.heap.objs.size ≤ p → s'.heap.get? p = some (seqObj "list" out c) → W.EachIs isTxt out.toList (ssrt xs) → Q (.ref p) s') :
    wpAny (model P w) A (call (.builtin "sorted") [.ref a]) Q E s := by
  obtain ⟨o, es, ep, t, ho, hx, hd, T, hb, hf, ok⟩ := B
  refine Calls.call_function_entry kind_sorted plain_sorted entry_sorted (args_sorted1 _) ?_
  unfold Builtin.«sorted»
  refine wpAny_bind (m := checkCount "sorted" 1 1 _) (wpAny_pure ?_)
  refine wpAny_bind (collect_set (A := A.in1) hh ⟨o, ho, hx.1, hd⟩ hf hb ok.1 ok.2 fun s1 vs k1 hz g1 o1 pm => ?_)
  have good : ∀ v ∈ vs, ∃ x t, v = Value.str x t := fun v hv => by
    obtain ⟨e, he, q⟩ := List.mem_map.mp (pm.mem_iff.mp hv)
    obtain ⟨x, tk, e1, _⟩ := T.good e he
    exact ⟨x, tk, by rw [← q]; exact e1⟩
  have px : (vs.map stv).Perm xs := by
    have q := pm.map stv
    rw [List.map_map] at q
    exact q.trans T.perm
  have len : vs.length = xs.length := by rw [← px.length_eq, List.length_map]
  have lenb : vs.length ≤ sizeLine := by
    have := fits_of_scanBound hb
    rw [len, ← T.len]; exact this
  refine wpAny_bind (wpAny_newList ?_ lenb)
  have hoL : (s1.heap.push (seqObj "list" vs.toArray 0)).get? s1.heap.objs.size = some (seqObj "list" vs.toArray 0) := Heap.get?_push_size _ rfl
  have ea := each_txt good
  refine wpAny_bind (wpAny_holding (W.list_sort_data (R := isTxt) (enc := PyData.str) (bs := vs.map stv) hoL ea (each_txtR ea) (W.AllAlike.of fun _ _ => rfl) (W.Sortable.others fun b => ⟨(by intro e; cases e), (by intro ys e; cases e)⟩) (by rw [List.length_map]; exact lenb) (fun b _ => by show A.units + 1 + 1 + 0 < cLine; omega) fun out hl ho2 => ?_))
  obtain ⟨c, hc⟩ := sortedHeap_at (vs := vs) (out := out.toArray) hoL
  have eo : (vs.map stv).mergeSort (W.dataLe false PyData.str) = ssrt xs := by
    have le : W.dataLe false (PyData.str : Str → PyData) = fun a b => decide (a.cps.toList ≤ b.cps.toList) := W.dataLe_str id
    rw [le]
    have nd : ((vs.map stv).mergeSort fun a b => decide (a.cps.toList ≤ b.cps.toList)).Nodup := (List.mergeSort_perm _ _).nodup_iff.mpr (px.nodup_iff.mpr T.nd)
    have pw := List.pairwise_mergeSort (le := fun a b : Str => decide (a.cps.toList ≤ b.cps.toList)) (fun a b c h1 h2 => by
      rw [decide_eq_true_eq] at *; exact List.le_trans h1 h2) (fun a b => by
      rw [Bool.or_eq_true, decide_eq_true_eq, decide_eq_true_eq]; exact List.le_total _ _) (vs.map stv)
    refine asc_eq ?_ (ssrt_asc xs) fun z => ?_
    · refine List.Pairwise.imp₂ (fun a b h1 h2 => ?_) pw nd
      unfold ltS
      rw [decide_eq_true_eq] at *
      rcases Decidable.em (a.cps.toList < b.cps.toList) with q | q
      · exact q
      · exact absurd (str_eq (List.le_antisymm h1 (List.not_lt.mp q))) h2
    · rw [(List.mergeSort_perm _ _).mem_iff, px.mem_iff, ssrt_mem]
  rw [eo] at ho2
  refine wpAny_pure ⟨_, rfl, k _ s1.heap.objs.size out.toArray c (fun b u e => ?_) g1 o1 hz hc (by simpa using ho2)⟩
  have q := k1 b u e
  have lt := Heap.lt_size q
  show (sortedHeap (s1.heap.push (seqObj "list" vs.toArray 0)) s1.heap.objs.size vs out.toArray).get? b = some u
  rw [sortedHeap_old (Nat.ne_of_lt lt) (by rw [size_push']; exact Nat.lt_succ_of_lt lt)]
  exact Heap.get?_push_of_some _ q
end
end Mp
/-! Mp, part Sg: sorted, repr. -/
namespace Mp
open PySem PySem.Spec PyProof.Rows L2
theorem strsOf_keys : ∀ {kvs : List (Key × D)} {ks : List Str}, strsOf (kvs.map fun kv => kD kv.1) = some ks → kvs.map (·.1) = ks.map Sum.inr
  | [], ks, h => by cases h; rfl
  | (.inr z, d) :: r, ks, h => by
    have h : (strsOf (r.map fun kv => kD kv.1)).bind (fun bs => some (z :: bs)) = some ks := h
    obtain ⟨bs, h1, h2⟩ := Option.bind_eq_some_iff.mp h
    cases h2
    rw [List.map_cons, strsOf_keys h1]; rfl
  | (.inl i, d) :: r, ks, h => by cases h
theorem repK_keys {K : Fr0} {cm : Str → Option Addr} {F : Hp} {L : List Addr} : ∀ {ks : List (Key × D)} {vs : List (Key × V)}, RepK K cm F L ks vs → ks.map (·.1) = vs.map (·.1)
  | _, _, .nil => rfl
  | _, _, .cons r t => by rw [List.map_cons, List.map_cons, repK_keys t]
theorem repL_strs {K : Fr0} {cm : Str → Option Addr} {F : Hp} {L : List Addr} : ∀ xs : List Str, RepL K cm F L (xs.map D.str) (xs.map V.str)
  | [] => .nil
  | x :: xs => .cons (.str x) (repL_strs xs)
theorem rising_asc : ∀ {ys : List Str} {y : Str}, risingS y ys = true → (y :: ys).Nodup → (y :: ys).Pairwise (fun a b => ltS a b = true)
  | [], y, _, _ => List.pairwise_singleton _ _
  | x :: ys, y, h, nd => by
    unfold risingS at h
    rw [Bool.and_eq_true, Bool.not_eq_true', ltCps_eq] at h
    have nd2 := List.nodup_cons.mp nd
    have t := rising_asc h.2 nd2.2
    have hxy : ltS y x = true := ltS_tri (x := x) (y := y) (fun e => nd2.1 (by rw [e]; exact List.mem_cons_self)) h.1
    refine List.pairwise_cons.mpr ⟨fun z hz => ?_, t⟩
    rcases List.mem_cons.mp hz with rfl | hz
    · exact hxy
    · exact ltS_trans hxy ((List.pairwise_cons.mp t).1 z hz)
theorem sorted_asc {ys : List Str} (h : sortedS ys = true) (nd : ys.Nodup) : ys.Pairwise (fun a b => ltS a b = true) := by
  cases ys with
  | nil => exact .nil
  | cons y ys => exact rising_asc h nd
section
variable {X : Cx} {cm : Str → Option Addr}
/-- sorted of a list: the values' list, at the library's level -/
theorem bi_sorted (calm : X.calm = true) (hu : X.A.units + 65 < cLine) : BiOk X cm (.builtin "sorted") (fun d => biD "sorted" [d]) := by
  intro pins s σ H xs us Q I rx h
  obtain ⟨F, L, x, dx, d, fr, rfl, hs, vx, e, r⟩ := h
  have e' : (match (generalizing := false) dx with
      | .lst xs => if (sortable xs && decide (xs.length ≤ sizeLine)) = true then some (D.lst (srt xs), true) else none
      | .tup xs => if (sortable xs && decide (xs.length ≤ sizeLine)) = true then some (D.lst (srt xs), true) else none
      | .dK kvs => (strsOf (kvs.map fun kv => kD kv.1)).bind fun ks => if ks.length < 64 ∧ ks.Nodup then some (D.lst ((ssrt ks).map .str), true) else none
      | _ => none) = some (d, fr) := e
  cases dx <;> simp only [reduceCtorEq] at e'
  case dK kvs =>
    obtain ⟨ks, e1, e2⟩ := Option.bind_eq_some_iff.mp e'
    split at e2
    · rename_i c
      cases e2
      obtain ⟨a, vs, rfl, h1, r1⟩ := vx
      have hk : vs.map (·.1) = ks.map Sum.inr := by rw [← repK_keys r1]; exact strsOf_keys e1
      refine call_sortedD calm pins s σ H _ us Q I rx ⟨a, vs, ks, rfl, h1, hk, c.1, fun ys p hp hs hn => ?_⟩
      have : ys = ssrt ks := asc_eq (sorted_asc hs (hp.nodup_iff.mpr c.2)) (ssrt_asc ks) fun z => by rw [ssrt_mem, hp.mem_iff]
      rw [this]
      have hl : RepL X.K cm F L ((ssrt ks).map D.str) ((ssrt ks).map V.str) := repL_strs _
      exact r.lst _ rfl rfl p _ hn hl
    · cases e2
  case tup xs =>
    split at e'
    · rename_i c
      rw [Bool.and_eq_true, decide_eq_true_eq] at c
      cases e'
      cases rx with
      | cons q1 q2 =>
        cases q2
        exact bi_sortedT hu I hs vx q1 c.1 c.2 r
    · cases e'
  rename_i xs
  split at e'
  · rename_i c
    rw [Bool.and_eq_true, decide_eq_true_eq] at c
    cases e'
    obtain ⟨a, vs, rfl, h1, r1⟩ := vw_lst vx
    obtain ⟨p1, p2, p3⟩ := sortable_of c.1
    cases rx with
    | cons q1 q2 =>
      cases q2
      cases (show _ = Value.ref a from q1)
      obtain ⟨its, rv, pl, hz⟩ := I.list (.of h1)
      have ea := each_of r1 rv
      refine W.sorted_data (enc := D.py) (bs := xs) (R := Itm X.K cm F L) pl.isList ea (each_reads I hs ea fun d hd => pl_of (p1 d hd)) p2 p3 c.2 (fun b hb => by have := depth_sh (p1 b hb); omega) fun out hl ho => ?_
      have ho' : W.EachIs (Itm X.K cm F L) out (srt xs) := by rw [srt_eq]; exact ho
      obtain ⟨ws, w1, w2⟩ := of_each ho'
      obtain ⟨ep, he⟩ := PyProof.Rows.sortedAll_at s.heap its out.toArray
      have hlen : ws.length ≤ sizeLine := by rw [← w2.len, srt_len]; exact c.2
      refine ⟨.ref (s.heap.objs.size + 1), upd H (s.heap.objs.size + 1) (.lst ws), I.laid (t' := s.toks) (fun _ _ => PyProof.Rows.sortedAll_old) (Nat.le_succ _) ⟨hlen, out, ep, w1, he⟩, rfl, ?_⟩
      exact r.lst _ rfl rfl _ _ (I.hok.fresh (Nat.le_succ _)) w2
  · cases e'
/-- repr -/
theorem bi_repr (gd : X.A.guards = some []) (hu : X.A.units + 65 < cLine) : BiOk X cm (.builtin "repr") (fun d => biD "repr" [d]) := by
  intro pins s σ H xs us Q I rx h
  obtain ⟨F, L, x, dx, d, fr, rfl, hs, vx, e, r⟩ := h
  have seq : ∀ dz : D, Vw X.K cm H F L dz x → (∃ a, x = .ref a) → (dz.sh && (dz.py.showable && decide (dz.py.shown.length ≤ sizeLine))) = true → RsF X.K cm H F L (.str dz.py.shown) false Q → wpAny (model X.prog X.w) X.A (call (.builtin "repr") us) (fun v' s' => ∃ w H', Inv X pins σ H' s' ∧ RelV w v' ∧ Q w H') X.xe s := by
    intro dz vz hx c r
    rw [Bool.and_eq_true, Bool.and_eq_true, decide_eq_true_eq] at c
    have dp := vz.dp hs (pl_of c.1)
    have hd := depth_sh c.1
    have hcl : dz.py.canLay0 = true := by
      have := c.1
      unfold D.sh at this
      rw [Bool.and_eq_true, Bool.and_eq_true] at this
      exact this.1.2
    obtain ⟨a, rfl⟩ := hx
    cases rx with
    | cons q1 q2 =>
      cases q2
      cases (show _ = Value.ref a from q1)
      obtain ⟨as, hr⟩ := Dp.reads I _ _ _ dp rfl
      exact repr_of_reads' hr c.2.1 (PyData.noDict_hsm (PyData.hasDict_of_canLay _ hcl)) gd (by omega) (fun _ _ z => z) (fun h' u tk hk => ⟨.str _, H, I.kept hk, ⟨u, rfl⟩, r.str⟩) c.2.2
  have e' : (match (generalizing := false) dx with
      | .tup xs => if ((D.tup xs).sh && ((D.tup xs).py.showable && decide ((D.tup xs).py.shown.length ≤ sizeLine))) = true then some (D.str (D.tup xs).py.shown, false) else none
      | .lst xs => if ((D.lst xs).sh && ((D.lst xs).py.showable && decide ((D.lst xs).py.shown.length ≤ sizeLine))) = true then some (D.str (D.lst xs).py.shown, false) else none
      | .str z => if (PyData.str z).shown.length ≤ sizeLine then some (D.str (PyData.str z).shown, false) else none
      | .int i => if i.natAbs.log2 < 1920 then some (D.str (PyData.int i).shown, false) else none
      | .bl b => some (D.str (PyData.bool b).shown, false)
      | .non => some (D.str PyData.none.shown, false)
      | _ => none) = some (d, fr) := e
  cases dx <;> simp only [reduceCtorEq] at e'
  · cases e'
    cases rx with
    | cons q1 q2 =>
      cases q2
      rw [vw_non vx] at q1
      cases (show _ = Value.none from q1)
      exact PySem.P.repr_of_none ⟨.str _, H, I.tok _, ⟨_, rfl⟩, by have := r.str; simpa only [PyData.shown] using this⟩
  · rename_i b
    cases e'
    cases rx with
    | cons q1 q2 =>
      cases q2
      rw [vw_bl vx] at q1
      cases (show _ = Value.bool b from q1)
      exact PySem.P.repr_of_bool ⟨.str _, H, I.tok _, ⟨_, rfl⟩, by have := r.str; simpa only [PyData.shown] using this⟩
  · rename_i i
    split at e'
    · rename_i c
      cases e'
      cases rx with
      | cons q1 q2 =>
        cases q2
        rw [vw_int vx] at q1
        obtain ⟨t, rfl⟩ := q1
        exact PySem.P.repr_of_int c ⟨.str _, H, I.tok _, ⟨_, rfl⟩, by have := r.str; simpa only [PyData.shown] using this⟩
    · cases e'
  · rename_i z
    split at e'
    · rename_i c
      cases e'
      cases rx with
      | cons q1 q2 =>
        cases q2
        rw [vw_str vx] at q1
        obtain ⟨t, rfl⟩ := q1
        exact PySem.P.repr_of_str ⟨.str _, H, I.tok _, ⟨_, rfl⟩, by have := r.str; simpa only [PyData.shown] using this⟩ (by simpa only [PyData.shown] using c)
    · cases e'
  · split at e'
    · rename_i c
      cases e'
      obtain ⟨a, vs, hx, _, _⟩ := vw_tup vx
      exact seq _ vx ⟨a, hx⟩ c r
    · cases e'
  · split at e'
    · rename_i c
      cases e'
      obtain ⟨a, vs, hx, _, _⟩ := vw_lst vx
      exact seq _ vx ⟨a, hx⟩ c r
    · cases e'
end
end Mp
/-! Mp, part H: calls. -/
namespace Mp
open PySem PySem.Spec PyProof.Rows L2

theorem top_notT {K : Fr0} {cm : Str → Option Addr} {H F : Hp} {L : List Addr} {d : D} {a : Addr} {vs : List V} (q : Top K cm H F L d a) : H a ≠ some (HO.tup vs) := fun z => by
  cases d <;> simp only [Top] at q <;> first
    | exact q.elim
    | (obtain ⟨ws, e1, _⟩ := q; rw [z] at e1; cases e1)
    | (obtain ⟨_, _, _, _, e1, _⟩ := q; rw [z] at e1; cases e1)
def plus (F H : Hp) (As : List Addr) : Hp := fun a => if a ∈ As then H a else F a
def minus (F : Hp) (As : List Addr) : Hp := fun a => if a ∈ As then none else F a
section
variable {K : Fr0} {cm : Str → Option Addr} {σ : L2.St} {s s' s0 : St} {H F H' F' H0 F0 : Hp} {L L' L0 : List Addr} {d : D} {v : V} {t : Tmp} {a : Addr} {o : HO} {ts : List Tmp} {vs : List V} {As Bs : List Addr}
theorem plus_in (h : a ∈ As) : plus F H As a = H a := if_pos h
theorem plus_out (h : a ∉ As) : plus F H As a = F a := if_neg h
theorem minus_in (h : a ∈ As) : minus F As a = none := if_pos h
theorem minus_out (h : a ∉ As) : minus F As a = F a := if_neg h
theorem plus_sub (hs : Sub F H) : Sub F (plus F H As) := fun b u e => by
  by_cases h : b ∈ As
  · rw [plus_in h]; exact hs b u e
  · rw [plus_out h]; exact e
theorem plus_up (hs : Sub F H) (hm : ∀ a ∈ As, a ∈ Bs) : Sub (plus F H As) (plus F H Bs) := fun b u e => by
  by_cases h : b ∈ As
  · rw [plus_in h] at e; rw [plus_in (hm b h)]; exact e
  · rw [plus_out h] at e
    by_cases h2 : b ∈ Bs
    · rw [plus_in h2]; exact hs b u e
    · rw [plus_out h2]; exact e
mutual
theorem Rep.minus (hA : ∀ a ∈ As, ∃ vs, F a = some (.lst vs)) : ∀ {d : D} {v : V}, Rep K cm F L d v → d.lf = true → Rep K cm (minus F As) L d v
  | _, _, .non, _ => .non
  | _, _, .bl b, _ => .bl b
  | _, _, .int i, _ => .int i
  | _, _, .str x, _ => .str x
  | _, _, .tup (a := a) q r, h => by
    refine .tup ?_ (RepL.minus hA r (by simpa [D.lf] using h))
    rw [minus_out fun z => by obtain ⟨vs, e⟩ := hA a z; rw [q] at e; cases e]
    exact q
  | _, _, .lst _ _, h => by simp [D.lf] at h
  | _, _, .dK _ _, h => by simp [D.lf] at h
  | _, _, .dT _ _, h => by simp [D.lf] at h
  | _, _, .ins _ _ _, h => by simp [D.lf] at h
  | _, _, .box e, _ => .box e
  | _, _, .scr _, h => by simp [D.lf] at h
theorem RepL.minus (hA : ∀ a ∈ As, ∃ vs, F a = some (.lst vs)) : ∀ {ds : List D} {vs : List V}, RepL K cm F L ds vs → lfL ds = true → RepL K cm (minus F As) L ds vs
  | _, _, .nil, _ => .nil
  | _, _, .cons r t, h => by
    rw [lfL, Bool.and_eq_true] at h
    exact .cons (Rep.minus hA r h.1) (RepL.minus hA t h.2)
end
theorem arg_ok (g : Good K cm s σ H F L) (g0 : Good K cm s0 σ H0 F0 L0) (x : Ext σ s0 H0 F0 L0 s H F L) (q : TRep K cm s σ H F L t v) (hn : ∀ d b, t = .v d true → v = .ref b → H0 b = none) (h : arg t s = some (d, s')) :
    Lk H fun H' => ∃ F', Good K cm s' σ H' F' L ∧ Ext σ s0 H0 F0 L0 s' H' F' L ∧ Fz s s' ∧ (∀ i ds, s.get i = some (.lst ds, true) → s'.get i = some (.lst ds, true)) ∧
      ((Rep K cm F' L d v ∧ ∀ i, t = .x i → ∀ ds, s'.get i ≠ some (.lst ds, true)) ∨ ∃ i ds, t = .x i ∧ d = .lst ds ∧ s.get i = some (.lst ds, true)) ∧ ((H' = H ∧ F' = F) ∨ ∃ a o, F a = none ∧ H' = upd H a o ∧ F' = upd F a o ∧ v = .ref a ∧ ((∃ d, t = .v d true) ∨ Own s σ a)) := by
  cases t with
  | v d' b =>
    have h' : take (.v d' b) s = some (d, s') := h
    have es : s' = s := by cases h'; rfl
    exact (take_ok g g0 x q hn h').imp fun H1 ⟨F1, g1, x1, r1, z1, c1⟩ => ⟨F1, g1, x1, z1, fun i ds e => by rw [es]; exact e, .inl ⟨r1, fun _ e => by cases e⟩, c1⟩
  | x i =>
    obtain ⟨⟨d', b⟩, h1, h2⟩ := id q
    have other : ∀ p, s.get i = some p → (∀ ds, p ≠ (.lst ds, true)) → take (.x i) s = some (d, s') → Lk H fun H' => ∃ F', Good K cm s' σ H' F' L ∧ Ext σ s0 H0 F0 L0 s' H' F' L ∧ Fz s s' ∧ (∀ i ds, s.get i = some (.lst ds, true) → s'.get i = some (.lst ds, true)) ∧
      ((Rep K cm F' L d v ∧ ∀ i', Tmp.x i = .x i' → ∀ ds, s'.get i' ≠ some (.lst ds, true)) ∨ ∃ i' ds, Tmp.x i = .x i' ∧ d = .lst ds ∧ s.get i' = some (.lst ds, true)) ∧ ((H' = H ∧ F' = F) ∨ ∃ a o, F a = none ∧ H' = upd H a o ∧ F' = upd F a o ∧ v = .ref a ∧ ((∃ d, Tmp.x i = .v d true) ∨ Own s σ a)) := by
      intro p hp hne ht
      have es : s' = s.frz i := by
        have ht' : (do let p ← s.get i; some (p.1, s.frz i)) = some (d, s') := ht
        rw [hp] at ht'; cases ht'; rfl
      refine (take_ok g g0 x q hn ht).imp fun H1 ⟨F1, g1, x1, r1, z1, c1⟩ => ⟨F1, g1, x1, z1, fun j ds e => ?_, .inl ⟨r1, fun i' e ds => by
        cases e
        rw [es, get_frz, if_pos rfl, hp]
        simp⟩, c1⟩
      rw [es, get_frz]
      by_cases w : j = i
      · subst w
        rw [hp] at e; cases e
        exact absurd rfl (hne ds)
      · rw [if_neg w]; exact e
    have h' : (match s.get i with
      | some (.lst ds, true) => some (D.lst ds, s)
      | some p => some (p.1, s.frz i)
      | none => none) = some (d, s') := h
    rw [h1] at h'
    have ht : ∀ p, s.get i = some p → take (.x i) s = some (p.1, s.frz i) := fun p hp => by
      show (do let p ← s.get i; some (p.1, s.frz i)) = _
      rw [hp]; rfl
    cases b with
    | false =>
      have h'' : some (d', s.frz i) = some (d, s') := by cases d' <;> exact h'
      cases h''
      exact other _ h1 (fun ds e => by cases e) (ht _ h1)
    | true =>
      cases d' with
      | lst ds =>
        cases h'
        exact .ret ⟨F, g, x, Fz.refl s, fun i ds e => e, .inr ⟨i, ds, rfl, rfl, h1⟩, .inl ⟨rfl, rfl⟩⟩
      | _ =>
        cases h'
        exact other _ h1 (fun ds e => by cases e) (ht _ h1)
theorem args_ok (g0 : Good K cm s0 σ H0 F0 L0) : ∀ {ts : List Tmp} {vs : List V} {s s' : St} {H F : Hp} {ds : List D}, Good K cm s σ H F L → Ext σ s0 H0 F0 L0 s H F L → TReps K cm s σ H F L ts vs → News H0 ts vs → args ts s = some (ds, s') →
    Lk H fun H' => ∃ F' As, Good K cm s' σ H' F' L ∧ Ext σ s0 H0 F0 L0 s' H' F' L ∧ RepL K cm (plus F' H' As) L ds vs ∧ (∀ a ∈ As, ∃ i e, .x i ∈ ts ∧ s'.get i = some (.lst e, true) ∧ σ[i]? = some (some (.ref a))) ∧ Sub F F' ∧ Fz s s' ∧ (∀ i ds, s.get i = some (.lst ds, true) → s'.get i = some (.lst ds, true)) ∧
      (∀ i ∈ varsOf ts, ∀ e, s'.get i = some (e, true) → ∃ ds, e = .lst ds) ∧ (∀ i ∈ varsOf ts, ∀ e a, s'.get i = some (.lst e, true) → σ[i]? = some (some (.ref a)) → a ∈ As)
  | [], _, s, s', H, F, ds, g, x, q, n, h => by
    cases q
    cases h
    exact .ret ⟨F, [], g, x, .nil, fun a ha => by simp at ha, Sub.refl F, Fz.refl s, fun i ds e => e, (fun i hi => by simp [varsOf] at hi), fun i hi => by simp [varsOf] at hi⟩
  | t :: ts, _, s, s', H, F, ds, g, x, q, n, h => by
    cases q with
    | @cons _ v _ vs q1 q2 =>
      have h' : (do let (d, s) ← arg t s; let (ds, s) ← args ts s; some (d :: ds, s)) = some (ds, s') := h
      cases e1 : arg t s with
      | none => rw [e1] at h'; cases h'
      | some p =>
        obtain ⟨d, s1⟩ := p
        rw [e1] at h'
        have h2 : (do let (ds, s) ← args ts s1; some (d :: ds, s)) = some (ds, s') := h'
        cases e2 : args ts s1 with
        | none => rw [e2] at h2; cases h2
        | some p =>
          obtain ⟨ds', s2⟩ := p
          rw [e2] at h2
          cases h2
          refine (arg_ok g g0 x q1 (fun d b e3 e4 => (n.head d b e3 e4).1) e1).bind fun H1 ⟨F1, g1, x1, z1, l1, r1, c⟩ => ?_
          have q3 : TReps K cm s1 σ H1 F1 L ts vs ∧ Sub F F1 := by
            rcases c with ⟨rfl, rfl⟩ | ⟨a, o, hf, rfl, rfl, hv, ho⟩
            · exact ⟨TReps.fz q2 z1, Sub.refl _⟩
            · refine ⟨TReps.upd1 q2 hf z1 ?_, sub_upd hf⟩
              rcases ho with ⟨d, ho⟩ | ho
              · exact (n.head d a ho hv).2
              · exact Own.notFr q2 ho
          have vars : ∀ i ∈ varsOf (t :: ts), (t = .x i) ∨ i ∈ varsOf ts := fun i hi => by
            cases t with
            | v d b => exact .inr (by simpa [varsOf] using hi)
            | x j =>
              simp only [varsOf, List.mem_cons] at hi
              rcases hi with rfl | hi
              · exact .inl rfl
              · exact .inr hi
          refine (args_ok g0 g1 x1 q3.1 n.tail e2).imp fun H2 ⟨F2, As, g2, x2, r2, a2, u2, z2, l2, o2, c2⟩ => ?_
          have o3 : ∀ i ∈ varsOf (t :: ts), ∀ e, s'.get i = some (e, true) → ∃ ds, e = .lst ds := fun i hi e he => by
            rcases vars i hi with rfl | hi
            · have e0 := z1.ownS i e (z2.ownS i e he)
              cases e with
              | lst ds => exact ⟨ds, rfl⟩
              | _ =>
                exfalso
                have h'' : (match s.get i with
                  | some (.lst ds, true) => some (D.lst ds, s)
                  | some p => some (p.1, s.frz i)
                  | none => none) = some (d, s1) := e1
                rw [e0] at h''
                cases h''
                have := z2.ownS i _ he
                rw [get_frz, if_pos rfl, e0] at this
                cases this
            · exact o2 i hi e he
          rcases r1 with ⟨r1, nl⟩ | ⟨i, es, rfl, rfl, e3⟩
          · refine ⟨F2, As, g2, x2, .cons (Rep.mono (u2.trans (plus_sub g2.sub)) (Pfx.refl L) r1) r2, fun a ha => let ⟨i, e, h1, h2⟩ := a2 a ha; ⟨i, e, List.mem_cons_of_mem _ h1, h2⟩, q3.2.trans u2, z1.trans z2, fun i ds e => l2 i ds (l1 i ds e), o3, fun i hi e a h1 h2 => ?_⟩
            rcases vars i hi with rfl | hi
            · exact absurd (z2.ownS i _ h1) (nl i rfl e)
            · exact c2 i hi e a h1 h2
          · have e4 := l2 i es (l1 i es e3)
            obtain ⟨a, e5, e6, e7, ws, e8, r8⟩ := g2.own i _ e4
            obtain ⟨_, _, e9⟩ := q1
            rw [e5] at e9
            cases e9
            refine ⟨F2, a :: As, g2, x2, .cons ?_ (r2.mono (plus_up g2.sub fun b hb => List.mem_cons_of_mem _ hb) (Pfx.refl L)), fun b hb => ?_, q3.2.trans u2, z1.trans z2, fun i ds e => l2 i ds (l1 i ds e), o3, fun j hj e b h1 h2 => ?_⟩
            · exact .lst (by rw [plus_in List.mem_cons_self]; exact e8) (r8.mono (plus_sub g2.sub) (Pfx.refl L))
            · rcases List.mem_cons.mp hb with rfl | hb
              · exact ⟨i, es, List.mem_cons_self, e4, e5⟩
              · obtain ⟨j, e, h1, h2⟩ := a2 b hb
                exact ⟨j, e, List.mem_cons_of_mem _ h1, h2⟩
            · rcases vars j hj with ej | hj
              · cases ej
                rw [e5] at h2; cases h2
                exact List.mem_cons_self
              · exact List.mem_cons_of_mem _ (c2 j hj e b h1 h2)
theorem mem_vars {i : Nat} : ∀ {ts : List Tmp}, Tmp.x i ∈ ts → i ∈ varsOf ts
  | [], h => by simp at h
  | .v d b :: ts, h => by
    rcases List.mem_cons.mp h with h | h
    · cases h
    · simpa [varsOf] using mem_vars h
  | .x j :: ts, h => by
    rcases List.mem_cons.mp h with h | h
    · cases h; simp [varsOf]
    · simp [varsOf, mem_vars h]
theorem get_frzs : ∀ (is : List Nat) (s : St) (j : Nat), (s.frzs is).get j = if j ∈ is then (s.get j).map (fun p => (p.1, false)) else s.get j
  | [], s, j => by simp [St.frzs]
  | i :: is, s, j => by
    show ((s.frz i).frzs is).get j = _
    rw [get_frzs is (s.frz i) j, get_frz]
    by_cases h1 : j = i
    · subst h1
      by_cases h2 : j ∈ is
      · simp [h2, Function.comp_def]
      · simp [h2]
    · by_cases h2 : j ∈ is
      · simp [h1, h2]
      · simp [h1, h2]
theorem frzs_len : ∀ (is : List Nat) (s : St), (s.frzs is).e.length = s.e.length
  | [], s => rfl
  | i :: is, s => by show ((s.frz i).frzs is).e.length = s.e.length; rw [frzs_len is, frz_len]
/-- boxes alone -/
theorem Good.outer (g : Good K cm s σ H F L) (hA : ∀ a ∈ As, Own s σ a) : Good K cm ⟨[], s.b⟩ [] H (plus F H As) L where
  sub := fun b u e => by
    by_cases h : b ∈ As
    · rw [plus_in h] at e; exact e
    · rw [plus_out h] at e; exact g.sub b u e
  len := rfl
  pure := fun i d e => by simp [St.get] at e
  own := fun i d e => by simp [St.get] at e
  apart := fun i j d e a _ h => by simp [St.get] at h
  box := fun k is e => by
    obtain ⟨a, h1, h2, h3⟩ := g.box k is e
    refine ⟨a, h1, ?_, h3⟩
    rw [plus_out fun z => ?_]
    · exact h2
    · obtain ⟨i, d, e1, e2⟩ := hA a z
      obtain ⟨a', e3, _, e4, _⟩ := g.own i d e1
      rw [e2] at e3; cases e3
      exact e4 (List.mem_of_getElem? h1)
  lenB := g.lenB
  nd := g.nd
theorem not_own0 {b : List (List Int)} {a : Addr} : ¬ Own ⟨[], b⟩ [] a := fun ⟨i, d, h, _⟩ => by simp [St.get] at h
/-- behind a call -/
theorem call_fin {Q : VK} {r : D × Bool × List (List Int)} (g : Good K cm s σ H F L) (g0 : Good K cm s0 σ H0 F0 L0) (x : Ext σ s0 H0 F0 L0 s H F L) (hA : ∀ a ∈ As, ∃ i e, .x i ∈ ts ∧ s.get i = some (.lst e, true) ∧ σ[i]? = some (some (.ref a))) (hv : ∀ i ∈ varsOf ts, ∀ e, s.get i = some (e, true) → ∃ ds, e = .lst ds)
    (hcov : ∀ i ∈ varsOf ts, ∀ e a, s.get i = some (.lst e, true) → σ[i]? = some (some (.ref a)) → a ∈ As)
    (k : Fin K cm σ s0 H0 F0 L0 (called ts s r).1 (called ts s r).2 Q) : Fin K cm [] ⟨[], s.b⟩ H (plus F H As) L (.v r.1 r.2.1) ⟨[], r.2.2⟩ Q := by
  intro v H2 F2 L2 g2 x2 q2 n2
  obtain ⟨d, fr, b'⟩ := r
  have ownA : ∀ a ∈ As, Own s σ a := fun a ha => let ⟨i, e, _, h1, h2⟩ := hA a ha; ⟨i, _, h1, h2⟩
  have inL : ∀ a, Own s σ a → a ∉ L := fun a ⟨i, d, h1, h2⟩ => by
    obtain ⟨a', h3, _, h4, _⟩ := g.own i d h1
    rw [h2] at h3; cases h3; exact h4
  have inF : ∀ a, Own s σ a → F a = none := fun a ⟨i, d, h1, h2⟩ => by
    obtain ⟨a', h3, h4, _, _⟩ := g.own i d h1
    rw [h2] at h3; cases h3; exact h4
  have lstA : ∀ a ∈ As, ∃ vs, H a = some (.lst vs) := fun a ha => by
    obtain ⟨i, e, _, h1, h2⟩ := hA a ha
    obtain ⟨a', h3, _, _, vs, h4, _⟩ := g.own i _ h1
    rw [h2] at h3; cases h3; exact ⟨vs, h4⟩
  have keep : ∀ a o, H a = some o → a ∉ L → H2 a = some o := fun a o h h' => x2.frame a o h not_own0 h'
  have sFF : Sub F F2 := (plus_sub g.sub).trans x2.sub
  have f2own : ∀ a, Own s σ a → a ∉ As → F2 a = none := fun a ha hn => by
    cases e : F2 a with
    | none => rfl
    | some u =>
      rcases x2.new a (by rw [e]; simp) with z | z | z | ⟨vs, z⟩
      · rw [plus_out hn, inF a ha] at z; exact absurd rfl z
      · exact absurd z (g.dO ha)
      · exact absurd z not_own0
      · obtain ⟨i, d', h1, h2⟩ := ha
        obtain ⟨a', h3, _, _, h4⟩ := g.own i d' h1
        rw [h2] at h3; cases h3
        exact (top_notT h4 z).elim
  have l2own : ∀ a, Own s σ a → a ∉ L2 := fun a ha z => by
    rcases x2.newL a z with z | z
    · exact inL a ha z
    · exact g.dO ha z
  -- the caller's own run: new things since s0
  have xx : ∀ (s2 : St) (F3 : Hp), (∀ i e, s2.get i = some (e, true) → s.get i = some (e, true)) → (∀ i p, s.get i = some p → ∃ q, s2.get i = some q) → (∀ i e, s.get i = some (e, false) → s2.get i = some (e, false)) → (∀ i, s.get i = none → s2.get i = none) →
      Sub F F3 → (∀ a, F3 a ≠ none → F2 a ≠ none) → Ext σ s0 H0 F0 L0 s2 H2 F3 L2 := fun s2 F3 h1 h2 h3 h4 h5 h6 => by
    refine x.trans (s2 := s2) (H2 := H2) (F2 := F3) (L2 := L2) ⟨h5, fun a ha => ?_, x2.pre, x2.newL, fun a o ha _ hl => keep a o ha hl, fun a ha => x2.dom a ha, fun i e h => ⟨e, h1 i e h⟩, h2, h3, h4⟩ (fun _ h => g.dF h) (fun _ h => g.dL h) fun a vs h e => g.noT h e
    rcases x2.new a (h6 a ha) with z | z | z | ⟨vs, z⟩
    · by_cases w : a ∈ As
      · exact .inr (.inr (.inl (ownA a w)))
      · rw [plus_out w] at z; exact .inl z
    · exact .inr (.inl z)
    · exact absurd z not_own0
    · exact .inr (.inr (.inr ⟨vs, z⟩))
  by_cases hlf : d.lf = true
  · -- nothing of it can be changed: what was lent comes back
    have e1 : (called ts s (d, fr, b')).2 = { s with b := b' } := by unfold called; rw [if_pos hlf]
    have e2 : (called ts s (d, fr, b')).1 = .v d fr := rfl
    have hfr : fr = false := by
      cases fr with
      | false => rfl
      | true =>
        obtain ⟨a, _, _, _, h4, _⟩ := q2
        cases d <;> simp [D.lf] at hlf <;> exact h4.elim
    subst hfr
    have hAl : ∀ a ∈ As, ∃ vs, F2 a = some (.lst vs) := fun a ha => by
      obtain ⟨vs, e⟩ := lstA a ha
      exact ⟨vs, x2.sub a _ (by rw [plus_in ha]; exact e)⟩
    have sFm : Sub F (minus F2 As) := fun b u e => by
      rw [minus_out fun z => by rw [inF b (ownA b z)] at e; cases e]
      exact sFF b u e
    have gm : Good K cm { s with b := b' } σ H2 (minus F2 As) L2 := by
      refine ⟨fun b u e => ?_, g.len, fun i e h => ?_, fun i e h => ?_, fun i j e e' a hij h1 h2 => g.apart i j e e' a hij h1 h2, fun k is h => ?_, g2.lenB, g2.nd⟩
      · by_cases z : b ∈ As
        · rw [minus_in z] at e; cases e
        · rw [minus_out z] at e; exact g2.sub b u e
      · obtain ⟨w, h1, h2⟩ := g.pure i e h
        exact ⟨w, h1, Rep.mono sFm x2.pre h2⟩
      · obtain ⟨a, h1, h2, h3, h4⟩ := g.own i e h
        have ow : Own s σ a := ⟨i, e, h, h1⟩
        refine ⟨a, h1, ?_, l2own a ow, ?_⟩
        · by_cases z : a ∈ As
          · exact minus_in z
          · rw [minus_out z]; exact f2own a ow z
        · obtain ⟨o, ho⟩ := h4.some
          exact h4.mono sFm x2.pre (by rw [keep a o ho h3, ho])
      · obtain ⟨a, h1, h2, h3⟩ := g2.box k is h
        refine ⟨a, h1, ?_, h3⟩
        by_cases z : a ∈ As
        · exact minus_in z
        · rw [minus_out z]; exact h2
    refine k v H2 (minus F2 As) L2 (by rw [e1]; exact gm) ?_ (by rw [e2]; exact Rep.minus hAl q2 hlf) fun _ _ e => by rw [e2] at e; cases e
    rw [e1]
    exact xx { s with b := b' } _ (fun i e h => h) (fun i p h => ⟨p, h⟩) (fun i e h => h) (fun i h => h) sFm fun a ha => by
      by_cases z : a ∈ As
      · rw [minus_in z] at ha; exact absurd rfl ha
      · rw [minus_out z] at ha; exact ha
  · -- the result may hold what was lent: it is settled
    have e1 : (called ts s (d, fr, b')).2 = { s.frzs (varsOf ts) with b := b' } := by unfold called; rw [if_neg hlf]
    have e2 : (called ts s (d, fr, b')).1 = .v d fr := rfl
    have gt : ∀ j, ({ s.frzs (varsOf ts) with b := b' } : St).get j = if j ∈ varsOf ts then (s.get j).map (fun p => (p.1, false)) else s.get j := fun j => get_frzs (varsOf ts) s j
    have gown : ∀ i e, ({ s.frzs (varsOf ts) with b := b' } : St).get i = some (e, true) → i ∉ varsOf ts ∧ s.get i = some (e, true) := fun i e h => by
      rw [gt] at h
      by_cases z : i ∈ varsOf ts
      · rw [if_pos z] at h
        cases q : s.get i with
        | none => rw [q] at h; cases h
        | some p => rw [q] at h; simp at h
      · rw [if_neg z] at h; exact ⟨z, h⟩
    have gm : Good K cm { s.frzs (varsOf ts) with b := b' } σ H2 F2 L2 := by
      refine ⟨g2.sub, by rw [show ({ s.frzs (varsOf ts) with b := b' } : St).e.length = s.e.length from frzs_len _ _]; exact g.len, fun i e h => ?_, fun i e h => ?_, fun i j e e' a hij h1 h2 => g.apart i j e e' a hij (gown i e h1).2 (gown j e' h2).2, fun k is h => g2.box k is h, g2.lenB, g2.nd⟩
      · rw [gt] at h
        cases q : s.get i with
        | none => rw [q] at h; split at h <;> cases h
        | some p =>
          obtain ⟨e', b⟩ := p
          cases b with
          | false =>
            have ee : e' = e := by
              rw [q] at h
              split at h <;> (cases h; rfl)
            subst ee
            obtain ⟨w, h1, h2⟩ := g.pure i e' q
            exact ⟨w, h1, Rep.mono sFF x2.pre h2⟩
          | true =>
            by_cases z : i ∈ varsOf ts
            · rw [if_pos z, q] at h
              cases h
              obtain ⟨es, rfl⟩ := hv i z e' q
              obtain ⟨a, h1, h2, h3, ws, h4, r4⟩ := g.own i _ q
              have ha := hcov i z es a q h1
              exact ⟨_, h1, .lst (x2.sub a _ (by rw [plus_in ha]; exact h4)) (r4.mono sFF x2.pre)⟩
            · rw [if_neg z, q] at h; cases h
      · obtain ⟨z, h⟩ := gown i e h
        obtain ⟨a, h1, h2, h3, h4⟩ := g.own i e h
        have ow : Own s σ a := ⟨i, e, h, h1⟩
        have hn : a ∉ As := fun w => by
          obtain ⟨j, e', hj, h5, h6⟩ := hA a w
          have hji : j ≠ i := fun y => z (y ▸ mem_vars hj)
          exact g.apart j i _ _ a hji h5 h h6 h1
        obtain ⟨o, ho⟩ := h4.some
        exact ⟨a, h1, f2own a ow hn, l2own a ow, h4.mono sFF x2.pre (by rw [keep a o ho h3, ho])⟩
    have xe : Ext σ s0 H0 F0 L0 { s.frzs (varsOf ts) with b := b' } H2 F2 L2 := xx _ _ (fun i e h => (gown i e h).2) (fun i p h => by
        rw [gt]
        split
        · rw [h]; exact ⟨_, rfl⟩
        · exact ⟨p, h⟩) (fun i e h => by
        rw [gt]
        split
        · rw [h]; rfl
        · exact h) (fun i h => by
        rw [gt]
        split
        · rw [h]; rfl
        · exact h) sFF fun a ha => ha
    refine k v H2 F2 L2 (by rw [e1]; exact gm) (by rw [e1]; exact xe) ?_ fun d' a ed ev => ?_
    · rw [e2, e1]
      cases fr with
      | false => exact q2
      | true =>
        obtain ⟨a, h1, h2, h3, h4, h5⟩ := q2
        refine ⟨a, h1, h2, h3, h4, fun ⟨i, e, h6, h7⟩ => ?_⟩
        have ow : Own s σ a := ⟨i, e, (gown i e h6).2, h7⟩
        exact g.dO ow (n2 d a rfl h1)
    · rw [e2] at ed
      cases ed
      exact x.gone (n2 d a rfl ev)
end
end Mp
/-! Mp, part Gu: defs that are run while no container's text is under way. -/
namespace Mp
open PySem PySem.Spec PyProof.Rows L2
/-- a def's promise, where no container's text is under way -/
structure FnG (P : Program) (w : World) (K : PySem.W.Frag) (mg : Str → Option Value) (base : Heap) (CX : CXT) (k : Nat) (fa : Addr) (fd : FuncData) (ps : List Str) (sp : Sp) : Prop where
  wid : ∀ ws H Q E, sp ws H Q E → ws.length = ps.length
  go : ∀ (B : Around) (o : List Env) (t : Shared) (H : Hp) (as : Args) (us : List Value) (ws : List V) (Q : VK) (E : XK), B.guards = some [] → Room k B → Env0 P w K mg base B o t H → BindsTo t fd as (ps.zip us) → Vals ws us → sp ws H Q E → codeAny (model P w) B (.call (.ref fa) as) (CR CX o P w H t Q E) t
theorem FnG.up {P : Program} {w : World} {K : PySem.W.Frag} {mg : Str → Option Value} {base : Heap} {CX : CXT} {j k : Nat} {fa : Addr} {fd : FuncData} {ps : List Str} {sp : Sp} (F : FnG P w K mg base CX j fa fd ps sp) (h : j ≤ k) : FnG P w K mg base CX k fa fd ps sp :=
  ⟨F.wid, fun B o t H as us ws Q E gd rm => F.go B o t H as us ws Q E gd (rm.mono h)⟩
section
variable {X : Cx} {CX : CXT} {k : Nat} {fa C : Addr} {fd : FuncData} {ps : List Str} {sp : Sp} {E : XK} {x m : Str} {p pos apos : Pos} {e o : Expr} {es : List Expr} {ta : TE} {t : TA} {pins : List (Addr × Obj)} {σ : L2.St} {H : Hp} {s : Shared} {Q : VK}
theorem runG (F : FnG X.prog X.w X.K X.mg X.base CX k fa fd ps sp) (gd : X.A.guards = some []) (rm : Room k X.A) {us : List Value} {kw : List (Str × Value)} {zs : List Value} {ws : List V} (hb : BindsTo s fd ⟨us, kw⟩ (ps.zip zs)) (px : Passes CX X E) (I : Inv X pins σ H s) (rz : Vals ws zs) (h : sp ws H Q E) :
    wpAny (model X.prog X.w) X.A (call (.ref fa) us kw) (EP X pins σ Q) X.xe s :=
  wpAny_call (codeAny_mono (F.go X.A X.stack s H ⟨us, kw⟩ zs ws Q E gd rm I.env0 hb rz h) fun a t' ha => by
    cases a with
    | error z => exact px pins σ H s z t' I ha
    | ok b =>
      cases b with
      | ret u => exact I.after ha
      | next => cases ha
      | brk => cases ha
      | cont => cases ha)
theorem binds0 (hb : Binds X.K fd ps []) (I : Inv X pins σ H s) {us : List Value} (hl : us.length = ps.length) : BindsTo s fd ⟨us, []⟩ (ps.zip us) := by
  have := hb s us I.kIn (by rw [List.append_nil]; exact hl)
  rw [List.append_nil] at this
  exact this
theorem runG0 (F : FnG X.prog X.w X.K X.mg X.base CX k fa fd ps sp) (gd : X.A.guards = some []) (rm : Room k X.A) {us : List Value} {ws : List V} (hb : Binds X.K fd ps []) (px : Passes CX X E) (I : Inv X pins σ H s) (rz : Vals ws us) (h : sp (ws ++ []) H Q E) :
    wpAny (model X.prog X.w) X.A (call (.ref fa) us) (EP X pins σ Q) X.xe s := by
  rw [List.append_nil] at h
  exact runG F gd rm (binds0 hb I (by rw [← rz.length]; exact F.wid _ _ _ _ h)) px I rz h
theorem call_G (F : FnG X.prog X.w X.K X.mg X.base CX k fa fd ps sp) (gd : X.A.guards = some []) (rm : Room k X.A) (hg : Gl X x) (hm : X.mg x = some (.ref fa)) (hk : PySem.W.keepIn X.K (.ref fa) = true) (hb : Binds X.K fd ps []) (px : Passes CX X E) (ha : PA X (e :: es) t)
    (hdb : (x == ("__debug__" : Str)) = false) (se : starEach (e :: es) X.env = (false, eval e X.env) :: starEach es X.env) (sp0 : (backTo pos (starEach es X.env)).any (·.1) = false) : PE X (.Call (.Name x p) (e :: es) [] pos) (tCall sp [] E t) where
  run := fun pins s σ H Q I h => wpAny_Call_Name_kw (ld_glob I hg hm (PySem.W.callWith_K (h₀ := X.base) I.ok.mod.kin hk (thn (ha.run pos pins s σ H _ I h) fun us s1 ⟨ws, H1, I1, rz, q⟩ => ⟨I1.kIn, runG0 F gd rm hb px I1 rz q⟩) se sp0) hdb)
theorem call_G0 (F : FnG X.prog X.w X.K X.mg X.base CX k fa fd ps sp) (gd : X.A.guards = some []) (rm : Room k X.A) (hg : Gl X x) (hm : X.mg x = some (.ref fa)) (hk : PySem.W.keepIn X.K (.ref fa) = true) (hb : Binds X.K fd ps []) (px : Passes CX X E)
    (hdb : (x == ("__debug__" : Str)) = false) : PE X (.Call (.Name x p) [] [] pos) (tCall sp [] E tNil) where
  run := fun pins s σ H Q I h => wpAny_Call_Name_kw (ld_glob I hg hm (PySem.W.callWith_K0 I.kIn hk (runG0 (us := []) F gd rm hb px I .nil h)) hdb)
theorem meth_G {pl : Sem Bool} (he : PE X o ta) (c : Cls X.K C) (hm : Meth X.K C m fa) (F : FnG X.prog X.w X.K X.mg X.base CX k fa fd ps sp) (gd : X.A.guards = some []) (rm : Room k X.A) (hb : Binds X.K fd ps []) (px : Passes CX X E) (ha : PA X (e :: es) t)
    (se : starEach (e :: es) X.env = (false, eval e X.env) :: starEach es X.env) (sp0 : (backTo pos (starEach es X.env)).any (·.1) = false)
    (ht : eval (.Call (.Attribute o m apos) (e :: es) [] pos) X.env = (do
      let ow ← eval o X.env
      standAt apos.atName
      let (g, fst) ← holding [ow] (getMethod ow m pl)
      callWith pos g fst (backTo pos (starEach (e :: es) X.env)) (backToKw pos (keywordEach [] X.env)))) :
    PE X (.Call (.Attribute o m apos) (e :: es) [] pos) (tMeth C m sp [] E ta t) where
  run := fun pins s σ H Q I h => by
    refine PySem.W.methodCall_KW (pl := pl) (thn (he.run pins s σ H _ I h) fun u s1 hh => ?_) ht
    obtain ⟨y, H1, I1, ry, a, dx, fs, rfl, ea, l, q⟩ := hh
    cases (show u = Value.ref a from ry)
    exact getmeth_ok I1 ea c hm l (PySem.W.callWith_K (first := [.ref a]) (h₀ := X.base) I.ok.mod.kin hm.kp (thn (ha.run pos pins s1 σ H1 _ I1 q) fun us s2 ⟨ws, H2, I2, rz, q2⟩ => ⟨I2.kIn, runG0 (us := .ref a :: us) (ws := .ref a :: ws) F gd rm hb px I2 (.cons rfl rz) q2⟩) se sp0)
theorem under_gd (gd : X.A.guards = some []) (us : List Value) (kw : List (Str × Value)) : (X.A.under (.builtin "type.__call__" ⟨.ref C :: us, kw⟩)).guards = some [] := by
  show pushGuards (Code.guards (.builtin "type.__call__" ⟨.ref C :: us, kw⟩)) X.A.guards = some []
  rw [gd]
  have : Code.guards (.builtin "type.__call__" ⟨.ref C :: us, kw⟩) = [] := by
    unfold Code.guards
    rw [if_neg]
    show ¬ (guardIds.contains "type.__call__" = true)
    decide +kernel
  rw [this]; rfl
theorem mk_G (M : Mk X.K C fa) (F : FnG X.prog X.w X.K X.mg X.base CX k fa fd ps sp) (gd : X.A.guards = some []) (rm : Room (k + 1) X.A) {us : List Value} {ws : List V} (hb : Binds X.K fd ps []) (px : Passes CX X E) (I : Inv X pins σ H s) (rz : Vals ws us)
    (h : ∀ y dy, H y = none → H dy = none → dy ≠ y → sp (.ref y :: (ws ++ [])) (upd (upd H dy (.own y)) y (.ins C dy [])) (fun v H2 => v = .non ∧ Q (.ref y) H2) E) :
    wpAny (model X.prog X.w) X.A (call (.ref C) us) (EP X pins σ Q) X.xe s := by
  have q0 := h (s.heap.objs.size + 1) s.heap.objs.size (I.hok.fresh (Nat.le_succ _)) (I.hok.fresh (Nat.le_refl _)) (Nat.ne_of_lt (Nat.lt_succ_self _))
  rw [List.append_nil] at q0
  have J := Inv.made (C := C) I
  have rz2 : Vals (V.ref (s.heap.objs.size + 1) :: ws) (Value.ref (s.heap.objs.size + 1) :: us) := .cons rfl rz
  have hl : (Value.ref (s.heap.objs.size + 1) :: us).length = ps.length := by rw [← rz2.length, F.wid _ _ _ _ q0]
  refine wpAny_call (make_map (f := fa) I.kIn M.makes M.init (beq_iff_eq.mp M.fn) (codeAny_mono (F.go _ X.stack _ _ ⟨Value.ref (s.heap.objs.size + 1) :: us, []⟩ (Value.ref (s.heap.objs.size + 1) :: us) _ _ E (under_gd gd us []) (rm.make C us []) (J.env0.make C us []) (binds0 hb J hl) rz2 q0) fun a t' ha => ?_))
  cases a with
  | error z => exact px pins σ _ _ z t' J ha
  | ok b =>
    cases b with
    | ret u =>
      obtain ⟨v, H', I3, rv, ev, q3⟩ := J.after ha
      subst ev
      exact ⟨rv, ⟨V.ref (s.heap.objs.size + 1), H', I3, rfl, q3⟩⟩
    | next => cases ha
    | brk => cases ha
    | cont => cases ha
theorem make_G (M : Mk X.K C fa) (F : FnG X.prog X.w X.K X.mg X.base CX k fa fd ps sp) (gd : X.A.guards = some []) (rm : Room (k + 1) X.A) (hg : Gl X x) (hm : X.mg x = some (.ref C)) (hb : Binds X.K fd ps []) (px : Passes CX X E) (ha : PA X (e :: es) t)
    (hdb : (x == ("__debug__" : Str)) = false) (se : starEach (e :: es) X.env = (false, eval e X.env) :: starEach es X.env) (sp0 : (backTo pos (starEach es X.env)).any (·.1) = false) : PE X (.Call (.Name x p) (e :: es) [] pos) (tMake C sp [] E t) where
  run := fun pins s σ H Q I h => wpAny_Call_Name_kw (ld_glob I hg hm (PySem.W.callWith_K (h₀ := X.base) I.ok.mod.kin M.kp (thn (ha.run pos pins s σ H _ I h) fun us s1 ⟨ws, H1, I1, rz, q⟩ => ⟨I1.kIn, mk_G M F gd rm hb px I1 rz q⟩) se sp0) hdb)
end
section
variable {P : Program} {w : World} {K : PySem.W.Frag} {mg : Str → Option Value} {base : Heap} {x qual : Str} {params : Arguments} {body : List Stmt} {scope : Scope} {fa : Addr} {fd : FuncData} {CX : CXT} {N ps : List Str} {k : Nat} {sp : Sp}
/-- a def, by its body -/
theorem okG (D : FunD K x qual params body scope [] [] fa fd) (S : FnScope N ps scope) (wid : ∀ ws H Q E, sp ws H Q E → ws.length = ps.length)
    (bd : ∀ (cd : Value) (B : Around) (o : List Env) (t : Shared) (H : Hp) (ws : List V) (Q : VK) (E : XK), B.guards = some [] → Room k (B.deeper (envOfC qual scope t.heap.objs.size fa cd)) → sp ws H Q E →
      ∃ r, PSs (cxOf CX P w K mg base N qual scope fa cd B o t H E) body r ∧ r { nx := fun _ H' => Q .non H', rt := Q } (start N ws) H) : FnG P w K mg base CX (k + 1) fa fd ps sp := by
  obtain ⟨oc, od, dV, kV, doc, pm, an, cd, ct, osl, rfl, lk, hcd, _, _⟩ := D.ex
  refine ⟨wid, fun B o t H as us ws Q E gd rm e0 hb rz h => ?_⟩
  have hl := wid _ _ _ _ h
  have kin : K.In t.heap := e0.mod.kin.keeps fun b z hz => (e0.bs b z hz).1
  have nl : t.heap.NoLimit := e0.mod.nolimit.keeps fun b z hz => (e0.bs b z hz).1
  have kinds : ∀ y ∈ ps.zip us, scope.names.lookup y.1 = some .local ∨ (scope.names.lookup y.1 = some .cell ∧ ((cellsFrom (t.heap.objs.size + 1) scope.names []).lookup y.1).isSome = true) := by
    rintro ⟨y, v⟩ hy
    rcases S.par y (List.of_mem_zip hy).1 with q | q
    · exact .inl q
    · exact .inr ⟨q, PySem.W.cellsFrom_some _ _ _ (.inl q)⟩
  refine codeAny_call_function rm.depth (kin _ _ lk) rfl S.co S.gen rfl (PySem.W.codeRec_of kin hcd) (hb _ _ _ _ (wpAny_newFunctionEnv_cells S.kind kinds fun env he t1 y => ?_))
  subst he
  refine ⟨nl.keeps y.toInCall.keep, codeAny_func ?_⟩
  obtain ⟨r, hr, q⟩ := bd cd B o t H ws Q E gd (rm.deeper _) h
  have I : Inv (cxOf CX P w K mg base N qual scope fa cd B o t H E) [] (start N ws) H t1 := inv_start S rm.hd e0 hl rz y
  refine wpAny_mono (hr.run [] t1 (start N ws) H _ I q) (fun fl t' ht => ?_) fun _ _ z => z
  have fin : ∀ {σ' : L2.St} {H' : Hp} {v : V} {u : Value}, Inv (cxOf CX P w K mg base N qual scope fa cd B o t H E) [] σ' H' t' → RelV v u → Q v H' → CE o P w H t Q u t' := fun J rv qq => ⟨_, _, J.os, J.bare, J.base, J.hok, rv, qq⟩
  cases fl with
  | ret u =>
    obtain ⟨v, σ', H', J, rv, qq⟩ := ht
    exact fin J rv qq
  | next =>
    obtain ⟨σ', H', J, qq⟩ := ht
    exact fin (v := V.non) (u := Value.none) J rfl qq
  | brk => obtain ⟨_, _, _, qq⟩ := ht; cases qq
  | cont => obtain ⟨_, _, _, qq⟩ := ht; cases qq
end
end Mp
/-! Mp, part I: calls of defs, classes, methods. -/
namespace Mp
open PySem PySem.Spec PyProof.Rows L2

def nst : Expr → Bool
  | .Starred _ _ => false
  | _ => true
theorem star_of {e : Expr} (h : nst e = true) (r : List Expr) (env : Env) : starEach (e :: r) env = (false, eval e env) :: starEach r env := by
  cases e <;> first | rfl | (simp [nst] at h)
theorem star_all : ∀ {es : List Expr} (h : ∀ e ∈ es, nst e = true) (env : Env) (pos : Pos), (backTo pos (starEach es env)).any (·.1) = false
  | [], _, _, _ => rfl
  | e :: es, h, env, pos => by
    rw [star_of (h e List.mem_cons_self)]
    show (false || (backTo pos (starEach es env)).any (·.1)) = false
    rw [Bool.false_or]
    exact star_all (fun e he => h e (List.mem_cons_of_mem _ he)) env pos
theorem star_all2 {es : List Expr} (h : ∀ e ∈ es, nst e = true) (env : Env) (pos : Pos) : ((backTo pos (starEach es env)).all fun x => !x.1) = true := by
  have := star_all h env pos
  rw [List.any_eq_false] at this
  rw [List.all_eq_true]
  intro x hx
  have := this x hx
  simpa using this
def NoSup (o : Expr) : Prop := ∀ p q, o ≠ .Call (.Name ("super" : Str) p) [] [] q
theorem few_of {es : List Expr} (h : ∀ e ∈ es, nst e = true) (hl : es.length ≤ 28) (env : Env) (pos : Pos) : methodCallForm (es.length + ([] : List Keyword).length) (backTo pos (starEach es env)) (backToKw pos (keywordEach [] env)) = true := by
  unfold methodCallForm
  rw [star_all2 h env pos]
  show (true && true && decide (es.length + 0 + 0 < 30)) = true
  simp
  omega
theorem meth_eval {o : Expr} {m : Str} {apos pos : Pos} {es : List Expr} {env : Env} (hb : NoSup o) (hline : (apos.endLine == pos.line) = true) (h : ∀ e ∈ es, nst e = true) (hl : es.length ≤ 28) :
    eval (.Call (.Attribute o m apos) es [] pos) env = (do
      let ov ← eval o env
      standAt apos.atName
      let (f, first) ← holding [ov] (getMethod ov m (do return (← importBound o env).getD true))
      callWith pos f first (backTo pos (starEach es env)) (backToKw pos (keywordEach [] env))) := by
  rw [arm_eval_Call, attr_base o m env hb]
  unfold methodCall calleeOf methodCallPos
  rw [few_of h hl env pos, hline]
  rfl
/-- a def's promise: what the evaluator says -/
def spC (K : Fr0) (cm : Str → Option Addr) (C : CallF) (f : Str) (n : Nat) : Sp := fun vs H Q _ => vs.length = n ∧ ∃ F L b ds d fr b',
  Good K cm ⟨[], b⟩ [] H F L ∧ RepL K cm F L ds vs ∧ C f ds b = some (d, fr, b') ∧ Fin K cm [] ⟨[], b⟩ H F L (.v d fr) ⟨[], b'⟩ Q
/-- an __init__'s -/
def spI (K : Fr0) (cm : Str → Option Addr) (C : CallF) (f : Str) (n : Nat) : Sp := fun vs H Q _ => vs.length = n ∧ ∃ x dx ws Cl H0, vs = .ref x :: ws ∧ cm f = some Cl ∧ H0 x = none ∧ H0 dx = none ∧ dx ≠ x ∧ H = upd (upd H0 dx (.own x)) x (.ins Cl dx []) ∧
  ∃ F L b ds d b', Good K cm ⟨[], b⟩ [] H0 F L ∧ RepL K cm F L ds ws ∧ C f ds b = some (d, false, b') ∧
    ∀ H' F' L', Good K cm ⟨[], b'⟩ [] H' F' L' → Ext [] ⟨[], b⟩ H0 F L ⟨[], b'⟩ H' F' L' → Rep K cm F' L' d (.ref x) → Q .non H'
/-- its parameters' names -/
def PmOf (K : Fr0) (fa : Addr) (ps : List Str) : Prop := ∃ o fd, K.lookup fa = some o ∧ o.data = .func fd ∧ fd.params.args.map (·.arg) = ps
theorem PmOf.det {K : Fr0} {fa : Addr} {ps qs : List Str} (h : PmOf K fa ps) (h' : PmOf K fa qs) : ps = qs := by
  obtain ⟨o, fd, e1, e2, rfl⟩ := h
  obtain ⟨o', fd', e3, e4, rfl⟩ := h'
  rw [e1] at e3; cases e3
  rw [e2] at e4; cases e4
  rfl
/-- calls by names bind -/
def KwB (K : Fr0) (fd : FuncData) (ps : List Str) : Prop := ∀ ks : List Str, ks.Perm ps → ∀ (s : Shared) (ws : List Value), ws.length = ks.length → BindsTo s fd ⟨[], ks.zip ws⟩ (ps.zip (reordV ps ks ws))
structure FnAt (P : Program) (w : World) (K : Fr0) (mg : Str → Option Value) (base : Heap) (k : Nat) (sp : Nat → Sp) (fa : Addr) (n : Nat) : Prop where
  ex : ∃ fd ps, ps.length = n ∧ FnG P w K mg base CX0 k fa fd ps (sp ps.length) ∧ Binds K fd ps []
/-- the defs that can be called -/
structure Cal (P : Program) (w : World) (K : Fr0) (mg : Str → Option Value) (base : Heap) (A : Around) (k : Nat) (cm : Str → Option Addr) (C : CallF) : Prop where
  room : Room (k + 1) A
  gd : A.guards = some []
  kw : ∀ f fa ps ds b r, mg f = some (.ref fa) → PmOf K fa ps → f.cps.toList.contains 46 = false → C f ds b = some r → ∃ fd, ds.length = ps.length ∧ FnG P w K mg base CX0 k fa fd ps (spC K cm C f ps.length) ∧ KwB K fd ps ∧ PySem.W.keepIn K (.ref fa) = true
  fn : ∀ f ds b r, cm f = none → f.cps.toList.contains 46 = false → C f ds b = some r → ∃ fa, FnAt P w K mg base k (spC K cm C f) fa ds.length ∧ mg f = some (.ref fa) ∧ PySem.W.keepIn K (.ref fa) = true
  cls : ∀ f Cl ds b r, cm f = some Cl → C f ds b = some r → ds ≠ [] ∧ r.2.1 = false ∧ ∃ fa, Mk K Cl fa ∧ FnAt P w K mg base k (spI K cm C f) fa (ds.length + 1) ∧ mg f = some (.ref Cl)
  mc : ∀ c m ds b r, C (c ++ ("." : Str) ++ m) ds b = some r → ∃ Cl, cm c = some Cl
  mt : ∀ c m Cl ds b r, cm c = some Cl → C (c ++ ("." : Str) ++ m) ds b = some r → ∃ fa, Meth K Cl m fa ∧ FnAt P w K mg base k (spC K cm C (c ++ ("." : Str) ++ m)) fa ds.length
section
variable {X : Cx} {cm : Str → Option Addr} {C : CallF} {kk : Nat} {s s1 s2 s' : St} {t u : Tmp} {a b c : Expr} {pos p : Pos} {es : List Expr} {ts : List Tmp} {ds : List D} {r : D × Bool × List (List Int)} {f : Str}
theorem call_pre {σ : L2.St} {H : Hp} {Q : VK} {vs : List V} {H0 F0 : Hp} {L0 : List Addr} {F : Hp} {L : List Addr} {K : Fr0} (g0 : Good K cm s σ H0 F0 L0) (k : Fin K cm σ s H0 F0 L0 (called ts s2 r).1 (called ts s2 r).2 Q)
    (g : Good K cm s1 σ H F L) (x : Ext σ s H0 F0 L0 s1 H F L) (q : TReps K cm s1 σ H F L ts vs) (n : News H0 ts vs) (ha : args ts s1 = some (ds, s2)) :
    Lk H fun H2 => ∃ F2 L2, Good K cm ⟨[], s2.b⟩ [] H2 F2 L2 ∧ RepL K cm F2 L2 ds vs ∧ Fin K cm [] ⟨[], s2.b⟩ H2 F2 L2 (.v r.1 r.2.1) ⟨[], r.2.2⟩ Q ∧ ∃ F3, Good K cm s2 σ H2 F3 L2 ∧ Ext σ s H0 F0 L0 s2 H2 F3 L2 :=
  (args_ok g0 g x q n ha).imp fun H2 ⟨F2, As, g2, x2, r2, a2, u2, z2, l2, o2, c2⟩ => ⟨plus F2 H2 As, L, g2.outer fun a ha => let ⟨i, e, _, h1, h2⟩ := a2 a ha; ⟨i, _, h1, h2⟩, r2, call_fin g2 g0 x2 a2 o2 c2 k, F2, g2, x2⟩
theorem re_call (cal : Cal X.prog X.w X.K X.mg X.base X.A kk cm C) (hes : PA X es (tAs X.K cm s ts s1)) (ha : args ts s1 = some (ds, s2)) (h : C f ds s2.b = some r) (hcm : cm f = none) (hdot : f.cps.toList.contains 46 = false) (hg : Gl X f) (hdb : (f == ("__debug__" : Str)) = false) (hst : ∀ e ∈ es, nst e = true) (hne : es ≠ []) :
    PE X (.Call (.Name f p) es [] pos) (tE X.K cm s (called ts s2 r).1 (called ts s2 r).2) := by
  obtain ⟨fa, ⟨fd, ps, hn, F, hb⟩, hm, hk⟩ := cal.fn f ds s2.b r hcm hdot h
  have hr : Room kk X.A := cal.room.mono (Nat.le_succ kk)
  have go : ∀ σ H Q, tE X.K cm s (called ts s2 r).1 (called ts s2 r).2 σ H Q → (fun σ H Q => tAs X.K cm s ts s1 σ H fun vs H1 => Lk H1 fun H2 => spC X.K cm C f ps.length (vs ++ []) H2 Q E0) σ H Q := fun σ H Q ⟨F, L, g, k⟩ => ⟨F, L, g, fun vs H1 F1 L1 g1 x1 q1 n1 =>
    (call_pre g k g1 x1 q1 n1 ha).imp fun H2 ⟨F2, L2, g2, r2, k2, _⟩ => ⟨by rw [List.append_nil, ← r2.len, hn], F2, L2, s2.b, ds, r.1, r.2.1, r.2.2, g2, by rw [List.append_nil]; exact r2, h, k2⟩⟩
  cases es with
  | nil => exact absurd rfl hne
  | cons e es =>
    exact (call_G (pos := pos) (p := p) F cal.gd hr hg hm hk hb pass0 hes.lk hdb (star_of (hst e List.mem_cons_self) es _) (star_all (fun e he => hst e (List.mem_cons_of_mem _ he)) _ _)).imp go
theorem re_call0 (cal : Cal X.prog X.w X.K X.mg X.base X.A kk cm C) (h : C f [] s.b = some r) (hcm : cm f = none) (hdot : f.cps.toList.contains 46 = false) (hg : Gl X f) (hdb : (f == ("__debug__" : Str)) = false) :
    PE X (.Call (.Name f p) [] [] pos) (tE X.K cm s (called [] s r).1 (called [] s r).2) := by
  obtain ⟨fa, ⟨fd, ps, hn, F, hb⟩, hm, hk⟩ := cal.fn f [] s.b r hcm hdot h
  have hr : Room kk X.A := cal.room.mono (Nat.le_succ kk)
  refine (call_G0 (pos := pos) (p := p) F cal.gd hr hg hm hk hb pass0 hdb).imp fun σ H Q ⟨F, L, g, k⟩ => ?_
  have k2 := call_fin (As := []) (ts := []) (r := r) g g Ext.refl (fun a ha => by simp at ha) (fun i hi => by simp [varsOf] at hi) (fun i hi => by simp [varsOf] at hi) k
  exact ⟨by rw [hn]; rfl, _, L, s.b, [], r.1, r.2.1, r.2.2, g.outer fun a ha => by simp at ha, .nil, h, k2⟩
theorem kw_none : ∀ {kws : List Keyword} {ns : List Str} (h : mapO (fun k : Keyword => k.arg) kws = some ns) (env : Env) (pos : Pos), (backToKw pos (keywordEach kws env)).map (·.1) = ns.map some
  | [], ns, h, _, _ => by cases h; rfl
  | k :: kws, ns, h, env, pos => by
    obtain ⟨nm, e, kp⟩ := k
    unfold mapO at h
    cases e1 : nm with
    | none => rw [e1] at h; cases h
    | some y =>
      rw [e1] at h
      cases e2 : mapO (fun k : Keyword => k.arg) kws with
      | none => rw [e2] at h; cases h
      | some zs =>
        rw [e2] at h
        cases h
        have := kw_none e2 env pos
        show some y :: (backToKw pos (keywordEach kws env)).map (·.1) = some y :: zs.map some
        rw [this]
theorem vals_look {ks : List Str} {zs : List V} {us : List Value} (r : Vals zs us) (p : Str) : ((ks.zip zs).lookup p = none ∧ (ks.zip us).lookup p = none) ∨ ∃ v u, (ks.zip zs).lookup p = some v ∧ (ks.zip us).lookup p = some u ∧ RelV v u := by
  induction r generalizing ks with
  | nil => left; simp
  | @cons v u zs us h r ih =>
    cases ks with
    | nil => left; simp
    | cons k ks =>
      simp only [List.zip_cons_cons, List.lookup_cons]
      cases e : p == k with
      | true => right; exact ⟨v, u, rfl, rfl, h⟩
      | false => exact ih
theorem vals_reord {ps ks : List Str} {zs : List V} {us : List Value} (r : Vals zs us) : Vals (reordV ps ks zs) (reordV ps ks us) := by
  unfold reordV
  induction ps with
  | nil => exact .nil
  | cons p ps ih =>
    rw [List.filterMap_cons, List.filterMap_cons]
    rcases vals_look (ks := ks) r p with ⟨e1, e2⟩ | ⟨v, u, e1, e2, h⟩
    · rw [e1, e2]; exact ih
    · rw [e1, e2]; exact .cons h ih
theorem repL_look {K : Fr0} {F : Hp} {L : List Addr} {ks : List Str} {zs : List D} {us : List V} (r : RepL K cm F L zs us) (p : Str) : ((ks.zip zs).lookup p = none ∧ (ks.zip us).lookup p = none) ∨ ∃ v u, (ks.zip zs).lookup p = some v ∧ (ks.zip us).lookup p = some u ∧ Rep K cm F L v u := by
  induction zs generalizing us ks with
  | nil => cases r; left; simp
  | cons z zs ih =>
    cases us with
    | nil => cases r
    | cons u us =>
      cases r with
      | cons h r =>
      cases ks with
      | nil => left; simp
      | cons k ks =>
        simp only [List.zip_cons_cons, List.lookup_cons]
        cases e : p == k with
        | true => right; exact ⟨z, u, rfl, rfl, h⟩
        | false => exact ih r
theorem repL_reord {K : Fr0} {F : Hp} {L : List Addr} {ps ks : List Str} {zs : List D} {us : List V} (r : RepL K cm F L zs us) : RepL K cm F L (reordV ps ks zs) (reordV ps ks us) := by
  unfold reordV
  induction ps with
  | nil => exact .nil
  | cons p ps ih =>
    rw [List.filterMap_cons, List.filterMap_cons]
    rcases repL_look (ks := ks) r p with ⟨e1, e2⟩ | ⟨v, u, e1, e2, h⟩
    · rw [e1, e2]; exact ih
    · rw [e1, e2]; exact .cons h ih
theorem lookup_in {k : Str} {α : Type} : ∀ {ks : List Str} {ws : List α}, ws.length = ks.length → k ∈ ks → ((ks.zip ws).lookup k).isSome = true
  | [], _, _, h => by cases h
  | a :: ks, [], hl, _ => by simp at hl
  | a :: ks, w :: ws, hl, h => by
    rw [List.zip_cons_cons, List.lookup_cons]
    cases e : k == a with
    | true => rfl
    | false =>
      exact lookup_in (by simpa using hl) ((List.mem_cons.mp h).resolve_left fun q => by rw [q] at e; simp at e)
theorem reord_len {α : Type} {ps ks : List Str} {ws : List α} (hp : ks.Perm ps) (hl : ws.length = ks.length) : (reordV ps ks ws).length = ps.length := by
  unfold reordV
  have : ∀ l : List Str, (∀ p ∈ l, p ∈ ks) → (l.filterMap fun p => (ks.zip ws).lookup p).length = l.length := by
    intro l
    induction l with
    | nil => intro _; rfl
    | cons p l ih =>
      intro h
      obtain ⟨v, hv⟩ := Option.isSome_iff_exists.mp (lookup_in (ws := ws) hl (h p List.mem_cons_self))
      rw [List.filterMap_cons, hv]
      show (l.filterMap _).length + 1 = _
      rw [ih fun q hq => h q (List.mem_cons_of_mem _ hq)]; rfl
  exact this ps fun p hpp => hp.mem_iff.mpr hpp
theorem treps_len {K : Fr0} {σ : L2.St} {H F : Hp} {L : List Addr} {vs : List V} (q : TReps K cm s σ H F L ts vs) : ts.length = vs.length := by
  unfold TReps at q
  induction q with
  | nil => rfl
  | cons _ _ ih => simp [ih]
/-- f(k = e, ..) -/
theorem re_callK (cal : Cal X.prog X.w X.K X.mg X.base X.A kk cm C) {kws : List Keyword} {ns ps : List Str} {fa : Addr} (hes : PK X kws (tAs X.K cm s ts s1)) (hnm : mapO (fun k : Keyword => k.arg) kws = some ns) (hp : ns.Perm ps) (hl : ts.length = ns.length) (ha : args ts s1 = some (ds, s2)) (h : C f (reordV ps ns ds) s2.b = some r) (hm : X.mg f = some (.ref fa)) (hpm : PmOf X.K fa ps) (hdot : f.cps.toList.contains 46 = false) (hg : Gl X f) (hdb : (f == ("__debug__" : Str)) = false) :
    PE X (.Call (.Name f p) [] kws pos) (tE X.K cm s (called ts s2 r).1 (called ts s2 r).2) := by
  obtain ⟨fd, hn, F, hb, hk⟩ := cal.kw f fa ps _ s2.b r hm hpm hdot h
  have hr : Room kk X.A := cal.room.mono (Nat.le_succ kk)
  refine ⟨fun pins s0 σ H Q I ⟨F0, L0, g, k⟩ => ?_⟩
  have hm1 := kw_none hnm X.env pos
  have hf : (backToKw pos (keywordEach kws X.env)).filterMap (·.1) = ns := by
    have := congrArg (List.filterMap id) hm1
    simpa [List.filterMap_map, Function.comp_def] using this
  have hsm : ∀ y ∈ backToKw pos (keywordEach kws X.env), y.1.isSome = true := by
    intro y hy
    have := List.mem_map_of_mem (f := (·.1)) hy
    rw [hm1, List.mem_map] at this
    obtain ⟨z, _, e⟩ := this
    rw [← e]; rfl
  refine wpAny_Call_Name_kw (ld_glob I hg hm ?_ hdb)
  refine PySem.W.callWith_KW0 (h₀ := X.base) I.ok.mod.kin hk ?_ (thn (hes.run pos pins s0 σ H (fun vs H1 => ∃ F1 L1, Good X.K cm s1 σ H1 F1 L1 ∧ Ext σ s H F0 L0 s1 H1 F1 L1 ∧ TReps X.K cm s1 σ H1 F1 L1 ts vs ∧ News H ts vs) I ⟨F0, L0, g, fun vs H1 F1 L1 g1 x1 q1 n1 => ⟨F1, L1, g1, x1, q1, n1⟩⟩) fun us s3 ⟨vs, H1, I1, rz, F1, L1, g1, x1, q1, n1⟩ => ⟨I1.kIn, ?_⟩) ?_
  · rw [List.all_eq_true]
    exact hsm
  · rw [hf]
    obtain ⟨H3, I3, F3, L3, g3, r3, k3, _⟩ := (call_pre g k g1 x1 q1 n1 ha).run X pins σ s3 I1
    have l1 : vs.length = ns.length := by rw [← treps_len q1, hl]
    exact runG (E := E0) F cal.gd hr (hb ns hp s3 us (by rw [← rz.length]; exact l1)) pass0 I3 (vals_reord rz) ⟨reord_len hp l1, F3, L3, s2.b, _, r.1, r.2.1, r.2.2, g3, repL_reord r3, h, k3⟩
  · rw [Bool.or_eq_false_iff]
    refine ⟨rfl, ?_⟩
    rw [List.any_eq_false]
    intro y hy
    have := hsm y hy
    cases e : y.1 with
    | none => rw [e] at this; cases this
    | some _ => simp
/-- C(..) -/
theorem re_make (cal : Cal X.prog X.w X.K X.mg X.base X.A kk cm C) {Cl : Addr} (hes : PA X es (tAs X.K cm s ts s1)) (ha : args ts s1 = some (ds, s2)) (h : C f ds s2.b = some r) (hcm : cm f = some Cl) (hg : Gl X f) (hdb : (f == ("__debug__" : Str)) = false) (hst : ∀ e ∈ es, nst e = true) (hne : es ≠ []) :
    PE X (.Call (.Name f p) es [] pos) (tE X.K cm s (called ts s2 r).1 (called ts s2 r).2) := by
  obtain ⟨_, hfr, fa, M, ⟨fd, ps, hn, F, hb⟩, hm⟩ := cal.cls f Cl ds s2.b r hcm h
  have go : ∀ σ H Q, tE X.K cm s (called ts s2 r).1 (called ts s2 r).2 σ H Q → (fun σ H Q => tAs X.K cm s ts s1 σ H fun vs H1 => Lk H1 fun H2 => ∀ x dx, H2 x = none → H2 dx = none → dx ≠ x →
      spI X.K cm C f ps.length (.ref x :: (vs ++ [])) (upd (upd H2 dx (.own x)) x (.ins Cl dx [])) (fun v H3 => v = .non ∧ Q (.ref x) H3) E0) σ H Q := fun σ H Q ⟨F, L, g, k⟩ => ⟨F, L, g, fun vs H1 F1 L1 g1 x1 q1 n1 =>
    (call_pre g k g1 x1 q1 n1 ha).imp fun H2 ⟨F2, L2, g2, r2, k2, _⟩ x dx hx hdx hne => by
      refine ⟨by rw [List.append_nil, List.length_cons, ← r2.len, hn], x, dx, vs, Cl, H2, by rw [List.append_nil], hcm, hx, hdx, hne, rfl, F2, L2, s2.b, ds, r.1, r.2.2, g2, r2, ?_, fun H' F' L' g' x' rp => ⟨rfl, ?_⟩⟩
      · rw [h, ← hfr]
      · rw [hfr] at k2
        exact k2 (.ref x) H' F' L' g' x' rp fun _ _ e => by cases e⟩
  cases es with
  | nil => exact absurd rfl hne
  | cons e es =>
    exact (make_G (pos := pos) (p := p) M F cal.gd cal.room hg hm hb pass0 hes.lk hdb (star_of (hst e List.mem_cons_self) es _) (star_all (fun e he => hst e (List.mem_cons_of_mem _ he)) _ _)).imp go
theorem news_cons {σ : L2.St} {K : Fr0} {H H1 F1 H2 F2 : Hp} {L1 L2 : List Addr} {v : V} {ws : List V} {F : Hp} {L : List Addr} (x1 : Ext σ s H F L s' H1 F1 L1) (q1 : TRep K cm s' σ H1 F1 L1 t v) (n1 : ∀ d a, t = .v d true → v = .ref a → H a = none) (n2 : News H1 ts ws) : News H (t :: ts) (v :: ws) := by
  have tl : ∀ a ∈ frA ts ws, H a = none := fun a h => x1.gone (n2.new a h)
  cases t with
  | x i => exact ⟨fun a h => tl a (by simpa [frA] using h), by simpa [frA] using n2.nd⟩
  | v d b => cases b with
    | false => exact ⟨fun a h => tl a (by simpa [frA] using h), by simpa [frA] using n2.nd⟩
    | true =>
      obtain ⟨a, rfl, _, _, h4, _⟩ := q1
      obtain ⟨o, e⟩ := h4.some
      refine ⟨fun b h => ?_, ?_⟩
      · simp only [frA, List.mem_cons] at h
        rcases h with rfl | h
        · exact n1 d _ rfl rfl
        · exact tl b h
      · simp only [frA, List.nodup_cons]
        exact ⟨fun z => by (have := n2.new a z; rw [e] at this; cases this), n2.nd⟩
/-- o.m(..) of an instance -/
theorem re_meth (cal : Cal X.prog X.w X.K X.mg X.base X.A kk cm C) (ck : ClsOk X.K cm) {c m : Str} {fs : List (Str × D)} {o : Expr} {apos : Pos} (ho : PE X o (tE X.K cm s t s')) (hx : t.d s' = some (.ins c fs)) (hl : fs.lookup m = none) (hes : PA X es (tAs X.K cm s' ts s1)) (ha : args (t :: ts) s1 = some (ds, s2))
    (h : C (c ++ ("." : Str) ++ m) ds s2.b = some r) (hst : ∀ e ∈ es, nst e = true) (hne : es ≠ []) (hsup : NoSup o) (hline : (apos.endLine == pos.line) = true) (hlen : es.length ≤ 28) :
    PE X (.Call (.Attribute o m apos) es [] pos) (tE X.K cm s (called (t :: ts) s2 r).1 (called (t :: ts) s2 r).2) := by
  obtain ⟨Cl, hc⟩ := cal.mc c m ds s2.b r h
  obtain ⟨fa, M, ⟨fd, ps, hn, F, hb⟩⟩ := cal.mt c m Cl ds s2.b r hc h
  have hr : Room kk X.A := cal.room.mono (Nat.le_succ kk)
  have go : ∀ σ H Q, tE X.K cm s (called (t :: ts) s2 r).1 (called (t :: ts) s2 r).2 σ H Q → tMeth Cl m (spC X.K cm C (c ++ ("." : Str) ++ m) ps.length) [] E0 (tE X.K cm s t s') (fun σ H Q => tAs X.K cm s' ts s1 σ H fun vs H1 => Lk H1 (Q vs)) σ H Q := fun σ H Q ⟨F, L, g, k⟩ => ⟨F, L, g, fun v H1 F1 L1 g1 x1 q1 n1 => by
    obtain ⟨a, Cl', dx, vs, rfl, hc', h1, r1⟩ := (show Vw X.K cm H1 F1 L1 (.ins c fs) v from q1.vw g1 hx)
    rw [hc] at hc'; cases hc'
    refine ⟨a, dx, vs, rfl, h1, r1.none hl, F1, L1, g1, fun ws H2 F2 L2 g2 x2 q2 n2 => ?_⟩
    refine (call_pre (ts := t :: ts) g k g2 (x1.then g1 x2) (.cons (q1.ext g1 x2) q2) (news_cons (H2 := H2) (F2 := F2) (L2 := L2) x1 q1 n1 n2) ha).imp fun H3 ⟨F3, L3, g3, r3, k3, _⟩ => ?_
    exact ⟨by rw [List.append_nil, ← r3.len, hn], F3, L3, s2.b, ds, r.1, r.2.1, r.2.2, g3, by rw [List.append_nil]; exact r3, h, k3⟩⟩
  cases es with
  | nil => exact absurd rfl hne
  | cons e es =>
    exact (meth_G (pos := pos) (apos := apos) (E := E0) ho (ck.cls c Cl hc) M F cal.gd hr hb pass0 hes.lk (star_of (hst e List.mem_cons_self) es _) (star_all (fun e he => hst e (List.mem_cons_of_mem _ he)) _ _) (meth_eval hsup hline hst hlen)).imp go
theorem re_meth0 (cal : Cal X.prog X.w X.K X.mg X.base X.A kk cm C) (ck : ClsOk X.K cm) {c m : Str} {fs : List (Str × D)} {o : Expr} {apos : Pos} (ho : PE X o (tE X.K cm s t s')) (hx : t.d s' = some (.ins c fs)) (hl : fs.lookup m = none) (ha : args [t] s' = some (ds, s2))
    (h : C (c ++ ("." : Str) ++ m) ds s2.b = some r) (hsup : NoSup o) (hline : (apos.endLine == pos.line) = true) :
    PE X (.Call (.Attribute o m apos) [] [] pos) (tE X.K cm s (called [t] s2 r).1 (called [t] s2 r).2) := by
  obtain ⟨Cl, hc⟩ := cal.mc c m ds s2.b r h
  obtain ⟨fa, M, ⟨fd, ps, hn, F, hb⟩⟩ := cal.mt c m Cl ds s2.b r hc h
  have hr : Room kk X.A := cal.room.mono (Nat.le_succ kk)
  refine ⟨fun pins s0 σ H Q I h0 => ?_⟩
  obtain ⟨F0, L0, g, k⟩ := h0
  refine PySem.W.methodCall_KW (thn (ho.run pins s0 σ H (fun v H1 => ∃ F1 L1, Good X.K cm s' σ H1 F1 L1 ∧ Ext σ s H F0 L0 s' H1 F1 L1 ∧ TRep X.K cm s' σ H1 F1 L1 t v ∧ (∀ d a, t = .v d true → v = .ref a → H a = none)) I ⟨F0, L0, g, fun v H1 F1 L1 g1 x1 q1 n1 => ⟨F1, L1, g1, x1, q1, n1⟩⟩) fun u s3 ⟨x, H1, I1, rx, F1, L1, g1, x1, q1, n1⟩ => ?_) (meth_eval hsup hline (fun e he => by simp at he) (by simp))
  obtain ⟨a, Cl', dx, vs, rfl, hc', h1, r1⟩ := (show Vw X.K cm H1 F1 L1 (.ins c fs) x from q1.vw g1 hx)
  rw [hc] at hc'; cases hc'
  obtain rfl : u = Value.ref a := rx
  refine getmeth_ok I1 h1 (ck.cls c Cl hc) M (r1.none hl) ?_
  obtain ⟨H3, I3, F3, L3, g3, r3, k3, _⟩ := (call_pre (ts := [t]) (vs := [.ref a]) g k g1 x1 (.cons q1 .nil) (news_cons (ts := []) (ws := []) (H2 := H1) (F2 := F1) (L2 := L1) x1 q1 n1 ⟨fun a h => by simp [frA] at h, List.nodup_nil⟩) ha).run X pins σ s3 I1
  refine PySem.W.callWith_K0 (first := [.ref a]) I3.kIn M.kp (runG0 (us := [.ref a]) (ws := [.ref a]) (E := E0) F cal.gd hr hb pass0 I3 (.cons rfl .nil) ?_)
  exact ⟨by rw [List.append_nil, ← r3.len, hn], F3, L3, s2.b, ds, r.1, r.2.1, r.2.2, g3, by rw [List.append_nil]; exact r3, h, k3⟩
end
end Mp
/-! Mp, part J: what is walked. -/
namespace Mp
open PySem PySem.Spec PyProof.Rows L2 RZ

/-- one tuple more, or none: a new one, or one that was there -/
def Grow (H F H' F' : Hp) : Prop := (H' = H ∧ F' = F) ∨ (∃ T vs, H T = none ∧ H' = upd H T (.tup vs) ∧ F' = upd F T (.tup vs)) ∨ ∃ T vs, H T = some (.tup vs) ∧ H' = H ∧ F' = upd F T (.tup vs)
section
variable {K : Fr0} {cm : Str → Option Addr} {σ : L2.St} {s s1 s2 s' : St} {H F H1 F1 H' F' : Hp} {L L1 : List Addr} {t : Tmp} {d : D}
theorem Grow.sub (g : Grow H F H' F') (hs : Sub F H) : Sub F F' := by
  rcases g with ⟨rfl, rfl⟩ | ⟨T, vs, h1, rfl, rfl⟩ | ⟨T, vs, h1, rfl, rfl⟩
  · exact Sub.refl _
  · refine sub_upd ?_
    cases e : F T with
    | none => rfl
    | some o => rw [hs T o e] at h1; cases h1
  · intro a o e
    by_cases z : a = T
    · subst z
      rw [hs a o e] at h1; cases h1
      exact upd_same
    · rw [upd_ne z]; exact e
theorem Grow.good (g : Grow H F H' F') (gd : Good K cm s σ H F L) : Good K cm s σ H' F' L := by
  have hsub := g.sub gd.sub
  rcases g with ⟨rfl, rfl⟩ | ⟨T, vs, h1, rfl, rfl⟩ | ⟨T, vs, h1, rfl, rfl⟩
  · exact gd
  · exact gd.laidF h1
  · refine ⟨fun a o e => ?_, gd.len, fun i d e => ?_, fun i d e => ?_, gd.apart, fun k is e => ?_, gd.lenB, gd.nd⟩
    · by_cases z : a = T
      · subst z; rw [upd_same] at e; cases e; exact h1
      · rw [upd_ne z] at e; exact gd.sub a o e
    · obtain ⟨v, h2, h3⟩ := gd.pure i d e
      exact ⟨v, h2, Rep.mono hsub (Pfx.refl L) h3⟩
    · obtain ⟨a, h2, h3, h4, h5⟩ := gd.own i d e
      have ne : a ≠ T := fun z => top_notT h5 (z ▸ h1)
      exact ⟨a, h2, by rw [upd_ne ne]; exact h3, h4, h5.mono hsub (Pfx.refl L) rfl⟩
    · obtain ⟨a, h2, h3, h4⟩ := gd.box k is e
      have ne : a ≠ T := fun z => by rw [z, h1] at h4; cases h4
      exact ⟨a, h2, by rw [upd_ne ne]; exact h3, h4⟩
theorem Grow.ext (g : Grow H F H' F') (gd : Good K cm s σ H F L) : Ext σ s H F L s H' F' L := by
  have hsub := g.sub gd.sub
  rcases g with ⟨rfl, rfl⟩ | ⟨T, vs, h1, rfl, rfl⟩ | ⟨T, vs, h1, rfl, rfl⟩
  · exact Ext.refl
  · exact Ext.laidF (gd.fnone h1) h1
  · refine ⟨hsub, fun a h => ?_, Pfx.refl L, fun _ h => .inl h, fun _ _ h _ _ => h, fun _ h => h, fun _ d h => ⟨d, h⟩, fun _ p h => ⟨p, h⟩, fun _ _ h => h, fun _ h => h⟩
    by_cases z : a = T
    · subst z; exact .inr (.inr (.inr ⟨vs, h1⟩))
    · rw [upd_ne z] at h; exact .inl h
end
/-- J walks the items xs -/
structure Yl (K : Fr0) (cm : Str → Option Addr) (J : L2.It) (xs : List D) (F1 : Hp) (L1 : List Addr) : Prop where
  go : ∀ i H F, i < xs.length → Sub F1 F → Sub F H → J.go i H
  stop : ∀ H F, Sub F1 F → Sub F H → J.stop xs.length H
  yld : ∀ i H F L x H' d, xs[i]? = some d → Sub F1 F → Sub F H → Pfx L1 L → J.yld i H x H' → ∃ F', Grow H F H' F' ∧ Rep K cm F' L d x
def SrcOk (K : Fr0) (cm : Str → Option Addr) (J : L2.It) (src : Src) (σ : L2.St) (F1 : Hp) (L1 : List Addr) : Prop := match src with
  | .fix xs => Yl K cm J xs F1 L1
  | .var i => ∃ a, σ[i]? = some (some (.ref a)) ∧ J = Itl K a
def tI (K : Fr0) (cm : Str → Option Addr) (s : St) (src : Src) (s' : St) : TI := fun σ H R => ∃ F L, Good K cm s σ H F L ∧ ∀ J H1 F1 L1, Good K cm s' σ H1 F1 L1 → Ext σ s H F L s' H1 F1 L1 → SrcOk K cm J src σ F1 L1 → R J H1
theorem _root_.L2.PI.imp {X : Cx} {tg e : Expr} {t t' : TI} (h : PI X tg e t) (k : ∀ σ H R, t' σ H R → t σ H R) : PI X tg e t' := ⟨fun pins s σ H R I q => h.run pins s σ H R I (k σ H R q)⟩
section
variable {X : Cx} {K : Fr0} {cm : Str → Option Addr} {σ : L2.St} {s s1 s2 s3 s' : St} {H F H1 F1 H' F' : Hp} {L L1 : List Addr} {t u : Tmp} {d : D} {e a b : Expr} {tg : Expr}
theorem yl_list {a : Addr} {vs : List V} {xs : List D} (h : F1 a = some (.lst vs)) (r : RepL K cm F1 L1 xs vs) : Yl K cm (Itl K a) xs F1 L1 where
  go := fun i H F hi h1 h2 => by
    rw [r.len] at hi
    exact ⟨vs, vs[i], .of (h2 _ _ (h1 _ _ h)), by simp [hi]⟩
  stop := fun H F h1 h2 => ⟨vs, .of (h2 _ _ (h1 _ _ h)), by rw [r.len]; exact Nat.le_refl _⟩
  yld := fun i H F L x H' d hd h1 h2 h3 y => by
    obtain ⟨rfl, y2⟩ := y
    obtain ⟨v, e1, e2⟩ := r.get hd
    have := y2 vs (.of (h2 _ _ (h1 _ _ h)))
    rw [e1] at this; cases this
    exact ⟨F, .inl ⟨rfl, rfl⟩, Rep.mono h1 h3 e2⟩
theorem yl_tup {a : Addr} {vs : List V} {xs : List D} (h : F1 a = some (.tup vs)) (r : RepL K cm F1 L1 xs vs) : Yl K cm (Itt K a) xs F1 L1 where
  go := fun i H F hi h1 h2 => by
    rw [r.len] at hi
    exact ⟨vs, vs[i], .of (h2 _ _ (h1 _ _ h)), by simp [hi]⟩
  stop := fun H F h1 h2 => ⟨vs, .of (h2 _ _ (h1 _ _ h)), by rw [r.len]; exact Nat.le_refl _⟩
  yld := fun i H F L x H' d hd h1 h2 h3 y => by
    obtain ⟨rfl, y2⟩ := y
    obtain ⟨v, e1, e2⟩ := r.get hd
    have := y2 vs (.of (h2 _ _ (h1 _ _ h)))
    rw [e1] at this; cases this
    exact ⟨F, .inl ⟨rfl, rfl⟩, Rep.mono h1 h3 e2⟩
theorem rngD_len : ∀ (n : Nat) (lo : Int), (rngD lo n).length = n
  | 0, _ => rfl
  | n + 1, lo => by simp [rngD, rngD_len n]
theorem rngD_get : ∀ (n : Nat) (lo : Int) (i : Nat), i < n → (rngD lo n)[i]? = some (.int (lo + i))
  | 0, _, _, h => by omega
  | n + 1, lo, 0, _ => by simp [rngD]
  | n + 1, lo, i + 1, h => by
    simp only [rngD, List.getElem?_cons_succ]
    rw [rngD_get n (lo + 1) i (by omega)]
    congr 2
    push_cast
    omega
theorem yl_rng {lo : Int} {n : Nat} : Yl K cm (Itr lo n) (rngD lo n) F1 L1 where
  go := fun i H F hi _ _ => by rw [rngD_len] at hi; exact hi
  stop := fun H F _ _ => by rw [rngD_len]; exact Nat.le_refl _
  yld := fun i H F L x H' d hd _ _ _ y => by
    obtain ⟨rfl, rfl⟩ := y
    have hi : i < n := by
      rcases Nat.lt_or_ge i n with h | h
      · exact h
      · rw [List.getElem?_eq_none (by rw [rngD_len]; exact h)] at hd; cases hd
    rw [rngD_get n lo i hi] at hd
    cases hd
    exact ⟨F, .inl ⟨rfl, rfl⟩, .int _⟩
theorem zipD_get : ∀ {xs ys : List D} {i : Nat} {d : D}, (zipD xs ys)[i]? = some d → ∃ x y, xs[i]? = some x ∧ ys[i]? = some y ∧ d = .tup [x, y]
  | [], ys, i, d, h => by simp [zipD] at h
  | _ :: _, [], i, d, h => by simp [zipD] at h
  | x :: xs, y :: ys, 0, d, h => by simp [zipD] at h; exact ⟨x, y, rfl, rfl, h.symm⟩
  | x :: xs, y :: ys, i + 1, d, h => by
    simp only [zipD, List.getElem?_cons_succ] at h ⊢
    exact zipD_get h
theorem zipD_len : ∀ (xs ys : List D), (zipD xs ys).length = min xs.length ys.length
  | [], ys => by simp [zipD]
  | _ :: _, [] => by simp [zipD]
  | x :: xs, y :: ys => by simp [zipD, zipD_len xs ys]
theorem rep_pair {T : Addr} {F' : Hp} {x y : V} {d e : D} (h : F' T = some (.tup [x, y])) (r1 : Rep K cm F' L d x) (r2 : Rep K cm F' L e y) : Rep K cm F' L (.tup [d, e]) (.ref T) := .tup h (.cons r1 (.cons r2 .nil))
theorem yl_zip {a b : Addr} {vs ws : List V} {xs ys : List D} (ha : F1 a = some (.lst vs)) (hb : F1 b = some (.lst ws)) (ra : RepL K cm F1 L1 xs vs) (rb : RepL K cm F1 L1 ys ws) : Yl K cm (Itz K a b) (zipD xs ys) F1 L1 where
  go := fun i H F hi h1 h2 => by
    rw [zipD_len, ra.len, rb.len] at hi
    exact ⟨vs, ws, vs[i], ws[i], .of (h2 _ _ (h1 _ _ ha)), .of (h2 _ _ (h1 _ _ hb)), by simp [show i < vs.length by omega], by simp [show i < ws.length by omega]⟩
  stop := fun H F h1 h2 => ⟨vs, ws, .of (h2 _ _ (h1 _ _ ha)), .of (h2 _ _ (h1 _ _ hb)), by rw [zipD_len, ra.len, rb.len]; omega⟩
  yld := fun i H F L x H' d hd h1 h2 h3 y => by
    obtain ⟨T, x1, y1, rfl, hT, rfl, q1, q2⟩ := y
    obtain ⟨dx, dy, e1, e2, rfl⟩ := zipD_get hd
    obtain ⟨v, e3, r3⟩ := ra.get e1
    obtain ⟨w, e4, r4⟩ := rb.get e2
    have z1 := q1 vs (.of (h2 _ _ (h1 _ _ ha)))
    have z2 := q2 ws (.of (h2 _ _ (h1 _ _ hb)))
    rw [e3] at z1; cases z1
    rw [e4] at z2; cases z2
    have hfT : F T = none := by
      cases q : F T with
      | none => rfl
      | some o => rw [h2 T o q] at hT; cases hT
    exact ⟨upd F T (.tup [_, _]), .inr (.inl ⟨T, _, hT, rfl, rfl⟩), rep_pair upd_same (Rep.mono (h1.trans (sub_upd hfT)) h3 r3) (Rep.mono (h1.trans (sub_upd hfT)) h3 r4)⟩
theorem yl_zipT {a b : Addr} {vs ws : List V} {xs ys : List D} (ha : F1 a = some (.tup vs)) (hb : F1 b = some (.tup ws)) (ra : RepL K cm F1 L1 xs vs) (rb : RepL K cm F1 L1 ys ws) : Yl K cm (ItzT K a b) (zipD xs ys) F1 L1 where
  go := fun i H F hi h1 h2 => by
    rw [zipD_len, ra.len, rb.len] at hi
    exact ⟨vs, ws, vs[i], ws[i], .of (h2 _ _ (h1 _ _ ha)), .of (h2 _ _ (h1 _ _ hb)), by simp [show i < vs.length by omega], by simp [show i < ws.length by omega]⟩
  stop := fun H F h1 h2 => ⟨vs, ws, .of (h2 _ _ (h1 _ _ ha)), .of (h2 _ _ (h1 _ _ hb)), by rw [zipD_len, ra.len, rb.len]; omega⟩
  yld := fun i H F L x H' d hd h1 h2 h3 y => by
    obtain ⟨T, x1, y1, rfl, hT, rfl, q1, q2⟩ := y
    obtain ⟨dx, dy, e1, e2, rfl⟩ := zipD_get hd
    obtain ⟨v, e3, r3⟩ := ra.get e1
    obtain ⟨w, e4, r4⟩ := rb.get e2
    have z1 := q1 vs (.of (h2 _ _ (h1 _ _ ha)))
    have z2 := q2 ws (.of (h2 _ _ (h1 _ _ hb)))
    rw [e3] at z1; cases z1
    rw [e4] at z2; cases z2
    have hfT : F T = none := by
      cases q : F T with
      | none => rfl
      | some o => rw [h2 T o q] at hT; cases hT
    exact ⟨upd F T (.tup [_, _]), .inr (.inl ⟨T, _, hT, rfl, rfl⟩), rep_pair upd_same (Rep.mono (h1.trans (sub_upd hfT)) h3 r3) (Rep.mono (h1.trans (sub_upd hfT)) h3 r4)⟩
theorem enumD_get : ∀ {xs : List D} {k : Int} {i : Nat} {d : D}, (enumD k xs)[i]? = some d → ∃ x, xs[i]? = some x ∧ d = .tup [.int (k + i), x]
  | [], k, i, d, h => by simp [enumD] at h
  | x :: xs, k, 0, d, h => by simp [enumD] at h; exact ⟨x, rfl, by simpa using h.symm⟩
  | x :: xs, k, i + 1, d, h => by
    simp only [enumD, List.getElem?_cons_succ] at h ⊢
    obtain ⟨y, e1, e2⟩ := enumD_get h
    refine ⟨y, e1, ?_⟩
    rw [e2]
    congr 3
    push_cast
    omega
theorem enumD_len : ∀ (xs : List D) (k : Int), (enumD k xs).length = xs.length
  | [], _ => rfl
  | x :: xs, k => by simp [enumD, enumD_len xs]
theorem yl_enum {a : Addr} {vs : List V} {xs : List D} (ha : F1 a = some (.lst vs)) (ra : RepL K cm F1 L1 xs vs) : Yl K cm (Ite K a) (enumD 0 xs) F1 L1 where
  go := fun i H F hi h1 h2 => by
    rw [enumD_len, ra.len] at hi
    exact ⟨vs, vs[i], .of (h2 _ _ (h1 _ _ ha)), by simp [hi]⟩
  stop := fun H F h1 h2 => ⟨vs, .of (h2 _ _ (h1 _ _ ha)), by rw [enumD_len, ra.len]; exact Nat.le_refl _⟩
  yld := fun i H F L x H' d hd h1 h2 h3 y => by
    obtain ⟨T, x1, rfl, hT, rfl, q1⟩ := y
    obtain ⟨dx, e1, rfl⟩ := enumD_get hd
    obtain ⟨v, e3, r3⟩ := ra.get e1
    have z1 := q1 vs (.of (h2 _ _ (h1 _ _ ha)))
    rw [e3] at z1; cases z1
    have hfT : F T = none := by
      cases q : F T with
      | none => rfl
      | some o => rw [h2 T o q] at hT; cases hT
    refine ⟨upd F T (.tup [.int (i : Nat), _]), .inr (.inl ⟨T, _, hT, rfl, rfl⟩), rep_pair upd_same ?_ (Rep.mono (h1.trans (sub_upd hfT)) h3 r3)⟩
    rw [Int.zero_add]
    exact .int _
theorem repK_get {ks : List (Key × D)} {vs : List (Key × V)} (r : RepK K cm F1 L1 ks vs) : ks.length = vs.length ∧ ∀ (i : Nat) p, ks[i]? = some p → ∃ v, vs[i]? = some (p.1, v) ∧ Rep K cm F1 L1 p.2 v := by
  induction ks generalizing vs with
  | nil => cases r; exact ⟨rfl, fun i p h => by simp at h⟩
  | cons k0 ks ih =>
    cases r with
    | @cons k d ds v vs r t =>
      obtain ⟨h1, h2⟩ := ih t
      refine ⟨by simp [h1], fun i p h => ?_⟩
      cases i with
      | zero => simp at h; subst h; exact ⟨_, rfl, r⟩
      | succ i => exact h2 i p (by simpa using h)
theorem repT_get {ks : List (List Key × D)} {vs : List (List Key × V)} (r : RepT K cm F1 L1 ks vs) : ks.length = vs.length ∧ ∀ (i : Nat) p, ks[i]? = some p → ∃ v, vs[i]? = some (p.1, v) ∧ Rep K cm F1 L1 p.2 v := by
  induction ks generalizing vs with
  | nil => cases r; exact ⟨rfl, fun i p h => by simp at h⟩
  | cons k0 ks ih =>
    cases r with
    | @cons k d ds v vs r t =>
      obtain ⟨h1, h2⟩ := ih t
      refine ⟨by simp [h1], fun i p h => ?_⟩
      cases i with
      | zero => simp at h; subst h; exact ⟨_, rfl, r⟩
      | succ i => exact h2 i p (by simpa using h)
theorem rep_kD (k : Key) : Rep K cm F L (kD k) (kV k) := by
  cases k with
  | inl i => exact .int i
  | inr x => exact .str x
theorem rep_kDs : ∀ k : List Key, RepL K cm F L (k.map kD) (k.map kV)
  | [] => .nil
  | k :: ks => .cons (rep_kD k) (rep_kDs ks)
theorem yl_keys {a : Addr} {o : Obj} {ks : List (Key × D)} {vs : List (Key × V)} (ha : F1 a = some (.frz o (.dK vs))) (r : RepK K cm F1 L1 ks vs) : Yl K cm (Itk a o vs) (ks.map fun kv => kD kv.1) F1 L1 where
  go := fun i H F hi h1 h2 => by
    rw [List.length_map, (repK_get r).1] at hi
    exact ⟨h2 _ _ (h1 _ _ ha), hi⟩
  stop := fun H F h1 h2 => ⟨h2 _ _ (h1 _ _ ha), by rw [List.length_map, (repK_get r).1]; exact Nat.le_refl _⟩
  yld := fun i H F L x H' d hd h1 h2 h3 y => by
    obtain ⟨rfl, k, v, e1, rfl⟩ := y
    rw [List.getElem?_map] at hd
    cases e2 : ks[i]? with
    | none => rw [e2] at hd; cases hd
    | some p =>
      rw [e2] at hd
      cases hd
      obtain ⟨w, e3, _⟩ := (repK_get r).2 i p e2
      rw [e1] at e3; cases e3
      exact ⟨F, .inl ⟨rfl, rfl⟩, rep_kD _⟩
theorem yl_keysT {a : Addr} {o : Obj} {ks : List (List Key × D)} {vs : List (List Key × V)} (ha : F1 a = some (.frz o (.dT vs))) (r : RepT K cm F1 L1 ks vs) : Yl K cm (Itkt a o vs) (ks.map fun kv => .tup (kv.1.map kD)) F1 L1 where
  go := fun i H F hi h1 h2 => by
    rw [List.length_map, (repT_get r).1] at hi
    exact ⟨h2 _ _ (h1 _ _ ha), hi⟩
  stop := fun H F h1 h2 => ⟨h2 _ _ (h1 _ _ ha), by rw [List.length_map, (repT_get r).1]; exact Nat.le_refl _⟩
  yld := fun i H F L x H' d hd h1 h2 h3 y => by
    obtain ⟨rfl, k, v, q, e1, rfl, hq⟩ := y
    rw [List.getElem?_map] at hd
    cases e2 : ks[i]? with
    | none => rw [e2] at hd; cases hd
    | some p =>
      rw [e2] at hd
      cases hd
      obtain ⟨w, e3, _⟩ := (repT_get r).2 i p e2
      rw [e1] at e3; cases e3
      exact ⟨upd F q (.tup (p.1.map kV)), .inr (.inr ⟨q, _, hq, rfl, rfl⟩), .tup upd_same (rep_kDs _)⟩
theorem yl_vals {a : Addr} {o : Obj} {ks : List (Key × D)} {vs : List (Key × V)} (ha : F1 a = some (.frz o (.dK vs))) (r : RepK K cm F1 L1 ks vs) : Yl K cm (Itd a o vs) (ks.map (·.2)) F1 L1 where
  go := fun i H F hi h1 h2 => by
    rw [List.length_map, (repK_get r).1] at hi
    exact ⟨h2 _ _ (h1 _ _ ha), hi⟩
  stop := fun H F h1 h2 => ⟨h2 _ _ (h1 _ _ ha), by rw [List.length_map, (repK_get r).1]; exact Nat.le_refl _⟩
  yld := fun i H F L x H' d hd h1 h2 h3 y => by
    obtain ⟨rfl, k, e1⟩ := y
    rw [List.getElem?_map] at hd
    cases e2 : ks[i]? with
    | none => rw [e2] at hd; cases hd
    | some p =>
      rw [e2] at hd
      cases hd
      obtain ⟨w, e3, r3⟩ := (repK_get r).2 i p e2
      rw [e1] at e3; cases e3
      exact ⟨F, .inl ⟨rfl, rfl⟩, Rep.mono h1 h3 r3⟩
theorem yl_items {a : Addr} {o : Obj} {ks : List (Key × D)} {vs : List (Key × V)} (ha : F1 a = some (.frz o (.dK vs))) (r : RepK K cm F1 L1 ks vs) : Yl K cm (Iti a o vs) (ks.map fun kv => .tup [kD kv.1, kv.2]) F1 L1 where
  go := fun i H F hi h1 h2 => by
    rw [List.length_map, (repK_get r).1] at hi
    exact ⟨h2 _ _ (h1 _ _ ha), hi⟩
  stop := fun H F h1 h2 => ⟨h2 _ _ (h1 _ _ ha), by rw [List.length_map, (repK_get r).1]; exact Nat.le_refl _⟩
  yld := fun i H F L x H' d hd h1 h2 h3 y => by
    obtain ⟨T, k, v, e1, rfl, hT, rfl⟩ := y
    rw [List.getElem?_map] at hd
    cases e2 : ks[i]? with
    | none => rw [e2] at hd; cases hd
    | some p =>
      rw [e2] at hd
      cases hd
      obtain ⟨w, e3, r3⟩ := (repK_get r).2 i p e2
      rw [e1] at e3; cases e3
      have hfT : F T = none := by
        cases q : F T with
        | none => rfl
        | some o => rw [h2 T o q] at hT; cases hT
      exact ⟨_, .inr (.inl ⟨T, _, hT, rfl, rfl⟩), rep_pair upd_same (rep_kD _) (Rep.mono (h1.trans (sub_upd hfT)) h3 r3)⟩
/-! the rules -/
theorem lift_take {R : Hp → Prop} (g : Good K cm s σ H F L) (g1 : Good K cm s1 σ H1 F1 L1) (x : Ext σ s H F L s1 H1 F1 L1) {v : V} (q : TRep K cm s1 σ H1 F1 L1 t v) (n : ∀ d a, t = .v d true → v = .ref a → H a = none) (ht : take t s1 = some (d, s2))
    (h : ∀ H2 F2, Good K cm s2 σ H2 F2 L1 → Ext σ s H F L s2 H2 F2 L1 → Rep K cm F2 L1 d v → R H2) : Lk H1 R :=
  (take_ok g1 g x q n ht).imp fun H2 ⟨F2, g2, x2, r2, _, _⟩ => h H2 F2 g2 x2 r2
theorem ri_lst {xs : List D} (he : PE X e (tE X.K cm s t s1)) (ht : take t s1 = some (.lst xs, s2)) : PI X tg e (tI X.K cm s (.fix xs) s2) :=
  (pi_list he.lk).imp fun σ H R ⟨F, L, g, k⟩ => ⟨F, L, g, fun v H1 F1 L1 g1 x1 q1 n1 => by
    refine lift_take g g1 x1 q1 n1 ht fun H2 F2 g2 x2 r2 => ?_
    cases r2 with
    | @lst a vs _ q r => exact ⟨a, rfl, ⟨vs, .of (g2.sub _ _ q)⟩, k _ H2 F2 L1 g2 x2 (yl_list q r)⟩⟩
theorem ri_tup {xs : List D} (he : PE X e (tE X.K cm s t s1)) (ht : take t s1 = some (.tup xs, s2)) : PI X tg e (tI X.K cm s (.fix xs) s2) :=
  (pi_tup he.lk).imp fun σ H R ⟨F, L, g, k⟩ => ⟨F, L, g, fun v H1 F1 L1 g1 x1 q1 n1 => by
    refine lift_take g g1 x1 q1 n1 ht fun H2 F2 g2 x2 r2 => ?_
    cases r2 with
    | @tup a vs _ q r => exact ⟨a, rfl, ⟨vs, .of (g2.sub _ _ q)⟩, k _ H2 F2 L1 g2 x2 (yl_tup q r)⟩⟩
theorem ri_keys {ks : List (Key × D)} (he : PE X e (tE X.K cm s t s1)) (ht : take t s1 = some (.dK ks, s2)) : PI X tg e (tI X.K cm s (.fix (ks.map fun kv => kD kv.1)) s2) :=
  (pi_keys he.lk).imp fun σ H R ⟨F, L, g, k⟩ => ⟨F, L, g, fun v H1 F1 L1 g1 x1 q1 n1 => by
    refine lift_take g g1 x1 q1 n1 ht fun H2 F2 g2 x2 r2 => ?_
    cases r2 with
    | @dK a o _ vs q r => exact ⟨a, o, rfl, .inl ⟨vs, g2.sub _ _ q, k _ H2 F2 L1 g2 x2 (yl_keys q r)⟩⟩⟩
theorem ri_keysT {ks : List (List Key × D)} (he : PE X e (tE X.K cm s t s1)) (ht : take t s1 = some (.dT ks, s2)) : PI X tg e (tI X.K cm s (.fix (ks.map fun kv => .tup (kv.1.map kD))) s2) :=
  (pi_keys he.lk).imp fun σ H R ⟨F, L, g, k⟩ => ⟨F, L, g, fun v H1 F1 L1 g1 x1 q1 n1 => by
    refine lift_take g g1 x1 q1 n1 ht fun H2 F2 g2 x2 r2 => ?_
    cases r2 with
    | @dT a o _ vs q r => exact ⟨a, o, rfl, .inr ⟨vs, g2.sub _ _ q, k _ H2 F2 L1 g2 x2 (yl_keysT q r)⟩⟩⟩
theorem ri_str {z : Str} (he : PE X e (tE X.K cm s t s1)) (hd : t.d s1 = some (.str z)) : PI X tg e (tI X.K cm s (.fix (z.cps.toList.map chr)) s1) :=
  (pi_str he).imp fun σ H R ⟨F, L, g, k⟩ => ⟨F, L, g, fun v H1 F1 L1 g1 x1 q1 n1 => ⟨z, vw_str (q1.vw g1 hd), k _ H1 F1 L1 g1 x1 ⟨fun i H F hi _ _ => by show i < z.cps.size; simpa using hi, fun H F _ _ => by show z.cps.size ≤ _; simp, fun i H F L x H' d hd _ _ _ y => by
    obtain ⟨rfl, c, e1, rfl⟩ := y
    rw [List.getElem?_map, Array.getElem?_toList, e1] at hd
    cases hd
    exact ⟨F, .inl ⟨rfl, rfl⟩, .str _⟩⟩⟩⟩
/-- a list that a variable holds: its items as they are at each turn -/
theorem ri_var {i : Nat} {xs : List D} {o : Bool} (he : PE X e (tE X.K cm s (.x i) s1)) (hd : s1.get i = some (.lst xs, o)) : PI X tg e (tI X.K cm s (.var i) s1) :=
  (pi_list he).imp fun σ H R ⟨F, L, g, k⟩ => ⟨F, L, g, fun v H1 F1 L1 g1 x1 q1 n1 => by
    have vw := q1.vw g1 (show (Tmp.x i).d s1 = some (.lst xs) from by show (s1.get i).map (·.1) = _; rw [hd]; rfl)
    obtain ⟨a, vs, rfl, h1, r1⟩ := vw_lst vw
    obtain ⟨_, _, h2⟩ := q1
    exact ⟨a, rfl, ⟨vs, .of h1⟩, k _ H1 F1 L1 g1 x1 ⟨a, h2, rfl⟩⟩⟩
theorem ri_rng1 {j : Int} {p pos : Pos} (he : PE X e (tE X.K cm s t s1)) (hd : t.d s1 = some (.int j)) (h : -(2 ^ 62) ≤ j ∧ j < 2 ^ 62) (hg : Gl X "range") (hm : X.mg "range" = none) (hs : nst e = true) : PI X tg (.Call (.Name "range" p) [e] [] pos) (tI X.K cm s (.fix (rngD 0 (j - 0).toNat)) s1) :=
  (pi_range1 hg hm (pa_cons he pa_nil (star_of hs _ _)) (star_of hs _ _)).imp fun σ H R ⟨F, L, g, k⟩ => ⟨F, L, g, fun v H1 F1 L1 g1 x1 q1 n1 => by
    rw [Int.sub_zero] at k
    exact ⟨j, by rw [vw_int (q1.vw g1 hd)], h.1, h.2, k _ H1 F1 L1 g1 x1 yl_rng⟩⟩
theorem ri_rng2 {i j : Int} {p pos : Pos} (ha : PE X a (tE X.K cm s t s1)) (hb : PE X b (tE X.K cm s1 u s2)) (hd : t.d s2 = some (.int i)) (hd2 : u.d s2 = some (.int j)) (h : -(2 ^ 62) ≤ i ∧ i < 2 ^ 62 ∧ -(2 ^ 62) ≤ j ∧ j < 2 ^ 62) (hg : Gl X "range") (hm : X.mg "range" = none) (hs : nst a = true) (hs2 : nst b = true) :
    PI X tg (.Call (.Name "range" p) [a, b] [] pos) (tI X.K cm s (.fix (rngD i (j - i).toNat)) s2) :=
  (pi_range2 hg hm (pa_cons ha (pa_cons hb pa_nil (star_of hs2 _ _)) (star_of hs _ _)) (by rw [star_of hs, star_of hs2]; rfl) (star_of hs2 _ _)).imp fun σ H R ⟨F, L, g, k⟩ => ⟨F, L, g, fun v H1 F1 L1 g1 x1 q1 n1 => ⟨F1, L1, g1, fun w H2 F2 L2 g2 x2 q2 n2 =>
    ⟨i, j, by rw [vw_int ((q1.ext g1 x2).vw g2 hd), vw_int (q2.vw g2 hd2)], h, k _ H2 F2 L2 g2 (x1.then g1 x2) yl_rng⟩⟩⟩
theorem ri_zip {xs ys : List D} {s4 : St} {p pos tpos : Pos} {elts : List Expr} {kk : Nat} (ha : PE X a (tE X.K cm s t s1)) (hb : PE X b (tE X.K cm s1 u s2)) (ht : takes [t, u] s2 = some ([.lst xs, .lst ys], s4)) (hg : Gl X "zip") (hm : X.mg "zip" = none) (hs : nst a = true) (hs2 : nst b = true) :
    PI X (.Tuple elts kk tpos) (.Call (.Name "zip" p) [a, b] [] pos) (tI X.K cm s (.fix (zipD xs ys)) s4) :=
  (pi_zipA hg hm (ra_cons ha (ra_cons hb ra_nil (star_of hs2 _ _)) (star_of hs _ _)).lk (by rw [star_of hs]) (by rw [star_of hs2]; rfl)).imp fun σ H R ⟨F, L, g, k⟩ => ⟨F, L, g, fun vs H1 F1 L1 g1 x1 q1 n1 => by
    refine (takes_ok g g1 x1 q1 n1 ht).imp fun H2 ⟨F2, g2, x2, r2, _, _⟩ => ?_
    cases r2 with
    | cons r3 r4 => cases r4 with
      | cons r4 r5 =>
        cases r5
        cases r3 with
        | @lst a vs _ q r => cases r4 with
          | @lst b ws _ q' r' => exact ⟨a, b, vs, ws, rfl, .inl ⟨.of (g2.sub _ _ q), .of (g2.sub _ _ q'), k _ H2 F2 L1 g2 x2 (yl_zip q q' r r')⟩⟩⟩
theorem ri_zipT {xs ys : List D} {s4 : St} {p pos tpos : Pos} {elts : List Expr} {kk : Nat} (ha : PE X a (tE X.K cm s t s1)) (hb : PE X b (tE X.K cm s1 u s2)) (ht : takes [t, u] s2 = some ([.tup xs, .tup ys], s4)) (hg : Gl X "zip") (hm : X.mg "zip" = none) (hs : nst a = true) (hs2 : nst b = true) :
    PI X (.Tuple elts kk tpos) (.Call (.Name "zip" p) [a, b] [] pos) (tI X.K cm s (.fix (zipD xs ys)) s4) :=
  (pi_zipA hg hm (ra_cons ha (ra_cons hb ra_nil (star_of hs2 _ _)) (star_of hs _ _)).lk (by rw [star_of hs]) (by rw [star_of hs2]; rfl)).imp fun σ H R ⟨F, L, g, k⟩ => ⟨F, L, g, fun vs H1 F1 L1 g1 x1 q1 n1 => by
    refine (takes_ok g g1 x1 q1 n1 ht).imp fun H2 ⟨F2, g2, x2, r2, _, _⟩ => ?_
    cases r2 with
    | cons r3 r4 => cases r4 with
      | cons r4 r5 =>
        cases r5
        cases r3 with
        | @tup a vs _ q r => cases r4 with
          | @tup b ws _ q' r' => exact ⟨a, b, vs, ws, rfl, .inr ⟨.of (g2.sub _ _ q), .of (g2.sub _ _ q'), k _ H2 F2 L1 g2 x2 (yl_zipT q q' r r')⟩⟩⟩
theorem ri_enum {xs : List D} {p pos tpos : Pos} {elts : List Expr} {kk : Nat} (ha : PE X a (tE X.K cm s t s1)) (ht : take t s1 = some (.lst xs, s2)) (hg : Gl X "enumerate") (hm : X.mg "enumerate" = none) (hs : nst a = true) :
    PI X (.Tuple elts kk tpos) (.Call (.Name "enumerate" p) [a] [] pos) (tI X.K cm s (.fix (enumD 0 xs)) s2) :=
  (pi_enum hg hm (pa_cons ha.lk pa_nil (star_of hs _ _)) (star_of hs _ _)).imp fun σ H R ⟨F, L, g, k⟩ => ⟨F, L, g, fun v H1 F1 L1 g1 x1 q1 n1 => by
    refine lift_take g g1 x1 q1 n1 ht fun H2 F2 g2 x2 r2 => ?_
    cases r2 with
    | @lst a vs _ q r => exact ⟨a, vs, rfl, .of (g2.sub _ _ q), k _ H2 F2 L1 g2 x2 (yl_enum q r)⟩⟩
theorem ri_items {ks : List (Key × D)} {p apos tpos : Pos} {elts : List Expr} {kk : Nat} (he : PE X e (tE X.K cm s t s1)) (ht : take t s1 = some (.dK ks, s2)) (hs : NoSup e) (hline : (apos.endLine == p.line) = true) :
    PI X (.Tuple elts kk tpos) (.Call (.Attribute e "items" apos) [] [] p) (tI X.K cm s (.fix (ks.map fun kv => .tup [kD kv.1, kv.2])) s2) :=
  (pi_items he.lk (attr_base _ _ _ hs) hline).imp fun σ H R ⟨F, L, g, k⟩ => ⟨F, L, g, fun v H1 F1 L1 g1 x1 q1 n1 => by
    refine lift_take g g1 x1 q1 n1 ht fun H2 F2 g2 x2 r2 => ?_
    cases r2 with
    | @dK a o _ vs q r => exact ⟨a, o, vs, rfl, g2.sub _ _ q, k _ H2 F2 L1 g2 x2 (yl_items q r)⟩⟩
theorem ri_vals {ks : List (Key × D)} {p apos : Pos} (he : PE X e (tE X.K cm s t s1)) (ht : take t s1 = some (.dK ks, s2)) (hs : NoSup e) (hline : (apos.endLine == p.line) = true) :
    PI X tg (.Call (.Attribute e "values" apos) [] [] p) (tI X.K cm s (.fix (ks.map (·.2))) s2) :=
  (pi_values he.lk (attr_base _ _ _ hs) hline).imp fun σ H R ⟨F, L, g, k⟩ => ⟨F, L, g, fun v H1 F1 L1 g1 x1 q1 n1 => by
    refine lift_take g g1 x1 q1 n1 ht fun H2 F2 g2 x2 r2 => ?_
    cases r2 with
    | @dK a o _ vs q r => exact ⟨a, o, vs, rfl, g2.sub _ _ q, k _ H2 F2 L1 g2 x2 (yl_vals q r)⟩⟩
end
end Mp
/-! Mp, part K: targets, turns, list comprehensions. -/
namespace Mp
open PySem PySem.Spec PyProof.Rows L2 RZ

/-! ### slots forgotten and restored -/
theorem get_foldr (g : Nat → Option (D × Bool)) : ∀ (own : List Nat) (e : List (Option (D × Bool))) (j : Nat), j < e.length → (own.foldr (fun i e => e.set i (g i)) e).getD j none = if j ∈ own then g j else e.getD j none
  | [], e, j, _ => by simp
  | i :: own, e, j, h => by
    have hl : ∀ own : List Nat, (own.foldr (fun i e => e.set i (g i)) e).length = e.length := fun own => by
      induction own with
      | nil => rfl
      | cons i own ih => simp [ih]
    rw [List.foldr_cons, List.getD_eq_getElem?_getD, List.getElem?_set]
    by_cases hij : i = j
    · subst hij
      rw [if_pos rfl, if_pos (by rw [hl]; exact h)]
      simp
    · rw [if_neg hij, ← List.getD_eq_getElem?_getD, get_foldr g own e j h]
      simp [show j ≠ i from fun e => hij e.symm]
theorem foldr_len (g : Nat → Option (D × Bool)) (own : List Nat) (e : List (Option (D × Bool))) : (own.foldr (fun i e => e.set i (g i)) e).length = e.length := by
  induction own with
  | nil => rfl
  | cons i own ih => simp [ih]
theorem getD_out {e : List (Option (D × Bool))} {j : Nat} (h : ¬ j < e.length) : e.getD j none = none := by
  rw [List.getD_eq_getElem?_getD, List.getElem?_eq_none (by omega)]; rfl
theorem get_wipe (s : St) (own : List Nat) (j : Nat) : (s.wipe own).get j = if j ∈ own then none else s.get j := by
  unfold St.get St.wipe
  by_cases h : j < s.e.length
  · exact get_foldr (fun _ => none) own s.e j h
  · rw [getD_out (by rw [foldr_len (fun _ => none)]; exact h), getD_out h]
    split <;> rfl
theorem get_back (s s0 : St) (own : List Nat) (j : Nat) (hl : s.e.length = s0.e.length) : (s.back s0 own).get j = if j ∈ own then s0.get j else s.get j := by
  unfold St.get St.back
  by_cases h : j < s.e.length
  · exact get_foldr (fun i => s0.e.getD i none) own s.e j h
  · rw [getD_out (by rw [foldr_len (fun i => s0.e.getD i none)]; exact h), getD_out h, getD_out (by rw [← hl]; exact h)]
    split <;> rfl
theorem wipe_len (s : St) (own : List Nat) : (s.wipe own).e.length = s.e.length := foldr_len (fun _ => none) own s.e
theorem back_len (s s0 : St) (own : List Nat) : (s.back s0 own).e.length = s.e.length := foldr_len (fun i => s0.e.getD i none) own s.e
theorem wipeS_get (σ : L2.St) : ∀ (own : List Nat) (j : Nat), j ∉ own → (wipe σ own)[j]? = σ[j]?
  | [], j, _ => rfl
  | i :: own, j, h => by
    simp only [List.mem_cons, not_or] at h
    unfold wipe
    rw [List.getElem?_set_ne (fun e => h.1 e.symm), wipeS_get σ own j h.2]
theorem wipeS_in (σ : L2.St) : ∀ (own : List Nat) (j : Nat), j ∈ own → j < σ.length → (wipe σ own)[j]? = some none
  | [], j, h, _ => by simp at h
  | i :: own, j, h, hl => by
    unfold wipe
    by_cases e : i = j
    · subst e
      rw [List.getElem?_set_self (by rw [wipe_length]; exact hl)]
    · rw [List.getElem?_set_ne e]
      exact wipeS_in σ own j (by simpa [show j ≠ i from fun z => e z.symm] using h) hl
theorem wipeS_eq {σ σ2 : L2.St} {own : List Nat} (hl : σ2.length = σ.length) (h : ∀ j, j ∉ own → σ2[j]? = σ[j]?) : wipe σ2 own = wipe σ own := by
  refine List.ext_getElem? fun j => ?_
  by_cases hj : j ∈ own
  · by_cases hlt : j < σ.length
    · rw [wipeS_in _ _ _ hj (by omega), wipeS_in _ _ _ hj hlt]
    · rw [List.getElem?_eq_none (by rw [wipe_length]; omega), List.getElem?_eq_none (by rw [wipe_length]; omega)]
  · rw [wipeS_get _ _ _ hj, wipeS_get _ _ _ hj, h j hj]
theorem wipeS_idem (σ : L2.St) (own : List Nat) : wipe (wipe σ own) own = wipe σ own := wipeS_eq (wipe_length σ own) fun j hj => wipeS_get σ own j hj
section
variable {K : Fr0} {cm : Str → Option Addr} {σ σ2 σ3 : L2.St} {s s1 s2 s3 s' : St} {H F H1 F1 H' F' H2 F2 : Hp} {L L1 LL L' : List Addr} {t : Tmp} {d x : D} {v : V} {own : List Nat} {i : Nat} {a : Addr}
theorem Good.wiped (g : Good K cm s σ H F L) (own : List Nat) : Good K cm (s.wipe own) (wipe σ own) H F L where
  sub := g.sub
  len := by rw [wipe_len, wipe_length]; exact g.len
  pure := fun i d e => by
    rw [get_wipe] at e
    by_cases h : i ∈ own
    · rw [if_pos h] at e; cases e
    · rw [if_neg h] at e; rw [wipeS_get _ _ _ h]; exact g.pure i d e
  own := fun i d e => by
    rw [get_wipe] at e
    by_cases h : i ∈ own
    · rw [if_pos h] at e; cases e
    · rw [if_neg h] at e; rw [wipeS_get _ _ _ h]; exact g.own i d e
  apart := fun i j d e a hij e1 e2 e3 => by
    rw [get_wipe] at e1 e2
    by_cases h : i ∈ own
    · rw [if_pos h] at e1; cases e1
    · by_cases h' : j ∈ own
      · rw [if_pos h'] at e2; cases e2
      · rw [if_neg h] at e1; rw [if_neg h'] at e2; rw [wipeS_get _ _ _ h] at e3; rw [wipeS_get _ _ _ h']; exact g.apart i j d e a hij e1 e2 e3
  box := g.box
  lenB := g.lenB
  nd := g.nd
theorem own_wipe (h : Own (s.wipe own) (wipe σ own) a) : Own s σ a := by
  obtain ⟨i, d, h1, h2⟩ := h
  rw [get_wipe] at h1
  by_cases e : i ∈ own
  · rw [if_pos e] at h1; cases h1
  · rw [if_neg e] at h1; rw [wipeS_get _ _ _ e] at h2; exact ⟨i, d, h1, h2⟩
/-- behind a block: its own slots as they were -/
theorem Good.back (g1 : Good K cm s1 σ H1 F1 L1) (g2 : Good K cm s2 (wipe σ own) H2 F2 LL) (x : Ext (wipe σ own) (s1.wipe own) H1 F1 L1 s2 H2 F2 LL) : Good K cm (s2.back s1 own) σ H2 F2 LL := by
  have hl : s2.e.length = s1.e.length := by rw [g2.len, wipe_length, g1.len]
  have keep : ∀ i d a, i ∈ own → s1.get i = some (d, true) → σ[i]? = some (some (.ref a)) → F2 a = none ∧ a ∉ LL ∧ H2 a = H1 a := fun i d a hi e1 e2 => by
    obtain ⟨b, e3, e4, e5, e6⟩ := g1.own i d e1
    rw [e2] at e3; cases e3
    obtain ⟨o, ho⟩ := e6.some
    have nown : ¬ Own (s1.wipe own) (wipe σ own) a := fun ⟨j, e, q1, q2⟩ => by
      rw [get_wipe] at q1
      by_cases hj : j ∈ own
      · rw [if_pos hj] at q1; cases q1
      · rw [if_neg hj] at q1
        rw [wipeS_get _ _ _ hj] at q2
        exact g1.apart i j d e a (fun z => hj (z ▸ hi)) e1 q1 e2 q2
    refine ⟨?_, fun z => ?_, by rw [x.frame a o ho nown e5, ho]⟩
    · cases q : F2 a with
      | none => rfl
      | some u =>
        rcases x.new a (by rw [q]; simp) with z | z | z | ⟨vs, z⟩
        · exact absurd e4 z
        · rw [ho] at z; cases z
        · exact absurd z nown
        · exact absurd z (top_notT e6)
    · rcases x.newL a z with z | z
      · exact e5 z
      · rw [ho] at z; cases z
  refine ⟨g2.sub, by rw [back_len, g2.len, wipe_length], fun i d e => ?_, fun i d e => ?_, fun i j d e a hij e1 e2 e3 e4 => ?_, g2.box, g2.lenB, g2.nd⟩
  · rw [get_back _ _ _ _ hl] at e
    by_cases h : i ∈ own
    · rw [if_pos h] at e
      obtain ⟨v, h1, h2⟩ := g1.pure i d e
      exact ⟨v, h1, Rep.mono x.sub x.pre h2⟩
    · rw [if_neg h] at e
      have := g2.pure i d e
      rwa [wipeS_get _ _ _ h] at this
  · rw [get_back _ _ _ _ hl] at e
    by_cases h : i ∈ own
    · rw [if_pos h] at e
      obtain ⟨a, e3, e4, e5, e6⟩ := g1.own i d e
      obtain ⟨k1, k2, k3⟩ := keep i d a h e e3
      exact ⟨a, e3, k1, k2, e6.mono x.sub x.pre k3⟩
    · rw [if_neg h] at e
      have := g2.own i d e
      rwa [wipeS_get _ _ _ h] at this
  · rw [get_back _ _ _ _ hl] at e1 e2
    -- an own object of the block's state was one before, or stays apart from what was hidden
    have out : ∀ i j d e, i ∈ own → j ∉ own → s1.get i = some (d, true) → σ[i]? = some (some (.ref a)) → s2.get j = some (e, true) → σ[j]? = some (some (.ref a)) → False := fun i j d e hi hj q1 q2 q3 q4 => by
      obtain ⟨e', q5⟩ := x.ownS j e q3
      rw [get_wipe, if_neg hj] at q5
      exact g1.apart i j d e' a (fun z => hj (z ▸ hi)) q1 q5 q2 q4
    by_cases h : i ∈ own
    · rw [if_pos h] at e1
      by_cases h' : j ∈ own
      · rw [if_pos h'] at e2; exact g1.apart i j d e a hij e1 e2 e3 e4
      · rw [if_neg h'] at e2; exact out i j d e h h' e1 e3 e2 e4
    · rw [if_neg h] at e1
      by_cases h' : j ∈ own
      · rw [if_pos h'] at e2; exact out j i e d h' h e2 e4 e1 e3
      · rw [if_neg h'] at e2
        exact g2.apart i j d e a hij e1 e2 (by rw [wipeS_get _ _ _ h]; exact e3) (by rw [wipeS_get _ _ _ h']; exact e4)
theorem Ext.back (g1 : Good K cm s1 σ H1 F1 L1) (g2 : Good K cm s2 (wipe σ own) H2 F2 LL) (x : Ext (wipe σ own) (s1.wipe own) H1 F1 L1 s2 H2 F2 LL) : Ext σ s1 H1 F1 L1 (s2.back s1 own) H2 F2 LL := by
  have hl : s2.e.length = s1.e.length := by rw [g2.len, wipe_length, g1.len]
  refine ⟨x.sub, fun a h => ?_, x.pre, x.newL, fun a o h1 h2 h3 => x.frame a o h1 (fun z => h2 (own_wipe z)) h3, x.dom, fun i d e => ?_, fun i p e => ?_, fun i d e => ?_, fun i e => ?_⟩
  · rcases x.new a h with z | z | z | z
    · exact .inl z
    · exact .inr (.inl z)
    · exact .inr (.inr (.inl (own_wipe z)))
    · exact .inr (.inr (.inr z))
  · rw [get_back _ _ _ _ hl] at e
    by_cases h : i ∈ own
    · rw [if_pos h] at e; exact ⟨d, e⟩
    · rw [if_neg h] at e
      obtain ⟨e', q⟩ := x.ownS i d e
      rw [get_wipe, if_neg h] at q
      exact ⟨e', q⟩
  · rw [get_back _ _ _ _ hl]
    by_cases h : i ∈ own
    · rw [if_pos h]; exact ⟨p, e⟩
    · rw [if_neg h]; exact x.have_ i p (by rw [get_wipe, if_neg h]; exact e)
  · rw [get_back _ _ _ _ hl]
    by_cases h : i ∈ own
    · rw [if_pos h]; exact e
    · rw [if_neg h]; exact x.same i d (by rw [get_wipe, if_neg h]; exact e)
  · rw [get_back _ _ _ _ hl]
    by_cases h : i ∈ own
    · rw [if_pos h]; exact e
    · rw [if_neg h]; exact x.no i (by rw [get_wipe, if_neg h]; exact e)

/-! ### targets -/
def gNames : List Nat → TGs
  | [] => gNil
  | i :: is => gCons (gName i) (gNames is)
def gOf (K : Fr0) : Tg → TG
  | .nm i => gName i
  | .tp is => gTup K is.length (gNames is)
theorem own_put (h : Own (s.put i d false) (σ.set i (some v)) a) : Own s σ a := by
  obtain ⟨j, e, h1, h2⟩ := h
  rw [get_put] at h1
  split at h1
  · cases h1
  · rename_i hn
    refine ⟨j, e, h1, ?_⟩
    by_cases z : j = i
    · subst z
      have : ¬ j < s.e.length := fun q => hn ⟨rfl, q⟩
      exact absurd (get_lt h1) this
    · rwa [List.getElem?_set_ne (fun q => z q.symm)] at h2
theorem Good.put (g : Good K cm s σ H F L) (r : Rep K cm F L d v) (i : Nat) : Good K cm (s.put i d false) (σ.set i (some v)) H F L where
  sub := g.sub
  len := by simp [St.put, g.len]
  pure := fun j e h => by
    rw [get_put] at h
    split at h
    · rename_i q
      obtain ⟨rfl, q⟩ := q
      cases h
      exact ⟨v, by rw [List.getElem?_set_self (by rw [← g.len]; exact q)], r⟩
    · rename_i q
      have : j ≠ i := fun z => q ⟨z, z ▸ get_lt h⟩
      rw [List.getElem?_set_ne (fun z => this z.symm)]
      exact g.pure j e h
  own := fun j e h => by
    rw [get_put] at h
    split at h
    · cases h
    · rename_i q
      have : j ≠ i := fun z => q ⟨z, z ▸ get_lt h⟩
      rw [List.getElem?_set_ne (fun z => this z.symm)]
      exact g.own j e h
  apart := fun j k e f a hjk h1 h2 h3 => by
    rw [get_put] at h1 h2
    split at h1
    · cases h1
    · split at h2
      · cases h2
      · rename_i q q'
        have n1 : j ≠ i := fun z => q ⟨z, z ▸ get_lt h1⟩
        have n2 : k ≠ i := fun z => q' ⟨z, z ▸ get_lt h2⟩
        rw [List.getElem?_set_ne (fun z => n1 z.symm)] at h3
        rw [List.getElem?_set_ne (fun z => n2 z.symm)]
        exact g.apart j k e f a hjk h1 h2 h3
  box := g.box
  lenB := g.lenB
  nd := g.nd
/-- s2, σ2 are s, σ but for settled values in some slots -/
structure Bnd (is : List Nat) (s : St) (σ : L2.St) (s2 : St) (σ2 : L2.St) : Prop where
  off : ∀ i, i ∉ is → σ2[i]? = σ[i]? ∧ s2.get i = s.get i
  ons : ∀ i ∈ is, ∀ d, s2.get i = some (d, true) → s.get i = some (d, true) ∧ σ2[i]? = σ[i]?
  len : σ2.length = σ.length
  b : s2.b = s.b
theorem Bnd.refl (is : List Nat) : Bnd is s σ s σ := ⟨fun _ _ => ⟨rfl, rfl⟩, fun _ _ _ h => ⟨h, rfl⟩, rfl, rfl⟩
theorem Bnd.ownB {is : List Nat} (b : Bnd is s σ s2 σ2) (h : Own s2 σ2 a) : Own s σ a := by
  obtain ⟨i, d, h1, h2⟩ := h
  by_cases e : i ∈ is
  · obtain ⟨h3, h4⟩ := b.ons i e d h1
    exact ⟨i, d, h3, by rw [← h4]; exact h2⟩
  · obtain ⟨h3, h4⟩ := b.off i e
    exact ⟨i, d, by rw [← h4]; exact h1, by rw [← h3]; exact h2⟩
theorem Bnd.one {is : List Nat} (b : Bnd is s σ s2 σ2) (hi : i ∈ is) (hl : s2.e.length = σ2.length) : Bnd is s σ (s2.put i d false) (σ2.set i (some v)) where
  off := fun j hj => by
    have ne : j ≠ i := fun z => hj (z ▸ hi)
    rw [List.getElem?_set_ne (fun z => ne z.symm), get_put_ne ne]
    exact b.off j hj
  ons := fun j hj e h => by
    rw [get_put] at h
    split at h
    · cases h
    · rename_i q
      have ne : j ≠ i := fun z => q ⟨z, z ▸ get_lt h⟩
      rw [List.getElem?_set_ne (fun z => ne z.symm)]
      exact b.ons j hj e h
  len := by rw [List.length_set]; exact b.len
  b := b.b
theorem names_ok {is0 : List Nat} {Q : L2.St → Hp → Prop} {Hg : Hp} : ∀ {is : List Nat} {ds : List D} {vs : List V} {s1 : St} {σ1 : L2.St}, Good K cm s1 σ1 Hg F L → Bnd is0 s σ s1 σ1 → (∀ i ∈ is, i ∈ is0) → RepL K cm F L ds vs → ds.length = is.length →
    (∀ σ2, Good K cm ((is.zip ds).foldl (fun s p => s.put p.1 p.2 false) s1) σ2 Hg F L → Bnd is0 s σ ((is.zip ds).foldl (fun s p => s.put p.1 p.2 false) s1) σ2 → Q σ2 H) → gNames is vs σ1 H Q
  | [], ds, vs, s1, σ1, g, b, hm, r, hl, k => by
    cases r with
    | nil => exact ⟨rfl, k σ1 g b⟩
    | cons _ _ => simp at hl
  | i :: is, ds, vs, s1, σ1, g, b, hm, r, hl, k => by
    cases r with
    | nil => simp at hl
    | @cons d v ds vs r rr =>
      refine ⟨_, _, rfl, names_ok (g.put r i) (b.one (hm i (by simp)) g.len) (fun j hj => hm j (by simp [hj])) rr (by simpa using hl) fun σ2 g2 b2 => ?_⟩
      exact k σ2 (by simpa using g2) (by simpa using b2)
theorem bind_ok {tg : Tg} {Q : L2.St → Hp → Prop} {Hg : Hp} (g : Good K cm s σ Hg F L) (hs : Sub F H) (r : Rep K cm F L d v) (h : bindT tg d s = some s2) (k : ∀ σ2, Good K cm s2 σ2 Hg F L → Bnd (slotsT tg) s σ s2 σ2 → Q σ2 H) : gOf K tg v σ H Q := by
  cases tg with
  | nm i =>
    have h : some (s.put i d false) = some s2 := h
    cases h
    exact k _ (g.put r i) ((Bnd.refl [i]).one (by simp) g.len)
  | tp is =>
    unfold bindT at h
    cases d with
    | tup xs =>
      have h : (if xs.length = is.length then some ((is.zip xs).foldl (fun s p => s.put p.1 p.2 false) s) else none) = some s2 := h
      split at h
      · rename_i hl
        cases h
        cases r with
        | @tup T vs _ q rr =>
          exact ⟨T, vs, rfl, .of (hs _ _ q), by rw [← rr.len]; exact hl, names_ok g (Bnd.refl is) (fun i h => h) rr hl k⟩
      · cases h
    | _ => cases h
theorem bind_okU {is : List Nat} {xs : List D} {Q : L2.St → Hp → Prop} {Hg : Hp} (g : Good K cm s σ Hg F L) (hs : Sub F H) (r : Rep K cm F L (.lst xs) v) (h : bindT (.tp is) (.tup xs) s = some s2) (k : ∀ σ2, Good K cm s2 σ2 Hg F L → Bnd is s σ s2 σ2 → Q σ2 H) : gUnl K is.length (gNames is) v σ H Q := by
  unfold bindT at h
  have h : (if xs.length = is.length then some ((is.zip xs).foldl (fun s p => s.put p.1 p.2 false) s) else none) = some s2 := h
  split at h
  · rename_i hl
    cases h
    cases r with
    | @lst T vs _ q rr =>
      exact ⟨T, vs, rfl, .of (hs _ _ q), by rw [← rr.len]; exact hl, names_ok g (Bnd.refl is) (fun i h => h) rr hl k⟩
  · cases h
/-- a turn of a block: from (s, σw) by the target to (sb, σ2), then on, then the block's own names forgotten -/
theorem Ext.turn {σw : L2.St} {sb : St} {is : List Nat} (b : Bnd is s σw sb σ2) (hin : ∀ i ∈ is, i ∈ own) (hw : ∀ i ∈ own, s.get i = none) (x : Ext σ2 sb H F L s' H' F' L') : Ext σw s H F L (s'.wipe own) H' F' L' where
  sub := x.sub
  new := fun a h => by
    rcases x.new a h with z | z | z | z
    · exact .inl z
    · exact .inr (.inl z)
    · exact .inr (.inr (.inl (b.ownB z)))
    · exact .inr (.inr (.inr z))
  pre := x.pre
  newL := x.newL
  frame := fun a o h1 h2 h3 => x.frame a o h1 (fun z => h2 (b.ownB z)) h3
  dom := x.dom
  ownS := fun i d h => by
    rw [get_wipe] at h
    by_cases hi : i ∈ own
    · rw [if_pos hi] at h; cases h
    · rw [if_neg hi] at h
      obtain ⟨e, q⟩ := x.ownS i d h
      rw [(b.off i fun z => hi (hin i z)).2] at q
      exact ⟨e, q⟩
  have_ := fun i p h => by
    have hi : i ∉ own := fun z => by rw [hw i z] at h; cases h
    rw [get_wipe, if_neg hi]
    exact x.have_ i p (by rw [(b.off i fun z => hi (hin i z)).2]; exact h)
  same := fun i d h => by
    have hi : i ∉ own := fun z => by rw [hw i z] at h; cases h
    rw [get_wipe, if_neg hi]
    exact x.same i d (by rw [(b.off i fun z => hi (hin i z)).2]; exact h)
  no := fun i h => by
    rw [get_wipe]
    by_cases hi : i ∈ own
    · rw [if_pos hi]
    · rw [if_neg hi]
      exact x.no i (by rw [(b.off i fun z => hi (hin i z)).2]; exact h)
end
end Mp
/-! Mp, part L: turns of blocks; comprehensions. -/
namespace Mp
open PySem PySem.Spec PyProof.Rows L2 RZ

/-! ### what is still to be walked -/
section
variable {α : Type}
def Go (step : D → St → Option (List α × St)) : Src → Nat → Nat → St → List α → St → Prop
  | .fix xs, i, m, s, l, s2 => i ≤ xs.length ∧ m = xs.length - i ∧ gat step (xs.drop i) s = some (l, s2)
  | .var j, i, m, s, l, s2 => gatV step j m i s = some (l, s2)
theorem go_start {step : D → St → Option (List α × St)} {src : Src} {s s2 : St} {l : List α} (h : gats step src s = some (l, s2)) : ∃ m, Go step src 0 m s l s2 := by
  cases src with
  | fix xs => exact ⟨xs.length, Nat.zero_le _, rfl, h⟩
  | var j => exact ⟨big, h⟩
theorem obind {α β : Type} {o : Option α} {f : α → Option β} {b : β} (h : o.bind f = some b) : ∃ a, o = some a ∧ f a = some b := by
  cases o with
  | none => cases h
  | some a => exact ⟨a, rfl, h⟩
theorem gat_cons {step : D → St → Option (List α × St)} {x : D} {xs : List D} {s s2 : St} {l : List α} (h : gat step (x :: xs) s = some (l, s2)) : ∃ l1 s1 l2, step x s = some (l1, s1) ∧ gat step xs s1 = some (l2, s2) ∧ l = l1 ++ l2 := by
  unfold gat at h
  obtain ⟨⟨l1, s1⟩, h1, h⟩ := obind h
  obtain ⟨⟨l2, s3⟩, h2, h⟩ := obind h
  cases h
  exact ⟨l1, s1, l2, h1, h2, rfl⟩
variable {K : Fr0} {cm : Str → Option Addr} {σ σw : L2.St} {s s2 : St} {H F F1 : Hp} {L L1 : List Addr}
theorem go_step {step : D → St → Option (List α × St)} {J : L2.It} {src : Src} {i m : Nat} {l : List α} (hs : SrcOk K cm J src σ F1 L1) (hw : ∀ (j : Nat) (v : V), σw[j]? = some (some v) → σ[j]? = some (some v)) (g : Good K cm s σw H F L) (hf : Sub F1 F) (hl : Pfx L1 L) (go : Go step src i m s l s2) :
    (J.stop i H ∧ l = [] ∧ s2 = s) ∨ (J.go i H ∧ ∃ d l1 s1 l2 m', step d s = some (l1, s1) ∧ l = l1 ++ l2 ∧ m' < m ∧ Go step src (i + 1) m' s1 l2 s2 ∧ ∀ x H', J.yld i H x H' → ∃ F', Grow H F H' F' ∧ Rep K cm F' L d x) := by
  cases src with
  | fix xs =>
    obtain ⟨h1, h2, h3⟩ := go
    have hs : Yl K cm J xs F1 L1 := hs
    rcases Nat.lt_or_ge i xs.length with hlt | hge
    · rw [List.drop_eq_getElem_cons hlt] at h3
      obtain ⟨l1, s1, l2, e1, e2, e3⟩ := gat_cons h3
      exact .inr ⟨hs.go i H F hlt hf g.sub, xs[i], l1, s1, l2, xs.length - (i + 1), e1, e3, by omega, ⟨hlt, rfl, e2⟩, fun x H' y => hs.yld i H F L x H' xs[i] (by simp [hlt]) hf g.sub hl y⟩
    · have e : i = xs.length := by omega
      subst e
      rw [List.drop_length] at h3
      cases h3
      exact .inl ⟨hs.stop H F hf g.sub, rfl, rfl⟩
  | var j =>
    obtain ⟨a, ha, rfl⟩ := hs
    have go : gatV step j m i s = some (l, s2) := go
    cases m with
    | zero => cases go
    | succ m =>
      unfold gatV at go
      cases e : s.get j with
      | none => rw [e] at go; cases go
      | some p =>
        rw [e] at go
        obtain ⟨d, o⟩ := p
        cases o with
        | false => cases d <;> cases go
        | true =>
          cases d with
          | lst xs =>
            obtain ⟨b, h1, h2, h3, vs, h4, h5⟩ := g.own j _ e
            have := hw j _ h1
            rw [ha] at this; cases this
            have go : (match xs[i]? with
              | none => some ([], s)
              | some x => (do
                let (l, s) ← step x s
                let (r, s) ← gatV step j m (i + 1) s
                some (l ++ r, s))) = some (l, s2) := go
            cases e2 : xs[i]? with
            | none =>
              rw [e2] at go
              cases go
              refine .inl ⟨⟨vs, .of h4, ?_⟩, rfl, rfl⟩
              rw [← h5.len]
              exact List.getElem?_eq_none_iff.mp e2
            | some x =>
              rw [e2] at go
              obtain ⟨⟨l1, s1⟩, g1, go⟩ := obind go
              obtain ⟨⟨l2, s3⟩, g2, go⟩ := obind go
              cases go
              obtain ⟨v, e3, r⟩ := h5.get e2
              refine .inr ⟨⟨vs, v, .of h4, e3⟩, x, l1, s1, l2, m, g1, rfl, Nat.lt_succ_self m, g2, fun y H' hy => ?_⟩
              obtain ⟨rfl, hy⟩ := hy
              have := hy vs (.of h4)
              rw [e3] at this; cases this
              exact ⟨F, .inl ⟨rfl, rfl⟩, r⟩
          | _ => cases go
end

/-! ### an object put aside -/
def del (H : Hp) (D : Addr) : Hp := fun a => if a = D then none else H a
section
variable {K : Fr0} {cm : Str → Option Addr} {σ σw : L2.St} {s s1 s' : St} {H F H' F' H1 F1 : Hp} {L L1 L' : List Addr} {D : Addr} {o : HO}
theorem del_same : del H D D = none := if_pos rfl
theorem del_ne {a : Addr} (h : a ≠ D) : del H D a = H a := if_neg h
theorem del_upd : del (upd H D o) D = del H D := by
  funext a
  by_cases h : a = D
  · rw [h, del_same, del_same]
  · rw [del_ne h, del_ne h, upd_ne h]
theorem upd_del (h : H D = some o) : upd (del H D) D o = H := by
  funext a
  by_cases e : a = D
  · rw [e, upd_same, h]
  · rw [upd_ne e, del_ne e]
theorem del_none (h : H D = none) : del H D = H := by
  funext a
  by_cases e : a = D
  · rw [e, del_same, h]
  · rw [del_ne e]
theorem del_new (h : H D = none) : del (upd H D o) D = H := by rw [del_upd, del_none h]
theorem Good.undel (g : Good K cm s σ (del H D) F L) (h : H D = some o) : Good K cm s σ H F L := by
  have := g.laid (o := o) (p := D) del_same
  rwa [upd_del h] at this
theorem Ext.del (g : Good K cm s σ (del H D) F L) (x : Ext σ s H F L s' H' F' L') (g' : Good K cm s' σ H' F' L') (h : H D = some o) (hT : ∀ vs, o ≠ .tup vs) :
    H' D = some o ∧ Good K cm s' σ (Mp.del H' D) F' L' ∧ Ext σ s (Mp.del H D) F L s' (Mp.del H' D) F' L' := by
  have nO : ¬ Own s σ D := fun z => g.dO z del_same
  have nL : D ∉ L := fun z => g.dL z del_same
  have nF : F D = none := g.fnone del_same
  have hD : H' D = some o := x.frame D o h nO nL
  have nF' : F' D = none := by
    cases q : F' D with
    | none => rfl
    | some u =>
      rcases x.new D (by rw [q]; simp) with z | z | z | ⟨vs, z⟩
      · exact absurd nF z
      · rw [h] at z; cases z
      · exact absurd z nO
      · rw [h] at z; cases z; exact absurd rfl (hT vs)
  have nL' : D ∉ L' := fun z => by
    rcases x.newL D z with z | z
    · exact nL z
    · rw [h] at z; cases z
  have nO' : ¬ Own s' σ D := fun z => nO (x.own z)
  refine ⟨hD, ⟨fun a u e => ?_, g'.len, g'.pure, fun i d e => ?_, g'.apart, fun k is e => ?_, g'.lenB, g'.nd⟩, ⟨x.sub, fun a e => ?_, x.pre, fun a e => ?_, fun a u e h1 h2 => ?_, fun a e => ?_, x.ownS, x.have_, x.same, x.no⟩⟩
  · rw [del_ne (fun z => by rw [z, nF'] at e; cases e)]; exact g'.sub a u e
  · obtain ⟨a, h1, h2, h3, h4⟩ := g'.own i d e
    have ne : a ≠ D := fun z => nO' ⟨i, d, e, z ▸ h1⟩
    exact ⟨a, h1, h2, h3, h4.mono (Sub.refl _) (Pfx.refl _) (del_ne ne)⟩
  · obtain ⟨a, h1, h2, h3⟩ := g'.box k is e
    have ne : a ≠ D := fun z => nL' (z ▸ List.mem_of_getElem? h1)
    exact ⟨a, h1, h2, by rw [del_ne ne]; exact h3⟩
  · rcases x.new a e with z | z | z | ⟨vs, z⟩
    · exact .inl z
    · exact .inr (.inl (by unfold Mp.del; split <;> first | rfl | exact z))
    · exact .inr (.inr (.inl z))
    · exact .inr (.inr (.inr ⟨vs, by rw [del_ne (fun w => by rw [w, h] at z; cases z; exact absurd rfl (hT vs))]; exact z⟩))
  · rcases x.newL a e with z | z
    · exact .inl z
    · exact .inr (by unfold Mp.del; split <;> first | rfl | exact z)
  · have ne : a ≠ D := fun z => by rw [z, del_same] at e; cases e
    rw [del_ne ne] at e ⊢
    exact x.frame a u e h1 h2
  · have ne : a ≠ D := fun z => e (by rw [z]; exact del_same)
    rw [del_ne ne] at e ⊢
    exact x.dom a e
/-- from a start without it -/
theorem Ext.undel (x : Ext σ s H F L s' (Mp.del H' D) F' L') : Ext σ s H F L s' H' F' L' := by
  refine ⟨x.sub, x.new, x.pre, x.newL, fun a u e h1 h2 => ?_, fun a e => ?_, x.ownS, x.have_, x.same, x.no⟩
  · have q := x.frame a u e h1 h2
    have ne : a ≠ D := fun z => by rw [z, del_same] at q; cases q
    rwa [del_ne ne] at q
  · have q := x.dom a e
    have ne : a ≠ D := fun z => q (by rw [z]; exact del_same)
    rwa [del_ne ne] at q
end

/-! ### a turn -/
/-- how the gathered is held: in an object, by frozen parts -/
structure Hold (α : Type) where
  is : HO → Hp → List Addr → List α → Prop
  mono : ∀ {o F F' L L' l}, Sub F F' → Pfx L L' → is o F L l → is o F' L' l
  noT : ∀ {o F L l}, is o F L l → ∀ vs, o ≠ .tup vs
section
variable {α : Type} {K : Fr0} {cm : Str → Option Addr} {σ σw : L2.St} {s s0 s1 s2 s' : St} {H F H' F' H0 H1 F0 F1 : Hp} {L L0 L1 L' : List Addr} {D : Addr} {l l0 : List α} {B : St → Option (List α × St)} {tg : Tg} {own : List Nat} {src : Src} {J : L2.It}
/-- before turn i: gathered so far is l0 ++ done, l is yet to be -/
structure Trn (K : Fr0) (cm : Str → Option Addr) (Hd : Hold α) (D : Addr) (σw : L2.St) (s0 : St) (H0 F0 : Hp) (L0 : List Addr) (tg : Tg) (own : List Nat) (B : St → Option (List α × St)) (src : Src) (l0 l : List α) (s2 : St) (i m : Nat) (H : Hp) : Prop where
  ex : ∃ done rest s F L o, l = done ++ rest ∧ Go (stepB tg own B) src i m s rest s2 ∧ Good K cm s σw (del H D) F L ∧ Ext σw s0 H0 F0 L0 s (del H D) F L ∧ H D = some o ∧ Hd.is o F L (l0 ++ done)
/-- the turn's body, from the target bound -/
structure Bdy (K : Fr0) (cm : Str → Option Addr) (Hd : Hold α) (D : Addr) (σ2 : L2.St) (B : St → Option (List α × St)) (H : Hp) (m : Nat) (all : List α) (N : Nat → Hp → Prop) : Prop where
  ex : ∃ sb lb sc dn rest F L o, B sb = some (lb, sc) ∧ all = dn ++ lb ++ rest ∧ Good K cm sb σ2 (del H D) F L ∧ H D = some o ∧ Hd.is o F L dn ∧
    ∀ H3 F3 L3 o3, Good K cm sc σ2 (del H3 D) F3 L3 → Ext σ2 sb (del H D) F L sc (del H3 D) F3 L3 → H3 D = some o3 → Hd.is o3 F3 L3 (dn ++ lb) → ∃ m', m' < m ∧ N m' H3
theorem turn_ok {Hd : Hold α} {i m : Nat} (hs : SrcOk K cm J src σ F1 L1) (hw : ∀ (j : Nat) (v : V), σw[j]? = some (some v) → σ[j]? = some (some v)) (hww : wipe σw own = σw) (hin : ∀ i ∈ slotsT tg, i ∈ own) (hs0 : ∀ i ∈ own, s0.get i = none) (hf : Sub F1 F0) (hl : Pfx L1 L0)
    (h : Trn K cm Hd D σw s0 H0 F0 L0 tg own B src l0 l s2 i m H) :
    (J.stop i H ∧ ∃ F L o, Good K cm s2 σw (del H D) F L ∧ Ext σw s0 H0 F0 L0 s2 (del H D) F L ∧ H D = some o ∧ Hd.is o F L (l0 ++ l)) ∨
      (J.go i H ∧ ∀ x H', J.yld i H x H' → gOf K tg x σw H' fun σ2 H2 => wipe σ2 own = σw ∧ Bdy K cm Hd D σ2 B H2 m (l0 ++ l) fun m' H3 => Trn K cm Hd D σw s0 H0 F0 L0 tg own B src l0 l s2 (i + 1) m' H3) := by
  obtain ⟨done, rest, s, F, L, o, e1, go, gd, x, hD, hd⟩ := h
  have g := gd.undel hD
  rcases go_step hs hw g (hf.trans x.sub) (hl.trans x.pre) go with ⟨h1, h2, h3⟩ | ⟨h1, d, l1, s3, l2, m', e2, e3, hm, go', hy⟩
  · subst h2 h3
    rw [List.append_nil] at e1
    subst e1
    exact .inl ⟨h1, F, L, o, gd, x, hD, hd⟩
  · refine .inr ⟨h1, fun xv H' y => ?_⟩
    obtain ⟨F', gr, rd⟩ := hy xv H' y
    have g' := gr.good g
    have x' := gr.ext g
    obtain ⟨hD', gd', xd'⟩ := Ext.del gd x' g' hD (Hd.noT hd)
    have e2 : ((bindT tg d s).bind fun s => (B s).bind fun p => some (p.1, p.2.wipe own)) = some (l1, s3) := e2
    obtain ⟨sb, hb, e2⟩ := obind e2
    obtain ⟨⟨lb, sc⟩, hB, e2⟩ := obind e2
    cases e2
    have hsn : ∀ i ∈ own, s.get i = none := fun i hi => x.no i (hs0 i hi)
    refine bind_ok gd' g'.sub rd hb fun σ2 gb bn => ⟨(wipeS_eq bn.len fun j hj => (bn.off j fun z => hj (hin j z)).1).trans hww, ?_⟩
    refine ⟨sb, lb, sc, l0 ++ done, l2, F', L, o, hB, by rw [e1, e3]; simp, gb, hD', Hd.mono xd'.sub (Pfx.refl L) hd, fun H3 F3 L3 o3 g3 x3 h3 hd3 => ⟨m', hm, ?_⟩⟩
    have hw2 : wipe σ2 own = σw := (wipeS_eq bn.len fun j hj => (bn.off j fun z => hj (hin j z)).1).trans hww
    have g4 := g3.wiped own
    rw [hw2] at g4
    exact ⟨done ++ lb, l2, _, F3, L3, o3, by rw [e1, e3]; simp, go', g4, x.then gd (xd'.then gd' (Ext.turn bn hin hsn x3)), h3, by rw [← List.append_assoc]; exact hd3⟩
end

/-! ### readings of what depends on the state -/
def aT (K : Fr0) (cm : Str → Option Addr) (Tt : St → Option (Bool × St)) : TT := fun σ H Q => ∃ s b s', Tt s = some (b, s') ∧ tTs K cm s b s' σ H Q
def aE (K : Fr0) (cm : Str → Option Addr) (Te : St → Option (Tmp × St)) : TE := fun σ H Q => ∃ s t s', Te s = some (t, s') ∧ tE K cm s t s' σ H Q
def aEl (K : Fr0) (cm : Str → Option Addr) (Te : St → Option (Tmp × St)) : TE := fun σ H Q => aE K cm Te σ H fun v H1 => Lk H1 (Q v)
def aI (K : Fr0) (cm : Str → Option Addr) (Ti : St → Option (Src × St)) : TI := fun σ H R => ∃ s b s', Ti s = some (b, s') ∧ tI K cm s b s' σ H R
section
variable {X : Cx} {cm : Str → Option Addr} {e tg : Expr}
theorem pe_aE {Te : St → Option (Tmp × St)} (h : ∀ s t s', Te s = some (t, s') → PE X e (tE X.K cm s t s')) : PE X e (aE X.K cm Te) := ⟨fun pins s σ H Q I ⟨a, t, a', e, q⟩ => (h a t a' e).run pins s σ H Q I q⟩
theorem pe_aEl {Te : St → Option (Tmp × St)} (h : ∀ s t s', Te s = some (t, s') → PE X e (tE X.K cm s t s')) : PE X e (aEl X.K cm Te) := (pe_aE h).lk
theorem pt_aT {Tt : St → Option (Bool × St)} (h : ∀ s b s', Tt s = some (b, s') → PT X e (tTs X.K cm s b s')) : PT X e (aT X.K cm Tt) := ⟨fun pins s σ H Q I ⟨a, b, a', e, q⟩ => (h a b a' e).run pins s σ H Q I q⟩
theorem pi_aI {Ti : St → Option (Src × St)} (h : ∀ s b s', Ti s = some (b, s') → PI X tg e (tI X.K cm s b s')) : PI X tg e (aI X.K cm Ti) := ⟨fun pins s σ H Q I ⟨a, b, a', e, q⟩ => (h a b a' e).run pins s σ H Q I q⟩
theorem pts_any {ifs : List Expr} {es : List E} {f : E → St → Option (Bool × St)} (hl : ifs.length = es.length) (h : ∀ (i : Nat) c e, ifs[i]? = some c → es[i]? = some e → ∀ s b s', f e s = some (b, s') → PT X c (tTs X.K cm s b s')) : PTs X ifs (aT X.K cm (tests f es)) := by
  match ifs, es, hl with
  | [], [], _ => exact ⟨fun pins s σ H Q I ⟨a, b, a', e, F, L, g, k⟩ => by
      have e : some (true, a) = some (b, a') := e
      cases e
      exact pts_nil.run pins s σ H Q I (k H F L g Ext.refl)⟩
  | [c], [e], _ => exact pts_one (pt_aT (h 0 c e rfl rfl))
  | c :: c' :: r, e :: e' :: r', _ => exact ⟨fun pins s σ H Q I ⟨a, b, a', q, _⟩ => by cases q⟩
end

/-! ### bodies -/
def holdL (K : Fr0) (cm : Str → Option Addr) : Hold D where
  is := fun o F L l => ∃ vs, o = .lst vs ∧ RepL K cm F L l vs
  mono := fun h p ⟨vs, e, r⟩ => ⟨vs, e, r.mono h p⟩
  noT := fun ⟨vs, e, r⟩ ws z => by rw [e] at z; cases z
def holdK (K : Fr0) (cm : Str → Option Addr) : Hold (Key × D) where
  is := fun o F L l => ∃ vs, o = .dK vs ∧ RepK K cm F L (ptAll l) vs
  mono := fun h p ⟨vs, e, r⟩ => ⟨vs, e, r.mono h p⟩
  noT := fun ⟨vs, e, r⟩ ws z => by rw [e] at z; cases z
section
variable {K : Fr0} {cm : Str → Option Addr} {σ σw σ2 : L2.St} {s s0 s1 s2 s' : St} {H F H' F' H0 H1 F0 F1 : Hp} {L L0 L1 L' : List Addr} {D : Addr} {m : Nat} {N : Nat → Hp → Prop} {Tt Tt2 : St → Option (Bool × St)} {Te Tk Tv : St → Option (Tmp × St)} {It : St → Option (Src × St)}
theorem bodyL_ok {all : List Mp.D} (h : Bdy K cm (holdL K cm) D σ2 (bodyL Tt Te) H m all N) (hz : all.length ≤ sizeLine) :
    aT K cm Tt σ2 H fun b H3 => if b = true then aEl K cm Te σ2 H3 fun y H4 => ∃ acc, H4 D = some (.lst acc) ∧ acc.length < sizeLine ∧ ∃ m', m' < m ∧ N m' (upd H4 D (.lst (acc ++ [y]))) else ∃ m', m' < m ∧ N m' H3 := by
  obtain ⟨sb, lb, sc, dn, rest, F, L, o, hB, e1, gd, hD, ⟨vs, rfl, r⟩, k⟩ := h
  have g := gd.undel hD
  have hT : ∀ ws, HO.lst vs ≠ .tup ws := fun ws z => by cases z
  have hB : ((Tt sb).bind fun p => if p.1 = true then (Te p.2).bind fun q => (take q.1 q.2).bind fun w => some ([w.1], w.2) else some ([], p.2)) = some (lb, sc) := hB
  obtain ⟨⟨b, s3⟩, hb, hB⟩ := obind hB
  refine ⟨sb, b, s3, hb, F, L, g, fun H3 F3 L3 g3 x3 => ?_⟩
  obtain ⟨hD3, gd3, xd3⟩ := Ext.del gd x3 g3 hD hT
  cases b with
  | false =>
    rw [if_neg Bool.false_ne_true]
    rw [if_neg Bool.false_ne_true] at hB
    cases hB
    exact k H3 F3 L3 _ gd3 xd3 hD3 ⟨vs, rfl, by rw [List.append_nil]; exact r.mono x3.sub x3.pre⟩
  | true =>
    rw [if_pos rfl] at hB ⊢
    obtain ⟨⟨t, s4⟩, ht, hB⟩ := obind hB
    obtain ⟨⟨d, s5⟩, hk, hB⟩ := obind hB
    cases hB
    refine ⟨s3, t, s4, ht, F3, L3, g3, fun v H4 F4 L4 g4 x4 q4 n4 => ?_⟩
    refine (take_ok g4 g3 x4 q4 n4 hk).imp fun H5 ⟨F5, g5, x5, r5, _, _⟩ => ?_
    obtain ⟨hD5, gd5, xd5⟩ := Ext.del gd3 x5 g5 hD3 hT
    have r' := r.mono (xd3.sub.trans xd5.sub) (x3.pre.trans x5.pre)
    refine ⟨vs, hD5, ?_, k _ F5 L4 (.lst (vs ++ [v])) (by rw [del_upd]; exact gd5) (by rw [del_upd]; exact xd3.then gd3 xd5) upd_same ⟨_, rfl, r'.snoc r5⟩⟩
    rw [← r'.len]
    rw [e1] at hz
    simp only [List.length_append, List.length_cons, List.length_nil] at hz
    omega
theorem rel_pt {k : Key} {d : Mp.D} {v : V} {ks : List (Key × Mp.D)} {vs : List (Key × V)} (r : RepK K cm F L ks vs) (q : Rep K cm F L d v) : RepK K cm F L (pt ks k d) (putK vs k v) := by
  have hany : ∀ {ks : List (Key × Mp.D)} {vs : List (Key × V)}, RepK K cm F L ks vs → (ks.any fun kv => decide (kv.1 = k)) = (vs.any fun kv => decide (kv.1 = k)) := by
    intro ks
    induction ks with
    | nil => intro vs r; cases r; rfl
    | cons p ks ih =>
      intro vs r
      cases r with
      | cons r t => simp only [List.any_cons]; rw [ih t]
  have hmap : ∀ {ks : List (Key × Mp.D)} {vs : List (Key × V)}, RepK K cm F L ks vs → RepK K cm F L (ks.map fun kv => if kv.1 = k then (kv.1, d) else kv) (vs.map fun kv => if kv.1 = k then (kv.1, v) else kv) := by
    intro ks
    induction ks with
    | nil => intro vs r; cases r; exact .nil
    | cons p ks ih =>
      intro vs r
      cases r with
      | @cons k' d' _ v' vs' r t =>
        simp only [List.map_cons]
        by_cases e : k' = k
        · rw [if_pos e, if_pos e]; exact .cons q (ih t)
        · rw [if_neg e, if_neg e]; exact .cons r (ih t)
  have happ : ∀ {ks : List (Key × Mp.D)} {vs : List (Key × V)}, RepK K cm F L ks vs → RepK K cm F L (ks ++ [(k, d)]) (vs ++ [(k, v)]) := by
    intro ks
    induction ks with
    | nil => intro vs r; cases r; exact .cons q .nil
    | cons p ks ih =>
      intro vs r
      cases r with
      | cons r t => exact .cons r (ih t)
  unfold pt putK
  rw [hany r]
  split
  · exact hmap r
  · exact happ r
theorem pt_len (k : Key) (d : Mp.D) (ks : List (Key × Mp.D)) : (pt ks k d).length ≤ ks.length + 1 := by
  unfold pt
  split <;> simp
theorem foldl_pt_len : ∀ (l a : List (Key × Mp.D)), (l.foldl (fun a p => pt a p.1 p.2) a).length ≤ a.length + l.length
  | [], a => by simp
  | p :: l, a => by
    have h1 := foldl_pt_len l (pt a p.1 p.2)
    have h2 := pt_len p.1 p.2 a
    simp only [List.foldl_cons, List.length_cons]
    omega
theorem ptAll_len (l : List (Key × Mp.D)) : (ptAll l).length ≤ l.length := by
  have := foldl_pt_len l []
  unfold ptAll
  simpa using this
theorem repK_len {ks : List (Key × Mp.D)} {vs : List (Key × V)} (r : RepK K cm F L ks vs) : ks.length = vs.length := (repK_get r).1
theorem key1_rep {kd : Mp.D} {k : Key} {v : V} (h : key1 kd = some k) (vw : Vw K cm H F L kd v) : v = kV k := by
  cases kd <;> first | (cases h; done) | skip
  · cases h; exact vw_int vw
  · cases h; exact vw_str vw
theorem bodyK_ok {all : List (Key × Mp.D)} (h : Bdy K cm (holdK K cm) D σ2 (bodyK Tt Tk Tv) H m all N) (hz : all.length ≤ sizeLine) :
    aT K cm Tt σ2 H fun b H3 => if b = true then aE K cm Tk σ2 H3 fun y H4 => aEl K cm Tv σ2 H4 fun z H5 => ∃ kvs k, y = kV k ∧ H5 D = some (.dK kvs) ∧ kvs.length < sizeLine ∧ ∃ m', m' < m ∧ N m' (upd H5 D (.dK (putK kvs k z))) else ∃ m', m' < m ∧ N m' H3 := by
  obtain ⟨sb, lb, sc, dn, rest, F, L, o, hB, e1, gd, hD, ⟨vs, rfl, r⟩, k⟩ := h
  have g := gd.undel hD
  have hT : ∀ ws, HO.dK vs ≠ .tup ws := fun ws z => by cases z
  have hB : ((Tt sb).bind fun p => if p.1 = true then (Tk p.2).bind fun q => (q.1.d q.2).bind fun kd => (key1 kd).bind fun kk => (Tv q.2).bind fun u => (take u.1 u.2).bind fun w => some ([(kk, w.1)], w.2) else some ([], p.2)) = some (lb, sc) := hB
  obtain ⟨⟨b, s3⟩, hb, hB⟩ := obind hB
  refine ⟨sb, b, s3, hb, F, L, g, fun H3 F3 L3 g3 x3 => ?_⟩
  obtain ⟨hD3, gd3, xd3⟩ := Ext.del gd x3 g3 hD hT
  cases b with
  | false =>
    rw [if_neg Bool.false_ne_true]
    rw [if_neg Bool.false_ne_true] at hB
    cases hB
    exact k H3 F3 L3 _ gd3 xd3 hD3 ⟨vs, rfl, by rw [List.append_nil]; exact r.mono x3.sub x3.pre⟩
  | true =>
    rw [if_pos rfl] at hB ⊢
    obtain ⟨⟨t, s4⟩, ht, hB⟩ := obind hB
    obtain ⟨kd, hkd, hB⟩ := obind hB
    obtain ⟨kk, hkk, hB⟩ := obind hB
    obtain ⟨⟨u, s5⟩, hu, hB⟩ := obind hB
    obtain ⟨⟨d, s6⟩, hk, hB⟩ := obind hB
    cases hB
    refine ⟨s3, t, s4, ht, F3, L3, g3, fun v H4 F4 L4 g4 x4 q4 n4 => ?_⟩
    obtain ⟨hD4, gd4, xd4⟩ := Ext.del gd3 x4 g4 hD3 hT
    refine ⟨s4, u, s5, hu, F4, L4, g4, fun w H5 F5 L5 g5 x5 q5 n5 => ?_⟩
    refine (take_ok g5 g4 x5 q5 n5 hk).imp fun H6 ⟨F6, g6, x6, r6, _, _⟩ => ?_
    obtain ⟨hD6, gd6, xd6⟩ := Ext.del gd4 x6 g6 hD4 hT
    have r' := r.mono (xd3.sub.trans (xd4.sub.trans xd6.sub)) (x3.pre.trans (x4.pre.trans x6.pre))
    refine ⟨vs, kk, key1_rep hkk (q4.vw g4 hkd), hD6, ?_, k _ F6 L5 (.dK (putK vs kk w)) (by rw [del_upd]; exact gd6) (by rw [del_upd]; exact xd3.then gd3 (xd4.then gd4 xd6)) upd_same ⟨_, rfl, ?_⟩⟩
    · rw [← repK_len r']
      have := ptAll_len dn
      rw [e1] at hz
      simp only [List.length_append, List.length_cons, List.length_nil] at hz
      omega
    · have e : ptAll (dn ++ [(kk, d)]) = pt (ptAll dn) kk d := by unfold ptAll; rw [List.foldl_append]; rfl
      rw [e]
      exact rel_pt r' r6
end
end Mp
/-! Mp, part M: comprehensions. -/
namespace Mp
open PySem PySem.Spec PyProof.Rows L2 RZ
section
variable {α : Type} {K : Fr0} {cm : Str → Option Addr} {σ σw σ2 : L2.St} {s s0 s1 s2 s' : St} {H F H' F' H0 H1 F0 F1 : Hp} {L L0 L1 L' : List Addr} {D : Addr} {m : Nat} {N : Nat → Hp → Prop} {Tt Tt2 : St → Option (Bool × St)} {Te Tk Tv : St → Option (Tmp × St)} {It : St → Option (Src × St)}
  {tg tg2 : Tg} {own : List Nat} {src : Src} {J : L2.It} {B : St → Option (List α × St)} {l l0 : List α} {o : HO} {Hd : Hold α}
theorem wipe_hw (σ : L2.St) (own : List Nat) : ∀ (j : Nat) (v : V), (wipe σ own)[j]? = some (some v) → σ[j]? = some (some v) := fun j v h => (wipe_some h).1
theorem wiped_none (s : St) (own : List Nat) : ∀ i ∈ own, (s.wipe own).get i = none := fun i hi => by rw [get_wipe, if_pos hi]
/-- a block's loop at its start -/
theorem trn_start (g : Good K cm s1 σ (del H D) F L) (hD : H D = some o) (hd : Hd.is o F L l0) (run : gats (stepB tg own B) src (s1.wipe own) = some (l, s2)) : ∃ m, Trn K cm Hd D (wipe σ own) (s1.wipe own) (del H D) F L tg own B src l0 l s2 0 m H := by
  obtain ⟨m, go⟩ := go_start run
  exact ⟨m, [], l, _, F, L, o, rfl, go, g.wiped own, Ext.refl, hD, by rw [List.append_nil]; exact hd⟩
theorem gOf_imp {Q Q' : L2.St → Hp → Prop} {v : V} (h : gOf K tg v σ H Q) (k : ∀ σ H, Q σ H → Q' σ H) : gOf K tg v σ H Q' := by
  cases tg with
  | nm i => exact k _ _ h
  | tp is =>
    obtain ⟨a, xs, e1, e2, e3, h⟩ := h
    refine ⟨a, xs, e1, e2, e3, ?_⟩
    clear e1 e2 e3
    induction is generalizing xs σ with
    | nil => exact ⟨h.1, k _ _ h.2⟩
    | cons i is ih =>
      obtain ⟨v, r, e, h⟩ := h
      exact ⟨v, r, e, ih _ h⟩
/-- an inner loop -/
theorem inner_ok {all : List Mp.D} (h : Bdy K cm (holdL K cm) D σ2 (body2 Tt It tg2 (bodyL Tt2 Te)) H m all N) (hz : all.length ≤ sizeLine) :
    aT K cm Tt σ2 H fun b H3 => if b = true then aI K cm It σ2 H3 fun J1 H4 => ∃ W1 : Nat → Nat → Hp → Prop, (∃ m, W1 0 m H4) ∧ ∀ j k H, W1 j k H →
      (J1.stop j H ∧ ∃ m', m' < m ∧ N m' H) ∨ (J1.go j H ∧ ∃ Nx1 : Hp → Prop, (∀ H', Nx1 H' → ∃ k', k' < k ∧ W1 (j + 1) k' H') ∧ ∀ x H', J1.yld j H x H' → gOf K tg2 x (wipe σ2 (slotsT tg2)) H' fun σ3 H5 => wipe σ3 (slotsT tg2) = wipe σ2 (slotsT tg2) ∧ aT K cm Tt2 σ3 H5 fun b H6 =>
        if b = true then aEl K cm Te σ3 H6 fun y H7 => ∃ acc, H7 D = some (.lst acc) ∧ acc.length < sizeLine ∧ Nx1 (upd H7 D (.lst (acc ++ [y]))) else Nx1 H6)
    else ∃ m', m' < m ∧ N m' H3 := by
  obtain ⟨sb, lb, sc, dn, rest, F, L, o, hB, e1, gd, hD, ⟨vs, rfl, r⟩, k⟩ := h
  have g := gd.undel hD
  have hT : ∀ ws, HO.lst vs ≠ .tup ws := fun ws z => by cases z
  have hB : ((Tt sb).bind fun p => if p.1 = true then (It p.2).bind fun q => (gats (stepB tg2 (slotsT tg2) (bodyL Tt2 Te)) q.1 (q.2.wipe (slotsT tg2))).bind fun w => some (w.1, w.2.back q.2 (slotsT tg2)) else some ([], p.2)) = some (lb, sc) := hB
  obtain ⟨⟨b, s3⟩, hb, hB⟩ := obind hB
  refine ⟨sb, b, s3, hb, F, L, g, fun H3 F3 L3 g3 x3 => ?_⟩
  obtain ⟨hD3, gd3, xd3⟩ := Ext.del gd x3 g3 hD hT
  cases b with
  | false =>
    rw [if_neg Bool.false_ne_true]
    rw [if_neg Bool.false_ne_true] at hB
    cases hB
    exact k H3 F3 L3 _ gd3 xd3 hD3 ⟨vs, rfl, by rw [List.append_nil]; exact r.mono x3.sub x3.pre⟩
  | true =>
    rw [if_pos rfl] at hB ⊢
    obtain ⟨⟨src, s4⟩, hi, hB⟩ := obind hB
    obtain ⟨⟨l, s5⟩, run, hB⟩ := obind hB
    cases hB
    refine ⟨s3, src, s4, hi, F3, L3, g3, fun J H4 F4 L4 g4 x4 so => ?_⟩
    obtain ⟨hD4, gd4, xd4⟩ := Ext.del gd3 x4 g4 hD3 hT
    obtain ⟨m0, t0⟩ := trn_start (Hd := holdL K cm) gd4 hD4 (l0 := dn) ⟨vs, rfl, r.mono (xd3.sub.trans xd4.sub) (x3.pre.trans x4.pre)⟩ run
    refine ⟨Trn K cm (holdL K cm) D (wipe σ2 (slotsT tg2)) (s4.wipe (slotsT tg2)) (del H4 D) F4 L4 tg2 (slotsT tg2) (bodyL Tt2 Te) src dn l s5, ⟨m0, t0⟩, fun j kk H5 t => ?_⟩
    rcases turn_ok so (wipe_hw σ2 _) (wipeS_idem σ2 _) (fun i h => h) (wiped_none s4 _) (Sub.refl F4) (Pfx.refl L4) t with ⟨h1, F6, L6, o6, g6, x6, h6, hd6⟩ | ⟨h1, h2⟩
    · exact .inl ⟨h1, k H5 F6 L6 o6 (gd4.back g6 x6) (xd3.then gd3 (xd4.then gd4 (Ext.back gd4 g6 x6))) h6 hd6⟩
    · refine .inr ⟨h1, fun H' => ∃ m', m' < kk ∧ Trn K cm (holdL K cm) D (wipe σ2 (slotsT tg2)) (s4.wipe (slotsT tg2)) (del H4 D) F4 L4 tg2 (slotsT tg2) (bodyL Tt2 Te) src dn l s5 (j + 1) m' H', fun H' h => h, fun x H' y => ?_⟩
      refine gOf_imp (h2 x H' y) fun σ3 H6 ⟨e, b⟩ => ⟨e, ?_⟩
      exact bodyL_ok b (by rw [e1] at hz; simp only [List.length_append] at hz ⊢; omega)
/-- [el for tg in it if ..] -/
theorem lc_tr {l : List Mp.D} {Q : VK} (hin : ∀ i ∈ slotsT tg, i ∈ own) (run : gats (stepB tg own (bodyL Tt Te)) src (s1.wipe own) = some (l, s2)) (hz : l.length ≤ sizeLine) (h : tE K cm s (.v (.lst l) true) (s2.back s1 own) σ H Q) :
    tLc (tI K cm s src s1) (gOf K tg) (aT K cm Tt) (aEl K cm Te) own σ H Q := by
  obtain ⟨F, L, g, k⟩ := h
  refine ⟨F, L, g, fun J H1 F1 L1 g1 x1 so D hD => ?_⟩
  have e0 : del (upd H1 D (.lst [])) D = H1 := del_new hD
  obtain ⟨m0, t0⟩ := trn_start (Hd := holdL K cm) (H := upd H1 D (.lst [])) (D := D) (by rw [e0]; exact g1) upd_same (l0 := []) ⟨[], rfl, .nil⟩ run
  refine ⟨_, ⟨m0, t0⟩, fun i m H5 t => ?_⟩
  rcases turn_ok so (wipe_hw σ _) (wipeS_idem σ _) hin (wiped_none s1 _) (Sub.refl F1) (Pfx.refl L1) t with ⟨h1, F6, L6, o6, g6, x6, h6, ⟨vs, rfl, r6⟩⟩ | ⟨h1, h2⟩
  · refine .inl ⟨h1, ?_⟩
    rw [e0] at x6
    have x7 := Ext.undel x6
    have g7 := g6.undel h6
    refine k (.ref D) H5 F6 L6 (g1.back g7 x7) (x1.then g1 (Ext.back g1 g7 x7)) ⟨D, rfl, g6.fnone del_same, fun z => g6.dL z del_same, ⟨vs, h6, r6⟩, fun z => ?_⟩ fun d a _ e => ?_
    · exact g1.dO ((Ext.back g1 g7 x7).own z) hD
    · cases e; exact x1.gone hD
  · exact .inr ⟨h1, fun H' => ∃ m', m' < m ∧ _, fun H' h => h, fun x H' y => gOf_imp (h2 x H' y) fun σ3 H6 ⟨e, b⟩ => ⟨e, bodyL_ok b (by simpa using hz)⟩⟩
theorem lc2_tr {l : List Mp.D} {Q : VK} (hin : ∀ i ∈ slotsT tg, i ∈ own) (run : gats (stepB tg own (body2 Tt It tg2 (bodyL Tt2 Te))) src (s1.wipe own) = some (l, s2)) (hz : l.length ≤ sizeLine) (h : tE K cm s (.v (.lst l) true) (s2.back s1 own) σ H Q) :
    tLc2 (tI K cm s src s1) (gOf K tg) (aT K cm Tt) (aI K cm It) (gOf K tg2) (aT K cm Tt2) (aEl K cm Te) own (slotsT tg2) σ H Q := by
  obtain ⟨F, L, g, k⟩ := h
  refine ⟨F, L, g, fun J H1 F1 L1 g1 x1 so D hD => ?_⟩
  have e0 : del (upd H1 D (.lst [])) D = H1 := del_new hD
  obtain ⟨m0, t0⟩ := trn_start (Hd := holdL K cm) (H := upd H1 D (.lst [])) (D := D) (by rw [e0]; exact g1) upd_same (l0 := []) ⟨[], rfl, .nil⟩ run
  refine ⟨_, ⟨m0, t0⟩, fun i m H5 t => ?_⟩
  rcases turn_ok so (wipe_hw σ _) (wipeS_idem σ _) hin (wiped_none s1 _) (Sub.refl F1) (Pfx.refl L1) t with ⟨h1, F6, L6, o6, g6, x6, h6, ⟨vs, rfl, r6⟩⟩ | ⟨h1, h2⟩
  · refine .inl ⟨h1, ?_⟩
    rw [e0] at x6
    have x7 := Ext.undel x6
    have g7 := g6.undel h6
    refine k (.ref D) H5 F6 L6 (g1.back g7 x7) (x1.then g1 (Ext.back g1 g7 x7)) ⟨D, rfl, g6.fnone del_same, fun z => g6.dL z del_same, ⟨vs, h6, r6⟩, fun z => ?_⟩ fun d a _ e => ?_
    · exact g1.dO ((Ext.back g1 g7 x7).own z) hD
    · cases e; exact x1.gone hD
  · exact .inr ⟨h1, fun H' => ∃ m', m' < m ∧ _, fun H' h => h, fun x H' y => gOf_imp (h2 x H' y) fun σ3 H6 ⟨e, b⟩ => ⟨e, inner_ok b (by simpa using hz)⟩⟩
/-- {k: v for tg in it if ..} -/
theorem dc_tr {l : List (Key × Mp.D)} {Q : VK} (hin : ∀ i ∈ slotsT tg, i ∈ own) (run : gats (stepB tg own (bodyK Tt Tk Tv)) src (s1.wipe own) = some (l, s2)) (hz : l.length ≤ sizeLine) (h : tE K cm s (.v (.dK (ptAll l)) true) (s2.back s1 own) σ H Q) :
    tDc (tI K cm s src s1) (gOf K tg) (aT K cm Tt) (aE K cm Tk) (aEl K cm Tv) own σ H Q := by
  obtain ⟨F, L, g, k⟩ := h
  refine ⟨F, L, g, fun J H1 F1 L1 g1 x1 so D hD => ?_⟩
  have e0 : del (upd H1 D (.dK [])) D = H1 := del_new hD
  obtain ⟨m0, t0⟩ := trn_start (Hd := holdK K cm) (H := upd H1 D (.dK [])) (D := D) (by rw [e0]; exact g1) upd_same (l0 := []) ⟨[], rfl, .nil⟩ run
  refine ⟨_, ⟨m0, t0⟩, fun i m H5 t => ?_⟩
  rcases turn_ok so (wipe_hw σ _) (wipeS_idem σ _) hin (wiped_none s1 _) (Sub.refl F1) (Pfx.refl L1) t with ⟨h1, F6, L6, o6, g6, x6, h6, ⟨vs, rfl, r6⟩⟩ | ⟨h1, h2⟩
  · refine .inl ⟨h1, ?_⟩
    rw [e0] at x6
    have x7 := Ext.undel x6
    have g7 := g6.undel h6
    refine k (.ref D) H5 F6 L6 (g1.back g7 x7) (x1.then g1 (Ext.back g1 g7 x7)) ⟨D, rfl, g6.fnone del_same, fun z => g6.dL z del_same, ⟨vs, h6, r6⟩, fun z => ?_⟩ fun d a _ e => ?_
    · exact g1.dO ((Ext.back g1 g7 x7).own z) hD
    · cases e; exact x1.gone hD
  · exact .inr ⟨h1, fun H' => ∃ m', m' < m ∧ _, fun H' h => h, fun x H' y => gOf_imp (h2 x H' y) fun σ3 H6 ⟨e, b⟩ => ⟨e, bodyK_ok b (by simpa using hz)⟩⟩
end
end Mp
/-! Mp, part N: statements. -/
namespace Mp
open PySem PySem.Spec PyProof.Rows L2 RZ

/-! ### a body's run, from its entry -/
/-- the state of a body that was entered at b0, H0, F0, L0 -/
structure Bo (K : Fr0) (cm : Str → Option Addr) (b0 : List (List Int)) (H0 F0 : Hp) (L0 : List Addr) (s : St) (σ : L2.St) (H F : Hp) (L : List Addr) : Prop where
  g : Good K cm s σ H F L
  x : Ext [] ⟨[], b0⟩ H0 F0 L0 ⟨[], s.b⟩ H F L
  own : ∀ a, Own s σ a → H0 a = none
section
variable {K : Fr0} {cm : Str → Option Addr} {b0 : List (List Int)} {σ σ' : L2.St} {s s1 s2 s' : St} {H F H' F' H0 F0 H1 F1 : Hp} {L L0 L1 L' : List Addr} {t : Tmp} {ts : List Tmp} {vs : List V} {v : V} {d : D} {a : Addr} {o : HO}
theorem ext0_slots {s s' s1 s1' : List (Option (D × Bool))} {b b1 b' b1' : List (List Int)} (x : Ext [] ⟨[], b⟩ H F L ⟨[], b'⟩ H' F' L') : Ext [] ⟨[], b1⟩ H F L ⟨[], b1'⟩ H' F' L' := by
  have no : ∀ {b : List (List Int)} {a : Addr}, ¬ Own ⟨[], b⟩ [] a := fun {b a} => not_own0
  refine ⟨x.sub, fun a h => ?_, x.pre, x.newL, fun a o h _ hl => x.frame a o h no hl, x.dom, fun i d h => by simp [St.get] at h, fun i p h => by simp [St.get] at h, fun i d h => by simp [St.get] at h, fun i h => by simp [St.get]⟩
  rcases x.new a h with z | z | z | z
  · exact .inl z
  · exact .inr (.inl z)
  · exact absurd z no
  · exact .inr (.inr (.inr z))
/-- an expression's run within -/
theorem Bo.step (b : Bo K cm b0 H0 F0 L0 s σ H F L) (g : Good K cm s1 σ' H' F' L') (x : Ext σ s H F L s' H' F' L') (ho : ∀ a, Own s1 σ' a → Own s σ a ∨ H a = none) : Bo K cm b0 H0 F0 L0 s1 σ' H' F' L' where
  g := g
  x := by
    refine ⟨b.x.sub.trans x.sub, fun a h => ?_, b.x.pre.trans x.pre, fun a h => ?_, fun a u h _ hl => ?_, fun a h => x.dom a (b.x.dom a h), fun i d h => by simp [St.get] at h, fun i p h => by simp [St.get] at h, fun i d h => by simp [St.get] at h, fun i h => by simp [St.get]⟩
    · rcases x.new a h with z | z | z | ⟨vs, z⟩
      · rcases b.x.new a z with w | w | w | w
        · exact .inl w
        · exact .inr (.inl w)
        · exact absurd w not_own0
        · exact .inr (.inr (.inr w))
      · exact .inr (.inl (b.x.gone z))
      · exact .inr (.inl (b.own a z))
      · by_cases q : H0 a = none
        · exact .inr (.inl q)
        · obtain ⟨u, hu⟩ := Option.ne_none_iff_exists'.mp q
          by_cases hl : a ∈ L0
          · exfalso
            obtain ⟨k, hk⟩ := List.getElem?_of_mem hl
            have : a ∈ L := List.mem_of_getElem? (b.x.pre k a hk)
            exact b.g.noT this z
          · have := b.x.frame a u hu not_own0 hl
            rw [z] at this; cases this
            exact .inr (.inr (.inr ⟨vs, hu⟩))
    · rcases x.newL a h with z | z
      · exact b.x.newL a z
      · exact .inr (b.x.gone z)
    · have h1 := b.x.frame a u h not_own0 hl
      refine x.frame a u h1 (fun z => by rw [b.own a z] at h; cases h) fun z => ?_
      rcases b.x.newL a z with w | w
      · exact hl w
      · rw [w] at h; cases h
  own := fun a h => by
    rcases ho a h with z | z
    · exact b.own a z
    · exact b.x.gone z
theorem Bo.expr (b : Bo K cm b0 H0 F0 L0 s σ H F L) (g : Good K cm s' σ H' F' L') (x : Ext σ s H F L s' H' F' L') : Bo K cm b0 H0 F0 L0 s' σ H' F' L' := b.step g x fun a h => .inl (x.own h)
/-- what is wanted behind a statement -/
def PostS (K : Fr0) (cm : Str → Option Addr) (b0 : List (List Int)) (H0 F0 : Hp) (L0 : List Addr) (F : Hp) (L : List Addr) (fl : Fl) (s' : St) (D : Ends) : Prop := match fl with
  | .nx => ∀ σ' H' F' L', Bo K cm b0 H0 F0 L0 s' σ' H' F' L' → Sub F F' → Pfx L L' → D.nx σ' H'
  | .rt d fr => ∀ v H' F' L', Good K cm ⟨[], s'.b⟩ [] H' F' L' → Ext [] ⟨[], b0⟩ H0 F0 L0 ⟨[], s'.b⟩ H' F' L' → TRep K cm ⟨[], s'.b⟩ [] H' F' L' (.v d fr) v → (fr = true → ∀ a, v = .ref a → H0 a = none) → D.rt v H'
def tS (K : Fr0) (cm : Str → Option Addr) (s : St) (fl : Fl) (s' : St) : TS := fun D σ H => ∃ b0 H0 F0 L0 F L, Bo K cm b0 H0 F0 L0 s σ H F L ∧ PostS K cm b0 H0 F0 L0 F L fl s' D
theorem PostS.up {fl : Fl} {D : Ends} (p : PostS K cm b0 H0 F0 L0 F L fl s' D) (h : Sub F F1) (h2 : Pfx L L1) : PostS K cm b0 H0 F0 L0 F1 L1 fl s' D := by
  cases fl with
  | nx => exact fun σ' H' F' L' b i j => p σ' H' F' L' b (h.trans i) (h2.trans j)
  | rt d fr => exact p
/-- a return -/
theorem PostS.ret {D : Ends} {fr : Bool} (p : PostS K cm b0 H0 F0 L0 F1 L1 (.rt d fr) s' D) (b : Bo K cm b0 H0 F0 L0 s' σ H F L) (q : TRep K cm s' σ H F L (.v d fr) v) (n : fr = true → ∀ a, v = .ref a → H0 a = none) : D.rt v H := by
  refine p v H F L ?_ (ext0_slots (s := []) (s' := []) (s1 := []) (s1' := []) b.x) ?_ n
  · exact ⟨b.g.sub, rfl, fun i d h => by simp [St.get] at h, fun i d h => by simp [St.get] at h, fun i j d e a _ h => by simp [St.get] at h, b.g.box, b.g.lenB, b.g.nd⟩
  · cases fr with
    | false => exact q
    | true =>
      obtain ⟨a, h1, h2, h3, h4, _⟩ := q
      exact ⟨a, h1, h2, h3, h4, not_own0⟩
end
theorem _root_.L2.PS.imp {X : Cx} {st : Stmt} {t t' : TS} (h : PS X st t) (k : ∀ D σ H, t' D σ H → t D σ H) : PS X st t' := ⟨fun pins s σ H D I q => h.run pins s σ H D I (k D σ H q)⟩
theorem _root_.L2.PSs.imp {X : Cx} {st : List Stmt} {t t' : TS} (h : PSs X st t) (k : ∀ D σ H, t' D σ H → t D σ H) : PSs X st t' := ⟨fun pins s σ H D I q => h.run pins s σ H D I (k D σ H q)⟩
section
variable {X : Cx} {cm : Str → Option Addr} {s s1 s2 s' : St} {t : Tmp} {ts : List Tmp} {fl : Fl} {e c : Expr} {st : Stmt} {rest body : List Stmt} {pos : Pos}
theorem rs_nil : PSs X [] (tS X.K cm s .nx s) := pss_nil.imp fun D σ H ⟨b0, H0, F0, L0, F, L, b, p⟩ => p σ H F L b (Sub.refl F) (Pfx.refl L)
theorem rs_cons (h1 : PS X st (tS X.K cm s .nx s1)) (h2 : PSs X rest (tS X.K cm s1 fl s2)) : PSs X (st :: rest) (tS X.K cm s fl s2) :=
  (pss_cons h1 h2).imp fun D σ H ⟨b0, H0, F0, L0, F, L, b, p⟩ => ⟨b0, H0, F0, L0, F, L, b, fun σ' H' F' L' b' i j => ⟨b0, H0, F0, L0, F', L', b', p.up i j⟩⟩
theorem rs_stop {d : D} {fr : Bool} (h1 : PS X st (tS X.K cm s (.rt d fr) s1)) : PSs X (st :: rest) (tS X.K cm s (.rt d fr) s1) :=
  (pss_cons h1 pss_never).imp fun D σ H ⟨b0, H0, F0, L0, F, L, b, p⟩ => ⟨b0, H0, F0, L0, F, L, b, p⟩
theorem rs_pass : PS X (.Pass pos) (tS X.K cm s .nx s) := ps_pass.imp fun D σ H ⟨b0, H0, F0, L0, F, L, b, p⟩ => p σ H F L b (Sub.refl F) (Pfx.refl L)
theorem rs_ex (h : PE X e (tE X.K cm s t s1)) (hs : swapsWith e none pos.line X.env = pure false) : PS X (.Expr e pos) (tS X.K cm s .nx s1) :=
  (ps_expr h hs).imp fun D σ H ⟨b0, H0, F0, L0, F, L, b, p⟩ => ⟨F, L, b.g, fun v H1 F1 L1 g1 x1 _ _ => p σ H1 F1 L1 (b.expr g1 x1) x1.sub x1.pre⟩
theorem rs_ret {d : D} {fr : Bool} (h : PE X e (tE X.K cm s t s1)) (ht : t = .v d fr ∨ ∃ i, t = .x i ∧ s1.get i = some (d, fr)) : PS X (.Return (some e) pos) (tS X.K cm s (.rt d fr) s1) :=
  (ps_ret h).imp fun D σ H ⟨b0, H0, F0, L0, F, L, b, p⟩ => ⟨F, L, b.g, fun v H1 F1 L1 g1 x1 q1 n1 => by
    have b1 := b.expr g1 x1
    rcases ht with rfl | ⟨i, rfl, hi⟩
    · refine p.ret b1 q1 fun e a ea => ?_
      subst e
      exact b.x.gone (n1 d a rfl ea)
    · obtain ⟨_, h1, h2⟩ := q1
      rw [hi] at h1; cases h1
      cases fr with
      | false =>
        obtain ⟨w, h3, h4⟩ := g1.pure i d hi
        rw [h2] at h3; cases h3
        exact p.ret b1 (show TRep X.K cm s1 σ H1 F1 L1 (.v d false) v from h4) fun e => by cases e
      | true =>
        obtain ⟨a, h3, h4, h5, h6⟩ := g1.own i d hi
        rw [h2] at h3; cases h3
        have b2 : Bo X.K cm b0 H0 F0 L0 ⟨[], s1.b⟩ [] H1 F1 L1 := ⟨⟨b1.g.sub, rfl, fun i d h => by simp [St.get] at h, fun i d h => by simp [St.get] at h, fun i j d e a _ h => by simp [St.get] at h, b1.g.box, b1.g.lenB, b1.g.nd⟩, ext0_slots (s := []) (s' := []) (s1 := []) (s1' := []) b1.x, fun a z => absurd z not_own0⟩
        exact PostS.ret (s' := ⟨[], s1.b⟩) (F1 := F) (L1 := L) p b2 ⟨a, rfl, h4, h5, h6, not_own0⟩ fun _ a' e => by cases e; exact b1.own a ⟨i, d, hi, h2⟩⟩
theorem rs_iff {a b : List Stmt} {r : Bool} (hc : PT X c (tTs X.K cm s r s1)) (ha : r = true → PSs X a (tS X.K cm s1 fl s2)) (hb : r = false → PSs X b (tS X.K cm s1 fl s2)) : PS X (.If c a b pos) (tS X.K cm s fl s2) := by
  cases r with
  | true => exact (ps_if hc (ha rfl) pss_never).imp fun D σ H ⟨b0, H0, F0, L0, F, L, b, p⟩ => ⟨F, L, b.g, fun H1 F1 L1 g1 x1 => by show (if true = true then _ else _); rw [if_pos rfl]; exact ⟨b0, H0, F0, L0, F1, L1, b.expr g1 x1, p.up x1.sub x1.pre⟩⟩
  | false => exact (ps_if hc pss_never (hb rfl)).imp fun D σ H ⟨b0, H0, F0, L0, F, L, b, p⟩ => ⟨F, L, b.g, fun H1 F1 L1 g1 x1 => by show (if false = true then _ else _); rw [if_neg Bool.false_ne_true]; exact ⟨b0, H0, F0, L0, F1, L1, b.expr g1 x1, p.up x1.sub x1.pre⟩⟩
end

/-! ### stores -/
def sets (σ : L2.St) : List Nat → List V → L2.St
  | i :: is, v :: vs => sets (σ.set i (some v)) is vs
  | _, _ => σ
section
variable {K : Fr0} {cm : Str → Option Addr} {b0 : List (List Int)} {σ σ' : L2.St} {s s1 s2 s' s0 : St} {H F H' F' H0 F0 H1 F1 : Hp} {L L0 L1 L' : List Addr} {t : Tmp} {ts : List Tmp} {vs : List V} {v : V} {d : D} {a : Addr} {o : HO}
theorem gNames_sets : ∀ {is : List Nat} {vs : List V} {σ : L2.St} {Q : L2.St → Hp → Prop}, vs.length = is.length → Q (sets σ is vs) H → gNames is vs σ H Q
  | [], [], _, _, _, h => ⟨rfl, h⟩
  | [], _ :: _, _, _, hl, _ => by simp at hl
  | i :: is, [], _, _, hl, _ => by simp at hl
  | i :: is, v :: vs, σ, Q, hl, h => ⟨v, vs, rfl, gNames_sets (by simpa using hl) h⟩
def tmp (p : D × Bool) : Tmp := .v p.1 p.2
theorem setl_ok (g0 : Good K cm s0 σ H0 F0 L0) : ∀ {ts : List Tmp} {vs : List V} {s s' : St} {H F : Hp} {ps : List (D × Bool)}, Good K cm s σ H F L → Ext σ s0 H0 F0 L0 s H F L → TReps K cm s σ H F L ts vs → News H0 ts vs → setl ts s = some (ps, s') →
    Lk H fun H' => ∃ F', Good K cm s' σ H' F' L ∧ Ext σ s0 H0 F0 L0 s' H' F' L ∧ TReps K cm s' σ H' F' L (ps.map tmp) vs ∧ News H0 (ps.map tmp) vs ∧ frA (ps.map tmp) vs = frA ts vs ∧ Fz s s' ∧ Sub F F' ∧ ∀ a, ¬ Own s σ a → F' a = F a ∧ H' a = H a
  | [], _, s, s', H, F, ps, g, x, q, n, h => by
    cases q
    cases h
    exact .ret ⟨F, g, x, .nil, ⟨fun _ h => by simp [frA] at h, List.nodup_nil⟩, rfl, Fz.refl s, Sub.refl F, fun _ _ => ⟨rfl, rfl⟩⟩
  | .v d fr :: ts, _, s, s', H, F, ps, g, x, q, n, h => by
    cases q with
    | @cons _ v _ vs q1 q2 =>
      have h' : (setl ts s).bind (fun p => some ((d, fr) :: p.1, p.2)) = some (ps, s') := h
      obtain ⟨⟨r, s2⟩, h1, h2⟩ := obind h'
      cases h2
      refine (setl_ok g0 g x q2 n.tail h1).imp fun H2 ⟨F2, g2, x2, q3, n2, fe, z2, u2, c2⟩ => ?_
      have fe' : frA (tmp (d, fr) :: r.map tmp) (v :: vs) = frA (.v d fr :: ts) (v :: vs) := by
        cases fr with
        | false => simpa [frA, tmp] using fe
        | true => cases v <;> simpa [frA, tmp] using fe
      refine ⟨F2, g2, x2, .cons ?_ q3, ⟨fun a h => n.new a (fe' ▸ h), by show (frA (tmp (d, fr) :: r.map tmp) (v :: vs)).Nodup; rw [fe']; exact n.nd⟩, fe', z2, u2, c2⟩
      cases fr with
      | false => exact Rep.mono u2 (Pfx.refl L) q1
      | true =>
        obtain ⟨a, rfl, k1, k2, k3, k4⟩ := q1
        obtain ⟨e1, e2⟩ := c2 a k4
        exact ⟨a, rfl, e1.trans k1, k2, k3.mono u2 (Pfx.refl L) e2, fun z => k4 (z2.own z)⟩
  | .x i :: ts, _, s, s', H, F, ps, g, x, q, n, h => by
    cases q with
    | @cons _ v _ vs q1 q2 =>
      have h' : (s.get i).bind (fun p => (setl ts (s.frz i)).bind fun r => some ((p.1, false) :: r.1, r.2)) = some (ps, s') := h
      obtain ⟨p, hp, h2⟩ := obind h'
      obtain ⟨⟨r, s2⟩, h1, h3⟩ := obind h2
      cases h3
      have ht : take (.x i) s = some (p.1, s.frz i) := by show (s.get i).bind (fun p => some (p.1, s.frz i)) = _; rw [hp]; rfl
      refine (take_ok g g0 x q1 (fun d b e3 e4 => by cases e3) ht).bind fun H1 ⟨F1, g1, x1, r1, z1, c⟩ => ?_
      have q3 : TReps K cm (s.frz i) σ H1 F1 L ts vs ∧ Sub F F1 ∧ ∀ a, ¬ Own s σ a → F1 a = F a ∧ H1 a = H a := by
        rcases c with ⟨rfl, rfl⟩ | ⟨a, o, hf, rfl, rfl, hv, ho⟩
        · exact ⟨TReps.fz q2 z1, Sub.refl _, fun _ _ => ⟨rfl, rfl⟩⟩
        · rcases ho with ⟨d, ho⟩ | ho
          · cases ho
          · exact ⟨TReps.upd1 q2 hf z1 (Own.notFr q2 ho), sub_upd hf, fun b hb => by
              have ne : b ≠ a := fun z => hb (z ▸ ho)
              exact ⟨upd_ne ne, upd_ne ne⟩⟩
      refine (setl_ok g0 g1 x1 q3.1 n.tail h1).imp fun H2 ⟨F2, g2, x2, q4, n2, fe, z2, u2, c2⟩ => ?_
      have fe' : frA (tmp (p.1, false) :: r.map tmp) (v :: vs) = frA (.x i :: ts) (v :: vs) := by simpa [frA, tmp] using fe
      refine ⟨F2, g2, x2, .cons (Rep.mono u2 (Pfx.refl L) r1) q4, ⟨fun a h => n.new a (fe' ▸ h), by show (frA (tmp (p.1, false) :: r.map tmp) (v :: vs)).Nodup; rw [fe']; exact n.nd⟩, fe', z1.trans z2, q3.2.1.trans u2, fun a ha => ?_⟩
      obtain ⟨e1, e2⟩ := q3.2.2 a ha
      obtain ⟨e3, e4⟩ := c2 a fun z => ha (z1.own z)
      exact ⟨e3.trans e1, e4.trans e2⟩
/-- a fresh object in a slot -/
theorem Good.putO (g : Good K cm s σ H F L) (hf : F a = none) (hl : a ∉ L) (ht : Top K cm H F L d a) (hn : ¬ Own s σ a) (i : Nat) : Good K cm (s.put i d true) (σ.set i (some (.ref a))) H F L where
  sub := g.sub
  len := by simp [St.put, g.len]
  pure := fun j e h => by
    rw [get_put] at h
    split at h
    · cases h
    · rename_i q
      have : j ≠ i := fun z => q ⟨z, z ▸ get_lt h⟩
      rw [List.getElem?_set_ne (fun z => this z.symm)]
      exact g.pure j e h
  own := fun j e h => by
    rw [get_put] at h
    split at h
    · rename_i q
      obtain ⟨rfl, q⟩ := q
      cases h
      exact ⟨a, by rw [List.getElem?_set_self (by rw [← g.len]; exact q)], hf, hl, ht⟩
    · rename_i q
      have : j ≠ i := fun z => q ⟨z, z ▸ get_lt h⟩
      rw [List.getElem?_set_ne (fun z => this z.symm)]
      exact g.own j e h
  apart := fun j k e f b hjk h1 h2 h3 => by
    rw [get_put] at h1 h2
    split at h1
    · rename_i q
      obtain ⟨rfl, q⟩ := q
      rw [List.getElem?_set_self (by rw [← g.len]; exact q)] at h3
      cases h3
      split at h2
      · rename_i q'; exact absurd q'.1.symm hjk
      · rw [List.getElem?_set_ne hjk]
        exact fun z => hn ⟨k, f, h2, z⟩
    · rename_i q
      have n1 : j ≠ i := fun z => q ⟨z, z ▸ get_lt h1⟩
      rw [List.getElem?_set_ne (fun z => n1 z.symm)] at h3
      split at h2
      · rename_i q'
        obtain ⟨rfl, q'⟩ := q'
        rw [List.getElem?_set_self (by rw [← g.len]; exact q')]
        intro z
        cases z
        exact hn ⟨j, e, h1, h3⟩
      · rename_i q'
        have n2 : k ≠ i := fun z => q' ⟨z, z ▸ get_lt h2⟩
        rw [List.getElem?_set_ne (fun z => n2 z.symm)]
        exact g.apart j k e f b hjk h1 h2 h3
  box := g.box
  lenB := g.lenB
  nd := g.nd
theorem own_putO (h : Own (s.put i d true) (σ.set i (some (.ref a))) a') : a' = a ∨ Own s σ a' := by
  obtain ⟨j, e, h1, h2⟩ := h
  rw [get_put] at h1
  split at h1
  · rename_i q
    obtain ⟨rfl, q⟩ := q
    rcases Nat.lt_or_ge j σ.length with hl | hl
    · rw [List.getElem?_set_self hl] at h2; cases h2; exact .inl rfl
    · rw [List.getElem?_eq_none (by simpa using hl)] at h2; cases h2
  · rename_i q
    have : j ≠ i := fun z => q ⟨z, z ▸ get_lt h1⟩
    rw [List.getElem?_set_ne (fun z => this z.symm)] at h2
    exact .inr ⟨j, e, h1, h2⟩
theorem puts_ok : ∀ {is : List Nat} {ps : List (D × Bool)} {vs : List V} {s s' : St} {σ : L2.St}, Good K cm s σ H F L → TReps K cm s σ H F L (ps.map tmp) vs → (frA (ps.map tmp) vs).Nodup → puts is ps s = some s' →
    Good K cm s' (sets σ is vs) H F L ∧ s'.b = s.b ∧ vs.length = is.length ∧ ∀ a, Own s' (sets σ is vs) a → Own s σ a ∨ a ∈ frA (ps.map tmp) vs
  | [], [], _, s, s', σ, g, q, n, h => by
    cases q
    cases h
    exact ⟨g, rfl, rfl, fun _ h => .inl h⟩
  | [], _ :: _, _, s, s', σ, g, q, n, h => by cases h
  | _ :: _, [], _, s, s', σ, g, q, n, h => by cases h
  | i :: is, (d, fr) :: ps, _, s, s', σ, g, q, n, h => by
    cases q with
    | @cons _ v _ vs q1 q2 =>
      have h' : puts is ps (s.put i d fr) = some s' := h
      cases fr with
      | false =>
        have g1 : Good K cm (s.put i d false) (σ.set i (some v)) H F L := g.put q1 i
        have q3 : TReps K cm (s.put i d false) (σ.set i (some v)) H F L (ps.map tmp) vs := by
          clear h h' n q1 g1
          unfold TReps
          generalize hts : ps.map tmp = ts at q2
          induction q2 generalizing ps with
          | nil => exact .nil
          | @cons t w ts ws r _ ih =>
            cases ps with
            | nil => cases hts
            | cons p ps =>
              cases hts
              refine .cons ?_ (ih _ rfl)
              obtain ⟨pd, po⟩ := p
              cases po with
              | false => exact r
              | true =>
                obtain ⟨a, k1, k2, k3, k4, k5⟩ := r
                exact ⟨a, k1, k2, k3, k4, fun z => k5 (own_put z)⟩
        have n1 : (frA (ps.map tmp) vs).Nodup := by simpa [frA, tmp] using n
        obtain ⟨g2, b2, l2, o2⟩ := puts_ok g1 q3 n1 h'
        refine ⟨g2, b2, by simp [l2], fun a z => ?_⟩
        rcases o2 a z with w | w
        · exact .inl (own_put w)
        · exact .inr (by simpa [frA, tmp] using w)
      | true =>
        obtain ⟨a, rfl, k1, k2, k3, k4⟩ := q1
        have n1 : a ∉ frA (ps.map tmp) vs ∧ (frA (ps.map tmp) vs).Nodup := by
          have : (a :: frA (ps.map tmp) vs).Nodup := by simpa [frA, tmp] using n
          exact List.nodup_cons.mp this
        have g1 : Good K cm (s.put i d true) (σ.set i (some (.ref a))) H F L := g.putO k1 k2 k3 k4 i
        have q3 : TReps K cm (s.put i d true) (σ.set i (some (.ref a))) H F L (ps.map tmp) vs := by
          clear h h' n g1
          have na := n1.1
          clear n1
          unfold TReps
          generalize hts : ps.map tmp = ts at q2 na
          induction q2 generalizing ps with
          | nil => exact .nil
          | @cons t w ts ws r _ ih =>
            cases ps with
            | nil => cases hts
            | cons p ps =>
              cases hts
              obtain ⟨pd, po⟩ := p
              cases po with
              | false => exact .cons r (ih ps rfl (by simpa [frA, tmp] using na))
              | true =>
                obtain ⟨c, rfl, k6, k7, k8, k9⟩ := r
                simp only [frA, tmp, List.mem_cons, not_or] at na
                refine .cons ⟨c, rfl, k6, k7, k8, fun z => ?_⟩ (ih ps rfl na.2)
                rcases own_putO z with w | w
                · exact na.1 w.symm
                · exact k9 w
        obtain ⟨g2, b2, l2, o2⟩ := puts_ok g1 q3 n1.2 h'
        refine ⟨g2, b2, by simp [l2], fun c z => ?_⟩
        rcases o2 c z with w | w
        · rcases own_putO w with w | w
          · exact .inr (by simp [frA, tmp, w])
          · exact .inl w
        · exact .inr (by simp [frA, tmp, w])
end
end Mp
/-! Mp, part O: stores, loops. -/
namespace Mp
open PySem PySem.Spec PyProof.Rows L2 RZ
section
variable {K : Fr0} {cm : Str → Option Addr} {b0 : List (List Int)} {σ σ' : L2.St} {s s1 s2 s' s0 : St} {H F H' F' H0 F0 H1 F1 : Hp} {L L0 L1 L' : List Addr} {t : Tmp} {ts : List Tmp} {vs : List V} {v : V} {d : D} {a : Addr} {o : HO} {is : List Nat}
/-- values stored to slots -/
theorem sets_ok (b : Bo K cm b0 H0 F0 L0 s σ H F L) (g1 : Good K cm s1 σ H1 F1 L1) (x1 : Ext σ s H F L s1 H1 F1 L1) (q : TReps K cm s1 σ H1 F1 L1 ts vs) (n : News H ts vs) (ha : asgs is ts s1 = some s2) :
    vs.length = is.length ∧ Lk H1 fun H2 => ∃ F2, Bo K cm b0 H0 F0 L0 s2 (sets σ is vs) H2 F2 L1 ∧ Sub F F2 ∧ Pfx L L1 := by
  have ha' : (setl ts s1).bind (fun p => puts is p.1 p.2) = some s2 := ha
  obtain ⟨⟨ps, s3⟩, h1, h2⟩ := obind ha'
  have len : vs.length = is.length := by
    have l1 : ∀ {is : List Nat} {ps : List (D × Bool)} {s s' : St}, puts is ps s = some s' → ps.length = is.length := by
      intro is
      induction is with
      | nil => intro ps s s' h; cases ps with
        | nil => rfl
        | cons _ _ => cases h
      | cons i is ih => intro ps s s' h; cases ps with
        | nil => cases h
        | cons p ps => simp [ih h]
    have l2 : ∀ {ts : List Tmp} {ps : List (D × Bool)} {s s' : St}, setl ts s = some (ps, s') → ps.length = ts.length := by
      intro ts
      induction ts with
      | nil => intro ps s s' h; cases h; rfl
      | cons t ts ih =>
        intro ps s s' h
        cases t with
        | v d fr =>
          have h' : (setl ts s).bind (fun p => some ((d, fr) :: p.1, p.2)) = some (ps, s') := h
          obtain ⟨⟨r, s4⟩, h3, h4⟩ := obind h'
          cases h4
          simp [ih h3]
        | x i =>
          have h' : (s.get i).bind (fun p => (setl ts (s.frz i)).bind fun r => some ((p.1, false) :: r.1, r.2)) = some (ps, s') := h
          obtain ⟨p, hp, h2⟩ := obind h'
          obtain ⟨⟨r, s4⟩, h3, h4⟩ := obind h2
          cases h4
          simp [ih h3]
    have l3 : ts.length = vs.length := by
      unfold TReps at q
      clear n ha ha' h1
      induction q with
      | nil => rfl
      | cons _ _ ih => simp [ih]
    rw [← l3, ← l2 h1, l1 h2]
  refine ⟨len, (setl_ok b.g g1 x1 q n h1).imp fun H2 ⟨F2, g2, x2, q2, n2, _, z2, u2, _⟩ => ?_⟩
  obtain ⟨g3, b3, _, o3⟩ := puts_ok g2 q2 n2.nd h2
  refine ⟨F2, b.step (s' := s3) g3 x2 fun a h => ?_, x2.sub, x2.pre⟩
  rcases o3 a h with w | w
  · exact .inl (x2.own w)
  · exact .inr (n2.new a w)
end
section
variable {X : Cx} {cm : Str → Option Addr} {s s1 s2 s' : St} {t : Tmp} {ts : List Tmp} {fl : Fl} {e c : Expr} {st : Stmt} {rest body : List Stmt} {pos : Pos} {is : List Nat}
def tLk (te : TE) : TE := fun σ H Q => te σ H fun v H1 => Lk H1 (Q v)
def tALk (te : TA) : TA := fun σ H Q => te σ H fun v H1 => Lk H1 (Q v)
/-- the same of a value that needs no lock -/
theorem rs_asgV {i : Nat} {d : D} {fr : Bool} (h : PS X st (tAsg (tE X.K cm s (.v d fr) s1) (gName i))) : PS X st (tS X.K cm s .nx (s1.put i d fr)) :=
  h.imp fun D σ H ⟨b0, H0, F0, L0, F, L, b, p⟩ => ⟨F, L, b.g, fun v H1 F1 L1 g1 x1 q1 n1 => by
    cases fr with
    | false => exact p _ H1 F1 L1 (b.step (g1.put q1 i) x1 fun a h => .inl (x1.own (own_put h))) x1.sub x1.pre
    | true =>
      obtain ⟨a, rfl, k1, k2, k3, k4⟩ := q1
      refine p _ H1 F1 L1 (b.step (g1.putO k1 k2 k3 k4 i) x1 fun c h => ?_) x1.sub x1.pre
      rcases own_putO h with w | w
      · rw [w]; exact .inr (n1 d a rfl rfl)
      · exact .inl (x1.own w)⟩
/-- a name's own object given to another name -/
theorem rs_asgX {i j : Nat} {d : D} (h : PS X st (tAsg (tE X.K cm s (.x j) s1) (gName i))) (hj : s1.get j = some (d, true)) (hij : i ≠ j) : PS X st (tS X.K cm s .nx ((s1.wipe [j]).put i d true)) :=
  h.imp fun D σ H ⟨b0, H0, F0, L0, F, L, b, p⟩ => ⟨F, L, b.g, fun v H1 F1 L1 g1 x1 q1 n1 => by
    obtain ⟨p0, h1, h2⟩ := q1
    rw [hj] at h1; cases h1
    obtain ⟨a, h3, k1, k2, k3⟩ := g1.own j d hj
    rw [h2] at h3; cases h3
    have gd : Good X.K cm (s1.wipe [j]) σ H1 F1 L1 := by
      refine ⟨g1.sub, by rw [wipe_len]; exact g1.len, fun i d e => ?_, fun i d e => ?_, fun i k d e a hik e1 e2 e3 => ?_, g1.box, g1.lenB, g1.nd⟩
      · rw [get_wipe] at e
        split at e
        · cases e
        · exact g1.pure i d e
      · rw [get_wipe] at e
        split at e
        · cases e
        · exact g1.own i d e
      · rw [get_wipe] at e1 e2
        split at e1
        · cases e1
        · split at e2
          · cases e2
          · exact g1.apart i k d e a hik e1 e2 e3
    have od : ∀ c, Own (s1.wipe [j]) σ c → Own s1 σ c ∧ c ≠ a := fun c ⟨k, e, q1, q2⟩ => by
      rw [get_wipe] at q1
      split at q1
      · cases q1
      · rename_i hk
        refine ⟨⟨k, e, q1, q2⟩, fun ec => ?_⟩
        subst ec
        exact g1.apart j k d e c (fun z => hk (by rw [z]; exact List.mem_singleton.mpr rfl)) hj q1 h2 q2
    refine p _ H1 F1 L1 (b.step (gd.putO k1 k2 k3 (fun z => (od a z).2 rfl) i) x1 fun c h => ?_) x1.sub x1.pre
    rcases own_putO h with w | w
    · subst w
      exact .inl (x1.own ⟨j, d, hj, h2⟩)
    · exact .inl (x1.own (od c w).1)⟩
def tSets (ta : TA) (is : List Nat) : TS := fun D σ H => ta σ H fun vs H1 => vs.length = is.length ∧ vs.length ≤ sizeLine ∧ ∀ H2, (H2 = H1 ∨ ∃ p, H1 p = none ∧ H2 = upd H1 p (.tup vs)) → D.nx (sets σ is vs) H2
theorem rs_par (h : PS X st (tSets (tALk (tAs X.K cm s ts s1)) is)) (ha : asgs is ts s1 = some s2) (hz : ts.length ≤ sizeLine) (hl : ts.length = is.length) : PS X st (tS X.K cm s .nx s2) :=
  h.imp fun D σ H ⟨b0, H0, F0, L0, F, L, b, p⟩ => ⟨F, L, b.g, fun vs H1 F1 L1 g1 x1 q1 n1 => by
    obtain ⟨len, k⟩ := sets_ok b g1 x1 q1 n1 ha
    refine k.imp fun H2 ⟨F2, b2, u2, w2⟩ => ⟨len, by omega, fun H3 hh => ?_⟩
    rcases hh with rfl | ⟨q, hq, rfl⟩
    · exact p _ _ F2 L1 b2 u2 w2
    · exact p _ _ F2 L1 (b2.expr (b2.g.laid hq) (Ext.laid hq)) u2 w2⟩
theorem par_tup {es : List Expr} {kt k2 : Nat} {p1 p2 : Pos} {ns : List Expr} (ha : PA X es (tAs X.K cm s ts s1)) (hg : PG X (.Tuple ns kt p1) (gOf X.K (.tp is))) (hs : swapsWithSole [.Tuple ns kt p1] (.Tuple es k2 p2) pos.line X.env = pure false) (hw : swappedStores [.Tuple ns kt p1] (.Tuple es k2 p2) X.env = pure none)
    (h1 : (assignEach [.Tuple ns kt p1] X.env).map (·.2) = [assign (.Tuple ns kt p1) X.env]) : PS X (.Assign [.Tuple ns kt p1] (.Tuple es k2 p2) pos) (tSets (tALk (tAs X.K cm s ts s1)) is) :=
  (ps_asg (pe_tup ha.lk) hg hs hw h1).imp fun D σ H ⟨F, L, g, k⟩ => ⟨F, L, g, fun vs H1 F1 L1 g1 x1 q1 n1 => (k vs H1 F1 L1 g1 x1 q1 n1).imp fun H2 ⟨l1, l2, k2⟩ =>
    ⟨l2, fun p hp => ⟨p, vs, rfl, .of upd_same, l1, gNames_sets l1 (k2 _ (.inr ⟨p, hp, rfl⟩))⟩⟩⟩
/-- a, b = e, e a list -/
theorem rs_asgU {tg : Expr} {ds : List D} (he : PE X e (tE X.K cm s t s1)) (hg : PG X tg (gUnl X.K is.length (gNames is))) (ht : take t s1 = some (.lst ds, s2)) (hb : bindT (.tp is) (.tup ds) s2 = some s') (hs : swapsWithSole [tg] e pos.line X.env = pure false) (hw : swappedStores [tg] e X.env = pure none)
    (h1 : (assignEach [tg] X.env).map (·.2) = [assign tg X.env]) : PS X (.Assign [tg] e pos) (tS X.K cm s .nx s') :=
  (ps_asg he.lk hg hs hw h1).imp fun D σ H ⟨b0, H0, F0, L0, F, L, b, p⟩ => ⟨F, L, b.g, fun v H1 F1 L1 g1 x1 q1 n1 =>
    (take_ok g1 b.g x1 q1 n1 ht).imp fun H2 ⟨F2, g2, x2, r2, _, _⟩ => bind_okU g2 g2.sub r2 hb fun σ2 g3 bn => p σ2 H2 F2 L1 (b.step (s' := s2) g3 x2 fun a h => .inl (x2.own (bn.ownB h))) x2.sub x2.pre⟩
/-- a, b = e -/
theorem rs_asgT {tg : Expr} {d : D} (he : PE X e (tE X.K cm s t s1)) (hg : PG X tg (gOf X.K (.tp is))) (ht : take t s1 = some (d, s2)) (hb : bindT (.tp is) d s2 = some s') (hs : swapsWithSole [tg] e pos.line X.env = pure false) (hw : swappedStores [tg] e X.env = pure none)
    (h1 : (assignEach [tg] X.env).map (·.2) = [assign tg X.env]) : PS X (.Assign [tg] e pos) (tS X.K cm s .nx s') :=
  (ps_asg he.lk hg hs hw h1).imp fun D σ H ⟨b0, H0, F0, L0, F, L, b, p⟩ => ⟨F, L, b.g, fun v H1 F1 L1 g1 x1 q1 n1 =>
    (take_ok g1 b.g x1 q1 n1 ht).imp fun H2 ⟨F2, g2, x2, r2, _, _⟩ => bind_ok g2 g2.sub r2 hb fun σ2 g3 bn => p σ2 H2 F2 L1 (b.step (s' := s2) g3 x2 fun a h => .inl (x2.own (bn.ownB h))) x2.sub x2.pre⟩
end

/-! ### loops -/
def aS (K : Fr0) (cm : Str → Option Addr) (R : St → Option (Fl × St)) : TS := fun D σ H => ∃ s fl s', R s = some (fl, s') ∧ tS K cm s fl s' D σ H
section
variable {X : Cx} {cm : Str → Option Addr} {s s1 s2 s' : St} {fl : Fl} {c : Expr} {body : List Stmt} {pos : Pos} {tg iter : Expr} {tgg : Tg} {R : St → Option (Fl × St)} {Tt : St → Option (Bool × St)} {xs : List D}
theorem pss_aS (h : ∀ s fl s', R s = some (fl, s') → PSs X body (tS X.K cm s fl s')) : PSs X body (aS X.K cm R) := ⟨fun pins s σ H D I ⟨a, t, a', e, q⟩ => (h a t a' e).run pins s σ H D I q⟩
def stepS (tg : Tg) (R : St → Option (Fl × St)) (x : D) (s : St) : Option (Fl × St) := (bindT tg x s).bind R
theorem forL_cons {step : D → St → Option (Fl × St)} {x : D} {xs : List D} {s s2 : St} {fl : Fl} (h : forL step (x :: xs) s = some (fl, s2)) : (∃ s1, step x s = some (.nx, s1) ∧ forL step xs s1 = some (fl, s2)) ∨ ∃ d b, step x s = some (.rt d b, s2) ∧ fl = .rt d b := by
  unfold forL at h
  obtain ⟨⟨f1, s1⟩, h1, h⟩ := obind h
  cases f1 with
  | nx => exact .inl ⟨s1, h1, h⟩
  | rt d b => cases h; exact .inr ⟨d, b, h1, rfl⟩
def WFor (K : Fr0) (cm : Str → Option Addr) (b0 : List (List Int)) (H0 F0 : Hp) (L0 : List Addr) (F1 : Hp) (L1 : List Addr) (step : D → St → Option (Fl × St)) (xs : List D) (fl : Fl) (s2 : St) (i m : Nat) (σ : L2.St) (H : Hp) : Prop :=
  ∃ s F L, Bo K cm b0 H0 F0 L0 s σ H F L ∧ Sub F1 F ∧ Pfx L1 L ∧ i ≤ xs.length ∧ m = xs.length - i ∧ forL step (xs.drop i) s = some (fl, s2)
theorem rs_for (hp : PassesOwn (model X.prog X.w) X.A X.env X.xe) (hc : X.calm = true) (hi : PI X tg iter (tI X.K cm s (.fix xs) s1)) (hg : PG X tg (gOf X.K tgg)) (hb : ∀ s fl s', R s = some (fl, s') → PSs X body (tS X.K cm s fl s')) (hs : ∀ x, foldedSetIterable iter X.env x = pure x)
    (run : forL (stepS tgg R) xs s1 = some (fl, s2)) : PS X (.For tg iter body [] pos) (tS X.K cm s fl s2) :=
  (ps_for hp hc hi hg (pss_aS hb) hs).imp fun D σ H ⟨b0, H0, F0, L0, F, L, b, p⟩ => ⟨F, L, b.g, fun J H1 F1 L1 g1 x1 so => by
    have so : Yl X.K cm J xs F1 L1 := so
    refine ⟨WFor X.K cm b0 H0 F0 L0 F1 L1 (stepS tgg R) xs fl s2, ⟨_, s1, F1, L1, b.expr g1 x1, Sub.refl _, Pfx.refl _, Nat.zero_le _, rfl, run⟩, ?_⟩
    rintro i m σ3 H3 ⟨s3, F3, L3, b3, u3, p3, hi, rfl, hr⟩
    rcases Nat.lt_or_ge i xs.length with hlt | hge
    · rw [List.drop_eq_getElem_cons hlt] at hr
      refine .inr ⟨so.go i H3 F3 hlt u3 b3.g.sub, fun σ' H' => ∃ m', m' < xs.length - i ∧ WFor X.K cm b0 H0 F0 L0 F1 L1 (stepS tgg R) xs fl s2 (i + 1) m' σ' H', fun σ' H' h => h, fun x H' y => ?_⟩
      obtain ⟨F', gr, rd⟩ := so.yld i H3 F3 L3 x H' xs[i] (by simp [hlt]) u3 b3.g.sub p3 y
      have b4 := b3.expr (gr.good b3.g) (gr.ext b3.g)
      have u4 : Sub F3 F' := gr.sub b3.g.sub
      have run1 : ∀ {Dd : Ends} f1 s4, stepS tgg R xs[i] s3 = some (f1, s4) → PostS X.K cm b0 H0 F0 L0 F' L3 f1 s4 Dd → gOf X.K tgg x σ3 H' fun σ2 H2 => aS X.K cm R Dd σ2 H2 := fun {Dd} f1 s4 h1 pp => by
        obtain ⟨sb, hb1, hR⟩ := obind h1
        exact bind_ok b4.g b4.g.sub rd hb1 fun σ2 gb bn => ⟨sb, f1, s4, hR, b0, H0, F0, L0, F', L3, b4.step gb Ext.refl fun a h => .inl (bn.ownB h), pp⟩
      rcases forL_cons hr with ⟨s4, h1, h2⟩ | ⟨d, fr, h1, h2⟩
      · exact run1 .nx s4 h1 fun σ' H'' F'' L'' b5 u5 p5 => ⟨_, by omega, s4, F'', L'', b5, u3.trans (u4.trans u5), p3.trans p5, hlt, rfl, h2⟩
      · subst h2
        exact run1 _ s2 h1 p
    · have e : i = xs.length := by omega
      subst e
      rw [List.drop_length] at hr
      cases hr
      exact .inl ⟨so.stop H3 F3 u3 b3.g.sub, p σ3 H3 F3 L3 b3 (x1.sub.trans u3) (x1.pre.trans p3)⟩⟩
theorem rs_whl {n : Nat} (hp : PassesOwn (model X.prog X.w) X.A X.env X.xe) (hc : ∀ s b s', Tt s = some (b, s') → PT X c (tTs X.K cm s b s')) (hb : ∀ s fl s', R s = some (fl, s') → PSs X body (tS X.K cm s fl s')) (run : whlL Tt R n s = some (fl, s2)) : PS X (.While c body [] pos) (tS X.K cm s fl s2) :=
  (ps_while hp (pt_aT hc) (pss_aS hb)).imp fun D σ H ⟨b0, H0, F0, L0, F, L, b, p⟩ => by
    refine ⟨fun m σ H => ∃ s F1 L1, Bo X.K cm b0 H0 F0 L0 s σ H F1 L1 ∧ Sub F F1 ∧ Pfx L L1 ∧ whlL Tt R m s = some (fl, s2), ⟨n, s, F, L, b, Sub.refl _, Pfx.refl _, run⟩, ?_⟩
    rintro m σ3 H3 ⟨s3, F3, L3, b3, u3, p3, hr⟩
    cases m with
    | zero => cases hr
    | succ m =>
      have hr : (Tt s3).bind (fun q => if q.1 = true then (R q.2).bind (fun r => match r.1 with
        | .nx => whlL Tt R m r.2
        | .rt d b => some (.rt d b, r.2)) else some (.nx, q.2)) = some (fl, s2) := hr
      obtain ⟨⟨bb, s4⟩, h1, hr⟩ := obind hr
      refine ⟨s3, bb, s4, h1, F3, L3, b3.g, fun H4 F4 L4 g4 x4 => ?_⟩
      have b4 := b3.expr g4 x4
      cases bb with
      | false =>
        cases hr
        exact p σ3 H4 F4 L4 b4 (u3.trans x4.sub) (p3.trans x4.pre)
      | true =>
        have hr : (R s4).bind (fun r => match r.1 with
          | .nx => whlL Tt R m r.2
          | .rt d b => some (.rt d b, r.2)) = some (fl, s2) := hr
        obtain ⟨⟨f1, s5⟩, h2, hr⟩ := obind hr
        refine ⟨fun σ' H' => ∃ m', m' < m + 1 ∧ ∃ s F1 L1, Bo X.K cm b0 H0 F0 L0 s σ' H' F1 L1 ∧ Sub F F1 ∧ Pfx L L1 ∧ whlL Tt R m' s = some (fl, s2), fun σ' H' h => h, s4, f1, s5, h2, b0, H0, F0, L0, F4, L4, b4, ?_⟩
        cases f1 with
        | nx => exact fun σ' H'' F'' L'' b5 u5 p5 => ⟨m, Nat.lt_succ_self m, s5, F'', L'', b5, u3.trans (x4.sub.trans u5), p3.trans (x4.pre.trans p5), hr⟩
        | rt d fr => cases hr; exact p
end
end Mp
/-! Mp, part P: changes in place. -/
namespace Mp
open PySem PySem.Spec PyProof.Rows L2 RZ
section
variable {K : Fr0} {cm : Str → Option Addr} {b0 : List (List Int)} {σ σ' : L2.St} {s s1 s2 s' s0 : St} {H F H' F' H0 F0 H1 F1 : Hp} {L L0 L1 L' : List Addr} {t : Tmp} {ts : List Tmp} {vs : List V} {v : V} {d d' : D} {a : Addr} {o : HO} {i : Nat}
theorem slot_val (g : Good K cm s σ H F L) {p : D × Bool} (h : s.get i = some p) : ∃ v, σ[i]? = some (some v) := by
  obtain ⟨d, b⟩ := p
  cases b with
  | false => obtain ⟨v, h1, _⟩ := g.pure i d h; exact ⟨v, h1⟩
  | true => obtain ⟨a, h1, _⟩ := g.own i d h; exact ⟨_, h1⟩
theorem Ext.had (x : Ext σ s H F L s' H' F' L') {p : D × Bool} (h : s'.get i = some p) : ∃ q, s.get i = some q := by
  cases e : s.get i with
  | none => rw [x.no i e] at h; cases h
  | some q => exact ⟨q, rfl⟩
/-- the object of a variable's own, changed -/
theorem Good.mut (g : Good K cm s σ H F L) (h : s.get i = some (d, true)) (ha : σ[i]? = some (some (.ref a))) (q : Top K cm (upd H a o) F L d' a) : Good K cm (s.put i d' true) σ (upd H a o) F L := by
  obtain ⟨a', e1, e2, e3, e4⟩ := g.own i d h
  rw [ha] at e1; cases e1
  have hl := get_lt h
  refine ⟨fun b u e => ?_, by simp [St.put, g.len], fun j e z => ?_, fun j e z => ?_, fun j k e f b hjk z1 z2 z3 => ?_, fun k is e => ?_, g.lenB, g.nd⟩
  · rw [upd_ne (fun z => by rw [z, e2] at e; cases e)]; exact g.sub b u e
  · rw [get_put] at z
    split at z
    · cases z
    · exact g.pure j e z
  · rw [get_put] at z
    split at z
    · rename_i c
      cases z
      exact ⟨a, by rw [c.1]; exact ha, e2, e3, q⟩
    · rename_i c
      have ne : j ≠ i := fun w => c ⟨w, hl⟩
      obtain ⟨b, h1, h2, h3, h4⟩ := g.own j e z
      have nb : b ≠ a := fun w => g.apart j i e d b ne z h h1 (by rw [w]; exact ha)
      exact ⟨b, h1, h2, h3, h4.mono (Sub.refl F) (Pfx.refl L) (upd_ne nb)⟩
  · rw [get_put] at z1 z2
    have q1 : ∃ e', s.get j = some (e', true) := by
      split at z1
      · rename_i c; rw [c.1]; exact ⟨d, h⟩
      · exact ⟨e, z1⟩
    have q2 : ∃ e', s.get k = some (e', true) := by
      split at z2
      · rename_i c; rw [c.1]; exact ⟨d, h⟩
      · exact ⟨f, z2⟩
    obtain ⟨_, q1⟩ := q1
    obtain ⟨_, q2⟩ := q2
    exact g.apart j k _ _ b hjk q1 q2 z3
  · obtain ⟨b, h1, h2, h3⟩ := g.box k is e
    have nb : b ≠ a := fun w => e3 (w ▸ List.mem_of_getElem? h1)
    exact ⟨b, h1, h2, by rw [upd_ne nb]; exact h3⟩
theorem own_mut (h : s.get i = some (d, true)) (z : Own (s.put i d' true) σ a) : Own s σ a := by
  obtain ⟨j, e, h1, h2⟩ := z
  rw [get_put] at h1
  split at h1
  · rename_i c; exact ⟨i, d, h, by rw [← c.1]; exact h2⟩
  · exact ⟨j, e, h1, h2⟩
theorem Ext.mut (g : Good K cm s σ H F L) (h : s.get i = some (d, true)) (ha : σ[i]? = some (some (.ref a))) : Ext σ s H F L (s.put i d' true) (upd H a o) F L := by
  have hl := get_lt h
  refine ⟨Sub.refl F, fun _ z => .inl z, Pfx.refl L, fun _ z => .inl z, fun b u z h1 _ => ?_, fun b z => ?_, fun j e z => ?_, fun j p z => ?_, fun j e z => ?_, fun j z => ?_⟩
  · rw [upd_ne (fun w => h1 ⟨i, d, h, by rw [w]; exact ha⟩)]; exact z
  · by_cases w : b = a
    · rw [w, upd_same]; simp
    · rw [upd_ne w]; exact z
  · rw [get_put] at z
    split at z
    · rename_i c; rw [c.1]; exact ⟨d, h⟩
    · exact ⟨e, z⟩
  · rw [get_put]
    split
    · exact ⟨_, rfl⟩
    · exact ⟨p, z⟩
  · rw [get_put]
    split
    · rename_i c; rw [c.1, h] at z; cases z
    · exact z
  · rw [get_put]
    split
    · rename_i c; rw [c.1, h] at z; cases z
    · exact z
/-- an object that the entry did not know, or a box, changed -/
theorem Bo.upd (b : Bo K cm b0 H0 F0 L0 s σ H F L) (g : Good K cm s' σ (upd H a o) F L) (h0 : ∀ u, H0 a = some u → a ∈ L0) (ho : ∀ c, Own s' σ c → Own s σ c) : Bo K cm b0 H0 F0 L0 s' σ (upd H a o) F L where
  g := g
  x := by
    refine ⟨b.x.sub, b.x.new, b.x.pre, b.x.newL, fun c u h hn hl => ?_, fun c h => ?_, fun i d h => by simp [St.get] at h, fun i p h => by simp [St.get] at h, fun i d h => by simp [St.get] at h, fun i h => by simp [St.get]⟩
    · rw [upd_ne (fun w => by subst w; exact hl (h0 u h))]; exact b.x.frame c u h hn hl
    · by_cases w : c = a
      · rw [w, upd_same]; simp
      · rw [upd_ne w]; exact b.x.dom c h
  own := fun c h => b.own c (ho c h)
end

/-! ### methods that change a list -/
def mutR (m : Str) : V → List V → Hp → VK → Prop := fun x vs H Q => ∃ a zs F K cm L ds xs d r, x = .ref a ∧ H a = some (.lst zs) ∧ Sub F H ∧ RepL K cm F L xs zs ∧ RepL K cm F L ds vs ∧ mutD m (.lst xs) ds = some (d, r) ∧
  ∀ w zs' ys, d = .lst ys → RepL K cm F L ys zs' → Rep K cm F L r w → Q w (upd H a (.lst zs'))
section
variable {X : Cx} {cm : Str → Option Addr}
theorem mu_append : MtM X "list.append" (mutR "append") := fun pins s σ H x xs v us Q I rx rxs h => by
  obtain ⟨a, zs, F, K, cm, L, ds, ys, d, r, rfl, h1, hs, r1, r2, h2, k⟩ := h
  match ds, r2 with
  | [y], .cons (vs := []) ry .nil =>
    have h2 : (if ys.length < sizeLine then some (.lst (ys ++ [y]), .non) else none) = some (d, r) := h2
    split at h2
    · rename_i c
      cases h2
      exact mt_append pins s σ H _ _ v us Q I rx rxs ⟨a, zs, _, rfl, rfl, h1, by rw [← r1.len]; exact c, k _ _ _ rfl (r1.snoc ry) .non⟩
    · cases h2
  | [], .nil => cases h2
  | _ :: _ :: _, .cons _ (.cons _ _) => cases h2
theorem mu_extend : MtM X "list.extend" (mutR "extend") := fun pins s σ H x xs v us Q I rx rxs h => by
  obtain ⟨a, zs, F, K, cm, L, ds, ys, d, r, rfl, h1, hs, r1, r2, h2, k⟩ := h
  match ds, r2 with
  | [y], .cons (vs := []) (v := w) ry .nil =>
    cases y with
    | lst es =>
      have h2 : (if ys.length + es.length ≤ sizeLine then some (.lst (ys ++ es), .non) else none) = some (d, r) := h2
      split at h2
      · rename_i c
        cases h2
        cases ry with
        | @lst b ws _ q ry => exact mt_extend pins s σ H _ _ v us Q I rx rxs ⟨a, b, zs, ws, rfl, rfl, h1, hs _ _ q, by rw [← r1.len, ← ry.len]; exact c, k _ _ _ rfl (r1.app ry) .non⟩
      · cases h2
    | _ => cases h2
  | [], .nil => cases h2
  | _ :: _ :: _, .cons _ (.cons _ _) => cases h2
theorem mu_pop : MtM X "list.pop" (mutR "pop") := fun pins s σ H x xs v us Q I rx rxs h => by
  obtain ⟨a, zs, F, K, cm, L, ds, ys, d, r, rfl, h1, hs, r1, r2, h2, k⟩ := h
  obtain ⟨hz, _⟩ := I.hok a _ h1
  match ds, r2 with
  | [], .nil =>
    have h2 : (ys.getLast?).bind (fun v => some (.lst ys.dropLast, v)) = some (d, r) := h2
    obtain ⟨w, e1, e2⟩ := obind h2
    cases e2
    rw [List.getLast?_eq_getElem?] at e1
    obtain ⟨u, e3, ru⟩ := r1.get e1
    refine mt_pop pins s σ H _ _ v us Q I rx rxs ⟨a, zs, u, rfl, rfl, h1, by rw [← r1.len]; exact e3, k _ _ _ rfl ?_ ru⟩
    rw [List.dropLast_eq_take, List.dropLast_eq_take, r1.len]
    exact r1.take _
  | [y], .cons (vs := []) (v := w) ry .nil =>
    cases y with
    | int i =>
      have h2 : (ixN ys.length i).bind (fun k => (ys[k]?).bind fun v => some (.lst (ys.eraseIdx k), v)) = some (d, r) := h2
      obtain ⟨j, e1, e2⟩ := obind h2
      obtain ⟨w', e3, e4⟩ := obind e2
      cases e4
      cases ry
      obtain ⟨u, e5, ru⟩ := r1.get e3
      obtain ⟨q1, q2, q3, q4⟩ := ixN_seq e1
      have hl := line63
      rw [r1.len] at q1 q2 q3 q4
      have hz' : zs.length ≤ sizeLine := hz
      exact mt_popAt pins s σ H _ _ v us Q I rx rxs ⟨a, zs, i, j, u, rfl, rfl, h1, by omega, by omega, q1, e5, k _ _ _ rfl (r1.erase j) ru⟩
    | _ => cases h2
  | _ :: _ :: _, .cons _ (.cons _ _) => cases h2
theorem mutD_lst {m : Str} {xs : List D} {ds : List D} {d r : D} (h : mutD m (.lst xs) ds = some (d, r)) : ∃ ys, d = .lst ys := by
  unfold mutD at h
  split at h
  · rename_i h1; cases h1
    split at h
    · split at h
      · cases h; exact ⟨_, rfl⟩
      · cases h
    · split at h
      · split at h
        · split at h
          · cases h; exact ⟨_, rfl⟩
          · cases h
        · cases h
      · split at h
        · split at h
          · obtain ⟨k, e1, e2⟩ := obind h
            obtain ⟨w, e3, e4⟩ := obind e2
            cases e4; exact ⟨_, rfl⟩
          · cases h
        · split at h
          · split at h
            · split at h
              · cases h; exact ⟨_, rfl⟩
              · cases h
            · cases h
          · cases h
  · rename_i h1; cases h1
    split at h
    · obtain ⟨k, e1, e2⟩ := obind h
      cases e2; exact ⟨_, rfl⟩
    · cases h
  · rename_i h1; cases h1
  · cases h
theorem mutD_kind {m : Str} {p : Option (D × Bool)} {d : D} {ds : List D} {q : D × D} (hk : mutK m p = true) (h : mutD m d ds = some q) : ∃ xs, d = .lst xs := by
  have hm : m ≠ ("update" : Str) := by
    unfold mutK at hk
    split at hk
    · rw [Bool.and_eq_true] at hk; exact of_decide_eq_true hk.1
    · cases hk
  cases d with
  | lst xs => exact ⟨xs, rfl⟩
  | dK kvs =>
    unfold mutD at h
    split at h <;> first | (rename_i h1; cases h1; done) | skip
    · rw [if_neg hm] at h; cases h
    · cases h
  | _ =>
    unfold mutD at h
    split at h <;> first | (rename_i h1; cases h1; done) | cases h
theorem mutK_top {m : Str} {s : St} {i : Nat} (hk : mutK m (s.get i) = true) : ∃ xs, s.get i = some (.lst xs, true) := by
  unfold mutK at hk
  split at hk
  · rename_i h; exact ⟨_, h⟩
  · cases hk
theorem re_mut {m : Str} {id : String} (pa : PlainAttrs "list") (slot : Slot "list" m id) (hty : typeOf (.builtin id) = pure (.type "method_descriptor")) (hm : MtM X id (mutR m)) {i : Nat} {o : Expr} {es : List Expr} {s s1 s2 : St} {ts : List Tmp} {ds : List D} {d d' r : D} {apos cpos : Pos}
    (hv : PE X o (tVar i)) (hk : mutK m (s.get i) = true) (hes : PA X es (tAs X.K cm s ts s1)) (ht : takes ts s1 = some (ds, s2)) (hd : s2.get i = some (d, true)) (hr : mutD m d ds = some (d', r)) (hst : ∀ e ∈ es, nst e = true) (hsup : NoSup o) (hline : (apos.endLine == cpos.line) = true) (hlen : es.length ≤ 28) (hnil : es = [] → ts = [] ∧ s1 = s) :
    PE X (.Call (.Attribute o m apos) es [] cpos) (tE X.K cm s (.v r false) (s2.put i d' true)) := by
  obtain ⟨xs0, e0⟩ := mutK_top hk
  obtain ⟨xs, rfl⟩ := mutD_kind hk hr
  obtain ⟨ys, rfl⟩ := mutD_lst hr
  have fin : ∀ {σ : L2.St} {H F : Hp} {L : List Addr} {Q : VK} {a : Addr} {vs : List V} {H2 F2 : Hp} {L2 : List Addr}, Good X.K cm s σ H F L → Fin X.K cm σ s H F L (.v r false) (s2.put i (.lst ys) true) Q → σ[i]? = some (some (.ref a)) → Good X.K cm s2 σ H2 F2 L2 → Ext σ s H F L s2 H2 F2 L2 → RepL X.K cm F2 L2 ds vs → mutR m (.ref a) vs H2 Q := by
    intro σ H F L Q a vs H2 F2 L2 g k ha g2 x2 r2
    obtain ⟨a', e1, e2, e3, zs, e4, e5⟩ := g2.own i _ hd
    rw [ha] at e1; cases e1
    refine ⟨a, zs, F2, X.K, cm, L2, ds, xs, .lst ys, r, rfl, e4, g2.sub, e5, r2, hr, fun w zs' ys' ey ry rw' => ?_⟩
    cases ey
    exact k w _ F2 L2 (g2.mut hd ha ⟨zs', upd_same, ry⟩) (x2.then g2 (Ext.mut g2 hd ha)) rw' fun _ _ e => by cases e
  have tyL : ∀ {σ : L2.St} {H F : Hp} {L : List Addr} {a : Addr}, Good X.K cm s σ H F L → σ[i]? = some (some (.ref a)) → tyV X.K "list" (.ref a) H := fun g ha => by
    obtain ⟨a', e1, e2, e3, zs, e4, e5⟩ := g.own i _ e0
    rw [ha] at e1; cases e1
    exact .inl ⟨rfl, _, .of e4⟩
  cases es with
  | nil =>
    obtain ⟨rfl, rfl⟩ := hnil rfl
    have ht : some (([] : List D), s1) = some (ds, s2) := ht
    cases ht
    exact (pe_bm0 pa slot hty hm hv (attr_base _ _ _ hsup) hline).imp fun σ H Q ⟨F, L, g, k⟩ => by
      obtain ⟨a, ha, _⟩ := g.own i _ e0
      exact ⟨.ref a, ha, tyL g ha, fin g k ha g Ext.refl .nil⟩
  | cons e es =>
    refine (pe_bm pa slot hty hm hv hes.lk (attr_base _ _ _ hsup) ?_ hline (star_of (hst e List.mem_cons_self) es _) (star_all (fun e he => hst e (List.mem_cons_of_mem _ he)) _ _)).imp fun σ H Q ⟨F, L, g, k⟩ => ?_
    · exact few_of hst hlen _ _
    · obtain ⟨a, ha, _⟩ := g.own i _ e0
      exact ⟨.ref a, ha, tyL g ha, F, L, g, fun vs H1 F1 L1 g1 x1 q1 n1 => (takes_ok g g1 x1 q1 n1 ht).imp fun H2 ⟨F2, g2, x2, r2, _, _⟩ => fin g k ha g2 x2 r2⟩
end
end Mp
/-! Mp, part Q: items and fields stored; new boxes. -/
namespace Mp
open PySem PySem.Spec PyProof.Rows L2 RZ
section
variable {K : Fr0} {cm : Str → Option Addr} {b0 : List (List Int)} {σ σ' : L2.St} {s s1 s2 s' s0 : St} {H F H' F' H0 F0 H1 F1 : Hp} {L L0 L1 L' : List Addr} {t : Tmp} {ts : List Tmp} {vs : List V} {v : V} {d d' : D} {a : Addr} {o : HO} {i : Nat}
/-- a box changed -/
theorem Good.boxSet (g : Good K cm s σ H F L) {m : Nat} {is is' : List Int} (h : s.b[m]? = some is) (ha : L[m]? = some a) : Good K cm { s with b := s.b.set m is' } σ (upd H a (.lst (is'.map V.int))) F L := by
  obtain ⟨a', e1, e2, e3⟩ := g.box m is h
  rw [ha] at e1; cases e1
  have hm : a ∈ L := List.mem_of_getElem? ha
  refine ⟨fun b u e => ?_, g.len, g.pure, fun j e z => ?_, g.apart, fun k js e => ?_, by rw [List.length_set]; exact g.lenB, g.nd⟩
  · rw [upd_ne (fun z => by rw [z, e2] at e; cases e)]; exact g.sub b u e
  · obtain ⟨b, h1, h2, h3, h4⟩ := g.own j e z
    have nb : b ≠ a := fun w => h3 (w ▸ hm)
    exact ⟨b, h1, h2, h3, h4.mono (Sub.refl F) (Pfx.refl L) (upd_ne nb)⟩
  · rw [List.getElem?_set] at e
    by_cases q : m = k
    · subst q
      have hlt : m < s.b.length := (List.getElem?_eq_some_iff.mp h).1
      rw [if_pos rfl, if_pos hlt] at e
      cases e
      exact ⟨a, ha, e2, upd_same⟩
    · rw [if_neg q] at e
      obtain ⟨b, h1, h2, h3⟩ := g.box k js e
      have nb : b ≠ a := fun w => by
        subst w
        have hm1 := (List.getElem?_eq_some_iff.mp ha).1
        exact q ((List.getElem?_inj hm1 g.nd).mp (ha.trans h1.symm))
      exact ⟨b, h1, h2, by rw [upd_ne nb]; exact h3⟩
theorem RepF.put {f : Str} : ∀ {fs : List (Str × D)} {vs : List (Str × V)}, RepF K cm F L fs vs → Rep K cm F L d v → RepF K cm F L (ptF f d fs) (putF f v vs) := by
  intro fs
  induction fs with
  | nil => intro vs r q; cases r; exact .cons q .nil
  | cons p fs ih =>
    intro vs r q
    cases r with
    | cons r t =>
      simp only [ptF, putF]
      split
      · exact .cons q t
      · exact .cons r (ih t q)
theorem Lk.retag {R : Hp → Prop} (h : H a = some (.dK [])) (k : R (upd H a (.dT []))) : Lk H R := ⟨fun X pins σ s I => by
  obtain ⟨hd, dd⟩ := dk_dt0 I.hok (.inl h)
  obtain ⟨q, ep, eq, hq, h1, h2, h3, h4⟩ := dd
  refine ⟨_, d_write (t' := s.toks) (h' := s.heap) (ob := .dT []) I (by rw [h]; exact True.intro) ⟨rfl, fun _ _ => rfl⟩ ⟨q, hq⟩ ⟨Nat.zero_le _, hd, [], .nil, q, ep, eq, hq, h1, h2, h3, ?_⟩, k⟩
  exact List.nodup_nil⟩
end
section
variable {X : Cx} {cm : Str → Option Addr} {s s1 s2 s3 s' : St} {t u : Tmp} {ts : List Tmp} {e o i : Expr} {pos p1 : Pos} {d k : D} {j : Nat}
/-- b[i] = e, b a box -/
theorem rs_setBox {m : Nat} {z p : Int} {is : List Int} {q : Nat} {ow : Bool} (he : PE X e (tE X.K cm s t s1)) (ht : take t s1 = some (.int z, s2)) (hj0 : (s2.get j).isSome = true) (ho : PE X o (tVar j)) (hi : PE X i (tE X.K cm s2 u s3)) (hk : u.d s3 = some (.int p)) (hj : s3.get j = some (.box m, ow)) (hb : s3.b[m]? = some is) (hq : ixN is.length p = some q)
    (ha : ∀ v, assign (.Subscript o i p1) X.env v = (do
      let ov ← holding [v] (eval o X.env)
      let iv ← holding [v, ov] (eval i X.env)
      standAt p1
      holding [v, ov, iv] (setItem ov iv v)
      release [v, ov, iv] []))
    (hs : swapsWithSole [.Subscript o i p1] e pos.line X.env = pure false) (hw : swappedStores [.Subscript o i p1] e X.env = pure none) (h1 : (assignEach [.Subscript o i p1] X.env).map (·.2) = [assign (.Subscript o i p1) X.env]) :
    PS X (.Assign [.Subscript o i p1] e pos) (tS X.K cm s .nx { s3 with b := s3.b.set m (is.set q z) }) :=
  (ps_asg he.lk (pg_sub ho hi set_list ha) hs hw h1).imp fun D σ H ⟨b0, H0, F0, L0, F, L, b, pp⟩ => ⟨F, L, b.g, fun v H1 F1 L1 g1 x1 q1 n1 => (take_ok g1 b.g x1 q1 n1 ht).imp fun H2 ⟨F2, g2, x2, r2, _, _⟩ => by
    cases r2
    have b2 := b.expr g2 x2
    obtain ⟨pr, hh⟩ := Option.isSome_iff_exists.mp hj0
    obtain ⟨w, hw⟩ := slot_val g2 hh
    refine ⟨w, hw, F2, L1, g2, fun y H3 F3 L3 g3 x3 q3 n3 => ?_⟩
    have b3 := b2.expr g3 x3
    cases ow with
    | true =>
      obtain ⟨a, _, _, _, top⟩ := g3.own j _ hj
      exact top.elim
    | false =>
      obtain ⟨w', e1, e2⟩ := g3.pure j _ hj
      rw [hw] at e1; cases e1
      cases e2 with
      | @box _ a ea =>
        obtain ⟨a', e3, e4, e5⟩ := g3.box m is hb
        rw [ea] at e3; cases e3
        refine ⟨a, _, p, q, rfl, vw_int (q3.vw g3 hk), e5, by rw [List.length_map]; exact hq, ?_⟩
        have em : (is.map V.int).set q (V.int z) = (is.set q z).map V.int := by rw [List.map_set]
        rw [em]
        refine pp σ _ F3 L3 (b3.upd (g3.boxSet hb ea) (fun u hu => ?_) fun c h => h) (x2.sub.trans x3.sub) (x2.pre.trans x3.pre)
        rcases b3.x.newL a (List.mem_of_getElem? ea) with h | h
        · exact h
        · rw [h] at hu; cases hu⟩
/-- l[i] = e, a list of one's own -/
theorem rs_setLst {p : Int} {xs : List D} {q : Nat} (he : PE X e (tE X.K cm s t s1)) (ht : take t s1 = some (d, s2)) (hj0 : (s2.get j).isSome = true) (ho : PE X o (tVar j)) (hi : PE X i (tE X.K cm s2 u s3)) (hk : u.d s3 = some (.int p)) (hj : s3.get j = some (.lst xs, true)) (hq : ixN xs.length p = some q)
    (ha : ∀ v, assign (.Subscript o i p1) X.env v = (do
      let ov ← holding [v] (eval o X.env)
      let iv ← holding [v, ov] (eval i X.env)
      standAt p1
      holding [v, ov, iv] (setItem ov iv v)
      release [v, ov, iv] []))
    (hs : swapsWithSole [.Subscript o i p1] e pos.line X.env = pure false) (hw : swappedStores [.Subscript o i p1] e X.env = pure none) (h1 : (assignEach [.Subscript o i p1] X.env).map (·.2) = [assign (.Subscript o i p1) X.env]) :
    PS X (.Assign [.Subscript o i p1] e pos) (tS X.K cm s .nx (s3.put j (.lst (xs.set q d)) true)) :=
  (ps_asg he.lk (pg_sub ho hi set_list ha) hs hw h1).imp fun D σ H ⟨b0, H0, F0, L0, F, L, b, pp⟩ => ⟨F, L, b.g, fun v H1 F1 L1 g1 x1 q1 n1 => (take_ok g1 b.g x1 q1 n1 ht).imp fun H2 ⟨F2, g2, x2, r2, _, _⟩ => by
    have b2 := b.expr g2 x2
    obtain ⟨pr, hh⟩ := Option.isSome_iff_exists.mp hj0
    obtain ⟨w, hw⟩ := slot_val g2 hh
    refine ⟨w, hw, F2, L1, g2, fun y H3 F3 L3 g3 x3 q3 n3 => ?_⟩
    have b3 := b2.expr g3 x3
    obtain ⟨a, e1, e2, e3, zs, e4, e5⟩ := g3.own j _ hj
    rw [hw] at e1; cases e1
    refine ⟨a, zs, p, q, rfl, vw_int (q3.vw g3 hk), e4, by rw [← e5.len]; exact hq, ?_⟩
    exact pp σ _ F3 L3 (b3.upd (g3.mut hj hw ⟨_, upd_same, e5.set q (Rep.mono x3.sub x3.pre r2)⟩) (fun z hz => absurd (b3.own a ⟨j, _, hj, hw⟩) (by rw [hz]; simp)) fun c h => own_mut hj h) (x2.sub.trans x3.sub) (x2.pre.trans x3.pre)⟩
theorem relT_pt {K : Fr0} {F : Hp} {L : List Addr} {k : List Key} {d : D} {v : V} {ks : List (List Key × D)} {vs : List (List Key × V)} (r : RepT K cm F L ks vs) (q : Rep K cm F L d v) : RepT K cm F L (pt ks k d) (putK vs k v) := by
  have hany : ∀ {ks : List (List Key × D)} {vs : List (List Key × V)}, RepT K cm F L ks vs → (ks.any fun kv => decide (kv.1 = k)) = (vs.any fun kv => decide (kv.1 = k)) := by
    intro ks
    induction ks with
    | nil => intro vs r; cases r; rfl
    | cons p ks ih =>
      intro vs r
      cases r with
      | cons r t => simp only [List.any_cons]; rw [ih t]
  have hmap : ∀ {ks : List (List Key × D)} {vs : List (List Key × V)}, RepT K cm F L ks vs → RepT K cm F L (ks.map fun kv => if kv.1 = k then (kv.1, d) else kv) (vs.map fun kv => if kv.1 = k then (kv.1, v) else kv) := by
    intro ks
    induction ks with
    | nil => intro vs r; cases r; exact .nil
    | cons p ks ih =>
      intro vs r
      cases r with
      | @cons k' d' _ v' vs' r t =>
        simp only [List.map_cons]
        by_cases e : k' = k
        · rw [if_pos e, if_pos e]; exact .cons q (ih t)
        · rw [if_neg e, if_neg e]; exact .cons r (ih t)
  have happ : ∀ {ks : List (List Key × D)} {vs : List (List Key × V)}, RepT K cm F L ks vs → RepT K cm F L (ks ++ [(k, d)]) (vs ++ [(k, v)]) := by
    intro ks
    induction ks with
    | nil => intro vs r; cases r; exact .cons q .nil
    | cons p ks ih =>
      intro vs r
      cases r with
      | cons r t => exact .cons r (ih t)
  unfold pt putK
  rw [hany r]
  split
  · exact hmap r
  · exact happ r
theorem repT_len {K : Fr0} {F : Hp} {L : List Addr} {ks : List (List Key × D)} {vs : List (List Key × V)} (r : RepT K cm F L ks vs) : ks.length = vs.length := (repT_get r).1
/-- dPut over a dict that stands for itself -/
theorem dPut_ok {K : Fr0} {H F : Hp} {L : List Addr} {a : Addr} {x x' kd d : D} {y v : V} (hs : Sub F H) (top : Top K cm H F L x a) (vy : Vw K cm H F L kd y) (rv : Rep K cm F L d v) (h : dPut x kd d = some x') (hf : F a = none) :
    Lk H fun H2 => ∃ H3 o, DPut H2 a y v H3 ∧ H3 = upd H a o ∧ Top K cm H3 F L x' a := by
  unfold dPut at h
  split at h
  · rename_i kvs xs
    split at h
    · rename_i ks e
      cases h
      obtain ⟨vs, e1, e2⟩ := top
      cases e2
      obtain ⟨b, ws, rfl, h2, r2⟩ := vw_tup vy
      obtain ⟨e3, _⟩ := keyS_v e r2
      subst e3
      have nb : b ≠ a := fun z => by rw [z, hf] at h2; cases h2
      refine .retag e1 ⟨_, .dT [(ks, v)], .inr ⟨[], ks, b, upd_same, rfl, ?_, by rw [sizeLine_eq]; simp, rfl⟩, ?_, ?_⟩
      · rw [upd_ne nb]; exact hs _ _ h2
      · funext c
        by_cases z : c = a
        · rw [z, upd_same, upd_same]; rfl
        · rw [upd_ne z, upd_ne z, upd_ne z]
      · exact ⟨_, upd_same, .cons rv .nil⟩
    · cases h
  · rename_i kvs hn
    cases e : key1 kd with
    | none => rw [e] at h; cases h
    | some kk =>
      rw [e] at h
      have h : (if kvs.length < sizeLine then some (.dK (pt kvs kk d)) else none) = some x' := h
      split at h
      · rename_i c
        cases h
        obtain ⟨vs, e1, e2⟩ := top
        have ey := key1_rep e vy
        subst ey
        exact .ret ⟨_, _, .k e1 (by rw [← repK_len e2]; exact c), rfl, ⟨_, upd_same, rel_pt e2 rv⟩⟩
      · cases h
  · rename_i kvs xs
    cases e : keyS xs with
    | none => rw [e] at h; cases h
    | some ks =>
      rw [e] at h
      have h : (if kvs.length < sizeLine then some (.dT (pt kvs ks d)) else none) = some x' := h
      split at h
      · rename_i c
        cases h
        obtain ⟨vs, e1, e2⟩ := top
        obtain ⟨b, ws, rfl, h2, r2⟩ := vw_tup vy
        obtain ⟨e3, _⟩ := keyS_v e r2
        subst e3
        exact .ret ⟨_, _, .t e1 (hs _ _ h2) (by rw [← repT_len e2]; exact c), rfl, ⟨_, upd_same, relT_pt e2 rv⟩⟩
      · cases h
  · cases h
/-- d[k] = e, a dict of one's own -/
theorem rs_setDic (hu : X.A.units + 1 < cLine) {x x' : D} (he : PE X e (tE X.K cm s t s1)) (ht : take t s1 = some (d, s2)) (hj0 : (s2.get j).isSome = true) (ho : PE X o (tVar j)) (hi : PE X i (tE X.K cm s2 u s3)) (hk : u.d s3 = some k) (hj : s3.get j = some (x, true)) (hq : dPut x k d = some x')
    (ha : ∀ v, assign (.Subscript o i p1) X.env v = (do
      let ov ← holding [v] (eval o X.env)
      let iv ← holding [v, ov] (eval i X.env)
      standAt p1
      holding [v, ov, iv] (setItem ov iv v)
      release [v, ov, iv] []))
    (hs : swapsWithSole [.Subscript o i p1] e pos.line X.env = pure false) (hw : swappedStores [.Subscript o i p1] e X.env = pure none) (h1 : (assignEach [.Subscript o i p1] X.env).map (·.2) = [assign (.Subscript o i p1) X.env]) :
    PS X (.Assign [.Subscript o i p1] e pos) (tS X.K cm s .nx (s3.put j x' true)) :=
  (ps_asg he.lk (pg_sub ho hi.lk (set_dict hu) ha) hs hw h1).imp fun D σ H ⟨b0, H0, F0, L0, F, L, b, pp⟩ => ⟨F, L, b.g, fun v H1 F1 L1 g1 x1 q1 n1 => (take_ok g1 b.g x1 q1 n1 ht).imp fun H2 ⟨F2, g2, x2, r2, _, _⟩ => by
    have b2 := b.expr g2 x2
    obtain ⟨pr, hh⟩ := Option.isSome_iff_exists.mp hj0
    obtain ⟨w, hw⟩ := slot_val g2 hh
    refine ⟨w, hw, F2, L1, g2, fun y H3 F3 L3 g3 x3 q3 n3 => ?_⟩
    have b3 := b2.expr g3 x3
    obtain ⟨a, e1, e2, e3, e4⟩ := g3.own j _ hj
    rw [hw] at e1; cases e1
    refine (dPut_ok g3.sub e4 (q3.vw g3 hk) (Rep.mono x3.sub x3.pre r2) hq e2).imp fun H4 ⟨H5, o5, dp, eH, top⟩ => ⟨a, H5, rfl, dp, ?_⟩
    subst eH
    exact pp σ _ F3 L3 (b3.upd (g3.mut hj hw top) (fun z hz => absurd (b3.own a ⟨j, _, hj, hw⟩) (by rw [hz]; simp)) fun c h => own_mut hj h) (x2.sub.trans x3.sub) (x2.pre.trans x3.pre)⟩
/-- self.f = e -/
theorem rs_asgF {f c : Str} {fs : List (Str × D)} (ck : ClsOk X.K cm) (he : PE X e (tE X.K cm s t s1)) (ht : take t s1 = some (d, s2)) (ho : PE X o (tVar j)) (hj : s2.get j = some (.ins c fs, true)) (hl : fs.length < 1000) (hf : f ∈ flds)
    (hs : swapsWith e (some (.Attribute o f p1)) pos.line X.env = pure false) : PS X (.Assign [.Attribute o f p1] e pos) (tS X.K cm s .nx (s2.put j (.ins c (ptF f d fs)) true)) :=
  (ps_fld ho he.lk hs).imp fun D σ H ⟨b0, H0, F0, L0, F, L, b, pp⟩ => ⟨F, L, b.g, fun v H1 F1 L1 g1 x1 q1 n1 => (take_ok g1 b.g x1 q1 n1 ht).imp fun H2 ⟨F2, g2, x2, r2, _, _⟩ => by
    have b2 := b.expr g2 x2
    obtain ⟨a, e1, e2, e3, C, dx, vs, h1, h2, h3⟩ := g2.own j _ hj
    refine ⟨.ref a, e1, a, C, dx, vs, rfl, h2, ck.cls c C h1, ck.noat c C f h1 hf, by rw [← h3.len]; exact hl, ?_⟩
    exact pp σ _ F2 L1 (b2.upd (g2.mut hj e1 ⟨C, dx, _, h1, upd_same, h3.put r2⟩) (fun z hz => absurd (b2.own a ⟨j, _, hj, e1⟩) (by rw [hz]; simp)) fun c h => own_mut hj h) x2.sub x2.pre⟩
end
end Mp
/-! Mp, part R: chains, displays, methods that change nothing. -/
namespace Mp
open PySem PySem.Spec PyProof.Rows L2 RZ
section
variable {X : Cx} {cm : Str → Option Addr} {s s1 s2 s3 s' : St} {t u w : Tmp} {ts : List Tmp} {a b c e o : Expr} {pos p1 : Pos} {d k : D} {j : Nat}
theorem re_chn1 {op op' : CmpOp} {x y z y' : D} {r : Bool} (hu : X.A.units + 65 < cLine) (ha : PE X a (tE X.K cm s t s1)) (hb : PE X b (tE X.K cm s1 u s2)) (hx : t.d s2 = some x) (hy : u.d s2 = some y) (h : cmpD op x y = some true) (hc : PE X c (tE X.K cm s2 w s3)) (hy' : u.d s3 = some y') (hz : w.d s3 = some z) (h' : cmpD op' y' z = some r) (hm : lastMarks [op, op'] [b, c] = false) : PE X (.Compare a [op, op'] [b, c] pos) (tE X.K cm s (.v (.bl r) false) s3) :=
  (pe_chain (cmp_ok hu op) (cmp_ok hu op') ha hb hc hm).imp fun σ H Q ⟨F, L, g, k⟩ => ⟨F, L, g, fun v1 H1 F1 L1 g1 x1 q1 n1 => ⟨F1, L1, g1, fun v2 H2 F2 L2 g2 x2 q2 n2 =>
    ⟨F2, L2, x, y, true, g2.sub, (q1.ext g1 x2).vw g2 hx, q2.vw g2 hy, h, true, rfl, by
      rw [if_pos rfl]
      exact ⟨F2, L2, g2, fun v3 H3 F3 L3 g3 x3 q3 n3 => ⟨F3, L3, y', z, r, g3.sub, (q2.ext g2 x3).vw g3 hy', q3.vw g3 hz, h', (k.step g3 (x1.then g1 (x2.then g2 x3))).old g3 (.bl r)⟩⟩⟩⟩⟩
theorem re_chn0 {op op' : CmpOp} {x y : D} {tc : TE} (hu : X.A.units + 65 < cLine) (ha : PE X a (tE X.K cm s t s1)) (hb : PE X b (tE X.K cm s1 u s2)) (hx : t.d s2 = some x) (hy : u.d s2 = some y) (h : cmpD op x y = some false) (hm : lastMarks [op, op'] [b, c] = false) : PE X (.Compare a [op, op'] [b, c] pos) (tE X.K cm s (.v (.bl false) false) s2) :=
  (pe_chain (cmp_ok (cm := cm) hu op) (cmp_ok (cm := cm) hu op') ha hb (tc := fun _ _ _ => False) ⟨fun _ _ _ _ _ _ h => h.elim⟩ hm).imp fun σ H Q ⟨F, L, g, k⟩ => ⟨F, L, g, fun v1 H1 F1 L1 g1 x1 q1 n1 => ⟨F1, L1, g1, fun v2 H2 F2 L2 g2 x2 q2 n2 =>
    ⟨F2, L2, x, y, false, g2.sub, (q1.ext g1 x2).vw g2 hx, q2.vw g2 hy, h, false, rfl, by
      rw [if_neg Bool.false_ne_true]
      exact (k.step g2 (x1.then g1 x2)).old g2 (.bl false)⟩⟩⟩
theorem rt_chn1 {op op' : CmpOp} {x y z y' : D} {r : Bool} (hu : X.A.units + 65 < cLine) (ha : PE X a (tE X.K cm s t s1)) (hb : PE X b (tE X.K cm s1 u s2)) (hx : t.d s2 = some x) (hy : u.d s2 = some y) (h : cmpD op x y = some true) (hc : PE X c (tE X.K cm s2 w s3)) (hy' : u.d s3 = some y') (hz : w.d s3 = some z) (h' : cmpD op' y' z = some r) (hm : lastMarks [op, op'] [b, c] = false) : PT X (.Compare a [op, op'] [b, c] pos) (tTs X.K cm s r s3) :=
  (pt_chain (cmp_ok hu op) (cmp_ok hu op') ha hb hc hm).imp fun σ H Q ⟨F, L, g, k⟩ => ⟨F, L, g, fun v1 H1 F1 L1 g1 x1 q1 n1 => ⟨F1, L1, g1, fun v2 H2 F2 L2 g2 x2 q2 n2 =>
    ⟨F2, L2, x, y, true, g2.sub, (q1.ext g1 x2).vw g2 hx, q2.vw g2 hy, h, true, rfl, by
      rw [if_pos rfl]
      exact ⟨F2, L2, g2, fun v3 H3 F3 L3 g3 x3 q3 n3 => ⟨F3, L3, y', z, r, g3.sub, (q2.ext g2 x3).vw g3 hy', q3.vw g3 hz, h', r, rfl, k H3 F3 L3 g3 (x1.then g1 (x2.then g2 x3))⟩⟩⟩⟩⟩
theorem rt_chn0 {op op' : CmpOp} {x y : D} (hu : X.A.units + 65 < cLine) (ha : PE X a (tE X.K cm s t s1)) (hb : PE X b (tE X.K cm s1 u s2)) (hx : t.d s2 = some x) (hy : u.d s2 = some y) (h : cmpD op x y = some false) (hm : lastMarks [op, op'] [b, c] = false) : PT X (.Compare a [op, op'] [b, c] pos) (tTs X.K cm s false s2) :=
  (pt_chain (cmp_ok (cm := cm) hu op) (cmp_ok (cm := cm) hu op') ha hb (tc := fun _ _ _ => False) ⟨fun _ _ _ _ _ _ h => h.elim⟩ hm).imp fun σ H Q ⟨F, L, g, k⟩ => ⟨F, L, g, fun v1 H1 F1 L1 g1 x1 q1 n1 => ⟨F1, L1, g1, fun v2 H2 F2 L2 g2 x2 q2 n2 =>
    ⟨F2, L2, x, y, false, g2.sub, (q1.ext g1 x2).vw g2 hx, q2.vw g2 hy, h, false, rfl, by
      rw [if_neg Bool.false_ne_true]
      exact ⟨false, rfl, k H2 F2 L2 g2 (x1.then g1 x2)⟩⟩⟩⟩
/-- {} -/
theorem re_dic0 : PE X (.Dict [] [] pos) (tE X.K cm s (.v (.dK []) true) s) := pe_dnewK.imp fun σ H Q ⟨F, L, g, k⟩ p hp => k.newTop g hp ⟨[], upd_same, .nil⟩
/-- a list display that makes a box -/
theorem re_box {es : List Expr} {ds : List D} {is : List Int} (h : PA X es (tAs X.K cm s ts s1)) (ht : takes ts s1 = some (ds, s2)) (hi : intsOf ds = some is) (hz : is.length ≤ sizeLine) : PE X (.List es pos) (tE X.K cm s (.v (.box s2.b.length) false) { s2 with b := s2.b ++ [is] }) :=
  (pe_lst h.lk).imp fun σ H Q ⟨F, L, g, k⟩ => ⟨F, L, g, fun vs H1 F1 L1 g1 x1 q1 n1 => (takes_ok g g1 x1 q1 n1 ht).imp fun H2 ⟨F2, g2, x2, r2, _, _⟩ => by
    obtain ⟨ev, ed⟩ := ints_v hi r2
    subst ev
    have hl : is.length ≤ sizeLine := hz
    refine ⟨by rw [List.length_map]; exact hl, fun p hp => ?_⟩
    have hF : F2 p = none := g2.fnone hp
    have hL : p ∉ L1 := fun z => g2.dL z hp
    have g3 : Good X.K cm { s2 with b := s2.b ++ [is] } σ (upd H2 p (.lst (is.map V.int))) F2 (L1 ++ [p]) := by
      have gl := g2.laid (o := .lst (is.map V.int)) hp
      refine ⟨gl.sub, gl.len, fun i d e => ?_, fun i d e => ?_, gl.apart, fun k js e => ?_, by simp [gl.lenB], ?_⟩
      · obtain ⟨v, h1, h2⟩ := gl.pure i d e
        exact ⟨v, h1, Rep.mono (Sub.refl _) (Pfx.snoc L1 [p]) h2⟩
      · obtain ⟨a, h1, h2, h3, h4⟩ := gl.own i d e
        refine ⟨a, h1, h2, fun z => ?_, h4.mono (Sub.refl _) (Pfx.snoc L1 [p]) rfl⟩
        rcases List.mem_append.mp z with z | z
        · exact h3 z
        · rw [List.mem_singleton] at z
          subst z
          exact g2.dO ⟨i, d, e, h1⟩ hp
      · show ∃ a, (L1 ++ [p])[k]? = some a ∧ F2 a = none ∧ upd H2 p (.lst (is.map V.int)) a = some (.lst (js.map V.int))
        have e : (s2.b ++ [is])[k]? = some js := e
        rcases Nat.lt_or_ge k s2.b.length with q | q
        · rw [List.getElem?_append_left q] at e
          obtain ⟨a, h1, h2, h3⟩ := gl.box k js e
          exact ⟨a, by rw [List.getElem?_append_left (by rw [← g2.lenB]; exact q)]; exact h1, h2, h3⟩
        · rw [List.getElem?_append_right q] at e
          have ek : k - s2.b.length = 0 := by
            rcases Nat.eq_zero_or_pos (k - s2.b.length) with z | z
            · exact z
            · rw [List.getElem?_eq_none (by simp; omega)] at e; cases e
          rw [ek] at e
          cases e
          refine ⟨p, ?_, hF, upd_same⟩
          rw [List.getElem?_append_right (by rw [← g2.lenB]; exact q), ← g2.lenB, ek]
          rfl
      · rw [List.nodup_append]
        refine ⟨g2.nd, by simp, fun a ha b hb => ?_⟩
        rw [List.mem_singleton] at hb
        subst hb
        exact fun z => hL (z ▸ ha)
    have x3 : Ext σ s2 H2 F2 L1 { s2 with b := s2.b ++ [is] } (upd H2 p (.lst (is.map V.int))) F2 (L1 ++ [p]) := by
      have xl : Ext σ s2 H2 F2 L1 s2 (upd H2 p (.lst (is.map V.int))) F2 L1 := Ext.laid hp
      refine ⟨xl.sub, xl.new, Pfx.snoc L1 [p], fun a ha => ?_, xl.frame, xl.dom, xl.ownS, xl.have_, xl.same, xl.no⟩
      rcases List.mem_append.mp ha with z | z
      · exact .inl z
      · rw [List.mem_singleton] at z
        exact .inr (z ▸ hp)
    refine k (.ref p) _ F2 (L1 ++ [p]) g3 (x2.then g2 x3) (show Rep X.K cm F2 (L1 ++ [p]) (.box s2.b.length) (.ref p) from .box ?_) fun _ _ e => by cases e
    rw [g2.lenB, List.getElem?_append_right (Nat.le_refl _), Nat.sub_self]
    rfl⟩
/-- f(e), f built in -/
theorem re_biB {id : String} {f : Str} {x : D} {fr : Bool} {p : Pos} (hb : BiOk X cm (.builtin id) (fun d => biD f [d])) (he : PE X e (tE X.K cm s t s1)) (hx : t.d s1 = some x) (h : biD f [x] = some (d, fr)) (hg : Gl X f) (hm : X.mg f = none) (hv : bootBuiltins f = some (.builtin id)) (hn : f ≠ "__name__") (hd : (f == ("__debug__" : Str)) = false) (hs : nst e = true) :
    PE X (.Call (.Name f p) [e] [] pos) (tE X.K cm s (.v d fr) s1) :=
  (pe_callB hb hg hm hv (pa_cons he pa_nil (star_of hs _ _)) hn hd (star_of hs _ _)).imp fun σ H Q ⟨F, L, g, k⟩ => ⟨F, L, g, fun v H1 F1 L1 g1 x1 q1 n1 => ⟨F1, L1, v, x, d, fr, rfl, g1.sub, q1.vw g1 hx, h, (k.step g1 x1).rsF g1⟩⟩
theorem re_biT {T : String} {f : Str} {x : D} {fr : Bool} {p : Pos} (hb : BiOk X cm (.type T) (fun d => biD f [d])) (he : PE X e (tE X.K cm s t s1)) (hx : t.d s1 = some x) (h : biD f [x] = some (d, fr)) (hg : Gl X f) (hm : X.mg f = none) (hv : bootBuiltins f = some (.type T)) (hn : f ≠ "__name__") (hd : (f == ("__debug__" : Str)) = false) (hs : nst e = true) :
    PE X (.Call (.Name f p) [e] [] pos) (tE X.K cm s (.v d fr) s1) :=
  (pe_callTy hb hg hm hv (pa_cons he pa_nil (star_of hs _ _)) hn hd (star_of hs _ _)).imp fun σ H Q ⟨F, L, g, k⟩ => ⟨F, L, g, fun v H1 F1 L1 g1 x1 q1 n1 => ⟨F1, L1, v, x, d, fr, rfl, g1.sub, q1.vw g1 hx, h, (k.step g1 x1).rsF g1⟩⟩
theorem pyL_get : ∀ (xs : List D) (i : Nat), (pyL xs)[i]? = (xs[i]?).map D.py
  | [], i => by simp [pyL]
  | x :: xs, 0 => by simp [pyL]
  | x :: xs, i + 1 => by simp [pyL, pyL_get xs i]
/-- l.index(e) -/
theorem re_index {xs : List D} {x0 y : D} {fr : Bool} {apos : Pos} (hu : X.A.units + 65 < cLine) (ho : PE X o (tE X.K cm s t s1)) (h0 : t.d s1 = some x0) (hk : ∃ ys, x0 = .lst ys) (he : PE X e (tE X.K cm s1 u s2)) (hx : t.d s2 = some (.lst xs)) (hy : u.d s2 = some y) (h : metD "index" (.lst xs) [y] = some (d, fr)) (hs : nst e = true) (hsup : NoSup o) (hline : (apos.endLine == pos.line) = true) :
    PE X (.Call (.Attribute o "index" apos) [e] [] pos) (tE X.K cm s (.v d fr) s2) := by
  obtain ⟨ys0, rfl⟩ := hk
  refine (pe_bm PySem.F.plainAttrs_list PySem.F.slot_list_index PySem.F.type_list_index (mt_indexD hu) ho (pa_cons he pa_nil (star_of hs _ _)) (attr_base _ _ _ hsup) ?_ hline (star_of hs _ _)).imp fun σ H Q ⟨F, L, g, k⟩ => ⟨F, L, g, fun v H1 F1 L1 g1 x1 q1 n1 => ?_⟩
  · exact few_of (fun e' he' => by rw [List.mem_singleton] at he'; rw [he']; exact hs) (by simp) _ _
  · obtain ⟨a, vs, rfl, h1, r1⟩ := vw_lst (q1.vw g1 h0)
    refine ⟨.inl ⟨rfl, _, .of h1⟩, F1, L1, g1, fun w H2 F2 L2 g2 x2 q2 n2 => ?_⟩
    have vx := (q1.ext g1 x2).vw g2 hx
    obtain ⟨a', vs', ea, h2, r2⟩ := vw_lst vx
    cases ea
    have h' : (match xs.findIdx? fun z => PyData.eqv z.py y.py with
      | some k => if (y.sh && (D.lst xs).sh) = true then some (D.int k, false) else none
      | none => none) = some (d, fr) := h
    cases e1 : xs.findIdx? fun z => PyData.eqv z.py y.py with
    | none => rw [e1] at h'; cases h'
    | some j =>
      rw [e1] at h'
      have h' : (if (y.sh && (D.lst xs).sh) = true then some (D.int j, false) else none) = some (d, fr) := h'
      split at h'
      · rename_i c
        rw [Bool.and_eq_true] at c
        cases h'
        obtain ⟨hlt, e2, e3⟩ := List.findIdx?_eq_some_iff_getElem.mp e1
        refine ⟨a, w, y.py, pyL xs, j, (xs[j]).py, rfl, rfl, Vw.dp (d := .lst xs) g2.sub vx (pl_of c.2), (q2.vw g2 hy).dp g2.sub (pl_of c.1), shaped_of c.2, shaped_of c.1, ?_, e2, fun m z' hm hz => ?_, (k.step g2 (x1.then g1 x2)).old g2 (.int j)⟩
        · rw [pyL_get, List.getElem?_eq_getElem hlt]; rfl
        · rw [pyL_get] at hz
          have hml : m < xs.length := by omega
          rw [List.getElem?_eq_getElem hml] at hz
          cases hz
          have := e3 m hm
          simpa using this
      · cases h'
/-- d.get(e) -/
theorem re_get {ks : List (Key × D)} {x0 y : D} {fr : Bool} {apos : Pos} (hu : X.A.units + 1 < cLine) (ho : PE X o (tE X.K cm s t s1)) (h0 : t.d s1 = some x0) (hk : ∃ ys, x0 = .dK ys) (he : PE X e (tE X.K cm s1 u s2)) (hx : t.d s2 = some (.dK ks)) (hy : u.d s2 = some y) (h : metD "get" (.dK ks) [y] = some (d, fr)) (hs : nst e = true) (hsup : NoSup o) (hline : (apos.endLine == pos.line) = true) :
    PE X (.Call (.Attribute o "get" apos) [e] [] pos) (tE X.K cm s (.v d fr) s2) := by
  obtain ⟨ys0, rfl⟩ := hk
  refine (pe_dget1 hu ho he ⟨attr_base _ _ _ hsup, ?_, hline, ?_⟩).imp fun σ H Q ⟨F, L, g, k⟩ => ⟨F, L, g, fun v H1 F1 L1 g1 x1 q1 n1 => ?_⟩
  · exact few_of (fun e' he' => by rw [List.mem_singleton] at he'; rw [he']; exact hs) (by simp) _ _
  · rw [star_of hs]; rfl
  · obtain ⟨a, vs, rfl, h1, r1⟩ := (show Vw X.K cm H1 F1 L1 (.dK ys0) v from q1.vw g1 h0)
    refine ⟨a, rfl, .inl ⟨vs, h1⟩, F1, L1, g1, fun w H2 F2 L2 g2 x2 q2 n2 => ?_⟩
    obtain ⟨a', vs', ea, h2, r2⟩ := (show Vw X.K cm H2 F2 L2 (.dK ks) (.ref a) from (q1.ext g1 x2).vw g2 hx)
    cases ea
    have h' : (key1 y).bind (fun k => some ((lk ks k).getD .non, false)) = some (d, fr) := h
    obtain ⟨kk, e1, e2⟩ := obind h'
    cases e2
    have ew := key1_rep e1 (q2.vw g2 hy)
    subst ew
    refine ⟨valV vs' kk, .inl ⟨vs', kk, h2, rfl, rfl⟩, ?_⟩
    rcases lk_val r2.paired kk with ⟨h3, h4⟩ | ⟨d', w, h3, h4, h5⟩
    · rw [h4]
      rw [h3] at k
      exact (k.step g2 (x1.then g1 x2)).old g2 .non
    · rw [h4]
      rw [h3] at k
      exact (k.step g2 (x1.then g1 x2)).old g2 h5
end
end Mp
/-! Mp, part S: expressions, by the eraser. -/
namespace Mp
open PySem PySem.Spec PyProof.Rows L2 RZ

def bNames : List Str := biNames ++ itNames ++ isiNames
structure Amb (X : Cx) (cm : Str → Option Addr) (kk : Nat) (C : CallF) : Prop where
  nd : X.N.Nodup
  calm : X.calm = true
  cal : Cal X.prog X.w X.K X.mg X.base X.A kk cm C
  ck : ClsOk X.K cm
  nb : ∀ x ∈ bNames, X.mg x = none
/-- a module's name that stands for a text or a number -/
def ConAt (o : Option Value) : Key → Prop
  | .inr z => ∃ t, o = some (.str z t)
  | .inl i => ∃ t, o = some (.int i t)
/-- the scope at hand is sc, but for captured names; the module's texts -/
structure Sc (X : Cx) (c : Ec) (sc : Scope) : Prop where
  N : X.N = c.N
  loc : ∀ x, sc.names.lookup x = some .local → X.env.scope.names.lookup x = some .local
  cell : ∀ x, sc.names.lookup x = some .cell → X.env.scope.names.lookup x = some .cell
  free : ∀ x, sc.names.lookup x = some .free → X.env.scope.names.lookup x = some .cell ∨ X.env.scope.names.lookup x = some .free
  glob : ∀ x, sc.names.lookup x = some .globalImplicit → X.env.scope.names.lookup x = some .globalImplicit
  fn : ∀ x, sc.names.lookup x = some .cell → X.fn x = true
  gs : ∀ x z, c.gs.lookup x = some z → ConAt (X.mg x) z
  pm : ∀ f ps, c.pm.lookup f = some ps → ∃ fa, X.mg f = some (.ref fa) ∧ PmOf X.K fa ps
section
variable {X : Cx} {cm : Str → Option Addr} {kk : Nat} {C : CallF} {c : Ec} {sc : Scope} {x : Str} {i : Nat}
theorem Amb.un (A : Amb X cm kk C) : X.A.units + 65 < cLine := by have := A.cal.room.un; omega
theorem findIdx_get {N : List Str} {x : Str} {i : Nat} (h : (N.findIdx? fun y => decide (y = x)) = some i) : N[i]? = some x := by
  obtain ⟨h1, h2, _⟩ := List.findIdx?_eq_some_iff_getElem.mp h
  rw [List.getElem?_eq_getElem h1, of_decide_eq_true h2]
theorem slot_of (S : Sc X c sc) (h : slotOf c.N sc x = some i) : X.N[i]? = some x ∧ Vis X.env.scope x := by
  rw [S.N]
  unfold slotOf at h
  split at h
  · rename_i e; exact ⟨findIdx_get h, .inl (S.loc x e)⟩
  · rename_i e; exact ⟨findIdx_get h, .inr (.inl (S.cell x e))⟩
  · rename_i e
    refine ⟨findIdx_get h, ?_⟩
    rcases S.free x e with q | q
    · exact .inr (.inl q)
    · exact .inr (.inr q)
  · cases h
theorem slotL_of (S : Sc X c sc) (h : slotL c.N sc x = some i) : X.N[i]? = some x ∧ Loc X.env.scope x ∧ (X.fn x = true ∨ X.env.scope.names.lookup x = some .local) := by
  rw [S.N]
  unfold slotL at h
  split at h
  · rename_i e; exact ⟨findIdx_get h, .inl (S.loc x e), .inr (S.loc x e)⟩
  · rename_i e; exact ⟨findIdx_get h, .inr (S.cell x e), .inl (S.fn x e)⟩
  · cases h
theorem glob_of (S : Sc X c sc) (h : globOf sc x = true) : Gl X x := by
  unfold globOf at h
  split at h
  · rename_i e; exact S.glob x e
  · cases h
/-- a block's scope -/
theorem relS_free {sc : Scope} : ∀ {names : List (Str × NameKind)} {x : Str}, names.lookup x = some .free →
    (names.map fun (n, k) => if (k == NameKind.free && sc.kind == .function && sc.names.lookup n == some .cell) then (n, NameKind.cell) else (n, k)).lookup x = some .cell ∨
    (names.map fun (n, k) => if (k == NameKind.free && sc.kind == .function && sc.names.lookup n == some .cell) then (n, NameKind.cell) else (n, k)).lookup x = some .free
  | [], _, h => by simp at h
  | (n, k) :: r, x, h => by
    have ih := @relS_free sc r x
    simp only [List.map_cons]
    cases hx : x == n with
    | true =>
      simp only [List.lookup_cons, hx] at h
      cases h
      split <;> simp [List.lookup_cons, hx]
    | false =>
      simp only [List.lookup_cons, hx] at h
      split <;> (simp only [List.lookup_cons, hx]; exact ih h)
theorem Sc.blk {scope : Scope} {s : Shared} {H : Hp} {cl : List (Str × Addr)} {Ca : Addr} {fp : List Addr} {sc0 : Scope} (S : Sc X c sc0) : Sc (X.blk s H scope (compEnvC scope cl Ca X.env) fp) c scope where
  N := S.N
  gs := S.gs
  pm := S.pm
  loc := fun x h => lookup_relS_keep (by simp) h
  cell := fun x h => lookup_relS_keep (by simp) h
  free := fun x h => relS_free h
  glob := fun x h => lookup_relS_keep (by simp) h
  fn := fun x h => by show (scope.names.lookup x == some .cell) = true; rw [h]; rfl
theorem Amb.blk {scope : Scope} {s : Shared} {H : Hp} {cenv : Env} {fp : List Addr} (A : Amb X cm kk C) : Amb (X.blk s H scope cenv fp) cm kk C := ⟨A.nd, A.calm, A.cal, A.ck, A.nb⟩
end

/-! ### what the eraser takes -/
section
variable {c : Ec} {n : Nat} {sc : Scope} {e : Expr} {E' : E}
theorem er_nst (h : erE c n sc e = some E') : nst e = true := by
  cases n with
  | zero => unfold erE at h; cases h
  | succ n => cases e <;> first | rfl | (unfold erE at h; cases h)
theorem er_notSet (h : erE c n sc e = some E') (env : Env) (x : Value) : foldedSetIterable e env x = pure x := by
  cases n with
  | zero => unfold erE at h; cases h
  | succ n => cases e <;> first | rfl | (unfold erE at h; cases h)
theorem er_noSup (h : erE c n sc e = some E') : NoSup e := by
  intro p q he
  subst he
  cases n with
  | zero => unfold erE at h; cases h
  | succ n =>
    unfold erE at h
    simp only [List.length_nil] at h
    rw [if_neg (by decide)] at h
    split at h
    · rw [if_neg (by decide)] at h
      rw [if_neg (by decide)] at h
      rw [if_pos (by decide)] at h
      cases h
    · cases h
theorem mapO_cons {α β : Type} {f : α → Option β} {x : α} {xs : List α} {ys : List β} (h : mapO f (x :: xs) = some ys) : ∃ y zs, f x = some y ∧ mapO f xs = some zs ∧ ys = y :: zs := by
  unfold mapO at h
  obtain ⟨y, h1, h⟩ := obind h
  obtain ⟨zs, h2, h⟩ := obind h
  cases h
  exact ⟨y, zs, h1, h2, rfl⟩
theorem mapO_len {α β : Type} {f : α → Option β} : ∀ {xs : List α} {ys : List β}, mapO f xs = some ys → ys.length = xs.length
  | [], ys, h => by cases h; rfl
  | x :: xs, ys, h => by
    obtain ⟨y, zs, _, h2, rfl⟩ := mapO_cons h
    simp [mapO_len h2]
theorem mapO_nst : ∀ {es : List Expr} {Es : List E}, mapO (erE c n sc) es = some Es → ∀ e ∈ es, nst e = true
  | [], _, _, e, he => by simp at he
  | e0 :: es, Es, h, e, he => by
    obtain ⟨y, zs, h1, h2, rfl⟩ := mapO_cons h
    rcases List.mem_cons.mp he with rfl | he
    · exact er_nst h1
    · exact mapO_nst h2 e he
theorem mapO_get {α β : Type} {f : α → Option β} : ∀ {xs : List α} {ys : List β} (i : Nat) {x : α} {y : β}, mapO f xs = some ys → xs[i]? = some x → ys[i]? = some y → f x = some y
  | [], ys, i, x, y, h, hx, hy => by simp at hx
  | a :: xs, ys, i, x, y, h, hx, hy => by
    obtain ⟨b, zs, h1, h2, rfl⟩ := mapO_cons h
    cases i with
    | zero => simp at hx hy; subst hx hy; exact h1
    | succ i => exact mapO_get i h2 (by simpa using hx) (by simpa using hy)
end
/-- the promise at fuel n -/
structure IH (cm : Str → Option Addr) (kk : Nat) (C : CallF) (c : Ec) (n : Nat) : Prop where
  e : ∀ {X : Cx} {sc : Scope} {e : Expr} {E' : E}, Amb X cm kk C → Sc X c sc → erE c n sc e = some E' → ∀ {M : Nat} {s : St} {t : Tmp} {s' : St}, ev C M E' s = some (t, s') → PE X e (tE X.K cm s t s')
  t : ∀ {X : Cx} {sc : Scope} {e : Expr} {E' : E}, Amb X cm kk C → Sc X c sc → erE c n sc e = some E' → ∀ {M : Nat} {s : St} {b : Bool} {s' : St}, tst C M E' s = some (b, s') → PT X e (tTs X.K cm s b s')
  i : ∀ {X : Cx} {sc : Scope} {tg e : Expr} {I : It}, Amb X cm kk C → Sc X c sc → erI c n sc tg e = some I → ∀ {M : Nat} {s : St} {b : Src} {s' : St}, itr C M I s = some (b, s') → PI X tg e (tI X.K cm s b s')
section
variable {X : Cx} {cm : Str → Option Addr} {kk : Nat} {C : CallF} {c : Ec} {n M : Nat} {sc : Scope} {s s1 s' : St} {t : Tmp} {ts : List Tmp} {E' : E}
theorem ih_list (H : IH cm kk C c n) (A : Amb X cm kk C) (S : Sc X c sc) : ∀ {es : List Expr} {Es : List E} {s s' : St} {ts : List Tmp}, mapO (erE c n sc) es = some Es → evL (ev C M) Es s = some (ts, s') → PA X es (tAs X.K cm s ts s') ∧ ts.length = es.length
  | [], Es, s, s', ts, h, h2 => by
    cases h
    cases h2
    exact ⟨ra_nil, rfl⟩
  | e :: es, Es, s, s', ts, h, h2 => by
    obtain ⟨E1, Es', h3, h4, rfl⟩ := mapO_cons h
    unfold evL at h2
    obtain ⟨⟨t, s1⟩, h5, h2⟩ := obind h2
    obtain ⟨⟨ts', s2⟩, h6, h2⟩ := obind h2
    cases h2
    obtain ⟨p1, p2⟩ := ih_list H A S h4 h6
    exact ⟨ra_cons (H.e A S h3 h5) p1 (star_of (er_nst h3) _ _), by simp [p2]⟩
theorem ih_kw (H : IH cm kk C c n) (A : Amb X cm kk C) (S : Sc X c sc) : ∀ {ks : List Keyword} {Es : List E} {s s' : St} {ts : List Tmp}, mapO (fun k : Keyword => erE c n sc k.value) ks = some Es → evL (ev C M) Es s = some (ts, s') → PK X ks (tAs X.K cm s ts s') ∧ ts.length = ks.length
  | [], Es, s, s', ts, h, h2 => by
    cases h
    cases h2
    exact ⟨rk_nil, rfl⟩
  | ⟨nm, e, kp⟩ :: es, Es, s, s', ts, h, h2 => by
    obtain ⟨E1, Es', h3, h4, rfl⟩ := mapO_cons h
    unfold evL at h2
    obtain ⟨⟨t, s1⟩, h5, h2⟩ := obind h2
    obtain ⟨⟨ts', s2⟩, h6, h2⟩ := obind h2
    cases h2
    obtain ⟨p1, p2⟩ := ih_kw H A S h4 h6
    exact ⟨rk_cons (H.e A S h3 h5) p1, by simp [p2]⟩
end
end Mp
/-! Mp, part T: the cases of expressions. -/
namespace Mp
open PySem PySem.Spec PyProof.Rows L2 RZ
section
variable {X : Cx} {cm : Str → Option Addr} {kk : Nat} {C : CallF} {c : Ec} {n M : Nat} {sc : Scope} {s s1 s' : St} {t : Tmp} {ts : List Tmp} {E' : E} {pos : Pos}
theorem se_name {x : Str} (S : Sc X c sc) (h : erE c (n + 1) sc (.Name x pos) = some E') (h2 : ev C M E' s = some (t, s')) : PE X (.Name x pos) (tE X.K cm s t s') := by
  cases M with
  | zero => unfold ev at h2; cases h2
  | succ M =>
    unfold erE at h; try dsimp only at h
    split at h
    · cases h
    · rename_i hd
      rw [Bool.or_eq_true, not_or] at hd
      split at h
      · rename_i i hi
        cases h
        obtain ⟨g1, g2⟩ := slot_of S hi
        have hv := pe_var (pos := pos) g1 g2 (by simpa using hd.1) (by simpa using hd.2)
        simp only [ev] at h2
        split at h2
        · rename_i d e; cases h2; exact re_loc hv (.inl ⟨d, e, rfl⟩)
        · rename_i d e; cases h2; exact re_loc hv (.inr ⟨d, e, rfl⟩)
        · cases h2
      · split at h
        · rename_i hg
          split at h
          · rename_i z hz
            cases h
            simp only [ev] at h2
            cases h2
            obtain ⟨tk, hm⟩ := S.gs x (.inr z) hz
            exact re_const (pe_glob (v := .str z) (glob_of S hg) hm ⟨tk, rfl⟩ (by simpa using hd.1)) fun _ _ => .str _
          · rename_i i hz
            cases h
            simp only [ev] at h2
            cases h2
            obtain ⟨tk, hm⟩ := S.gs x (.inl i) hz
            exact re_const (pe_glob (v := .int i) (glob_of S hg) hm ⟨tk, rfl⟩ (by simpa using hd.1)) fun _ _ => .int _
          · cases h
        · cases h
theorem se_const {k : Const} {j : Nat} (h : erE c (n + 1) sc (.Constant k j pos) = some E') (h2 : ev C M E' s = some (t, s')) : PE X (.Constant k j pos) (tE X.K cm s t s') := by
  cases M with
  | zero => unfold ev at h2; cases h2
  | succ M =>
    unfold erE at h; try dsimp only at h
    split at h <;> first | (cases h; done) | skip
    all_goals
      cases h
      simp only [ev] at h2
      cases h2
    · exact re_const pe_int fun _ _ => .int _
    · exact re_const pe_str fun _ _ => .str _
    · exact re_const pe_bl fun _ _ => .bl _
    · exact re_const pe_non fun _ _ => .non
theorem se_tup {es : List Expr} {k : Nat} (H : IH cm kk C c n) (A : Amb X cm kk C) (S : Sc X c sc) (h : erE c (n + 1) sc (.Tuple es k pos) = some E') (h2 : ev C M E' s = some (t, s')) : PE X (.Tuple es k pos) (tE X.K cm s t s') := by
  cases M with
  | zero => unfold ev at h2; cases h2
  | succ M =>
    unfold erE at h; try dsimp only at h
    obtain ⟨Es, h3, h⟩ := obind h
    cases h
    simp only [ev] at h2
    obtain ⟨⟨ts, s1⟩, h4, h2⟩ := obind h2
    obtain ⟨⟨ds, s2⟩, h5, h2⟩ := obind h2
    simp only at h2
    split at h2
    · rename_i hz
      cases h2
      exact re_tup (ih_list H A S h3 h4).1 h5 hz
    · cases h2
theorem se_lst {es : List Expr} (H : IH cm kk C c n) (A : Amb X cm kk C) (S : Sc X c sc) (h : erE c (n + 1) sc (.List es pos) = some E') (h2 : ev C M E' s = some (t, s')) : PE X (.List es pos) (tE X.K cm s t s') := by
  cases M with
  | zero => unfold ev at h2; cases h2
  | succ M =>
    unfold erE at h; try dsimp only at h
    obtain ⟨Es, h3, h⟩ := obind h
    cases h
    cases hb : c.bx with
    | false =>
      rw [hb, if_neg Bool.false_ne_true] at h2
      simp only [ev] at h2
      obtain ⟨⟨ts, s1⟩, h4, h2⟩ := obind h2
      obtain ⟨⟨ds, s2⟩, h5, h2⟩ := obind h2
      simp only at h2
      split at h2
      · rename_i hz
        cases h2
        exact re_lst (ih_list H A S h3 h4).1 h5 hz
      · cases h2
    | true =>
      rw [hb, if_pos rfl] at h2
      simp only [ev] at h2
      obtain ⟨⟨ts, s1⟩, h4, h2⟩ := obind h2
      obtain ⟨⟨ds, s2⟩, h5, h2⟩ := obind h2
      obtain ⟨is, h6, h2⟩ := obind h2
      simp only at h2
      split at h2
      · rename_i hz
        cases h2
        exact re_box (ih_list H A S h3 h4).1 h5 h6 hz
      · cases h2
theorem se_bin {op : Operator} {a b : Expr} (H : IH cm kk C c n) (A : Amb X cm kk C) (S : Sc X c sc) (h : erE c (n + 1) sc (.BinOp a op b pos) = some E') (h2 : ev C M E' s = some (t, s')) : PE X (.BinOp a op b pos) (tE X.K cm s t s') := by
  cases M with
  | zero => unfold ev at h2; cases h2
  | succ M =>
    unfold erE at h; try dsimp only at h
    obtain ⟨a', h3, h⟩ := obind h
    obtain ⟨b', h4, h⟩ := obind h
    cases h
    simp only [ev] at h2
    obtain ⟨⟨t1, s1⟩, h5, h2⟩ := obind h2
    obtain ⟨⟨t2, s2⟩, h6, h2⟩ := obind h2
    obtain ⟨x, h7, h2⟩ := obind h2
    obtain ⟨y, h8, h2⟩ := obind h2
    obtain ⟨⟨d, f⟩, h9, h2⟩ := obind h2
    cases h2
    exact re_bin (H.e A S h3 h5) (H.e A S h4 h6) h7 h8 h9
theorem se_un {op : UnaryOp} {a : Expr} (H : IH cm kk C c n) (A : Amb X cm kk C) (S : Sc X c sc) (h : erE c (n + 1) sc (.UnaryOp op a pos) = some E') (h2 : ev C M E' s = some (t, s')) : PE X (.UnaryOp op a pos) (tE X.K cm s t s') := by
  cases M with
  | zero => unfold ev at h2; cases h2
  | succ M =>
    unfold erE at h; try dsimp only at h
    obtain ⟨a', h3, h⟩ := obind h
    try simp only at h
    split at h
    · cases h
      simp only [ev] at h2
      obtain ⟨⟨t1, s1⟩, h5, h2⟩ := obind h2
      obtain ⟨d, h6, h2⟩ := obind h2
      obtain ⟨b, h7, h2⟩ := obind h2
      cases h2
      exact re_not (H.e A S h3 h5) h6 h7
    · cases h
      simp only [ev] at h2
      obtain ⟨⟨t1, s1⟩, h5, h2⟩ := obind h2
      obtain ⟨d, h6, h2⟩ := obind h2
      simp only at h2
      split at h2
      · cases h2
        exact re_neg (H.e A S h3 h5) h6
      · cases h2
    · cases h
theorem se_ite {a b d : Expr} (H : IH cm kk C c n) (A : Amb X cm kk C) (S : Sc X c sc) (h : erE c (n + 1) sc (.IfExp d a b pos) = some E') (h2 : ev C M E' s = some (t, s')) : PE X (.IfExp d a b pos) (tE X.K cm s t s') := by
  cases M with
  | zero => unfold ev at h2; cases h2
  | succ M =>
    unfold erE at h; try dsimp only at h
    obtain ⟨d', h3, h⟩ := obind h
    obtain ⟨a', h4, h⟩ := obind h
    obtain ⟨b', h5, h⟩ := obind h
    cases h
    simp only [ev] at h2
    obtain ⟨⟨r, s1⟩, h6, h2⟩ := obind h2
    simp only at h2
    refine re_ite (H.t A S h3 h6) (fun e => ?_) fun e => ?_
    · rw [e, if_pos rfl] at h2; exact H.e A S h4 h2
    · rw [e, if_neg Bool.false_ne_true] at h2; exact H.e A S h5 h2
theorem se_andV (H : IH cm kk C c n) (A : Amb X cm kk C) (S : Sc X c sc) : ∀ {es : List Expr} {Es : List E} {s s' : St} {t : Tmp}, mapO (erE c n sc) es = some Es → andV (ev C M) Es s = some (t, s') → PE X (.BoolOp .And es pos) (tE X.K cm s t s')
  | [], Es, s, s', t, h, h2 => by cases h; cases h2
  | [e], Es, s, s', t, h, h2 => by
    obtain ⟨E1, Es', h3, h4, rfl⟩ := mapO_cons h
    cases h4
    have h2 : ev C M E1 s = some (t, s') := h2
    exact pe_one (H.e A S h3 h2)
  | e :: e' :: es, Es, s, s', t, h, h2 => by
    obtain ⟨E1, Es', h3, h4, rfl⟩ := mapO_cons h
    obtain ⟨E2, Es'', h5, h6, rfl⟩ := mapO_cons h4
    unfold andV at h2
    obtain ⟨⟨t1, s1⟩, h7, h2⟩ := obind h2
    obtain ⟨d, h8, h2⟩ := obind h2
    obtain ⟨b, h9, h2⟩ := obind h2
    try simp only at h2
    refine re_and (H.e A S h3 h7) h8 h9 (fun e => ?_) fun e => ?_
    · rw [e, if_pos rfl] at h2; exact se_andV H A S h4 h2
    · rw [e, if_neg Bool.false_ne_true] at h2; cases h2; exact ⟨rfl, rfl⟩
theorem se_orV (H : IH cm kk C c n) (A : Amb X cm kk C) (S : Sc X c sc) : ∀ {es : List Expr} {Es : List E} {s s' : St} {t : Tmp}, mapO (erE c n sc) es = some Es → orV (ev C M) Es s = some (t, s') → PE X (.BoolOp .Or es pos) (tE X.K cm s t s')
  | [], Es, s, s', t, h, h2 => by cases h; cases h2
  | [e], Es, s, s', t, h, h2 => by
    obtain ⟨E1, Es', h3, h4, rfl⟩ := mapO_cons h
    cases h4
    have h2 : ev C M E1 s = some (t, s') := h2
    exact pe_one (H.e A S h3 h2)
  | e :: e' :: es, Es, s, s', t, h, h2 => by
    obtain ⟨E1, Es', h3, h4, rfl⟩ := mapO_cons h
    obtain ⟨E2, Es'', h5, h6, rfl⟩ := mapO_cons h4
    unfold orV at h2
    obtain ⟨⟨t1, s1⟩, h7, h2⟩ := obind h2
    obtain ⟨d, h8, h2⟩ := obind h2
    obtain ⟨b, h9, h2⟩ := obind h2
    try simp only at h2
    refine re_or (H.e A S h3 h7) h8 h9 (fun e => ?_) fun e => ?_
    · rw [e, if_neg Bool.false_ne_true] at h2; exact se_orV H A S h4 h2
    · rw [e, if_pos rfl] at h2; cases h2; exact ⟨rfl, rfl⟩
theorem se_bool {op : BoolOp} {es : List Expr} (H : IH cm kk C c n) (A : Amb X cm kk C) (S : Sc X c sc) (h : erE c (n + 1) sc (.BoolOp op es pos) = some E') (h2 : ev C M E' s = some (t, s')) : PE X (.BoolOp op es pos) (tE X.K cm s t s') := by
  cases M with
  | zero => unfold ev at h2; cases h2
  | succ M =>
    unfold erE at h
    obtain ⟨Es, h3, h⟩ := obind h
    cases op with
    | And => cases h; simp only [ev] at h2; exact se_andV H A S h3 h2
    | Or => cases h; simp only [ev] at h2; exact se_orV H A S h3 h2
theorem st_and (H : IH cm kk C c n) (A : Amb X cm kk C) (S : Sc X c sc) : ∀ {es : List Expr} {Es : List E} {s s' : St} {b : Bool}, mapO (erE c n sc) es = some Es → andT (tst C M) Es s = some (b, s') → PW X (.BoolOp .And es pos) (tTs X.K cm s b s')
  | [], Es, s, s', b, h, h2 => by cases h; cases h2
  | [e], Es, s, s', b, h, h2 => by
    obtain ⟨E1, Es', h3, h4, rfl⟩ := mapO_cons h
    cases h4
    have h2 : tst C M E1 s = some (b, s') := h2
    exact rw_one (H.t A S h3 h2)
  | e :: e' :: es, Es, s, s', b, h, h2 => by
    obtain ⟨E1, Es', h3, h4, rfl⟩ := mapO_cons h
    obtain ⟨E2, Es'', h5, h6, rfl⟩ := mapO_cons h4
    unfold andT at h2
    obtain ⟨⟨b1, s1⟩, h7, h2⟩ := obind h2
    try simp only at h2
    refine rw_and (H.t A S h3 h7) (fun e => ?_) fun e => ?_
    · rw [e, if_pos rfl] at h2; exact st_and H A S h4 h2
    · rw [e, if_neg Bool.false_ne_true] at h2; cases h2; exact ⟨rfl, rfl⟩
theorem st_or (H : IH cm kk C c n) (A : Amb X cm kk C) (S : Sc X c sc) : ∀ {es : List Expr} {Es : List E} {s s' : St} {b : Bool}, mapO (erE c n sc) es = some Es → orT (tst C M) Es s = some (b, s') → PW X (.BoolOp .Or es pos) (tTs X.K cm s b s')
  | [], Es, s, s', b, h, h2 => by cases h; cases h2
  | [e], Es, s, s', b, h, h2 => by
    obtain ⟨E1, Es', h3, h4, rfl⟩ := mapO_cons h
    cases h4
    have h2 : tst C M E1 s = some (b, s') := h2
    exact rw_one (H.t A S h3 h2)
  | e :: e' :: es, Es, s, s', b, h, h2 => by
    obtain ⟨E1, Es', h3, h4, rfl⟩ := mapO_cons h
    obtain ⟨E2, Es'', h5, h6, rfl⟩ := mapO_cons h4
    unfold orT at h2
    obtain ⟨⟨b1, s1⟩, h7, h2⟩ := obind h2
    try simp only at h2
    refine rw_or (H.t A S h3 h7) (fun e => ?_) fun e => ?_
    · rw [e, if_neg Bool.false_ne_true] at h2; exact st_or H A S h4 h2
    · rw [e, if_pos rfl] at h2; cases h2; exact ⟨rfl, rfl⟩
theorem er_nomark {op : CmpOp} {e : Expr} (h : erE c n sc e = some E') : behindInMarks op e = false := by
  cases n with
  | zero => unfold erE at h; cases h
  | succ n => cases e <;> first | rfl | (unfold erE at h; cases h)
theorem se_cmp {op : CmpOp} {a b : Expr} (H : IH cm kk C c n) (A : Amb X cm kk C) (S : Sc X c sc) (h : erE c (n + 1) sc (.Compare a [op] [b] pos) = some E') (h2 : ev C M E' s = some (t, s')) : PE X (.Compare a [op] [b] pos) (tE X.K cm s t s') := by
  cases M with
  | zero => unfold ev at h2; cases h2
  | succ M =>
    unfold erE at h; dsimp only at h
    split at h
    · cases h
    · obtain ⟨a', h3, h⟩ := obind h
      obtain ⟨b', h4, h⟩ := obind h
      cases h
      simp only [ev] at h2
      obtain ⟨⟨t1, s1⟩, h5, h2⟩ := obind h2
      obtain ⟨⟨t2, s2⟩, h6, h2⟩ := obind h2
      obtain ⟨x, h7, h2⟩ := obind h2
      obtain ⟨y, h8, h2⟩ := obind h2
      obtain ⟨r, h9, h2⟩ := obind h2
      cases h2
      exact re_cmp A.un (H.e A S h3 h5) (H.e A S h4 h6) h7 h8 h9 (er_nomark h4)
theorem se_chn {o1 o2 : CmpOp} {a b d : Expr} (H : IH cm kk C c n) (A : Amb X cm kk C) (S : Sc X c sc) (h : erE c (n + 1) sc (.Compare a [o1, o2] [b, d] pos) = some E') (h2 : ev C M E' s = some (t, s')) : PE X (.Compare a [o1, o2] [b, d] pos) (tE X.K cm s t s') := by
  cases M with
  | zero => unfold ev at h2; cases h2
  | succ M =>
    unfold erE at h; dsimp only at h
    split at h
    · cases h
    · rename_i hm
      obtain ⟨a', h3, h⟩ := obind h
      obtain ⟨b', h4, h⟩ := obind h
      obtain ⟨d', h4', h⟩ := obind h
      cases h
      simp only [ev] at h2
      obtain ⟨⟨t1, s1⟩, h5, h2⟩ := obind h2
      obtain ⟨⟨t2, s2⟩, h6, h2⟩ := obind h2
      obtain ⟨x, h7, h2⟩ := obind h2
      obtain ⟨y, h8, h2⟩ := obind h2
      obtain ⟨r, h9, h2⟩ := obind h2
      try simp only at h2
      have hm : lastMarks [o1, o2] [b, d] = false := by simpa using hm
      cases r with
      | true =>
        rw [if_pos rfl] at h2
        obtain ⟨⟨t3, s3⟩, h10, h2⟩ := obind h2
        obtain ⟨y', h11, h2⟩ := obind h2
        obtain ⟨z, h12, h2⟩ := obind h2
        obtain ⟨r, h13, h2⟩ := obind h2
        cases h2
        exact re_chn1 A.un (H.e A S h3 h5) (H.e A S h4 h6) h7 h8 h9 (H.e A S h4' h10) h11 h12 h13 hm
      | false =>
        rw [if_neg Bool.false_ne_true] at h2
        cases h2
        exact re_chn0 (tc := fun _ _ _ => True) A.un (H.e A S h3 h5) (H.e A S h4 h6) h7 h8 h9 hm
end
end Mp
/-! Mp, part U: more cases of expressions. -/
namespace Mp
open PySem PySem.Spec PyProof.Rows L2 RZ
section
variable {X : Cx} {cm : Str → Option Addr} {kk : Nat} {C : CallF} {c : Ec} {n M : Nat} {sc : Scope} {s s1 s' : St} {t : Tmp} {ts : List Tmp} {E' : E} {pos : Pos}
theorem er_plain {i : Expr} (h : erE c n sc i = some E') : PlainIx i := by
  cases n with
  | zero => unfold erE at h; cases h
  | succ n => cases i <;> first | (intro _ _; rfl) | (unfold erE at h; cases h)
theorem se_ix {a i : Expr} (H : IH cm kk C c n) (A : Amb X cm kk C) (S : Sc X c sc) {a' i' : E} (h3 : erE c n sc a = some a') (h4 : erE c n sc i = some i') (h2 : ev C M (.ix a' i') s = some (t, s')) : PE X (.Subscript a i pos) (tE X.K cm s t s') := by
  cases M with
  | zero => unfold ev at h2; cases h2
  | succ M =>
    simp only [ev] at h2
    obtain ⟨⟨t1, s1⟩, h5, h2⟩ := obind h2
    obtain ⟨⟨t2, s2⟩, h6, h2⟩ := obind h2
    obtain ⟨x, h7, h2⟩ := obind h2
    obtain ⟨y, h8, h2⟩ := obind h2
    simp only at h2
    split at h2
    · split at h2
      · obtain ⟨ds, h9, h2⟩ := obind h2
        obtain ⟨d, h10, h2⟩ := obind h2
        cases h2
        exact re_bix (H.e A S h3 h5) (H.e A S h4 h6) h7 h8 h9 h10 (er_plain h4)
      · cases h2
    · obtain ⟨d, h9, h2⟩ := obind h2
      cases h2
      exact re_ix A.un (H.e A S h3 h5) (H.e A S h4 h6) h7 h8 h9 (er_plain h4)
theorem so_part (H : IH cm kk C c n) (A : Amb X cm kk C) (S : Sc X c sc) {lo : Option Expr} {lo' : Option E} {o : Option Int} (h : (match lo with
    | none => some none
    | some e => (erE c n sc e).map some) = some lo') (h2 : optD (ev C M) lo' s = some (o, s')) : PO X lo (tOs X.K cm s o s') := by
  cases lo with
  | none =>
    cases h
    cases h2
    exact ro_none
  | some e =>
    cases e1 : erE c n sc e with
    | none =>
      have h : (erE c n sc e).map some = some lo' := h
      rw [e1] at h; cases h
    | some e' =>
      have h : (erE c n sc e).map some = some lo' := h
      rw [e1] at h
      cases h
      unfold optD at h2
      obtain ⟨⟨t1, s1⟩, h5, h2⟩ := obind h2
      obtain ⟨d, h6, h2⟩ := obind h2
      try simp only at h2
      split at h2
      · cases h2
        exact ro_some (H.e A S e1 h5) h6
      · cases h2
theorem se_sub {a i : Expr} (H : IH cm kk C c n) (A : Amb X cm kk C) (S : Sc X c sc) (h : erE c (n + 1) sc (.Subscript a i pos) = some E') (h2 : ev C M E' s = some (t, s')) : PE X (.Subscript a i pos) (tE X.K cm s t s') := by
  unfold erE at h
  dsimp only at h
  split at h
  · obtain ⟨a', h3, h⟩ := obind h
    obtain ⟨lo', h4, h⟩ := obind h
    obtain ⟨hi', h5, h⟩ := obind h
    cases h
    cases M with
    | zero => unfold ev at h2; cases h2
    | succ M =>
      simp only [ev] at h2
      obtain ⟨⟨t1, s1⟩, h6, h2⟩ := obind h2
      obtain ⟨⟨l, s2⟩, h7, h2⟩ := obind h2
      obtain ⟨⟨u, s3⟩, h8, h2⟩ := obind h2
      obtain ⟨x, h9, h2⟩ := obind h2
      obtain ⟨⟨d, f⟩, h10, h2⟩ := obind h2
      cases h2
      exact re_sl (H.e A S h3 h6) (so_part H A S h4 h7) (so_part H A S h5 h8) h9 h10
  · obtain ⟨a', h3, h⟩ := obind h
    cases h
    cases M with
    | zero => unfold ev at h2; cases h2
    | succ M =>
      simp only [ev] at h2
      obtain ⟨⟨t1, s1⟩, h6, h2⟩ := obind h2
      obtain ⟨x, h9, h2⟩ := obind h2
      simp only at h2
      split at h2
      · cases h2
        exact re_rev (H.e A S h3 h6) h9
      · cases h2
        exact re_revT (H.e A S h3 h6) h9
      · cases h2
  · cases h
  · obtain ⟨a', h3, h⟩ := obind h
    obtain ⟨i', h4, h⟩ := obind h
    cases h
    exact se_ix H A S h3 h4 h2
theorem se_attr {a : Expr} {f : Str} (H : IH cm kk C c n) (A : Amb X cm kk C) (S : Sc X c sc) (h : erE c (n + 1) sc (.Attribute a f pos) = some E') (h2 : ev C M E' s = some (t, s')) : PE X (.Attribute a f pos) (tE X.K cm s t s') := by
  cases M with
  | zero => unfold ev at h2; cases h2
  | succ M =>
    unfold erE at h
    obtain ⟨a', h3, h⟩ := obind h
    cases h
    simp only [ev] at h2
    obtain ⟨⟨t1, s1⟩, h5, h2⟩ := obind h2
    obtain ⟨x, h7, h2⟩ := obind h2
    obtain ⟨d, h8, h2⟩ := obind h2
    cases h2
    exact re_fld A.ck (H.e A S h3 h5) h7 h8 (er_noSup h3)
theorem se_dict {ks : List (Option Expr)} {vs : List Expr} (H : IH cm kk C c n) (A : Amb X cm kk C) (S : Sc X c sc) (h : erE c (n + 1) sc (.Dict ks vs pos) = some E') (h2 : ev C M E' s = some (t, s')) : PE X (.Dict ks vs pos) (tE X.K cm s t s') := by
  cases M with
  | zero => unfold ev at h2; cases h2
  | succ M =>
    unfold erE at h
    obtain ⟨ks', h3, h⟩ := obind h
    obtain ⟨vs', h4, h⟩ := obind h
    try simp only at h
    split at h
    · rename_i hl
      cases h
      have l1 := mapO_len h3
      have l2 := mapO_len h4
      cases ks' with
      | nil =>
        cases vs' with
        | cons _ _ => simp at l1 l2 hl
        | nil =>
          cases ks with
          | cons _ _ => simp at l1
          | nil =>
            cases vs with
            | cons _ _ => simp at l2
            | nil =>
              simp only [ev, List.zip_nil_left] at h2
              cases h2
              exact re_dic0
      | cons k1 ks' =>
        cases vs' with
        | nil => simp at l1 l2 hl
        | cons v1 vs' =>
          simp only [ev, List.zip_cons_cons] at h2
          cases h2
    · cases h
end
end Mp
/-! Mp, part V: targets, comprehensions. -/
namespace Mp
open PySem PySem.Spec PyProof.Rows L2 RZ
section
variable {X : Cx} {cm : Str → Option Addr} {kk : Nat} {C : CallF} {c : Ec} {n M : Nat} {sc : Scope} {s s1 s' : St} {t : Tmp} {ts : List Tmp} {E' : E} {pos : Pos}
theorem each_names (S : Sc X c sc) (A : X.N.Nodup) : ∀ {es : List Expr} {is : List Nat}, mapO (fun e => (nameOf? e).bind fun x => slotL c.N sc x) es = some is → PGs X es (gNames is) ∧ (assignEach es X.env).length = is.length ∧ (assignEach es X.env).findIdx? (·.1) = none
  | [], is, h => by cases h; exact ⟨pgs_nil, rfl, rfl⟩
  | e :: es, is, h => by
    obtain ⟨i, js, h1, h2, rfl⟩ := mapO_cons h
    obtain ⟨x, h3, h4⟩ := obind h1
    cases e with
    | Name y p =>
      cases h3
      obtain ⟨g1, g2, g3⟩ := slotL_of S h4
      obtain ⟨p1, p2, p3⟩ := each_names S A h2
      refine ⟨pgs_cons (pg_name A g1 g2 g3) p1 rfl, ?_, ?_⟩
      · show (assignEach es X.env).length + 1 = _
        rw [p2]; rfl
      · show List.findIdx? (·.1) ((false, assign (.Name _ p) X.env) :: assignEach es X.env) = none
        rw [List.findIdx?_cons, if_neg (by simp), p3]
        rfl
    | _ => cases h3
theorem tg_ok {tg : Expr} {tgg : Tg} (S : Sc X c sc) (A : X.N.Nodup) (hc : X.calm = true) (h : tgOf c.N sc tg = some tgg) : PG X tg (gOf X.K tgg) := by
  cases tg with
  | Name x p =>
    have h : (slotL c.N sc x).map Tg.nm = some tgg := h
    cases e : slotL c.N sc x with
    | none => rw [e] at h; cases h
    | some i =>
      rw [e] at h
      cases h
      obtain ⟨g1, g2, g3⟩ := slotL_of S e
      exact pg_name A g1 g2 g3
  | Tuple es k p =>
    have h : (mapO (fun e => (nameOf? e).bind fun x => slotL c.N sc x) es).bind (fun is => some (.tp is)) = some tgg := h
    obtain ⟨is, h1, h2⟩ := obind h
    cases h2
    obtain ⟨p1, p2, p3⟩ := each_names S A h1
    exact pg_tup hc p1 p2 p3
  | _ => cases h
theorem tg_okU {tg : Expr} {is : List Nat} (S : Sc X c sc) (A : X.N.Nodup) (hc : X.calm = true) (h : tgOf c.N sc tg = some (.tp is)) : PG X tg (gUnl X.K is.length (gNames is)) := by
  cases tg with
  | Name x p =>
    have h : (slotL c.N sc x).map Tg.nm = some (.tp is) := h
    cases e : slotL c.N sc x with
    | none => rw [e] at h; cases h
    | some i => rw [e] at h; cases h
  | Tuple es k p =>
    have h : (mapO (fun e => (nameOf? e).bind fun x => slotL c.N sc x) es).bind (fun is => some (Tg.tp is)) = some (.tp is) := h
    obtain ⟨js, h1, h2⟩ := obind h
    cases h2
    obtain ⟨p1, p2, p3⟩ := each_names S A h1
    exact pg_unl hc p1 p2 p3
  | _ => cases h
theorem ei_notSet {tg e : Expr} {I : It} (h : erI c n sc tg e = some I) (env : Env) (x : Value) : foldedSetIterable e env x = pure x := by
  cases e with
  | Set es k p =>
    cases n with
    | zero => unfold erI at h; cases h
    | succ n =>
      unfold erI at h
      obtain ⟨e', h1, _⟩ := obind h
      exact er_notSet h1 env x
  | _ => rfl
theorem blk_of {scope : Scope} {own : List (Str × Nat)} (S : Sc X c sc) (h : blkC c.N sc scope own = true) : BlkOk X.N X.env.scope scope own := by
  have b := blkOk_by h
  rw [S.N]
  refine ⟨b.kind, b.uniq, b.ix, fun y hy e => ?_, b.own⟩
  rcases b.free y hy e with q | q
  · exact .inl (S.cell _ q)
  · exact S.free _ q
theorem own_in {own : List (Str × Nat)} {tg : Tg} (h : inOwn own tg = true) : ∀ i ∈ slotsT tg, i ∈ own.map (·.2) := fun i hi => by
  unfold inOwn at h
  rw [List.all_eq_true] at h
  have := h i hi
  simpa using this
theorem ifs_blk (H : IH cm kk C c n) (A : Amb X cm kk C) (S : Sc X c sc) {scope : Scope} {ifs : List Expr} {Ifs : List E} (h : mapO (erE c n scope) ifs = some Ifs) (s : Shared) (Hh : Hp) (Ca : Addr) (cl : List (Str × Addr)) (fp : List Addr) : PTs (X.blk s Hh scope (compEnvC scope cl Ca X.env) fp) ifs (aT X.K cm (tests (tst C M) Ifs)) :=
  pts_any (mapO_len h).symm fun i cc e hi he s1 b s2 h1 => H.t A.blk (Sc.blk S) (mapO_get i h hi he) h1
theorem se_lc (H : IH cm kk C c n) (A : Amb X cm kk C) (S : Sc X c sc) {el tg it : Expr} {ifs : List Expr} {scope : Scope} {own : List (Str × Nat)} {It' : It} {tgg : Tg} {Ifs : List E} {El : E} (hb : blkC c.N sc scope own = true) (h3 : erI c n sc tg it = some It') (h4 : tgOf c.N scope tg = some tgg) (h5 : mapO (erE c n scope) ifs = some Ifs) (h6 : erE c n scope el = some El) (h7 : inOwn own tgg = true)
    (h2 : ev C M (.lc El (.mk tgg It' Ifs) (own.map (·.2))) s = some (t, s')) : PE X (.ListComp el [⟨tg, it, ifs, 0⟩] scope pos) (tE X.K cm s t s') ∧ ∃ d, t = .v d true := by
  cases M with
  | zero => unfold ev at h2; cases h2
  | succ M =>
    simp only [ev] at h2
    obtain ⟨⟨src, s1⟩, h8, h2⟩ := obind h2
    obtain ⟨⟨l, s2⟩, h9, h2⟩ := obind h2
    try simp only at h2
    split at h2
    · rename_i hz
      cases h2
      refine ⟨(pe_lc (g := gOf X.K tgg) (tt := aT X.K cm (tests (tst C M) Ifs)) (te := aEl X.K cm (ev C M El)) A.calm A.nd (H.i A S h3 h8) (blk_of S hb) (fun s Hh Ca cl fp => tg_ok (X := X.blk s Hh scope (compEnvC scope cl Ca X.env) fp) (Sc.blk S) A.nd A.calm h4) (fun s Hh Ca cl fp => ifs_blk (M := M) H A S h5 s Hh Ca cl fp) (fun s Hh Ca cl fp => pe_aEl (X := X.blk s Hh scope (compEnvC scope cl Ca X.env) fp) (Te := ev C M El) fun s1 t1 s2 h1 => H.e A.blk (Sc.blk S) h6 h1) (ei_notSet h3 _)).imp fun σ Hh Q q => ?_, _, rfl⟩
      exact lc_tr (own_in h7) h9 hz q
    · cases h2
theorem se_lc2 (H : IH cm kk C c n) (A : Amb X cm kk C) (S : Sc X c sc) {el tg it tg2 it2 : Expr} {ifs ifs2 : List Expr} {scope : Scope} {own : List (Str × Nat)} {It' It2 : It} {tgg tgg2 : Tg} {Ifs Ifs2 : List E} {El : E} (hb : blkC c.N sc scope own = true) (h3 : erI c n sc tg it = some It') (h4 : tgOf c.N scope tg = some tgg) (h5 : mapO (erE c n scope) ifs = some Ifs)
    (h3' : erI c n scope tg2 it2 = some It2) (h4' : tgOf c.N scope tg2 = some tgg2) (h5' : mapO (erE c n scope) ifs2 = some Ifs2) (h6 : erE c n scope el = some El) (h7 : inOwn own tgg = true) (h7' : inOwn own tgg2 = true)
    (h2 : ev C M (.lc2 El (.mk tgg It' Ifs) (.mk tgg2 It2 Ifs2) (own.map (·.2))) s = some (t, s')) : PE X (.ListComp el [⟨tg, it, ifs, 0⟩, ⟨tg2, it2, ifs2, 0⟩] scope pos) (tE X.K cm s t s') ∧ ∃ d, t = .v d true := by
  cases M with
  | zero => unfold ev at h2; cases h2
  | succ M =>
    simp only [ev] at h2
    obtain ⟨⟨src, s1⟩, h8, h2⟩ := obind h2
    obtain ⟨⟨l, s2⟩, h9, h2⟩ := obind h2
    try simp only at h2
    split at h2
    · rename_i hz
      cases h2
      refine ⟨(pe_lc2 (vs1 := slotsT tgg2) (g := gOf X.K tgg) (g1 := gOf X.K tgg2) (tt := aT X.K cm (tests (tst C M) Ifs)) (tt1 := aT X.K cm (tests (tst C M) Ifs2)) (wi1 := aI X.K cm (itr C M It2)) (te := aEl X.K cm (ev C M El)) A.calm A.nd (H.i A S h3 h8) (blk_of S hb) (own_in h7') (fun s Hh Ca cl fp => tg_ok (X := X.blk s Hh scope (compEnvC scope cl Ca X.env) fp) (Sc.blk S) A.nd A.calm h4) (fun s Hh Ca cl fp => ifs_blk (M := M) H A S h5 s Hh Ca cl fp)
        (fun s Hh Ca cl fp => pi_aI (X := X.blk s Hh scope (compEnvC scope cl Ca X.env) fp) (Ti := itr C M It2) fun s1 t1 s2 h1 => H.i A.blk (Sc.blk S) h3' h1) (fun s Hh Ca cl fp => tg_ok (X := X.blk s Hh scope (compEnvC scope cl Ca X.env) fp) (Sc.blk S) A.nd A.calm h4') (fun s Hh Ca cl fp => ifs_blk (M := M) H A S h5' s Hh Ca cl fp)
        (fun s Hh Ca cl fp => pe_aEl (X := X.blk s Hh scope (compEnvC scope cl Ca X.env) fp) (Te := ev C M El) fun s1 t1 s2 h1 => H.e A.blk (Sc.blk S) h6 h1) (ei_notSet h3 _) (fun env x => ei_notSet h3' env x)).imp fun σ Hh Q q => ?_, _, rfl⟩
      exact lc2_tr (own_in h7) h9 hz q
    · cases h2
theorem se_dc (H : IH cm kk C c n) (A : Amb X cm kk C) (S : Sc X c sc) {k v tg it : Expr} {ifs : List Expr} {scope : Scope} {own : List (Str × Nat)} {It' : It} {tgg : Tg} {Ifs : List E} {Ek Ev : E} (hb : blkC c.N sc scope own = true) (h3 : erI c n sc tg it = some It') (h4 : tgOf c.N scope tg = some tgg) (h5 : mapO (erE c n scope) ifs = some Ifs) (h6 : erE c n scope k = some Ek) (h6' : erE c n scope v = some Ev) (h7 : inOwn own tgg = true)
    (h2 : ev C M (.dc Ek Ev (.mk tgg It' Ifs) (own.map (·.2))) s = some (t, s')) : PE X (.DictComp k v [⟨tg, it, ifs, 0⟩] scope pos) (tE X.K cm s t s') := by
  cases M with
  | zero => unfold ev at h2; cases h2
  | succ M =>
    simp only [ev] at h2
    obtain ⟨⟨src, s1⟩, h8, h2⟩ := obind h2
    obtain ⟨⟨l, s2⟩, h9, h2⟩ := obind h2
    try simp only at h2
    split at h2
    · rename_i hz
      cases h2
      refine (pe_dc (g := gOf X.K tgg) (tt := aT X.K cm (tests (tst C M) Ifs)) (tk := aE X.K cm (ev C M Ek)) (tv := aEl X.K cm (ev C M Ev)) A.calm A.nd (H.i A S h3 h8) (blk_of S hb) (fun s Hh Ca cl fp => tg_ok (X := X.blk s Hh scope (compEnvC scope cl Ca X.env) fp) (Sc.blk S) A.nd A.calm h4) (fun s Hh Ca cl fp => ifs_blk (M := M) H A S h5 s Hh Ca cl fp) (fun s Hh Ca cl fp => pe_aE (X := X.blk s Hh scope (compEnvC scope cl Ca X.env) fp) (Te := ev C M Ek) fun s1 t1 s2 h1 => H.e A.blk (Sc.blk S) h6 h1)
        (fun s Hh Ca cl fp => pe_aEl (X := X.blk s Hh scope (compEnvC scope cl Ca X.env) fp) (Te := ev C M Ev) fun s1 t1 s2 h1 => H.e A.blk (Sc.blk S) h6' h1) (ei_notSet h3 _)).imp fun σ Hh Q q => ?_
      exact dc_tr (own_in h7) h9 hz q
    · cases h2
theorem se_listcomp {el : Expr} {gs : List Comprehension} {scope : Scope} (H : IH cm kk C c n) (A : Amb X cm kk C) (S : Sc X c sc) (h : erE c (n + 1) sc (.ListComp el gs scope pos) = some E') (h2 : ev C M E' s = some (t, s')) : PE X (.ListComp el gs scope pos) (tE X.K cm s t s') := by
  unfold erE at h
  obtain ⟨own, ho, h⟩ := obind h
  try dsimp only at h
  split at h
  · rename_i hb
    split at h
    · obtain ⟨I, h3, h⟩ := obind h
      obtain ⟨tgg, h4, h⟩ := obind h
      obtain ⟨Ifs, h5, h⟩ := obind h
      obtain ⟨El, h6, h⟩ := obind h
      split at h
      · rename_i hin
        cases h
        exact (se_lc H A S hb h3 h4 h5 h6 hin h2).1
      · cases h
    · obtain ⟨I, h3, h⟩ := obind h
      obtain ⟨tgg, h4, h⟩ := obind h
      obtain ⟨Ifs, h5, h⟩ := obind h
      obtain ⟨I2, h3', h⟩ := obind h
      obtain ⟨tgg2, h4', h⟩ := obind h
      obtain ⟨Ifs2, h5', h⟩ := obind h
      obtain ⟨El, h6, h⟩ := obind h
      split at h
      · rename_i hin
        rw [Bool.and_eq_true] at hin
        cases h
        exact (se_lc2 H A S hb h3 h4 h5 h3' h4' h5' h6 hin.1 hin.2 h2).1
      · cases h
    · cases h
  · cases h
theorem se_dictcomp {k v : Expr} {gs : List Comprehension} {scope : Scope} (H : IH cm kk C c n) (A : Amb X cm kk C) (S : Sc X c sc) (h : erE c (n + 1) sc (.DictComp k v gs scope pos) = some E') (h2 : ev C M E' s = some (t, s')) : PE X (.DictComp k v gs scope pos) (tE X.K cm s t s') := by
  unfold erE at h
  obtain ⟨own, ho, h⟩ := obind h
  try dsimp only at h
  split at h
  · rename_i hb
    split at h
    · obtain ⟨I, h3, h⟩ := obind h
      obtain ⟨tgg, h4, h⟩ := obind h
      obtain ⟨Ifs, h5, h⟩ := obind h
      obtain ⟨Ek, h6, h⟩ := obind h
      obtain ⟨Ev, h6', h⟩ := obind h
      split at h
      · rename_i hin
        cases h
        exact se_dc H A S hb h3 h4 h5 h6 h6' hin h2
      · cases h
    · obtain ⟨I, h3, h⟩ := obind h
      obtain ⟨tgg, h4, h⟩ := obind h
      obtain ⟨Ifs, h5, h⟩ := obind h
      obtain ⟨I2, h3', h⟩ := obind h
      obtain ⟨tgg2, h4', h⟩ := obind h
      obtain ⟨Ifs2, h5', h⟩ := obind h
      obtain ⟨Ek, h6, h⟩ := obind h
      obtain ⟨Ev, h6', h⟩ := obind h
      split at h
      · cases h
        cases M with
        | zero => unfold ev at h2; cases h2
        | succ M => simp only [ev] at h2; cases h2
      · cases h
    · cases h
  · cases h
end
end Mp
/-! Mp, part W: calls by the eraser. -/
namespace Mp
open PySem PySem.Spec PyProof.Rows L2 RZ
def cv (z : Str) : String := String.ofList (z.cps.toList.map Char.ofNat)
theorem isi_facts : ∀ z ∈ isiNames, cv z ∈ isiTys ∧ bootBuiltins z = some (.type (cv z)) ∧ z ≠ ("__name__" : Str) ∧ (z == ("__debug__" : Str)) = false := by
  have h : (isiNames.all fun z => decide (cv z ∈ isiTys ∧ bootBuiltins z = some (.type (cv z)) ∧ z ≠ ("__name__" : Str) ∧ (z == ("__debug__" : Str)) = false)) = true := by decide +kernel
  intro z hz
  rw [List.all_eq_true] at h
  exact of_decide_eq_true (h z hz)
theorem isi_in : ∀ z ∈ isiNames, z ∈ bNames := fun z h => List.mem_append_right _ h
theorem bi_names : ∀ {f : Str} {d : D} {r : D × Bool}, biD f [d] = some r → f = ("len" : Str) ∨ f = ("int" : Str) ∨ f = ("abs" : Str) ∨ f = ("all" : Str) ∨ f = ("any" : Str) ∨ f = ("tuple" : Str) ∨ f = ("list" : Str) ∨ f = ("sorted" : Str) ∨ f = ("min" : Str) ∨ f = ("dict" : Str) ∨ f = ("repr" : Str) := by
  intro f d r h
  unfold biD at h
  dsimp only at h
  by_cases h1 : f = ("len" : Str)
  · exact .inl h1
  rw [if_neg h1] at h
  by_cases h2 : f = ("int" : Str)
  · exact .inr (.inl h2)
  rw [if_neg h2] at h
  by_cases h3 : f = ("abs" : Str)
  · exact .inr (.inr (.inl h3))
  rw [if_neg h3] at h
  by_cases h4 : f = ("all" : Str)
  · exact .inr (.inr (.inr (.inl h4)))
  rw [if_neg h4] at h
  by_cases h5 : f = ("any" : Str)
  · exact .inr (.inr (.inr (.inr (.inl h5))))
  rw [if_neg h5] at h
  by_cases h6 : f = ("tuple" : Str)
  · exact .inr (.inr (.inr (.inr (.inr (.inl h6)))))
  rw [if_neg h6] at h
  by_cases h7 : f = ("list" : Str)
  · exact .inr (.inr (.inr (.inr (.inr (.inr (.inl h7))))))
  rw [if_neg h7] at h
  by_cases h8 : f = ("sorted" : Str)
  · exact .inr (.inr (.inr (.inr (.inr (.inr (.inr (.inl h8)))))))
  rw [if_neg h8] at h
  by_cases h9 : f = ("min" : Str)
  · exact .inr (.inr (.inr (.inr (.inr (.inr (.inr (.inr (.inl h9))))))))
  rw [if_neg h9] at h
  by_cases h10 : f = ("dict" : Str)
  · exact .inr (.inr (.inr (.inr (.inr (.inr (.inr (.inr (.inr (.inl h10)))))))))
  rw [if_neg h10] at h
  by_cases h11 : f = ("repr" : Str)
  · exact .inr (.inr (.inr (.inr (.inr (.inr (.inr (.inr (.inr (.inr h11)))))))))
  rw [if_neg h11] at h
  cases h
section
variable {X : Cx} {cm : Str → Option Addr} {kk : Nat} {C : CallF} {c : Ec} {n M : Nat} {sc : Scope} {s s1 s' : St} {t : Tmp} {ts : List Tmp} {E' : E} {pos p : Pos}
theorem re_bi {f : Str} {e : Expr} {x d : D} {fr : Bool} (A : Amb X cm kk C) (he : PE X e (tE X.K cm s t s1)) (hx : t.d s1 = some x) (h : biD f [x] = some (d, fr)) (hg : Gl X f) (hs : nst e = true) : PE X (.Call (.Name f p) [e] [] pos) (tE X.K cm s (.v d fr) s1) := by
  rcases bi_names h with rfl | rfl | rfl | rfl | rfl | rfl | rfl | rfl | rfl | rfl | rfl
  · exact re_biB bi_len he hx h hg (A.nb _ (by decide)) boot_len (by decide) (by decide) hs
  · exact re_biT bi_int he hx h hg (A.nb _ (by decide)) PySem.Pv.boot_int (by decide) (by decide) hs
  · exact re_biB bi_abs he hx h hg (A.nb _ (by decide)) boot_abs (by decide) (by decide) hs
  · exact re_biB (bi_all A.calm) he hx h hg (A.nb _ (by decide)) boot_all (by decide) (by decide) hs
  · exact re_biB (bi_any A.calm) he hx h hg (A.nb _ (by decide)) boot_any (by decide) (by decide) hs
  · exact re_biT bi_tuple he hx h hg (A.nb _ (by decide)) PySem.Pv.boot_tuple (by decide) (by decide) hs
  · exact re_biT bi_list he hx h hg (A.nb _ (by decide)) PySem.Pv.boot_list (by decide) (by decide) hs
  · exact re_biB (bi_sorted A.calm A.un) he hx h hg (A.nb _ (by decide)) boot_sorted (by decide) (by decide) hs
  · exact re_biB (bi_min A.calm) he hx h hg (A.nb _ (by decide)) boot_min (by decide) (by decide) hs
  · exact re_biT (bi_dict A.calm) he hx h hg (A.nb _ (by decide)) (by decide +kernel) (by decide) (by decide) hs
  · exact re_biB (bi_repr A.cal.gd A.un) he hx h hg (A.nb _ (by decide)) (by decide +kernel) (by decide) (by decide) hs
theorem evL_one {f : E → St → Option (Tmp × St)} {es : List E} {t : Tmp} (h : evL f es s = some ([t], s')) : ∃ e, es = [e] ∧ f e s = some (t, s') := by
  cases es with
  | nil => cases h
  | cons e es =>
    unfold evL at h
    obtain ⟨⟨t1, s1⟩, h1, h⟩ := obind h
    obtain ⟨⟨ts, s2⟩, h2, h⟩ := obind h
    cases h
    cases es with
    | nil => cases h2; exact ⟨e, rfl, h1⟩
    | cons e' es =>
      unfold evL at h2
      obtain ⟨⟨t2, s3⟩, h3, h2⟩ := obind h2
      obtain ⟨⟨ts', s4⟩, h4, h2⟩ := obind h2
      cases h2
theorem dsOf_one : ∀ {ts : List Tmp} {d : D}, dsOf ts s = some [d] → ∃ t, ts = [t] ∧ t.d s = some d
  | [], d, h => by cases h
  | [t], d, h => by
    unfold dsOf at h
    obtain ⟨d1, h1, h⟩ := obind h
    obtain ⟨ds, h2, h⟩ := obind h
    cases h2
    cases h
    exact ⟨t, rfl, h1⟩
  | t :: t' :: ts, d, h => by
    unfold dsOf at h
    obtain ⟨d1, h1, h⟩ := obind h
    obtain ⟨ds, h2, h⟩ := obind h
    unfold dsOf at h2
    obtain ⟨d2, h3, h2⟩ := obind h2
    obtain ⟨ds', h4, h2⟩ := obind h2
    cases h2
    cases h
theorem biD_len {f : Str} {ds : List D} {r : D × Bool} (h : biD f ds = some r) : ∃ d, ds = [d] := by
  cases ds with
  | nil => cases h
  | cons d ds => cases ds with
    | nil => exact ⟨d, rfl⟩
    | cons _ _ => cases h
theorem se_bi {f : Str} {as : List Expr} {Es : List E} (H : IH cm kk C c n) (A : Amb X cm kk C) (S : Sc X c sc) (hg : Gl X f) (h : mapO (erE c n sc) as = some Es) (h2 : ev C M (.bi f Es) s = some (t, s')) : PE X (.Call (.Name f p) as [] pos) (tE X.K cm s t s') := by
  cases M with
  | zero => unfold ev at h2; cases h2
  | succ M =>
    simp only [ev] at h2
    obtain ⟨⟨ts, s1⟩, h3, h2⟩ := obind h2
    obtain ⟨ds, h4, h2⟩ := obind h2
    obtain ⟨⟨d, fr⟩, h5, h2⟩ := obind h2
    cases h2
    obtain ⟨x, rfl⟩ := biD_len h5
    obtain ⟨t1, rfl, h6⟩ := dsOf_one h4
    obtain ⟨e1, rfl, h7⟩ := evL_one h3
    have hl := mapO_len h
    match as, hl, h with
    | [a], _, h =>
      obtain ⟨y, zs, h8, h9, h10⟩ := mapO_cons h
      cases h10
      exact re_bi A (H.e A S h8 h7) h6 h5 hg (er_nst h8)
theorem se_call {f : Str} {as : List Expr} {Es : List E} (H : IH cm kk C c n) (A : Amb X cm kk C) (S : Sc X c sc) (hg : Gl X f) (hdb : (f == ("__debug__" : Str)) = false) (h : mapO (erE c n sc) as = some Es) (h2 : ev C M (.call f Es) s = some (t, s')) : PE X (.Call (.Name f p) as [] pos) (tE X.K cm s t s') := by
  cases M with
  | zero => unfold ev at h2; cases h2
  | succ M =>
    simp only [ev] at h2
    split at h2
    · cases h2
    · rename_i hdot
      obtain ⟨⟨ts, s1⟩, h3, h2⟩ := obind h2
      obtain ⟨⟨ds, s2⟩, h4, h2⟩ := obind h2
      obtain ⟨r, h5, h2⟩ := obind h2
      obtain ⟨pa, hl⟩ := ih_list H A S h h3
      have hst := mapO_nst h
      have ht : t = (called ts s2 r).1 := by cases h2; rfl
      have hs' : s' = (called ts s2 r).2 := by cases h2; rfl
      rw [ht, hs']
      have hdot : f.cps.toList.contains 46 = false := by simpa using hdot
      cases hc : cm f with
      | none =>
        cases as with
        | nil =>
          cases ts with
          | cons _ _ => simp at hl
          | nil =>
            cases h4
            cases Es with
            | cons _ _ => have := mapO_len h; simp at this
            | nil =>
              cases h3
              exact re_call0 A.cal h5 hc hdot hg hdb
        | cons a as => exact re_call A.cal pa h4 h5 hc hdot hg hdb hst (by simp)
      | some Cl =>
        have hne := (A.cal.cls f Cl ds s2.b r hc h5).1
        cases as with
        | nil =>
          cases ts with
          | cons _ _ => simp at hl
          | nil => cases h4; exact absurd rfl hne
        | cons a as => exact re_make A.cal pa h4 h5 hc hg hdb hst (by simp)
theorem nms_map : ∀ ps : List Str, nmsOf (ps.map .str) = ps
  | [] => rfl
  | p :: ps => by
    show p :: nmsOf (ps.map .str) = _
    rw [nms_map ps]
theorem se_callK {f : Str} {ks : List Keyword} {ps ns : List Str} {Ws : List E} (H : IH cm kk C c n) (A : Amb X cm kk C) (S : Sc X c sc) (hg : Gl X f) (hdb : (f == ("__debug__" : Str)) = false) (hps : c.pm.lookup f = some ps) (hns : mapO (fun k : Keyword => k.arg) ks = some ns) (hp : ns.isPerm ps = true)
    (h : mapO (fun k : Keyword => erE c n sc k.value) ks = some Ws) (h2 : ev C M (.callK f (ps.map .str) ns Ws) s = some (t, s')) : PE X (.Call (.Name f p) [] ks pos) (tE X.K cm s t s') := by
  cases M with
  | zero => unfold ev at h2; cases h2
  | succ M =>
    simp only [ev] at h2
    split at h2
    · cases h2
    · rename_i hdot
      rw [nms_map] at h2
      obtain ⟨⟨ts, s1⟩, h3, h2⟩ := obind h2
      obtain ⟨⟨ds, s2⟩, h4, h2⟩ := obind h2
      obtain ⟨r, h5, h2⟩ := obind h2
      obtain ⟨pa, hl⟩ := ih_kw H A S h h3
      have ht : t = (called ts s2 r).1 := by cases h2; rfl
      have hs' : s' = (called ts s2 r).2 := by cases h2; rfl
      rw [ht, hs']
      have hdot : f.cps.toList.contains 46 = false := by simpa using hdot
      obtain ⟨fa, hm, hpm⟩ := S.pm f ps hps
      exact re_callK A.cal pa hns (List.isPerm_iff.mp hp) (by rw [hl, mapO_len hns]) h4 h5 hm hpm hdot hg hdb
theorem se_isi1 {a : Expr} {x : Str} {q : Pos} {a' : E} (H : IH cm kk C c n) (A : Amb X cm kk C) (S : Sc X c sc) (hg : Gl X "isinstance") (h : erE c n sc a = some a') (hx : (globOf sc x && isiNames.contains x) = true) (h2 : ev C M (.isi a' [x] false) s = some (t, s')) :
    PE X (.Call (.Name "isinstance" p) [a, .Name x q] [] pos) (tE X.K cm s t s') := by
  cases M with
  | zero => unfold ev at h2; cases h2
  | succ M =>
    simp only [ev] at h2
    obtain ⟨⟨t1, s1⟩, h3, h2⟩ := obind h2
    obtain ⟨y, h4, h2⟩ := obind h2
    obtain ⟨b, h5, h2⟩ := obind h2
    cases h2
    rw [Bool.and_eq_true] at hx
    have hm : x ∈ isiNames := by simpa using hx.2
    obtain ⟨f1, f2, f3, f4⟩ := isi_facts x hm
    exact re_isi1 (H.e A S h h3) h4 f1 h5 (pe_bltn (glob_of S hx.1) (A.nb x (isi_in x hm)) f2 rfl f3 f4) hg (A.nb _ (by decide)) (star_of (er_nst h) _ _)
theorem tys_of (A : Amb X cm kk C) (S : Sc X c sc) : ∀ {ys : List Expr} {zs : List Str}, mapO nameOf? ys = some zs → (zs.all fun t => globOf sc t && isiNames.contains t) = true →
    Paired (fun y T => PE X y (tC (.ty T)) ∧ ∀ r, starEach (y :: r) X.env = (false, eval y X.env) :: starEach r X.env) ys (zs.map cv) ∧ ∀ T ∈ zs.map cv, T ∈ isiTys
  | [], zs, h, _ => by cases h; exact ⟨.nil, fun T h => by simp at h⟩
  | y :: ys, zs, h, h2 => by
    obtain ⟨z, zs', h3, h4, rfl⟩ := mapO_cons h
    rw [List.all_cons, Bool.and_eq_true, Bool.and_eq_true] at h2
    obtain ⟨⟨h5, h6⟩, h7⟩ := h2
    obtain ⟨p1, p2⟩ := tys_of A S h4 h7
    have hm : z ∈ isiNames := by simpa using h6
    obtain ⟨f1, f2, f3, f4⟩ := isi_facts z hm
    cases y with
    | Name w q =>
      cases h3
      refine ⟨.cons ⟨pe_bltn (glob_of S h5) (A.nb _ (isi_in _ hm)) f2 rfl f3 f4, fun r => rfl⟩ p1, fun T hT => ?_⟩
      rw [List.map_cons, List.mem_cons] at hT
      rcases hT with rfl | hT
      · exact f1
      · exact p2 T hT
    | _ => cases h3
theorem se_isiT {a : Expr} {ys : List Expr} {zs : List Str} {k : Nat} {q : Pos} {a' : E} (H : IH cm kk C c n) (A : Amb X cm kk C) (S : Sc X c sc) (hg : Gl X "isinstance") (h : erE c n sc a = some a') (hm : mapO nameOf? ys = some zs) (hx : ((zs.all fun t => globOf sc t && isiNames.contains t) && decide (zs.length ≤ 6)) = true) (h2 : ev C M (.isi a' zs true) s = some (t, s')) :
    PE X (.Call (.Name "isinstance" p) [a, .Tuple ys k q] [] pos) (tE X.K cm s t s') := by
  cases M with
  | zero => unfold ev at h2; cases h2
  | succ M =>
    simp only [ev] at h2
    obtain ⟨⟨t1, s1⟩, h3, h2⟩ := obind h2
    obtain ⟨y, h4, h2⟩ := obind h2
    obtain ⟨b, h5, h2⟩ := obind h2
    cases h2
    rw [Bool.and_eq_true, decide_eq_true_eq] at hx
    obtain ⟨p1, p2⟩ := tys_of A S hm hx.1
    exact re_isiT (H.e A S h h3) h4 p2 (by rw [List.length_map, sizeLine_eq]; omega) h5 (pa_tys p1) hg (A.nb _ (by decide)) (star_of (er_nst h) _ _)
end
end Mp
/-! Mp, part Sd: sorted(set(..)), list(d.values()), list(range(n)). -/
namespace Mp
open PySem PySem.Spec PyProof.Rows L2 RZ
def BagO (P : Program) (w : World) (a : Addr) (xs : List Str) : HO := .ext fun h => Bag P w h a xs
theorem bagO_new {w : World} {P : Program} {H : Hp} {h : Heap} {a : Addr} {xs : List Str} (B : Bag P w h a xs) : ObjOk P w H h a (BagO P w a xs) := by
  have ⟨o, _, _, _, ho, _⟩ := B
  exact ⟨B, ⟨o, ho⟩, fun h1 h2 p k => Bag.at p k⟩
theorem strs_rep {K : Fr0} {cm : Str → Option Addr} {F : Hp} {L : List Addr} : ∀ {xs : List D} {ys : List Str} {vs : List V}, strsOf xs = some ys → RepL K cm F L xs vs → vs = ys.map V.str
  | [], ys, _, h, r => by cases h; cases r; rfl
  | x :: xs, ys, _, h, r => by
    cases r with
    | cons r t =>
      cases x <;> first | (cases h; done) | skip
      rename_i b
      have h : (strsOf xs).bind (fun bs => some (b :: bs)) = some ys := h
      obtain ⟨bs, h1, h2⟩ := obind h
      cases h2
      cases r
      rw [List.map_cons, strs_rep h1 t]
theorem strs_back {K : Fr0} {cm : Str → Option Addr} {F : Hp} {L : List Addr} : ∀ ys : List Str, RepL K cm F L (ys.map D.str) (ys.map V.str)
  | [] => .nil
  | y :: ys => .cons (.str y) (strs_back ys)
theorem strs_are : ∀ {ys : List Str} {us : List Value}, Vals (ys.map V.str) us → StrsAre us ys
  | [], us, h => by cases h; exact .nil
  | y :: ys, us, h => by
    cases h with
    | cons q t =>
      obtain ⟨tk, rfl⟩ := q
      exact .cons y tk (strs_are t)
theorem metS_same {ys : List Str} {z : Str} : z ∈ metS [] ys ↔ z ∈ ys := by rw [metS_mem]; simp
theorem ssrt_met (ys : List Str) : ssrt (metS [] ys) = ssrt ys := asc_eq (ssrt_asc _) (ssrt_asc _) fun z => by rw [ssrt_mem, ssrt_mem, metS_same]
section
variable {X : Cx}
def rSetT (K : Fr0) (P : Program) (w : World) : List V → Hp → VK → Prop := fun xs H Q => ∃ l ys, xs = [.ref l] ∧ SqL K H l (ys.map V.str) ∧ ys.length + 1 < scanBound ∧ ∀ p, H p = none → Q (.ref p) (upd H p (BagO P w p (metS [] ys)))
theorem cr_setT (hc : X.calm = true) : CallR X (.type "set") (rSetT X.K X.prog X.w) := by
  intro pins s σ H xs us Q I r h
  obtain ⟨l, ys, rfl, hl, few, q⟩ := h
  cases r with
  | cons r1 r2 =>
    cases r2
    cases (show _ = Value.ref l from r1)
    obtain ⟨its, rv, pl, hz⟩ := I.list hl
    refine call_setTxt (I.ok.hd hc) pl.isList (strs_are (by simpa using rv)) few fun h' tk B k => ?_
    exact ⟨.ref _, _, I.laid (t' := tk) k (Nat.le_refl _) (bagO_new B), rfl, q _ (I.hok.fresh (Nat.le_refl _))⟩
def rSetU (K : Fr0) (P : Program) (w : World) : List V → Hp → VK → Prop := fun xs H Q => ∃ l ys, xs = [.ref l] ∧ SqT K H l (ys.map V.str) ∧ ys.length + 1 < scanBound ∧ ∀ p, H p = none → Q (.ref p) (upd H p (BagO P w p (metS [] ys)))
theorem cr_setU (hc : X.calm = true) : CallR X (.type "set") (rSetU X.K X.prog X.w) := by
  intro pins s σ H xs us Q I r h
  obtain ⟨l, ys, rfl, hl, few, q⟩ := h
  cases r with
  | cons r1 r2 =>
    cases r2
    cases (show _ = Value.ref l from r1)
    obtain ⟨its, rv, pl, hz⟩ := I.tuple hl
    refine call_setTup (I.ok.hd hc) pl (strs_are (by simpa using rv)) few fun h' tk B k => ?_
    exact ⟨.ref _, _, I.laid (t' := tk) k (Nat.le_refl _) (bagO_new B), rfl, q _ (I.hok.fresh (Nat.le_refl _))⟩
def rSortB (P : Program) (w : World) : List V → Hp → VK → Prop := fun vs H Q => ∃ a xs, vs = [.ref a] ∧ H a = some (BagO P w a xs) ∧ xs.length ≤ sizeLine ∧ ∀ p, H p = none → Q (.ref p) (upd H p (.lst ((ssrt xs).map V.str)))
theorem cr_sortB (hc : X.calm = true) (hu : X.A.units + 65 < cLine) : CallR X (.builtin "sorted") (rSortB X.prog X.w) := by
  intro pins s σ H xs us Q I r h
  obtain ⟨a, ys, rfl, ha, hz, q⟩ := h
  cases r with
  | cons r1 r2 =>
    cases r2
    cases (show _ = Value.ref a from r1)
    have B : Bag X.prog X.w s.heap a ys := (I.hok a _ ha).1
    refine sorted_bag B (I.ok.hd hc) (by omega) fun s' p out c k g o hp ho hw => ?_
    have hl : ((ssrt ys).map V.str).length ≤ sizeLine := by
      have := ssrt_len ys
      rw [List.length_map]; omega
    have J : Inv X pins σ (upd H p (.lst ((ssrt ys).map V.str))) { s with heap := s'.heap, gens := s'.gens, drawn := s'.drawn, toks := s'.toks } :=
      I.call (ch := []) (Un.laid k hp (I.hok.fresh hp)) (I.hok.laid k hp ⟨hl, out.toList, c, vals_txt hw, ho⟩) (by rw [g]; exact I.bare) fun _ z => nomatch z
    have e : s' = { s with heap := s'.heap, gens := s'.gens, drawn := s'.drawn, toks := s'.toks } := by
      obtain ⟨h', g', d', tk', os'⟩ := s'
      cases (show os' = s.os from o)
      rfl
    rw [e]
    exact ⟨.ref p, _, J, rfl, q p (I.hok.fresh hp)⟩
end
section
variable {X : Cx} {cm : Str → Option Addr} {kk : Nat} {C : CallF} {s s1 s2 s' : St} {t u : Tmp} {e o : Expr} {p q q1 pos apos cpos : Pos}
theorem re_sset {xs : List D} {ys : List Str} (A : Amb X cm kk C) (he : PE X e (tE X.K cm s t s1)) (hx : t.d s1 = some (.lst xs)) (hy : strsOf xs = some ys) (hb : ys.length + 1 < scanBound) (hg : Gl X "sorted") (hg2 : Gl X "set") (hn : nst e = true) :
    PE X (.Call (.Name "sorted" p) [.Call (.Name "set" q1) [e] [] q] [] pos) (tE X.K cm s (.v (.lst ((ssrt ys).map .str)) true) s1) := by
  have h1 : PE X (.Call (.Name "set" q1) [e] [] q) _ := pe_callTy (cr_setT A.calm) hg2 (A.nb _ (by decide)) (by decide +kernel) (pa_cons he pa_nil (star_of hn [] _)) (by decide) (by decide) (star_of hn [] _) rfl
  have h2 : PE X (.Call (.Name "sorted" p) [.Call (.Name "set" q1) [e] [] q] [] pos) _ := pe_callB (cr_sortB A.calm A.un) hg (A.nb _ (by decide)) boot_sorted (pa_cons h1 pa_nil (star_of rfl [] _)) (by decide) (by decide) (star_of rfl [] _) rfl
  refine h2.imp fun σ H Q ⟨F, L, g, k⟩ => ⟨F, L, g, fun v H1 F1 L1 g1 x1 q1 n1 => ?_⟩
  obtain ⟨l, vs, rfl, h3, r3⟩ := vw_lst (q1.vw g1 hx)
  have := strs_rep hy r3
  subst this
  refine ⟨l, ys, rfl, .of h3, hb, fun b hbn => ⟨b, _, rfl, upd_same, ?_, fun c hc => ?_⟩⟩
  · have := metS_len ys []
    have hs : scanBound ≤ sizeLine := by decide
    simp at this; omega
  · rw [ssrt_met]
    have hc1 : c ≠ b := fun z => by rw [z, upd_same] at hc; cases hc
    have hcH : H1 c = none := by rw [upd_ne hc1] at hc; exact hc
    have g2 := g1.laid hbn (o := BagO X.prog X.w b (metS [] ys))
    have k2 : Fin X.K cm σ s1 (upd H1 b (BagO X.prog X.w b (metS [] ys))) F1 L1 (.v (.lst ((ssrt ys).map .str)) true) s1 Q := (k.step g1 x1).step g2 (Ext.laid hbn)
    exact k2.newL g2 hc (strs_back _)
theorem re_ssetT {xs : List D} {ys : List Str} (A : Amb X cm kk C) (he : PE X e (tE X.K cm s t s1)) (hx : t.d s1 = some (.tup xs)) (hy : strsOf xs = some ys) (hb : ys.length + 1 < scanBound) (hg : Gl X "sorted") (hg2 : Gl X "set") (hn : nst e = true) :
    PE X (.Call (.Name "sorted" p) [.Call (.Name "set" q1) [e] [] q] [] pos) (tE X.K cm s (.v (.lst ((ssrt ys).map .str)) true) s1) := by
  have h1 : PE X (.Call (.Name "set" q1) [e] [] q) _ := pe_callTy (cr_setU A.calm) hg2 (A.nb _ (by decide)) (by decide +kernel) (pa_cons he pa_nil (star_of hn [] _)) (by decide) (by decide) (star_of hn [] _) rfl
  have h2 : PE X (.Call (.Name "sorted" p) [.Call (.Name "set" q1) [e] [] q] [] pos) _ := pe_callB (cr_sortB A.calm A.un) hg (A.nb _ (by decide)) boot_sorted (pa_cons h1 pa_nil (star_of rfl [] _)) (by decide) (by decide) (star_of rfl [] _) rfl
  refine h2.imp fun σ H Q ⟨F, L, g, k⟩ => ⟨F, L, g, fun v H1 F1 L1 g1 x1 q1 n1 => ?_⟩
  obtain ⟨l, vs, rfl, h3, r3⟩ := vw_tup (q1.vw g1 hx)
  have := strs_rep hy r3
  subst this
  refine ⟨l, ys, rfl, .of (g1.sub _ _ h3), hb, fun b hbn => ⟨b, _, rfl, upd_same, ?_, fun c hc => ?_⟩⟩
  · have := metS_len ys []
    have hs : scanBound ≤ sizeLine := by decide
    simp at this; omega
  · rw [ssrt_met]
    have hc1 : c ≠ b := fun z => by rw [z, upd_same] at hc; cases hc
    have hcH : H1 c = none := by rw [upd_ne hc1] at hc; exact hc
    have g2 := g1.laid hbn (o := BagO X.prog X.w b (metS [] ys))
    have k2 : Fin X.K cm σ s1 (upd H1 b (BagO X.prog X.w b (metS [] ys))) F1 L1 (.v (.lst ((ssrt ys).map .str)) true) s1 Q := (k.step g1 x1).step g2 (Ext.laid hbn)
    exact k2.newL g2 hc (strs_back _)
/-! ### list(d.values()) -/
def tListVals (te : TE) : TE := fun σ H Q => te σ H fun x H1 => ∃ d kvs, x = .ref d ∧ Rd H1 d (.dK kvs) ∧ ∀ b, H1 b = none → Q (.ref b) (upd H1 b (.lst (kvs.map (·.2))))
theorem pe_listVals {te : TE} (hc : X.calm = true) (he : PE X e te) (hg : Gl X "list") (hm : X.mg "list" = none) (hbase : attributeBase e "values" X.env (eval e X.env) = eval e X.env) (hline : (apos.endLine == cpos.line) = true) :
    PE X (.Call (.Name "list" p) [.Call (.Attribute e "values" apos) [] [] cpos] [] pos) (tListVals te) := by
  refine ⟨fun pins s σ H Q I hq => ?_⟩
  have hs : starEach [.Call (.Attribute e "values" apos) [] [] cpos] X.env = (false, eval (.Call (.Attribute e "values" apos) [] [] cpos) X.env) :: starEach [] X.env := rfl
  refine wpAny_Call_Name_kw (ld_blt I hg hm PySem.Pv.boot_list ?_)
  refine PyProof.Rows.callWith_type1 ?_ hs rfl
  rw [hs]
  show wpAny _ _ (spliced ((false, eval (.Call (.Attribute e "values" apos) [] [] cpos) X.env) :: backTo pos (starEach [] X.env))) _ _ s
  refine Calls.spliced_cons (wpAny_Call_method (T := "dict") (id := "dict.values") hbase rfl hline F.plainAttrs_dict F.slot_dict_values F.type_dict_values (thn (he.run pins s σ H _ I hq) fun u s1 ⟨x, H1, I1, rx, d, kvs, ex, hd, q⟩ => ?_))
  subst ex
  obtain rfl : u = Value.ref d := rx
  obtain ⟨hz, hs0, vs, kv, hdo⟩ := (show ObjOk X.prog X.w H1 s1.heap d (.dK kvs) from hd.ok I1.hok)
  obtain ⟨ep, hat⟩ := hdo.dictAt
  have lk : kvs.length = vs.length := Paired.length kv
  refine ⟨hdo.typeIs, hdo.mapOf.noDict, ?_⟩
  show wpAny _ _ (callWith cpos (.builtin "dict.values") [.ref d] [] []) _ X.xe s1
  refine method_meetsIn F.slot_dict_values F.entry_dict_values rfl (PySem.evalArgs_none ⟨rfl, hdo.typeIs, F.args_dict_values_1 _, _, meets_dict_values (mixKind X.prog X.w) d hs0, ⟨vs, hdo⟩, ?_⟩)
  refine Calls.spliced_nil ?_
  have I2 : Inv X pins σ H1 { s1 with heap := s1.heap.push { cls := .type "dict_values", data := .fields #[.ref d] } } := I1.kept (t' := s1.toks) fun b ob q => Heap.get?_push_of_some _ q
  refine PySem.W.kdl_call (PySem.W.kdl_values (knd := mixKind X.prog X.w) (kvs := vs) (ep := ep)) (I1.ok.hd hc) ⟨⟨_, Heap.get?_push_size _ rfl, rfl, rfl⟩, hat.push _⟩ (by rw [← lk]; exact hz) fun h' tk acc c kp hS it => ?_
  refine ⟨.ref _, upd H1 _ (.lst (kvs.map (·.2))), I2.laid (t' := tk) kp (Nat.le_refl _) ⟨by rw [List.length_map]; exact hz, acc.toList, c, ?_, by rw [Array.toArray_toList]; exact hS⟩, rfl, q _ (I2.hok.fresh (Nat.le_refl _))⟩
  have el : acc.toList.length = vs.length := by rw [Array.length_toList, it.1]
  refine vals_of_at (by rw [List.length_map, el, lk]) fun j x w h1 h2 => ?_
  obtain ⟨k, hk⟩ := it.2 j w (by rw [← Array.getElem?_toList]; exact h2)
  obtain ⟨y, h3, h4⟩ := KV.at' kv hk
  rw [List.getElem?_map, h3] at h1
  cases h1
  exact h4
theorem vals_rep {K : Fr0} {F : Hp} {L : List Addr} : ∀ {ks : List (Key × D)} {vs : List (Key × V)}, RepK K cm F L ks vs → RepL K cm F L (ks.map (·.2)) (vs.map (·.2))
  | _, _, .nil => .nil
  | _, _, .cons r t => .cons r (vals_rep t)
theorem re_lofV {kvs : List (Key × D)} (A : Amb X cm kk C) (he : PE X e (tE X.K cm s t s1)) (hx : t.d s1 = some (.dK kvs)) (hg : Gl X "list") (hs : NoSup e) (hline : (apos.endLine == cpos.line) = true) :
    PE X (.Call (.Name "list" p) [.Call (.Attribute e "values" apos) [] [] cpos] [] pos) (tE X.K cm s (.v (.lst (kvs.map (·.2))) true) s1) :=
  (pe_listVals A.calm he hg (A.nb _ (by decide)) (attr_base _ _ _ hs) hline).imp fun σ H Q ⟨F, L, g, k⟩ => ⟨F, L, g, fun v H1 F1 L1 g1 x1 q1 n1 => by
    obtain ⟨a, vs, rfl, h1, r1⟩ := (show Vw X.K cm H1 F1 L1 (.dK kvs) v from q1.vw g1 hx)
    exact ⟨a, vs, rfl, h1, fun b hb => (k.step g1 x1).newL g1 hb (vals_rep r1)⟩⟩
theorem rg_rep {K : Fr0} {F : Hp} {L : List Addr} (n : Int) : RepL K cm F L (rngD 0 n.toNat) (rgV 0 n) := by
  have h : ∀ (m : Nat) (lo : Int), RepL K cm F L (rngD lo m) ((List.range m).map fun i => V.int (lo + (i : Nat))) := by
    intro m
    induction m with
    | zero => intro lo; exact .nil
    | succ m ih =>
      intro lo
      rw [List.range_succ_eq_map, List.map_cons, List.map_map]
      refine .cons (by simpa using Rep.int lo) ?_
      have := ih (lo + 1)
      have e : ((List.range m).map fun i => V.int (lo + 1 + (i : Nat))) = (List.range m).map ((fun i : Nat => V.int (lo + (i : Nat))) ∘ Nat.succ) := by
        refine List.map_congr_left fun i _ => ?_
        show V.int _ = V.int _
        congr 1
        omega
      rw [← e]
      exact this
  have := h n.toNat 0
  unfold rgV
  simpa using this
theorem re_lofR {n : Int} (A : Amb X cm kk C) (he : PE X e (tE X.K cm s t s1)) (hx : t.d s1 = some (.int n)) (h : -(2 ^ 62) ≤ n ∧ n ≤ 16777216) (hg : Gl X "list") (hg2 : Gl X "range") (hn : nst e = true) :
    PE X (.Call (.Name "list" p) [.Call (.Name "range" q1) [e] [] q] [] pos) (tE X.K cm s (.v (.lst (rngD 0 n.toNat)) true) s1) :=
  (pe_listRg A.calm hg (A.nb _ (by decide)) (prg_1 hg2 (A.nb _ (by decide)) he (star_of hn [] _)) (star_of rfl [] _)).imp fun σ H Q ⟨F, L, g, k⟩ => ⟨F, L, g, fun v H1 F1 L1 g1 x1 q1 n1 => by
    have := vw_int (q1.vw g1 hx)
    subst this
    exact ⟨n, rfl, ⟨by omega, by omega, by omega, by omega, by omega⟩, fun b hb => (k.step g1 x1).newL g1 hb (rg_rep n)⟩⟩
end
end Mp
/-! Mp, part X: methods; what is walked; tests; all together. -/
namespace Mp
open PySem PySem.Spec PyProof.Rows L2 RZ
section
variable {X : Cx} {cm : Str → Option Addr} {kk : Nat} {C : CallF} {c : Ec} {n M : Nat} {sc : Scope} {s s1 s' : St} {t : Tmp} {ts : List Tmp} {E' : E} {pos p : Pos}
theorem er_var {o : Expr} {i : Nat} (S : Sc X c sc) (h : erE c n sc o = some (.loc i)) (hn : isName o = true) : PE X o (tVar i) := by
  cases o with
  | Name x p =>
    cases n with
    | zero => unfold erE at h; cases h
    | succ n =>
      unfold erE at h
      dsimp only at h
      split at h
      · cases h
      · rename_i hd
        rw [Bool.or_eq_true, not_or] at hd
        split at h
        · rename_i j hj
          cases h
          obtain ⟨g1, g2⟩ := slot_of S hj
          exact pe_var g1 g2 (by simpa using hd.1) (by simpa using hd.2)
        · split at h
          · split at h <;> cases h
          · cases h
  | _ => cases hn
theorem mut_any {m : Str} {i : Nat} {o : Expr} {es : List Expr} {s s1 s2 : St} {ts : List Tmp} {ds : List D} {d d' r : D} {apos cpos : Pos} (hv : PE X o (tVar i)) (hk : mutK m (s.get i) = true) (hes : PA X es (tAs X.K cm s ts s1)) (ht : takes ts s1 = some (ds, s2)) (hd : s2.get i = some (d, true)) (hr : mutD m d ds = some (d', r)) (hst : ∀ e ∈ es, nst e = true) (hsup : NoSup o) (hline : (apos.endLine == cpos.line) = true) (hlen : es.length ≤ 28) (hnil : es = [] → ts = [] ∧ s1 = s) (hrm : m ≠ ("remove" : Str)) :
    PE X (.Call (.Attribute o m apos) es [] cpos) (tE X.K cm s (.v r false) (s2.put i d' true)) := by
  obtain ⟨xs, rfl⟩ := mutD_kind hk hr
  by_cases h1 : m = ("append" : Str)
  · subst h1; exact re_mut PySem.F.plainAttrs_list PySem.F.slot_list_append PySem.F.type_list_append mu_append hv hk hes ht hd hr hst hsup hline hlen hnil
  by_cases h2 : m = ("extend" : Str)
  · subst h2; exact re_mut PySem.F.plainAttrs_list PySem.F.slot_list_extend PySem.F.type_list_extend mu_extend hv hk hes ht hd hr hst hsup hline hlen hnil
  by_cases h3 : m = ("pop" : Str)
  · subst h3; exact re_mut PySem.F.plainAttrs_list PySem.F.slot_list_pop PySem.F.type_list_pop mu_pop hv hk hes ht hd hr hst hsup hline hlen hnil
  exfalso
  unfold mutD at hr
  split at hr
  · rename_i e; cases e
    rw [if_neg h1, if_neg h2, if_neg h3, if_neg hrm] at hr
    cases hr
  · rename_i e; cases e
    rw [if_neg h3] at hr
    cases hr
  · rename_i e; cases e
  · cases hr
theorem mutK_rem {m : Str} {q : Option (D × Bool)} (h : mutK m q = true) : m ≠ ("remove" : Str) := by
  unfold mutK at h
  split at h
  · rw [Bool.and_eq_true] at h; exact of_decide_eq_true h.2
  · cases h
theorem metD_len {m : Str} {x : D} {ds : List D} {r : D × Bool} (h : metD m x ds = some r) : ∃ d, ds = [d] := by
  unfold metD at h
  split at h
  · exact ⟨_, rfl⟩
  · exact ⟨_, rfl⟩
  · cases h
theorem se_meth {o : Expr} {m : Str} {ap : Pos} {as : List Expr} {o' : E} {Es : List E} (H : IH cm kk C c n) (A : Amb X cm kk C) (S : Sc X c sc) (hline : (ap.endLine == pos.line) = true) (hlen : as.length ≤ 28) (h3 : erE c n sc o = some o') (h4 : mapO (erE c n sc) as = some Es) (hmn : ¬(muts.contains m && !isName o) = true) (h2 : ev C M (.meth o' m Es) s = some (t, s')) :
    PE X (.Call (.Attribute o m ap) as [] pos) (tE X.K cm s t s') := by
  cases M with
  | zero => unfold ev at h2; cases h2
  | succ M =>
    simp only [ev] at h2
    split at h2
    · rename_i hm
      split at h2
      · rename_i i
        split at h2
        · rename_i hk
          obtain ⟨⟨ts, s1⟩, h5, h2⟩ := obind h2
          obtain ⟨⟨ds, s2⟩, h6, h2⟩ := obind h2
          dsimp only at h2
          split at h2
          · rename_i d hd
            obtain ⟨⟨d', r⟩, h7, h2⟩ := obind h2
            cases h2
            have hn : isName o = true := by
              rw [hm] at hmn
              simpa using hmn
            obtain ⟨pa, hl⟩ := ih_list H A S h4 h5
            refine mut_any (er_var S h3 hn) hk pa h6 hd h7 (mapO_nst h4) (er_noSup h3) hline hlen (fun e => ?_) (mutK_rem hk)
            subst e
            cases h4
            cases h5
            exact ⟨rfl, rfl⟩
          · cases h2
        · cases h2
      · cases h2
    · obtain ⟨⟨t1, s1⟩, h5, h2⟩ := obind h2
      obtain ⟨x0, h6, h2⟩ := obind h2
      dsimp only at h2
      split at h2
      · rename_i cc fs
        split at h2
        · cases h2
        · rename_i hl
          have hl : fs.lookup m = none := by
            cases e : fs.lookup m with
            | none => rfl
            | some w => rw [e] at hl; exact absurd rfl hl
          obtain ⟨⟨ts, s2⟩, h7, h2⟩ := obind h2
          obtain ⟨⟨ds, s3⟩, h8, h2⟩ := obind h2
          obtain ⟨r, h9, h2⟩ := obind h2
          obtain ⟨pa, hl2⟩ := ih_list H A S h4 h7
          have ht : t = (called (t1 :: ts) s3 r).1 := by cases h2; rfl
          have hs' : s' = (called (t1 :: ts) s3 r).2 := by cases h2; rfl
          rw [ht, hs']
          cases as with
          | nil =>
            cases h4
            cases h7
            exact re_meth0 A.cal A.ck (H.e A S h3 h5) h6 hl h8 h9 (er_noSup h3) hline
          | cons a as => exact re_meth A.cal A.ck (H.e A S h3 h5) h6 hl pa h8 h9 (mapO_nst h4) (by simp) (er_noSup h3) hline hlen
      · rename_i hni
        split at h2
        · cases h2
        · rename_i hk
          obtain ⟨⟨ts, s2⟩, h7, h2⟩ := obind h2
          obtain ⟨x, h8, h2⟩ := obind h2
          obtain ⟨ds, h9, h2⟩ := obind h2
          obtain ⟨⟨d, fr⟩, h10, h2⟩ := obind h2
          cases h2
          obtain ⟨y, rfl⟩ := metD_len h10
          obtain ⟨t2, rfl, h11⟩ := dsOf_one h9
          obtain ⟨e1, rfl, h12⟩ := evL_one h7
          have hl := mapO_len h4
          match as, hl, h4 with
          | [a], _, h4 =>
            obtain ⟨e2, zs, h13, h14, h15⟩ := mapO_cons h4
            cases h15
            have hk : metK m x0 = true := by simpa using hk
            unfold metK at hk
            split at hk
            · have em := of_decide_eq_true hk
              subst em
              cases x with
              | lst xs => exact re_index A.un (H.e A S h3 h5) h6 ⟨_, rfl⟩ (H.e A S h13 h12) h8 h11 h10 (er_nst h13) (er_noSup h3) hline
              | dK ks =>
                exfalso
                unfold metD at h10
                dsimp only at h10
                rw [if_neg (by decide)] at h10
                cases h10
              | _ => exfalso; unfold metD at h10; cases h10
            · have em := of_decide_eq_true hk
              subst em
              cases x with
              | dK xs => exact re_get (by have := A.un; omega) (H.e A S h3 h5) h6 ⟨_, rfl⟩ (H.e A S h13 h12) h8 h11 h10 (er_nst h13) (er_noSup h3) hline
              | lst ks =>
                exfalso
                unfold metD at h10
                dsimp only at h10
                rw [if_neg (by decide)] at h10
                cases h10
              | _ => exfalso; unfold metD at h10; cases h10
            · cases hk
end
end Mp
/-! Mp, part Y: what is walked, tests, all expressions. -/
namespace Mp
open PySem PySem.Spec PyProof.Rows L2 RZ
section
variable {X : Cx} {cm : Str → Option Addr} {kk : Nat} {C : CallF} {c : Ec} {n M : Nat} {sc : Scope} {s s1 s' : St} {t : Tmp} {ts : List Tmp} {E' : E} {pos p : Pos}
theorem si_ex {tg e : Expr} {e' : E} {src : Src} (H : IH cm kk C c n) (A : Amb X cm kk C) (S : Sc X c sc) (h : erE c n sc e = some e') (h2 : itr C M (.ex e') s = some (src, s')) : PI X tg e (tI X.K cm s src s') := by
  cases M with
  | zero => unfold itr at h2; cases h2
  | succ M =>
    simp only [itr] at h2
    obtain ⟨⟨t1, s1⟩, h3, h2⟩ := obind h2
    have he := H.e A S h h3
    cases t1 with
    | x i =>
      dsimp only at h2
      split at h2
      · rename_i xs o e
        cases h2
        exact ri_var he e
      · rename_i kvs o e
        cases h2
        exact ri_keys he (by show (s1.get i).bind (fun p => some (p.1, s1.frz i)) = _; rw [e]; rfl)
      · rename_i kvs o e
        cases h2
        exact ri_keysT he (by show (s1.get i).bind (fun p => some (p.1, s1.frz i)) = _; rw [e]; rfl)
      · cases h2
    | v d fr =>
      obtain ⟨xs, h4, h2⟩ := obind h2
      cases h2
      cases d with
      | lst xs => cases h4; exact ri_lst he rfl
      | tup xs => cases h4; exact ri_tup he rfl
      | str z => cases h4; exact ri_str he rfl
      | dK kvs => cases h4; exact ri_keys he rfl
      | dT kvs => cases h4; exact ri_keysT he rfl
      | _ => cases h4
theorem si_rng {tg a b : Expr} {a' b' : E} {src : Src} (H : IH cm kk C c n) (A : Amb X cm kk C) (S : Sc X c sc) (hg : Gl X "range") (h : erE c n sc a = some a') (h' : erE c n sc b = some b') (h2 : itr C M (.rng a' b') s = some (src, s')) : PI X tg (.Call (.Name "range" p) [a, b] [] pos) (tI X.K cm s src s') := by
  cases M with
  | zero => unfold itr at h2; cases h2
  | succ M =>
    simp only [itr] at h2
    obtain ⟨⟨t1, s1⟩, h3, h2⟩ := obind h2
    obtain ⟨⟨t2, s2⟩, h4, h2⟩ := obind h2
    obtain ⟨x, h5, h2⟩ := obind h2
    obtain ⟨y, h6, h2⟩ := obind h2
    dsimp only at h2
    split at h2
    · split at h2
      · rename_i hb
        cases h2
        exact ri_rng2 (H.e A S h h3) (H.e A S h' h4) h5 h6 (by rw [Bool.and_eq_true, inB_iff, inB_iff] at hb; omega) hg (A.nb _ (by decide)) (er_nst h) (er_nst h')
      · cases h2
    · cases h2
theorem si_rng1 {tg b : Expr} {b' : E} {src : Src} (H : IH cm kk C c n) (A : Amb X cm kk C) (S : Sc X c sc) (hg : Gl X "range") (h' : erE c n sc b = some b') (h2 : itr C M (.rng (.int 0) b') s = some (src, s')) : PI X tg (.Call (.Name "range" p) [b] [] pos) (tI X.K cm s src s') := by
  cases M with
  | zero => unfold itr at h2; cases h2
  | succ M =>
    simp only [itr] at h2
    cases M with
    | zero => unfold ev at h2; cases h2
    | succ M =>
      obtain ⟨⟨t1, s1⟩, h3, h2⟩ := obind h2
      simp only [ev] at h3
      cases h3
      obtain ⟨⟨t2, s2⟩, h4, h2⟩ := obind h2
      obtain ⟨x, h5, h2⟩ := obind h2
      obtain ⟨y, h6, h2⟩ := obind h2
      cases h5
      dsimp only at h2
      split at h2
      · rename_i lo hi e1
        cases e1
        split at h2
        · rename_i hb
          cases h2
          exact ri_rng1 (H.e A S h' h4) h6 (by rw [Bool.and_eq_true, inB_iff, inB_iff] at hb; omega) hg (A.nb _ (by decide)) (er_nst h')
        · cases h2
      · cases h2
theorem two_takes {t u : Tmp} {x y : D} {s s1 s2 : St} (h : take t s = some (x, s1)) (h2 : take u s1 = some (y, s2)) : takes [t, u] s = some ([x, y], s2) := by
  show (take t s).bind (fun p => (takes [u] p.2).bind fun q => some (p.1 :: q.1, q.2)) = _
  rw [h]
  show ((take u s1).bind (fun p => (takes [] p.2).bind fun q => some (p.1 :: q.1, q.2))).bind _ = _
  rw [h2]
  rfl
theorem si_zip {tg a b : Expr} {a' b' : E} {src : Src} (H : IH cm kk C c n) (A : Amb X cm kk C) (S : Sc X c sc) (hg : Gl X "zip") (ht : isTup tg = true) (h : erE c n sc a = some a') (h' : erE c n sc b = some b') (h2 : itr C M (.zip a' b') s = some (src, s')) : PI X tg (.Call (.Name "zip" p) [a, b] [] pos) (tI X.K cm s src s') := by
  cases M with
  | zero => unfold itr at h2; cases h2
  | succ M =>
    simp only [itr] at h2
    obtain ⟨⟨t1, s1⟩, h3, h2⟩ := obind h2
    obtain ⟨⟨t2, s2⟩, h4, h2⟩ := obind h2
    obtain ⟨⟨x, s3⟩, h5, h2⟩ := obind h2
    obtain ⟨⟨y, s4⟩, h6, h2⟩ := obind h2
    cases tg with
    | Tuple elts kk tpos =>
      dsimp only at h2
      split at h2
      · cases h2
        exact ri_zip (H.e A S h h3) (H.e A S h' h4) (two_takes h5 h6) hg (A.nb _ (by decide)) (er_nst h) (er_nst h')
      · cases h2
        exact ri_zipT (H.e A S h h3) (H.e A S h' h4) (two_takes h5 h6) hg (A.nb _ (by decide)) (er_nst h) (er_nst h')
      · cases h2
    | _ => cases ht
theorem si_enum {tg a : Expr} {a' : E} {k : Int} {src : Src} (H : IH cm kk C c n) (A : Amb X cm kk C) (S : Sc X c sc) (hg : Gl X "enumerate") (ht : isTup tg = true) (h : erE c n sc a = some a') (h2 : itr C M (.enum a' 0) s = some (src, s')) : PI X tg (.Call (.Name "enumerate" p) [a] [] pos) (tI X.K cm s src s') := by
  cases M with
  | zero => unfold itr at h2; cases h2
  | succ M =>
    simp only [itr] at h2
    rw [if_pos trivial] at h2
    obtain ⟨⟨t1, s1⟩, h3, h2⟩ := obind h2
    obtain ⟨⟨x, s3⟩, h5, h2⟩ := obind h2
    cases tg with
    | Tuple elts kk tpos =>
      dsimp only at h2
      split at h2
      · cases h2
        exact ri_enum (H.e A S h h3) h5 hg (A.nb _ (by decide)) (er_nst h)
      · cases h2
    | _ => cases ht
theorem si_items {tg o : Expr} {o' : E} {ap : Pos} {src : Src} (H : IH cm kk C c n) (A : Amb X cm kk C) (S : Sc X c sc) (ht : isTup tg = true) (hline : (ap.endLine == pos.line) = true) (h : erE c n sc o = some o') (h2 : itr C M (.items o') s = some (src, s')) : PI X tg (.Call (.Attribute o "items" ap) [] [] pos) (tI X.K cm s src s') := by
  cases M with
  | zero => unfold itr at h2; cases h2
  | succ M =>
    simp only [itr] at h2
    obtain ⟨⟨t1, s1⟩, h3, h2⟩ := obind h2
    obtain ⟨⟨x, s3⟩, h5, h2⟩ := obind h2
    cases tg with
    | Tuple elts kk tpos =>
      dsimp only at h2
      split at h2
      · cases h2
        exact ri_items (H.e A S h h3) h5 (er_noSup h) hline
      · cases h2
    | _ => cases ht
theorem si_vals {tg o : Expr} {o' : E} {ap : Pos} {src : Src} (H : IH cm kk C c n) (A : Amb X cm kk C) (S : Sc X c sc) (hline : (ap.endLine == pos.line) = true) (h : erE c n sc o = some o') (h2 : itr C M (.vals o') s = some (src, s')) : PI X tg (.Call (.Attribute o "values" ap) [] [] pos) (tI X.K cm s src s') := by
  cases M with
  | zero => unfold itr at h2; cases h2
  | succ M =>
    simp only [itr] at h2
    obtain ⟨⟨t1, s1⟩, h3, h2⟩ := obind h2
    obtain ⟨⟨x, s3⟩, h5, h2⟩ := obind h2
    dsimp only at h2
    split at h2
    · cases h2
      exact ri_vals (H.e A S h h3) h5 (er_noSup h) hline
    · cases h2
theorem si_all {tg e : Expr} {I : It} {src : Src} (H : IH cm kk C c n) (A : Amb X cm kk C) (S : Sc X c sc) (h : erI c (n + 1) sc tg e = some I) (h2 : itr C M I s = some (src, s')) : PI X tg e (tI X.K cm s src s') := by
  unfold erI at h
  split at h
  · split at h
    · rename_i hx
      rw [Bool.and_eq_true, beq_iff_eq] at hx
      obtain ⟨hg, rfl⟩ := hx
      split at h
      · obtain ⟨b', h3, h⟩ := obind h
        cases h
        exact si_rng1 H A S (glob_of S hg) h3 h2
      · obtain ⟨a', h3, h⟩ := obind h
        obtain ⟨b', h4, h⟩ := obind h
        cases h
        exact si_rng H A S (glob_of S hg) h3 h4 h2
      · cases h
    · split at h
      · rename_i hx
        rw [Bool.and_eq_true, beq_iff_eq] at hx
        obtain ⟨hg, rfl⟩ := hx
        split at h
        · rename_i ht
          obtain ⟨a', h3, h⟩ := obind h
          obtain ⟨b', h4, h⟩ := obind h
          cases h
          exact si_zip H A S (glob_of S hg) ht h3 h4 h2
        · cases h
      · split at h
        · rename_i hx
          rw [Bool.and_eq_true, beq_iff_eq] at hx
          obtain ⟨hg, rfl⟩ := hx
          split at h
          · rename_i ht
            obtain ⟨a', h3, h⟩ := obind h
            cases h
            exact si_enum (k := 0) H A S (glob_of S hg) ht h3 h2
          · rename_i kz _ _ ht
            split at h
            · cases h
            · rename_i hk
              obtain ⟨a', h3, h⟩ := obind h
              cases h
              cases M with
              | zero => unfold itr at h2; cases h2
              | succ M =>
                simp only [itr] at h2
                rw [if_neg hk] at h2
                cases h2
          · cases h
        · obtain ⟨e', h3, h⟩ := obind h
          cases h
          exact si_ex H A S h3 h2
  · split at h
    · rename_i hx
      rw [Bool.and_eq_true, beq_iff_eq] at hx
      obtain ⟨rfl, hl⟩ := hx
      obtain ⟨o', h3, h⟩ := obind h
      split at h
      · rename_i ht
        cases h
        exact si_items H A S ht hl h3 h2
      · cases h
    · split at h
      · rename_i hx
        rw [Bool.and_eq_true, beq_iff_eq] at hx
        obtain ⟨rfl, hl⟩ := hx
        obtain ⟨o', h3, h⟩ := obind h
        cases h
        exact si_vals H A S hl h3 h2
      · obtain ⟨e', h3, h⟩ := obind h
        cases h
        exact si_ex H A S h3 h2
  · obtain ⟨e', h3, h⟩ := obind h
    cases h
    exact si_ex H A S h3 h2
end
end Mp
/-! Mp, part Z: all expressions. -/
namespace Mp
open PySem PySem.Spec PyProof.Rows L2 RZ
section
variable {X : Cx} {cm : Str → Option Addr} {kk : Nat} {C : CallF} {c : Ec} {n M : Nat} {sc : Scope} {s s1 s' : St} {t : Tmp} {ts : List Tmp} {E' : E} {pos p : Pos}
theorem se_sset {a : Expr} {a' : E} {q1 q : Pos} (H : IH cm kk C c n) (A : Amb X cm kk C) (S : Sc X c sc) (hg : Gl X "sorted") (hg2 : Gl X "set") (h3 : erE c n sc a = some a') (h2 : ev C M (.sset a') s = some (t, s')) : PE X (.Call (.Name "sorted" p) [.Call (.Name "set" q1) [a] [] q] [] pos) (tE X.K cm s t s') := by
  cases M with
  | zero => unfold ev at h2; cases h2
  | succ M =>
    simp only [ev] at h2
    obtain ⟨⟨t1, s1⟩, h4, h2⟩ := obind h2
    obtain ⟨d, h5, h2⟩ := obind h2
    try dsimp only at h2
    split at h2
    · obtain ⟨ys, h6, h2⟩ := obind h2
      split at h2
      · rename_i h7
        cases h2
        exact re_sset A (H.e A S h3 h4) h5 h6 h7 hg hg2 (er_nst h3)
      · cases h2
    · obtain ⟨ys, h6, h2⟩ := obind h2
      split at h2
      · rename_i h7
        cases h2
        exact re_ssetT A (H.e A S h3 h4) h5 h6 h7 hg hg2 (er_nst h3)
      · cases h2
    · cases h2
theorem se_lofR {a : Expr} {a' : E} {q1 q : Pos} (H : IH cm kk C c n) (A : Amb X cm kk C) (S : Sc X c sc) (hg : Gl X "list") (hg2 : Gl X "range") (h3 : erE c n sc a = some a') (h2 : ev C M (.lof (.rng (.int 0) a')) s = some (t, s')) : PE X (.Call (.Name "list" p) [.Call (.Name "range" q1) [a] [] q] [] pos) (tE X.K cm s t s') := by
  cases M with
  | zero => unfold ev at h2; cases h2
  | succ M =>
    simp only [ev] at h2
    obtain ⟨⟨t1, s1⟩, h5, h2⟩ := obind h2
    obtain ⟨d, h6, h2⟩ := obind h2
    try dsimp only at h2
    split at h2
    · split at h2
      · rename_i h7
        cases h2
        rw [Bool.and_eq_true, inB_iff] at h7
        exact re_lofR A (H.e A S h3 h5) h6 ⟨by omega, by omega⟩ hg hg2 (er_nst h3)
      · cases h2
    · cases h2
theorem se_lofV {o : Expr} {o' : E} {ap cp : Pos} (H : IH cm kk C c n) (A : Amb X cm kk C) (S : Sc X c sc) (hg : Gl X "list") (hl : (ap.endLine == cp.line) = true) (h3 : erE c n sc o = some o') (h2 : ev C M (.lof (.vals o')) s = some (t, s')) : PE X (.Call (.Name "list" p) [.Call (.Attribute o "values" ap) [] [] cp] [] pos) (tE X.K cm s t s') := by
  cases M with
  | zero => unfold ev at h2; cases h2
  | succ M =>
    simp only [ev] at h2
    obtain ⟨⟨t1, s1⟩, h5, h2⟩ := obind h2
    obtain ⟨d, h6, h2⟩ := obind h2
    try dsimp only at h2
    split at h2
    · cases h2
      exact re_lofV A (H.e A S h3 h5) h6 hg (er_noSup h3) hl
    · cases h2
theorem se_callAll {f : Expr} {as : List Expr} {ks : List Keyword} (H : IH cm kk C c n) (A : Amb X cm kk C) (S : Sc X c sc) (h : erE c (n + 1) sc (.Call f as ks pos) = some E') (h2 : ev C M E' s = some (t, s')) : PE X (.Call f as ks pos) (tE X.K cm s t s') := by
  unfold erE at h
  dsimp only at h
  split at h
  · cases h
  · rename_i hlen
    split at h
    · rename_i x xp
      split at h
      · rename_i hg
        split at h
        · rename_i hx
          subst hx
          split at h
          · obtain ⟨a', h3, h⟩ := obind h
            split at h
            · rename_i hh
              cases h
              exact se_isi1 H A S (glob_of S hg) h3 hh h2
            · cases h
          · obtain ⟨a', h3, h⟩ := obind h
            obtain ⟨zs, h4, h⟩ := obind h
            split at h
            · rename_i hh
              cases h
              exact se_isiT H A S (glob_of S hg) h3 h4 hh h2
            · cases h
          · cases h
        · split at h
          · split at h
            · rename_i y yp a q
              split at h
              · rename_i hxy
                obtain ⟨rfl, rfl, hgy⟩ := hxy
                obtain ⟨a', h3, h⟩ := obind h
                cases h
                exact se_sset H A S (glob_of S hg) (glob_of S hgy) h3 h2
              · split at h
                · obtain ⟨a', h3, h⟩ := obind h
                  cases h
                  cases M with
                  | zero => unfold ev at h2; cases h2
                  | succ M => simp only [ev] at h2; cases h2
                · split at h
                  · rename_i hxy
                    obtain ⟨rfl, rfl, hgy⟩ := hxy
                    obtain ⟨a', h3, h⟩ := obind h
                    cases h
                    exact se_lofR H A S (glob_of S hg) (glob_of S hgy) h3 h2
                  · obtain ⟨es, h3, h⟩ := obind h
                    cases h
                    exact se_bi H A S (glob_of S hg) h3 h2
            · split at h
              · rename_i hxy
                obtain ⟨rfl, rfl, hl⟩ := hxy
                obtain ⟨a', h3, h⟩ := obind h
                cases h
                exact se_lofV H A S (glob_of S hg) hl h3 h2
              · obtain ⟨es, h3, h⟩ := obind h
                cases h
                exact se_bi H A S (glob_of S hg) h3 h2
            · obtain ⟨es, h3, h⟩ := obind h
              cases h
              exact se_bi H A S (glob_of S hg) h3 h2
            · cases h
          · split at h
            · cases h
            · rename_i hn
              rw [Bool.or_eq_true, not_or] at hn
              split at h
              · obtain ⟨es, h3, h⟩ := obind h
                cases h
                exact se_call H A S (glob_of S hg) (by simpa using hn.2) h3 h2
              · split at h
                · obtain ⟨ps, h3, h⟩ := obind h
                  obtain ⟨ns, h4, h⟩ := obind h
                  obtain ⟨ws, h5, h⟩ := obind h
                  split at h
                  · rename_i hpm
                    cases h
                    exact se_callK H A S (glob_of S hg) (by simpa using hn.2) h3 h4 hpm h5 h2
                  · cases h
                · cases h
      · cases h
    · split at h
      · split at h
        · cases h
        · rename_i hl
          obtain ⟨o', h3, h⟩ := obind h
          obtain ⟨es, h4, h⟩ := obind h
          split at h
          · cases h
          · rename_i hm
            cases h
            exact se_meth H A S (by simpa using hl) (by omega) h3 h4 hm h2
      · cases h
    · cases h
theorem se_all {e : Expr} (H : IH cm kk C c n) (A : Amb X cm kk C) (S : Sc X c sc) (h : erE c (n + 1) sc e = some E') (h2 : ev C M E' s = some (t, s')) : PE X e (tE X.K cm s t s') := by
  cases e with
  | Name x p => exact se_name S h h2
  | Constant k j p => exact se_const h h2
  | Tuple es k p => exact se_tup H A S h h2
  | List es p => exact se_lst H A S h h2
  | Dict ks vs p => exact se_dict H A S h h2
  | BinOp a op b p => exact se_bin H A S h h2
  | UnaryOp op a p => exact se_un H A S h h2
  | BoolOp op es p => exact se_bool H A S h h2
  | IfExp d a b p => exact se_ite H A S h h2
  | Compare a ops bs p =>
    match ops, bs, h with
    | [op], [b], h => exact se_cmp H A S h h2
    | [o1, o2], [b, d], h => exact se_chn H A S h h2
    | [], _, h => unfold erE at h; cases h
    | [_], [], h => unfold erE at h; cases h
    | [_], _ :: _ :: _, h => unfold erE at h; cases h
    | [_, _], [], h => unfold erE at h; cases h
    | [_, _], [_], h => unfold erE at h; cases h
    | [_, _], _ :: _ :: _ :: _, h => unfold erE at h; cases h
    | _ :: _ :: _ :: _, _, h => unfold erE at h; cases h
  | Subscript a i p => exact se_sub H A S h h2
  | Attribute a f p => exact se_attr H A S h h2
  | ListComp el gs sco p => exact se_listcomp H A S h h2
  | DictComp k v gs sco p => exact se_dictcomp H A S h h2
  | Call f as ks p => exact se_callAll H A S h h2
  | _ => unfold erE at h; cases h
end
end Mp
/-! Mp, part Za: all tests; the promise. -/
namespace Mp
open PySem PySem.Spec PyProof.Rows L2 RZ
def gen : E → Bool
  | .and _ => false
  | .or _ => false
  | .not _ => false
  | .ite _ _ _ => false
  | _ => true
def genX : Expr → Bool
  | .BoolOp _ _ _ => false
  | .UnaryOp _ _ _ => false
  | .IfExp _ _ _ _ => false
  | .Compare _ _ _ _ => false
  | _ => true
section
variable {X : Cx} {cm : Str → Option Addr} {kk : Nat} {C : CallF} {c : Ec} {n M : Nat} {sc : Scope} {s s1 s' : St} {t : Tmp} {ts : List Tmp} {E' : E} {pos p : Pos}
theorem gen_call {f : Expr} {as : List Expr} {ks : List Keyword} (h : erE c (n + 1) sc (.Call f as ks pos) = some E') : gen E' = true := by
  unfold erE at h
  dsimp only at h
  split at h
  · cases h
  · split at h
    · split at h
      · split at h
        · split at h
          · obtain ⟨a', h3, h⟩ := obind h
            split at h
            · cases h; rfl
            · cases h
          · obtain ⟨a', h3, h⟩ := obind h
            obtain ⟨zs, h4, h⟩ := obind h
            split at h
            · cases h; rfl
            · cases h
          · cases h
        · split at h
          · split at h
            · split at h
              · obtain ⟨a', h3, h⟩ := obind h
                cases h; rfl
              · split at h
                · obtain ⟨a', h3, h⟩ := obind h
                  cases h; rfl
                · split at h
                  · obtain ⟨a', h3, h⟩ := obind h
                    cases h; rfl
                  · obtain ⟨es, h3, h⟩ := obind h
                    cases h; rfl
            · split at h
              · obtain ⟨a', h3, h⟩ := obind h
                cases h; rfl
              · obtain ⟨es, h3, h⟩ := obind h
                cases h; rfl
            · obtain ⟨es, h3, h⟩ := obind h
              cases h; rfl
            · cases h
          · split at h
            · cases h
            · split at h
              · obtain ⟨es, h3, h⟩ := obind h
                cases h; rfl
              · split at h
                · obtain ⟨ps, h3, h⟩ := obind h
                  obtain ⟨ns, h4, h⟩ := obind h
                  obtain ⟨ws, h5, h⟩ := obind h
                  split at h
                  · cases h; rfl
                  · cases h
                · cases h
      · cases h
    · split at h
      · split at h
        · cases h
        · obtain ⟨o', h3, h⟩ := obind h
          obtain ⟨es, h4, h⟩ := obind h
          split at h
          · cases h
          · cases h; rfl
      · cases h
    · cases h
theorem er_gen {e : Expr} (h : erE c n sc e = some E') (hx : genX e = true) : gen E' = true := by
  cases n with
  | zero => unfold erE at h; cases h
  | succ n =>
    cases e with
    | Call f as ks p => exact gen_call h
    | Name x p =>
      unfold erE at h
      dsimp only at h
      split at h
      · cases h
      · split at h
        · cases h; rfl
        · split at h
          · split at h
            · cases h; rfl
            · cases h; rfl
            · cases h
          · cases h
    | Constant k j p =>
      unfold erE at h
      dsimp only at h
      split at h <;> first | (cases h; done) | (cases h; rfl)
    | Tuple es k p =>
      unfold erE at h
      obtain ⟨_, _, h⟩ := obind h
      cases h; rfl
    | List es p =>
      unfold erE at h
      obtain ⟨_, _, h⟩ := obind h
      cases h
      cases c.bx <;> rfl
    | Dict ks vs p =>
      unfold erE at h
      obtain ⟨_, _, h⟩ := obind h
      obtain ⟨_, _, h⟩ := obind h
      split at h
      · cases h; rfl
      · cases h
    | BinOp a op b p =>
      unfold erE at h
      obtain ⟨_, _, h⟩ := obind h
      obtain ⟨_, _, h⟩ := obind h
      cases h; rfl
    | Subscript a i p =>
      unfold erE at h
      dsimp only at h
      split at h
      · obtain ⟨_, _, h⟩ := obind h
        obtain ⟨_, _, h⟩ := obind h
        obtain ⟨_, _, h⟩ := obind h
        cases h; rfl
      · obtain ⟨_, _, h⟩ := obind h
        cases h; rfl
      · cases h
      · obtain ⟨_, _, h⟩ := obind h
        obtain ⟨_, _, h⟩ := obind h
        cases h; rfl
    | Attribute a f p =>
      unfold erE at h
      obtain ⟨_, _, h⟩ := obind h
      cases h; rfl
    | ListComp el gs sco p =>
      unfold erE at h
      obtain ⟨own, ho, h⟩ := obind h
      try dsimp only at h
      split at h
      · split at h
        · obtain ⟨I, h3, h⟩ := obind h
          obtain ⟨tgg, h4, h⟩ := obind h
          obtain ⟨Ifs, h5, h⟩ := obind h
          obtain ⟨El, h6, h⟩ := obind h
          split at h
          · cases h; rfl
          · cases h
        · obtain ⟨I, h3, h⟩ := obind h
          obtain ⟨tgg, h4, h⟩ := obind h
          obtain ⟨Ifs, h5, h⟩ := obind h
          obtain ⟨I2, h3', h⟩ := obind h
          obtain ⟨tgg2, h4', h⟩ := obind h
          obtain ⟨Ifs2, h5', h⟩ := obind h
          obtain ⟨El, h6, h⟩ := obind h
          split at h
          · cases h; rfl
          · cases h
        · cases h
      · cases h
    | DictComp k v gs sco p =>
      unfold erE at h
      obtain ⟨own, ho, h⟩ := obind h
      try dsimp only at h
      split at h
      · split at h
        · obtain ⟨I, h3, h⟩ := obind h
          obtain ⟨tgg, h4, h⟩ := obind h
          obtain ⟨Ifs, h5, h⟩ := obind h
          obtain ⟨Ek, h6, h⟩ := obind h
          obtain ⟨Ev, h6', h⟩ := obind h
          split at h
          · cases h; rfl
          · cases h
        · obtain ⟨I, h3, h⟩ := obind h
          obtain ⟨tgg, h4, h⟩ := obind h
          obtain ⟨Ifs, h5, h⟩ := obind h
          obtain ⟨I2, h3', h⟩ := obind h
          obtain ⟨tgg2, h4', h⟩ := obind h
          obtain ⟨Ifs2, h5', h⟩ := obind h
          obtain ⟨Ek, h6, h⟩ := obind h
          obtain ⟨Ev, h6', h⟩ := obind h
          split at h
          · cases h; rfl
          · cases h
        · cases h
      · cases h
    | BoolOp _ _ _ => cases hx
    | UnaryOp _ _ _ => cases hx
    | IfExp _ _ _ _ => cases hx
    | Compare _ _ _ _ => cases hx
    | _ => unfold erE at h; cases h
theorem tst_gen {b : Bool} (hg : gen E' = true) (h : tst C (M + 1) E' s = some (b, s')) : ∃ t d, ev C M E' s = some (t, s') ∧ t.d s' = some d ∧ truth d = some b := by
  cases E' <;> first | (cases hg; done) | skip
  all_goals
    unfold tst at h
    try dsimp only at h
    obtain ⟨⟨t, s1⟩, h1, h⟩ := obind h
    obtain ⟨d, h2, h⟩ := obind h
    obtain ⟨b', h3, h⟩ := obind h
    cases h
    exact ⟨t, d, h1, h2, h3⟩
theorem st_cmp {op : CmpOp} {a b : Expr} {r : Bool} (H : IH cm kk C c n) (A : Amb X cm kk C) (S : Sc X c sc) (h : erE c (n + 1) sc (.Compare a [op] [b] pos) = some E') (h2 : tst C (M + 1) E' s = some (r, s')) : PT X (.Compare a [op] [b] pos) (tTs X.K cm s r s') := by
  unfold erE at h; dsimp only at h
  split at h
  · cases h
  · obtain ⟨a', h3, h⟩ := obind h
    obtain ⟨b', h4, h⟩ := obind h
    cases h
    obtain ⟨t, d, h5, h6, h7⟩ := tst_gen (by rfl) h2
    cases M with
    | zero => unfold ev at h5; cases h5
    | succ M =>
      simp only [ev] at h5
      obtain ⟨⟨t1, s1⟩, k5, h5⟩ := obind h5
      obtain ⟨⟨t2, s2⟩, k6, h5⟩ := obind h5
      obtain ⟨x, k7, h5⟩ := obind h5
      obtain ⟨y, k8, h5⟩ := obind h5
      obtain ⟨r', k9, h5⟩ := obind h5
      cases h5
      cases h6
      cases h7
      exact rt_cmp A.un (H.e A S h3 k5) (H.e A S h4 k6) k7 k8 k9 (er_nomark h4)
theorem st_chn {o1 o2 : CmpOp} {a b d : Expr} {r : Bool} (H : IH cm kk C c n) (A : Amb X cm kk C) (S : Sc X c sc) (h : erE c (n + 1) sc (.Compare a [o1, o2] [b, d] pos) = some E') (h2 : tst C (M + 1) E' s = some (r, s')) : PT X (.Compare a [o1, o2] [b, d] pos) (tTs X.K cm s r s') := by
  unfold erE at h; dsimp only at h
  split at h
  · cases h
  · rename_i hm
    obtain ⟨a', h3, h⟩ := obind h
    obtain ⟨b', h4, h⟩ := obind h
    obtain ⟨d', h4', h⟩ := obind h
    cases h
    have hm : lastMarks [o1, o2] [b, d] = false := by simpa using hm
    obtain ⟨t, dd, h5, h6, h7⟩ := tst_gen (by rfl) h2
    cases M with
    | zero => unfold ev at h5; cases h5
    | succ M =>
      simp only [ev] at h5
      obtain ⟨⟨t1, s1⟩, k5, h5⟩ := obind h5
      obtain ⟨⟨t2, s2⟩, k6, h5⟩ := obind h5
      obtain ⟨x, k7, h5⟩ := obind h5
      obtain ⟨y, k8, h5⟩ := obind h5
      obtain ⟨r', k9, h5⟩ := obind h5
      try simp only at h5
      cases r' with
      | true =>
        rw [if_pos rfl] at h5
        obtain ⟨⟨t3, s3⟩, h10, h5⟩ := obind h5
        obtain ⟨y', h11, h5⟩ := obind h5
        obtain ⟨z, h12, h5⟩ := obind h5
        obtain ⟨r2, h13, h5⟩ := obind h5
        cases h5
        cases h6
        cases h7
        exact rt_chn1 A.un (H.e A S h3 k5) (H.e A S h4 k6) k7 k8 k9 (H.e A S h4' h10) h11 h12 h13 hm
      | false =>
        rw [if_neg Bool.false_ne_true] at h5
        cases h5
        cases h6
        cases h7
        exact rt_chn0 A.un (H.e A S h3 k5) (H.e A S h4 k6) k7 k8 k9 hm
theorem st_all {e : Expr} {b : Bool} (H : IH cm kk C c n) (A : Amb X cm kk C) (S : Sc X c sc) (h : erE c (n + 1) sc e = some E') (h2 : tst C M E' s = some (b, s')) : PT X e (tTs X.K cm s b s') := by
  cases M with
  | zero => unfold tst at h2; cases h2
  | succ M =>
    by_cases hx : genX e = true
    · obtain ⟨t, d, h3, h4, h5⟩ := tst_gen (er_gen h hx) h2
      refine rt_truth (se_all H A S h h3) h4 h5 ?_
      cases e <;> first | (cases hx; done) | (intro _; rfl)
    · cases e <;> first | (exact absurd rfl hx) | skip
      · rename_i op es p
        unfold erE at h
        obtain ⟨Es, h3, h⟩ := obind h
        cases op with
        | And => cases h; unfold tst at h2; exact (st_and H A S h3 h2).pt
        | Or => cases h; unfold tst at h2; exact (st_or H A S h3 h2).pt
      · rename_i op a p
        unfold erE at h
        obtain ⟨a', h3, h⟩ := obind h
        try dsimp only at h
        split at h
        · cases h
          unfold tst at h2
          obtain ⟨⟨r, s1⟩, h4, h2⟩ := obind h2
          cases h2
          exact rt_not (H.t A S h3 h4)
        · cases h
          unfold tst at h2
          obtain ⟨⟨t1, s1⟩, h5, h2⟩ := obind h2
          obtain ⟨d, h6, h2⟩ := obind h2
          obtain ⟨b', h7, h2⟩ := obind h2
          cases h2
          cases M with
          | zero => unfold ev at h5; cases h5
          | succ M =>
            simp only [ev] at h5
            obtain ⟨⟨t2, s2⟩, h8, h5⟩ := obind h5
            obtain ⟨d2, h9, h5⟩ := obind h5
            dsimp only at h5
            split at h5
            · cases h5
              exact rt_truth (re_neg (H.e A S h3 h8) h9) h6 h7 fun _ => rfl
            · cases h5
        · cases h
      · rename_i d a b' p
        unfold erE at h
        obtain ⟨_, h3, h⟩ := obind h
        obtain ⟨_, h4, h⟩ := obind h
        obtain ⟨_, h5, h⟩ := obind h
        cases h
        unfold tst at h2
        cases h2
      · rename_i a ops bs p
        match ops, bs, h with
        | [op], [b'], h => exact st_cmp H A S h h2
        | [o1, o2], [b', d], h => exact st_chn H A S h h2
        | [], _, h => unfold erE at h; cases h
        | [_], [], h => unfold erE at h; cases h
        | [_], _ :: _ :: _, h => unfold erE at h; cases h
        | [_, _], [], h => unfold erE at h; cases h
        | [_, _], [_], h => unfold erE at h; cases h
        | [_, _], _ :: _ :: _ :: _, h => unfold erE at h; cases h
        | _ :: _ :: _ :: _, _, h => unfold erE at h; cases h
theorem ih_all : ∀ n, IH cm kk C c n
  | 0 => { e := fun A S h => by (unfold erE at h; cases h), t := fun A S h => by (unfold erE at h; cases h), i := fun A S h => by (unfold erI at h; cases h) }
  | n + 1 => { e := fun A S h _ _ _ _ h2 => se_all (ih_all n) A S h h2, t := fun A S h _ _ _ _ h2 => st_all (ih_all n) A S h h2, i := fun A S h _ _ _ _ h2 => si_all (ih_all n) A S h h2 }
end
end Mp
/-! Mp, part Zb: statements by the eraser. -/
namespace Mp
open PySem PySem.Spec PyProof.Rows L2 RZ
section
variable {X : Cx} {cm : Str → Option Addr} {kk : Nat} {C : CallF} {c : Ec} {n M F : Nat} {sc : Scope} {s s1 s' : St} {t : Tmp} {ts : List Tmp} {E' : E} {pos p : Pos}
/-- a variable's list, walked by a loop: settled first -/
theorem ri_frz {tg e : Expr} {i : Nat} {xs : List D} {o : Bool} (h : PI X tg e (tI X.K cm s (.var i) s1)) (hd : s1.get i = some (.lst xs, o)) : PI X tg e (tI X.K cm s (.fix xs) (s1.frz i)) :=
  h.imp fun σ H R ⟨F, L, g, k⟩ => ⟨F, L, g, fun J H1 F1 L1 g1 x1 so => by
    obtain ⟨a, ha, rfl⟩ := so
    have zf := Fz.frz s1 i
    cases o with
    | false =>
      obtain ⟨v, e1, r⟩ := g1.pure i _ hd
      rw [ha] at e1; cases e1
      have same : ∀ j, (s1.frz i).get j = s1.get j := fun j => by
        rw [get_frz]
        by_cases e : j = i
        · subst e; rw [if_pos rfl, hd]; rfl
        · rw [if_neg e]
      cases r with
      | @lst _ vs _ q r =>
        refine k _ H1 F1 L1 ?_ (x1.fz zf) (yl_list q r)
        exact ⟨g1.sub, by rw [zf.len]; exact g1.len, fun j d e => g1.pure j d (by rw [← same]; exact e), fun j d e => g1.own j d (by rw [← same]; exact e), fun j k d e b hjk e1 e2 => g1.apart j k d e b hjk (by rw [← same]; exact e1) (by rw [← same]; exact e2),
          fun k is e => g1.box k is (by rw [← zf.b]; exact e), by rw [zf.b]; exact g1.lenB, g1.nd⟩
    | true =>
      obtain ⟨a', e1, e2, e3, vs, e4, e5⟩ := g1.own i _ hd
      rw [ha] at e1; cases e1
      have rr : RepL X.K cm (upd F1 a (.lst vs)) L1 xs vs := e5.mono (sub_upd e2) (Pfx.refl L1)
      have g2 : Good X.K cm (s1.frz i) σ (upd H1 a (.lst vs)) (upd F1 a (.lst vs)) L1 := by
        refine g1.settle e2 e3 zf (fun j d e5 e6 => ?_) fun j d e5 e6 => ?_
        · by_cases w : j = i
          · subst w
            rw [hd] at e5; cases e5
            exact ⟨by rw [get_frz, if_pos rfl, hd]; rfl, .lst upd_same rr⟩
          · exact absurd ha (g1.apart j i d _ a w e5 hd e6)
        · have w : j ≠ i := by
            rintro rfl
            exact e6 ha
          rw [get_frz, if_neg w]; exact e5
      have x2 : Ext σ s H F L (s1.frz i) (upd H1 a (.lst vs)) (upd F1 a (.lst vs)) L1 := x1.upd1 (.inr (x1.own ⟨i, _, hd, ha⟩)) e2 zf
      rw [upd_self e4] at g2 x2
      exact k _ H1 _ L1 g2 x2 (yl_list upd_same rr)⟩

/-! ### comprehensions stored to a name -/
theorem ps_setDc {i : Nat} {y : Str} {py : Pos} {kx vx tg iter : Expr} {ifs : List Expr} {scope : Scope} {own : List (Str × Nat)} {pos spos : Pos} {wi : TI} {g : TG} {tt : TT} {tk tv : TE} (hc : X.calm = true) (hN : X.N.Nodup) (hy : X.N[i]? = some y) (hyl : X.env.scope.names.lookup y = some .local)
    (hsw : swapsWith (.DictComp kx vx [⟨tg, iter, ifs, 0⟩] scope pos) (some (.Name y py)) spos.line X.env = pure true) (hi : PI X tg iter wi) (ok : BlkOk X.N X.env.scope scope own)
    (hg : ∀ (s : Shared) (H : Hp) (C : Addr) (cl : List (Str × Addr)) (fp : List Addr), PG (X.blk s H scope (compEnvC scope cl C X.env) fp) tg g) (ht : ∀ (s : Shared) (H : Hp) (C : Addr) (cl : List (Str × Addr)) (fp : List Addr), PTs (X.blk s H scope (compEnvC scope cl C X.env) fp) ifs tt)
    (hk : ∀ (s : Shared) (H : Hp) (C : Addr) (cl : List (Str × Addr)) (fp : List Addr), PE (X.blk s H scope (compEnvC scope cl C X.env) fp) kx tk)
    (he : ∀ (s : Shared) (H : Hp) (C : Addr) (cl : List (Str × Addr)) (fp : List Addr), PE (X.blk s H scope (compEnvC scope cl C X.env) fp) vx tv) (hs : ∀ x, foldedSetIterable iter X.env x = pure x := by intro _; rfl) :
    PS X (.Assign [.Name y py] (.DictComp kx vx [⟨tg, iter, ifs, 0⟩] scope pos) spos) (tAsg (tDc wi g tt tk tv (own.map (·.2))) (gName i)) := by
  refine ⟨fun pins s σ H D I h => ?_⟩
  rw [exec_Assign_Name_used _ _ _ _ hsw]
  refine wpAny_bind (wpAny_standAt (wpAny_bind ?_))
  show wpAny _ X.A (do let _ ← comprehension (.DictComp kx vx [⟨tg, iter, ifs, 0⟩] scope pos) scope X.env (firstIterPos [⟨tg, iter, ifs, 0⟩] pos) newDict false (eval iter X.env) (some (assign (.Name y py) X.env))) _ _ s
  have h : tDc wi g tt tk tv (own.map (·.2)) σ H (fun x H1 => gName i x σ H1 D.nx) := h
  refine wpAny_bind (thn (dc_core (Qf := fun _ s' => SP X pins D .next s') hc hN I hi ok hg ht hk he hs h fun L C s' m H' I' q hn f => ?_) fun _ s' hq => wpAny_pure (wpAny_pure hq))
  show wpAny _ _ (assign (.Name y py) X.env (.ref L)) _ _ _
  refine wpAny_assign_Name (store_ok2 (v := V.ref L) I' hN hy (.inl hyl) rfl (fun s2 I2 ⟨a, sb, ha⟩ => ?_) (.inr hyl))
  obtain ⟨f0, f1, f2, f3, f4, f5⟩ := f
  have haC : C ≠ a := by
    rcases ha with z | z
    · rw [z]; exact f1
    · exact fun e => f4 y a z e.symm
  refine ⟨m, hn.sameBut sb haC, fun h3 sb3 => ?_⟩
  exact ⟨_, H', I2.turned (t' := s2.toks) (fun b o hb e => (sb3.2 b hb).trans e) f0 f1 f3 f4 f5, q⟩
/-- whether a comprehension's value is stored from within -/
def swB (sn : List (Str × NameKind)) (sc : Scope) (y : Str) (l l2 : Nat) : Bool := sc.names.lookup y == some .local && l == l2 && !(sn.any fun (n, k) => n == y && (k == .local || k == .cell))
theorem sw_lc {elt : Expr} {gs : List Comprehension} {scope : Scope} {py : Pos} {y : Str} {l : Nat} (hk : X.env.scope.kind = .function) : swapsWith (.ListComp elt gs scope pos) (some (.Name y py)) l X.env = pure (swB scope.names X.env.scope y py.line pos.line) := by
  have hb : X.env.blockKind = .function := by unfold Env.blockKind; rw [hk]; rfl
  unfold swapsWith swB
  simp only [hb, Expr.pos, Env.kindOf]
  rfl
theorem sw_dc {k v : Expr} {gs : List Comprehension} {scope : Scope} {py : Pos} {y : Str} {l : Nat} (hk : X.env.scope.kind = .function) : swapsWith (.DictComp k v gs scope pos) (some (.Name y py)) l X.env = pure (swB scope.names X.env.scope y py.line pos.line) := by
  have hb : X.env.blockKind = .function := by unfold Env.blockKind; rw [hk]; rfl
  unfold swapsWith swB
  simp only [hb, Expr.pos, Env.kindOf]
  rfl
theorem swB_local {sn : List (Str × NameKind)} {sc : Scope} {y : Str} {l l2 : Nat} (h : swB sn sc y l l2 = true) : sc.names.lookup y = some .local := by
  unfold swB at h
  rw [Bool.and_eq_true, Bool.and_eq_true] at h
  simpa using h.1.1
/-! ### name = value -/
theorem asgs_v {i : Nat} {d : D} {fr : Bool} : asg1 i (.v d fr) s = some (s.put i d fr) := rfl
theorem ss_setV {i : Nat} {y : Str} {py spos : Pos} {e : Expr} {d : D} {fr : Bool} (A : Amb X cm kk C) (hy : X.N[i]? = some y) (hl : Loc X.env.scope y) (hf : X.fn y = true ∨ X.env.scope.names.lookup y = some .local) (h : PE X e (tE X.K cm s (.v d fr) s1))
    (hs : swapsWith e (some (.Name y py)) spos.line X.env = pure false) : PS X (.Assign [.Name y py] e spos) (tS X.K cm s .nx (s1.put i d fr)) :=
  rs_asgV (ps_set A.nd hy hl h hs hf)
theorem ss_lc (H : IH cm kk C c n) (A : Amb X cm kk C) (S : Sc X c sc) (hk : X.env.scope.kind = .function) {y : Str} {py spos : Pos} {i : Nat} (hy : X.N[i]? = some y) (hl : Loc X.env.scope y) (hf : X.fn y = true ∨ X.env.scope.names.lookup y = some .local)
    {el : Expr} {gs : List Comprehension} {scope : Scope} (h : erE c (n + 1) sc (.ListComp el gs scope pos) = some E') (h2 : ev C M E' s = some (t, s')) : ∃ d, t = .v d true ∧ PS X (.Assign [.Name y py] (.ListComp el gs scope pos) spos) (tS X.K cm s .nx (s'.put i d true)) := by
  cases hsw : swB scope.names X.env.scope y py.line pos.line with
  | false =>
    have hs : swapsWith (.ListComp el gs scope pos) (some (.Name y py)) spos.line X.env = pure false := by rw [sw_lc hk, hsw]
    unfold erE at h
    obtain ⟨own, ho, h⟩ := obind h
    try dsimp only at h
    split at h
    · rename_i hb
      split at h
      · obtain ⟨I, h3, h⟩ := obind h
        obtain ⟨tgg, h4, h⟩ := obind h
        obtain ⟨Ifs, h5, h⟩ := obind h
        obtain ⟨El, h6, h⟩ := obind h
        split at h
        · rename_i hin
          cases h
          obtain ⟨p, d, rfl⟩ := se_lc (pos := pos) H A S hb h3 h4 h5 h6 hin h2
          exact ⟨d, rfl, ss_setV A hy hl hf p hs⟩
        · cases h
      · obtain ⟨I, h3, h⟩ := obind h
        obtain ⟨tgg, h4, h⟩ := obind h
        obtain ⟨Ifs, h5, h⟩ := obind h
        obtain ⟨I2, h3', h⟩ := obind h
        obtain ⟨tgg2, h4', h⟩ := obind h
        obtain ⟨Ifs2, h5', h⟩ := obind h
        obtain ⟨El, h6, h⟩ := obind h
        split at h
        · rename_i hin
          rw [Bool.and_eq_true] at hin
          cases h
          obtain ⟨p, d, rfl⟩ := se_lc2 (pos := pos) H A S hb h3 h4 h5 h3' h4' h5' h6 hin.1 hin.2 h2
          exact ⟨d, rfl, ss_setV A hy hl hf p hs⟩
        · cases h
      · cases h
    · cases h
  | true =>
    have hyl := swB_local hsw
    have hs : swapsWith (.ListComp el gs scope pos) (some (.Name y py)) spos.line X.env = pure true := by rw [sw_lc hk, hsw]
    unfold erE at h
    obtain ⟨own, ho, h⟩ := obind h
    try dsimp only at h
    split at h
    · rename_i hb
      split at h
      · obtain ⟨I, h3, h⟩ := obind h
        obtain ⟨tgg, h4, h⟩ := obind h
        obtain ⟨Ifs, h5, h⟩ := obind h
        obtain ⟨El, h6, h⟩ := obind h
        split at h
        · rename_i h7
          cases h
          cases M with
          | zero => unfold ev at h2; cases h2
          | succ M =>
            simp only [ev] at h2
            obtain ⟨⟨src, s1⟩, h8, h2⟩ := obind h2
            obtain ⟨⟨l, s2⟩, h9, h2⟩ := obind h2
            try simp only at h2
            split at h2
            · rename_i hz
              cases h2
              refine ⟨_, rfl, rs_asgV ((ps_setLc (g := gOf X.K tgg) (tt := aT X.K cm (tests (tst C M) Ifs)) (te := aEl X.K cm (ev C M El)) A.calm A.nd hy hyl hs (H.i A S h3 h8) (blk_of S hb) (fun s Hh Ca cl fp => tg_ok (X := X.blk s Hh scope (compEnvC scope cl Ca X.env) fp) (Sc.blk S) A.nd A.calm h4) (fun s Hh Ca cl fp => ifs_blk (M := M) H A S h5 s Hh Ca cl fp) (fun s Hh Ca cl fp => pe_aEl (X := X.blk s Hh scope (compEnvC scope cl Ca X.env) fp) (Te := ev C M El) fun s1 t1 s2 h1 => H.e A.blk (Sc.blk S) h6 h1) (ei_notSet h3 _)).imp fun D σ Hh q => ?_)⟩
              exact lc_tr (own_in h7) h9 hz q
            · cases h2
        · cases h
      · obtain ⟨I, h3, h⟩ := obind h
        obtain ⟨tgg, h4, h⟩ := obind h
        obtain ⟨Ifs, h5, h⟩ := obind h
        obtain ⟨I2, h3', h⟩ := obind h
        obtain ⟨tgg2, h4', h⟩ := obind h
        obtain ⟨Ifs2, h5', h⟩ := obind h
        obtain ⟨El, h6, h⟩ := obind h
        split at h
        · rename_i hin
          rw [Bool.and_eq_true] at hin
          obtain ⟨h7, h7'⟩ := hin
          cases h
          cases M with
          | zero => unfold ev at h2; cases h2
          | succ M =>
            simp only [ev] at h2
            obtain ⟨⟨src, s1⟩, h8, h2⟩ := obind h2
            obtain ⟨⟨l, s2⟩, h9, h2⟩ := obind h2
            try simp only at h2
            split at h2
            · rename_i hz
              cases h2
              refine ⟨_, rfl, rs_asgV ((ps_setLc2 (vs1 := slotsT tgg2) (g := gOf X.K tgg) (g1 := gOf X.K tgg2) (tt := aT X.K cm (tests (tst C M) Ifs)) (tt1 := aT X.K cm (tests (tst C M) Ifs2)) (wi1 := aI X.K cm (itr C M I2)) (te := aEl X.K cm (ev C M El)) A.calm A.nd hy hyl hs (H.i A S h3 h8) (blk_of S hb) (own_in h7') (fun s Hh Ca cl fp => tg_ok (X := X.blk s Hh scope (compEnvC scope cl Ca X.env) fp) (Sc.blk S) A.nd A.calm h4) (fun s Hh Ca cl fp => ifs_blk (M := M) H A S h5 s Hh Ca cl fp)
                (fun s Hh Ca cl fp => pi_aI (X := X.blk s Hh scope (compEnvC scope cl Ca X.env) fp) (Ti := itr C M I2) fun s1 t1 s2 h1 => H.i A.blk (Sc.blk S) h3' h1) (fun s Hh Ca cl fp => tg_ok (X := X.blk s Hh scope (compEnvC scope cl Ca X.env) fp) (Sc.blk S) A.nd A.calm h4') (fun s Hh Ca cl fp => ifs_blk (M := M) H A S h5' s Hh Ca cl fp)
                (fun s Hh Ca cl fp => pe_aEl (X := X.blk s Hh scope (compEnvC scope cl Ca X.env) fp) (Te := ev C M El) fun s1 t1 s2 h1 => H.e A.blk (Sc.blk S) h6 h1) (ei_notSet h3 _) (fun env x => ei_notSet h3' env x)).imp fun D σ Hh q => ?_)⟩
              exact lc2_tr (own_in h7) h9 hz q
            · cases h2
        · cases h
      · cases h
    · cases h
theorem ss_dc (H : IH cm kk C c n) (A : Amb X cm kk C) (S : Sc X c sc) (hk : X.env.scope.kind = .function) {y : Str} {py spos : Pos} {i : Nat} (hy : X.N[i]? = some y) (hl : Loc X.env.scope y) (hf : X.fn y = true ∨ X.env.scope.names.lookup y = some .local)
    {k v : Expr} {gs : List Comprehension} {scope : Scope} (h : erE c (n + 1) sc (.DictComp k v gs scope pos) = some E') (h2 : ev C M E' s = some (t, s')) : ∃ d, t = .v d true ∧ PS X (.Assign [.Name y py] (.DictComp k v gs scope pos) spos) (tS X.K cm s .nx (s'.put i d true)) := by
  have h0 := h
  unfold erE at h
  obtain ⟨own, ho, h⟩ := obind h
  try dsimp only at h
  split at h
  · rename_i hb
    split at h
    · obtain ⟨I, h3, h⟩ := obind h
      obtain ⟨tgg, h4, h⟩ := obind h
      obtain ⟨Ifs, h5, h⟩ := obind h
      obtain ⟨Ek, h6, h⟩ := obind h
      obtain ⟨Ev, h6', h⟩ := obind h
      split at h
      · rename_i h7
        cases h
        have h20 := h2
        cases M with
        | zero => unfold ev at h2; cases h2
        | succ M =>
          simp only [ev] at h2
          obtain ⟨⟨src, s1⟩, h8, h2⟩ := obind h2
          obtain ⟨⟨l, s2⟩, h9, h2⟩ := obind h2
          try simp only at h2
          split at h2
          · rename_i hz
            cases h2
            refine ⟨_, rfl, ?_⟩
            cases hsw : swB scope.names X.env.scope y py.line pos.line with
            | false => exact ss_setV A hy hl hf (se_dictcomp (pos := pos) H A S h0 h20) (by rw [sw_dc hk, hsw])
            | true =>
              refine rs_asgV ((ps_setDc (g := gOf X.K tgg) (tt := aT X.K cm (tests (tst C M) Ifs)) (tk := aE X.K cm (ev C M Ek)) (tv := aEl X.K cm (ev C M Ev)) A.calm A.nd hy (swB_local hsw) (by rw [sw_dc hk, hsw]) (H.i A S h3 h8) (blk_of S hb) (fun s Hh Ca cl fp => tg_ok (X := X.blk s Hh scope (compEnvC scope cl Ca X.env) fp) (Sc.blk S) A.nd A.calm h4) (fun s Hh Ca cl fp => ifs_blk (M := M) H A S h5 s Hh Ca cl fp) (fun s Hh Ca cl fp => pe_aE (X := X.blk s Hh scope (compEnvC scope cl Ca X.env) fp) (Te := ev C M Ek) fun s1 t1 s2 h1 => H.e A.blk (Sc.blk S) h6 h1)
                (fun s Hh Ca cl fp => pe_aEl (X := X.blk s Hh scope (compEnvC scope cl Ca X.env) fp) (Te := ev C M Ev) fun s1 t1 s2 h1 => H.e A.blk (Sc.blk S) h6' h1) (ei_notSet h3 _)).imp fun D σ Hh q => ?_)
              exact dc_tr (own_in h7) h9 hz q
          · cases h2
      · cases h
    · obtain ⟨I, h3, h⟩ := obind h
      obtain ⟨tgg, h4, h⟩ := obind h
      obtain ⟨Ifs, h5, h⟩ := obind h
      obtain ⟨I2, h3', h⟩ := obind h
      obtain ⟨tgg2, h4', h⟩ := obind h
      obtain ⟨Ifs2, h5', h⟩ := obind h
      obtain ⟨Ek, h6, h⟩ := obind h
      obtain ⟨Ev, h6', h⟩ := obind h
      split at h
      · cases h
        cases M with
        | zero => unfold ev at h2; cases h2
        | succ M => simp only [ev] at h2; cases h2
      · cases h
    · cases h
  · cases h
theorem er_nosw {e : Expr} {o : Option Expr} {l : Nat} {env : Env} (h : erE c n sc e = some E') (hc : notComp e = true) : swapsWith e o l env = pure false := by
  cases e <;> first | rfl | (cases hc; done)
theorem er_nosw1 {tg e : Expr} {l : Nat} {env : Env} (h : erE c n sc e = some E') (hc : notComp e = true) : swapsWithSole [tg] e l env = pure false := er_nosw h hc
theorem ss_asg (H : IH cm kk C c n) (A : Amb X cm kk C) (S : Sc X c sc) (hk : X.env.scope.kind = .function) {y : Str} {py spos : Pos} {i : Nat} {e : Expr} {s2 : St} (hi : slotL c.N sc y = some i) (h : erE c (n + 1) sc e = some E') (h2 : ev C M E' s = some (t, s')) (h3 : asg1 i t s' = some s2) : PS X (.Assign [.Name y py] e spos) (tS X.K cm s .nx s2) := by
  obtain ⟨hy, hl, hf⟩ := slotL_of S hi
  by_cases hc : notComp e = true
  · have pp := se_all H A S h h2
    cases t with
    | v d fr =>
      rw [asgs_v] at h3; cases h3
      exact rs_asgV (ps_set A.nd hy hl pp (er_nosw h hc) hf)
    | x j =>
      unfold asg1 at h3
      dsimp only at h3
      split at h3
      · rename_i d hd
        split at h3
        · cases h3
        · rename_i hij
          cases h3
          exact rs_asgX (ps_set A.nd hy hl pp (er_nosw h hc) hf) hd hij
      · cases h3
  · cases e <;> first | (exact absurd rfl hc) | skip
    · obtain ⟨d, rfl, hp⟩ := ss_lc (py := py) (spos := spos) H A S hk hy hl hf h h2
      rw [asgs_v] at h3; cases h3
      exact hp
    · unfold erE at h; cases h
    · obtain ⟨d, rfl, hp⟩ := ss_dc (py := py) (spos := spos) H A S hk hy hl hf h h2
      rw [asgs_v] at h3; cases h3
      exact hp
end
end Mp
/-! Mp, part Zc: statements by the eraser, all of them. -/
namespace Mp
open PySem PySem.Spec PyProof.Rows L2 RZ
/-- a def's own scope -/
structure SX (X : Cx) (sc : Scope) : Prop where
  eq : X.env.scope = sc
  kind : sc.kind = ScopeKind.function
  pass : PassesOwn (model X.prog X.w) X.A X.env X.xe
section
variable {X : Cx} {cm : Str → Option Addr} {kk : Nat} {C : CallF} {c : Ec} {n M N F : Nat} {sc : Scope} {s s1 s2 s3 s' : St} {t u : Tmp} {ts : List Tmp} {E' : E} {pos p p1 : Pos} {fl : Fl}
theorem er_isloc {o : Expr} {O : E} (h : erE c n sc o = some O) (hn : isName o = true) : (∃ j, O = .loc j) ∨ (∃ z, O = .str z) ∨ ∃ i, O = .int i := by
  cases o with
  | Name x q =>
    cases n with
    | zero => unfold erE at h; cases h
    | succ n =>
      unfold erE at h; try dsimp only at h
      split at h
      · cases h
      · split at h
        · cases h; exact .inl ⟨_, rfl⟩
        · split at h
          · split at h
            · cases h; exact .inr (.inl ⟨_, rfl⟩)
            · cases h; exact .inr (.inr ⟨_, rfl⟩)
            · cases h
          · cases h
  | _ => cases hn
theorem er_sub {o i : Expr} {I : E} (h : erE c n sc i = some I) (v : Value) (env : Env) : assign (.Subscript o i p1) env v = (do
      let ov ← holding [v] (eval o env)
      let iv ← holding [v, ov] (eval i env)
      standAt p1
      holding [v, ov, iv] (setItem ov iv v)
      release [v, ov, iv] []) := by
  cases i <;> first | rfl | skip
  cases n with
  | zero => unfold erE at h; cases h
  | succ n => unfold erE at h; cases h
theorem ss_setF {o e : Expr} {f : Str} {O Ev : E} {b : Nat} (H : IH cm kk C c n) (A : Amb X cm kk C) (S : Sc X c sc) (h1 : erE c (n + 1) sc o = some O) (h2 : erE c (n + 1) sc e = some Ev) (hn : notComp e = true) (ho : isName o = true) (h : ex C N (M + 1) (.asgF O f Ev) s = some (fl, s')) :
    PS X (.Assign [.Attribute o f p1] e pos) (tS X.K cm s fl s') := by
  rcases er_isloc h1 ho with ⟨j, rfl⟩ | hz
  case inr =>
    rcases hz with ⟨z, rfl⟩ | ⟨z, rfl⟩
    · unfold ex at h
      try dsimp only at h
      obtain ⟨_, _, h⟩ := obind h
      obtain ⟨_, _, h⟩ := obind h
      cases h
    · unfold ex at h
      try dsimp only at h
      obtain ⟨_, _, h⟩ := obind h
      obtain ⟨_, _, h⟩ := obind h
      cases h
  unfold ex at h
  try dsimp only at h
  obtain ⟨⟨t, s1⟩, h3, h⟩ := obind h
  obtain ⟨⟨d, s2⟩, h4, h⟩ := obind h
  try dsimp only at h
  · try dsimp only at h
    split at h
    · rename_i cl fs h5
      split at h
      · rename_i h6
        cases h
        exact rs_asgF A.ck (se_all H A S h2 h3) h4 (er_var S h1 ho) h5 h6.1 h6.2 (er_nosw h2 hn)
      · cases h
    · cases h
theorem ss_setI {o i e : Expr} {O I Ev : E} (H : IH cm kk C c n) (A : Amb X cm kk C) (S : Sc X c sc) (h1 : erE c (n + 1) sc o = some O) (h1i : erE c (n + 1) sc i = some I) (h2 : erE c (n + 1) sc e = some Ev) (hn : notComp e = true) (ho : isName o = true) (h : ex C N (M + 1) (.asgI O I Ev) s = some (fl, s')) :
    PS X (.Assign [.Subscript o i p1] e pos) (tS X.K cm s fl s') := by
  rcases er_isloc h1 ho with ⟨j, rfl⟩ | hz
  case inr =>
    rcases hz with ⟨z, rfl⟩ | ⟨z, rfl⟩
    · unfold ex at h
      try dsimp only at h
      obtain ⟨_, _, h⟩ := obind h
      obtain ⟨_, _, h⟩ := obind h
      cases h
    · unfold ex at h
      try dsimp only at h
      obtain ⟨_, _, h⟩ := obind h
      obtain ⟨_, _, h⟩ := obind h
      cases h
  have hw : swappedStores [.Subscript o i p1] e X.env = pure none := rfl
  unfold ex at h
  try dsimp only at h
  obtain ⟨⟨t, s1⟩, h3, h⟩ := obind h
  obtain ⟨⟨d, s2⟩, h4, h⟩ := obind h
  try dsimp only at h
  · try dsimp only at h
    split at h
    · cases h
    · rename_i hj0
      have hj0 : (s2.get j).isSome = true := by cases e : s2.get j <;> simp_all
      obtain ⟨⟨u, s3⟩, h5, h⟩ := obind h
      obtain ⟨k, h6, h⟩ := obind h
      try dsimp only at h
      split at h
      · rename_i m ow h7
        split at h
        · rename_i q z
          obtain ⟨ds, h8, h⟩ := obind h
          obtain ⟨r, h9, h⟩ := obind h
          cases h
          exact rs_setBox (se_all H A S h2 h3) h4 hj0 (er_var S h1 ho) (se_all H A S h1i h5) h6 h7 h8 h9 (fun v => er_sub h1i v X.env) (er_nosw1 h2 hn) hw rfl
        · cases h
      · rename_i x hb h7
        obtain ⟨x', h8, h⟩ := obind h
        cases h
        unfold setD at h8
        split at h8
        · rename_i xs q
          obtain ⟨r, h9, h8⟩ := obind h8
          cases h8
          exact rs_setLst (se_all H A S h2 h3) h4 hj0 (er_var S h1 ho) (se_all H A S h1i h5) h6 h7 h9 (fun v => er_sub h1i v X.env) (er_nosw1 h2 hn) hw rfl
        · exact rs_setDic (by have := A.un; omega) (se_all H A S h2 h3) h4 hj0 (er_var S h1 ho) (se_all H A S h1i h5) h6 h7 h8 (fun v => er_sub h1i v X.env) (er_nosw1 h2 hn) hw rfl
      · cases h
theorem ss_asgT {tg e : Expr} {is : List Nat} {Ev : E} (H : IH cm kk C c n) (A : Amb X cm kk C) (S : Sc X c sc) (ht : tgOf c.N sc tg = some (.tp is)) (hs : ∀ a b, tg ≠ .Starred a b) (h2 : erE c (n + 1) sc e = some Ev) (hn : notComp e = true) (hw : swappedStores [tg] e X.env = pure none) (h : ex C N (M + 1) (.asgT is Ev) s = some (fl, s')) :
    PS X (.Assign [tg] e pos) (tS X.K cm s fl s') := by
  unfold ex at h
  try dsimp only at h
  obtain ⟨⟨t, s1⟩, h3, h⟩ := obind h
  obtain ⟨⟨d, s2⟩, h4, h⟩ := obind h
  obtain ⟨s3, h5, h⟩ := obind h
  cases h
  have h1 : (assignEach [tg] X.env).map (·.2) = [assign tg X.env] := by
    cases tg <;> first | rfl | exact absurd rfl (hs _ _)
  cases d with
  | lst ds => exact rs_asgU (se_all H A S h2 h3) (tg_okU S A.nd A.calm ht) h4 h5 (er_nosw1 h2 hn) hw h1
  | _ => exact rs_asgT (se_all H A S h2 h3) (tg_ok S A.nd A.calm ht) h4 h5 (er_nosw1 h2 hn) hw h1
theorem par2_of {st : Stmt} {i j : Nat} {ta : TA} (ht : ∀ σ H Q Q', (∀ vs H1, Q vs H1 → Q' vs H1) → ta σ H Q → ta σ H Q') (h : PS X st (tPar i j ta)) : PS X st (tSets ta [i, j]) :=
  h.imp fun D σ Hh q => ht _ _ _ _ (fun vs H1 ⟨h1, h2, h3⟩ => by
    match vs, h1 with
    | [v, w], _ => exact ⟨v, w, rfl, h3 H1 (.inl rfl)⟩) q
theorem par3_of {st : Stmt} {i j l : Nat} {ta : TA} (ht : ∀ σ H Q Q', (∀ vs H1, Q vs H1 → Q' vs H1) → ta σ H Q → ta σ H Q') (h : PS X st (tPar3 i j l ta)) : PS X st (tSets ta [i, j, l]) :=
  h.imp fun D σ Hh q => ht _ _ _ _ (fun vs H1 ⟨h1, h2, h3⟩ => by
    match vs, h1 with
    | [u, v, w], _ => exact ⟨u, v, w, rfl, h3 H1 (.inl rfl)⟩) q
theorem tALk_mono {cm : Str → Option Addr} : ∀ σ H (Q Q' : List V → Hp → Prop), (∀ vs H1, Q vs H1 → Q' vs H1) → tALk (tAs X.K cm s ts s1) σ H Q → tALk (tAs X.K cm s ts s1) σ H Q' := fun σ H Q Q' hh ⟨F, L, g, k⟩ => ⟨F, L, g, fun vs H1 F1 L1 g1 x1 q1 n1 => (k vs H1 F1 L1 g1 x1 q1 n1).imp fun H2 r => hh _ _ r⟩

theorem par_sw {ts es : List Expr} {k k2 : Nat} {p1 p2 : Pos} {env : Env} {r : Option (List Str)} (hk : env.scope.kind = ScopeKind.function) (h : parC env.scope ts es = some r) : swappedStores [.Tuple ts k p1] (.Tuple es k2 p2) env = pure r := by
  have hb : env.blockKind = .function := by unfold Env.blockKind; rw [hk]; rfl
  have key : swappedStores [.Tuple ts k p1] (.Tuple es k2 p2) env = (if (!(ts.length == 2 || ts.length == 3) || es.length != ts.length || env.blockKind != .function) = true then pure none else if starIn es = true then pure none
      else if ((parNames env.scope ts).length != ts.length || (parNames env.scope ts).eraseDups.length != (parNames env.scope ts).length) = true then pure none
      else if es.all (foldedForSure 8) = true then pure none else if es.all (constantsAlone 8) = true then (do
        let _ ← (unsupported "assign.tuple-of-constant-expressions:order-of-the-stores" : Sem PUnit)
        return some (parNames env.scope ts)) else pure (some (parNames env.scope ts))) := by
    unfold swappedStores starIn parNames parNm
    simp only [pure_bind]
    rfl
  rw [key, hb]
  unfold parC at h
  have e1 : ((!(ts.length == 2 || ts.length == 3) || es.length != ts.length || ScopeKind.function != ScopeKind.function) : Bool) = (!(ts.length == 2 || ts.length == 3) || es.length != ts.length) := by simp
  rw [e1]
  split at h
  · rename_i h1; cases h; rw [if_pos h1]
  · rename_i h1
    rw [if_neg h1]
    split at h
    · rename_i h2; cases h; rw [if_pos h2]
    · rename_i h2
      rw [if_neg h2]
      split at h
      · rename_i h3; cases h; rw [if_pos h3]
      · rename_i h3
        rw [if_neg h3]
        split at h
        · rename_i h4; cases h; rw [if_pos h4]
        · rename_i h4
          rw [if_neg h4]
          split at h
          · cases h
          · rename_i h5; cases h; rw [if_neg h5]
end
end Mp
/-! Mp, part Zd: all statements. -/
namespace Mp
open PySem PySem.Spec PyProof.Rows L2 RZ
theorem parN_cons {sc : Scope} {l : Nat} {x : Str} {px : Pos} {r : List Expr} : (Expr.Name x px :: r).filterMap (parNm sc l) = (if (sc.names.lookup x == some .local && px.line == l) = true then [x] else []) ++ r.filterMap (parNm sc l) := by
  rw [List.filterMap_cons]
  unfold parNm
  by_cases h : (sc.names.lookup x == some .local && px.line == l) = true
  · simp only [h, if_true]; rfl
  · simp only [h]; rfl
theorem parN2 {sc : Scope} {x y : Str} {px py : Pos} (h : (parNames sc [.Name x px, .Name y py]).length = 2) : parNames sc [.Name x px, .Name y py] = [x, y] ∧ sc.names.lookup x = some .local ∧ sc.names.lookup y = some .local := by
  unfold parNames at h ⊢
  rw [parN_cons, parN_cons, List.filterMap_nil] at h ⊢
  split at h <;> split at h <;> first | (simp at h; done) | skip
  rename_i h1 h2
  rw [if_pos h1, if_pos h2]
  rw [Bool.and_eq_true] at h1 h2
  exact ⟨rfl, by simpa using h1.1, by simpa using h2.1⟩
theorem parN3 {sc : Scope} {x y z : Str} {px py pz : Pos} (h : (parNames sc [.Name x px, .Name y py, .Name z pz]).length = 3) : parNames sc [.Name x px, .Name y py, .Name z pz] = [x, y, z] ∧ sc.names.lookup x = some .local ∧ sc.names.lookup y = some .local ∧ sc.names.lookup z = some .local := by
  unfold parNames at h ⊢
  rw [parN_cons, parN_cons, parN_cons, List.filterMap_nil] at h ⊢
  split at h <;> split at h <;> split at h <;> first | (simp at h; done) | skip
  rename_i h1 h2 h3
  rw [if_pos h1, if_pos h2, if_pos h3]
  rw [Bool.and_eq_true] at h1 h2 h3
  exact ⟨rfl, by simpa using h1.1, by simpa using h2.1, by simpa using h3.1⟩
theorem parC_some {sc : Scope} {ts vs : List Expr} {ns : List Str} (h : parC sc ts vs = some (some ns)) : (ts.length = 2 ∨ ts.length = 3) ∧ vs.length = ts.length ∧ ns = parNames sc ts ∧ (parNames sc ts).length = ts.length ∧ (parNames sc ts).eraseDups.length = (parNames sc ts).length := by
  unfold parC at h
  split at h
  · cases h
  · rename_i h1
    split at h
    · cases h
    · split at h
      · cases h
      · rename_i h3
        split at h
        · cases h
        · split at h
          · cases h
          · cases h
            simp only [Bool.or_eq_true, not_or, Bool.not_eq_true', bne_iff_ne, ne_eq, Decidable.not_not] at h1 h3
            refine ⟨?_, h1.2, rfl, h3.1, h3.2⟩
            have := h1.1
            by_cases e : ts.length = 2
            · exact .inl e
            · exact .inr (by simpa [e] using this)
theorem nameOf_eq {e : Expr} {x : Str} (h : nameOf? e = some x) : ∃ p, e = .Name x p := by
  cases e <;> first | (cases h; done) | skip
  cases h; exact ⟨_, rfl⟩
section
variable {X : Cx} {cm : Str → Option Addr} {kk : Nat} {C : CallF} {c : Ec} {n M N F : Nat} {sc : Scope} {s s1 s2 s3 s' : St} {t u : Tmp} {ts : List Tmp} {E' : E} {pos p p1 : Pos} {fl : Fl}
theorem ss_par {ns es : List Expr} {kt k2 : Nat} {p2 : Pos} {is : List Nat} {Es : List E} {r : Option (List Str)} (H : IH cm kk C c n) (A : Amb X cm kk C) (S : Sc X c sc) (Z : SX X sc) (ht : tgOf c.N sc (.Tuple ns 0 ⟨0, 0, 0, 0⟩) = some (.tp is)) (hp : parC sc ns es = some r) (h2 : mapO (erE c (n + 1) sc) es = some Es) (hl : Es.length = is.length)
    (h : ex C N (M + 1) (.par is Es) s = some (fl, s')) : PS X (.Assign [.Tuple ns kt p1] (.Tuple es k2 p2) pos) (tS X.K cm s fl s') := by
  have HH : IH cm kk C c (n + 1) := ih_all (n + 1)
  unfold ex at h
  try dsimp only at h
  obtain ⟨⟨ts, s1⟩, h3, h⟩ := obind h
  try dsimp only at h
  split at h
  · rename_i hz
    obtain ⟨s2, h4, h⟩ := obind h
    cases h
    obtain ⟨pa, hlen⟩ := ih_list HH A S h2 h3
    have ht' : tgOf c.N sc (.Tuple ns kt p1) = some (.tp is) := ht
    have hw : swappedStores [.Tuple ns kt p1] (.Tuple es k2 p2) X.env = pure r := par_sw (by rw [Z.eq]; exact Z.kind) (by rw [Z.eq]; exact hp)
    have hs : swapsWithSole [.Tuple ns kt p1] (.Tuple es k2 p2) pos.line X.env = pure false := rfl
    have hlt : ts.length = is.length := by rw [hlen, ← mapO_len h2, hl]
    cases r with
    | none => exact rs_par (par_tup pa (tg_ok S A.nd A.calm ht') hs hw rfl) h4 hz hlt
    | some nms =>
      obtain ⟨q1, q2, q3, q4, q5⟩ := parC_some hp
      have hm : (mapO (fun e => (nameOf? e).bind fun x => slotL c.N sc x) ns).bind (fun is => some (Tg.tp is)) = some (.tp is) := ht
      obtain ⟨is', hm, hmm⟩ := obind hm
      cases hmm
      rcases q1 with q1 | q1
      · match ns, es, q1, q2 with
        | [n1, n2], [e1, e2], _, _ =>
          obtain ⟨i, r1, m1, hm1, e1⟩ := mapO_cons hm
          obtain ⟨j, r2, m2, hm2, e2⟩ := mapO_cons hm1
          cases hm2
          subst e2
          subst e1
          obtain ⟨x, m3, m4⟩ := obind m1
          obtain ⟨y, m5, m6⟩ := obind m2
          obtain ⟨px, rfl⟩ := nameOf_eq m3
          obtain ⟨py, rfl⟩ := nameOf_eq m5
          obtain ⟨v1, v2, v3⟩ := parN2 q4
          rw [v1] at q3 q5
          subst q3
          have hxy : x ≠ y := by
            rintro rfl
            simp [List.eraseDups_cons] at q5
          have hij : i ≠ j := by
            rintro rfl
            have a1 := (slotL_of S m4).1
            have a2 := (slotL_of S m6).1
            rw [a1] at a2
            exact hxy (by cases a2; rfl)
          refine rs_par (par2_of tALk_mono (ps_par (ta := tALk (tAs X.K cm s ts s1)) A.calm A.nd (slotL_of S m4).1 (slotL_of S m6).1 hij (S.loc _ v2) (S.loc _ v3) ?_ hw hs)) h4 hz hlt
          exact pa.lk
      · match ns, es, q1, q2 with
        | [n1, n2, n3], [e1, e2, e3], _, _ =>
          obtain ⟨i, r1, m1, hm1, e1⟩ := mapO_cons hm
          obtain ⟨j, r2, m2, hm2, e2⟩ := mapO_cons hm1
          obtain ⟨l, r3, m7, hm3, e3⟩ := mapO_cons hm2
          cases hm3
          subst e3
          subst e2
          subst e1
          obtain ⟨x, m3, m4⟩ := obind m1
          obtain ⟨y, m5, m6⟩ := obind m2
          obtain ⟨z, m8, m9⟩ := obind m7
          obtain ⟨px, rfl⟩ := nameOf_eq m3
          obtain ⟨py, rfl⟩ := nameOf_eq m5
          obtain ⟨pz, rfl⟩ := nameOf_eq m8
          obtain ⟨v1, v2, v3, v4⟩ := parN3 q4
          rw [v1] at q3 q5
          subst q3
          have dist : ∀ {a b : Str} {ia ib : Nat}, slotL c.N sc a = some ia → slotL c.N sc b = some ib → a ≠ b → ia ≠ ib := by
            intro a b ia ib ha hb hab e
            subst e
            have a1 := (slotL_of S ha).1
            have a2 := (slotL_of S hb).1
            rw [a1] at a2
            exact hab (by cases a2; rfl)
          have hxy : x ≠ y := by
            rintro rfl
            by_cases e : z = x <;> simp [List.eraseDups_cons, e] at q5
          have hxz : x ≠ z := by
            rintro rfl
            by_cases e : y = x <;> simp [List.eraseDups_cons, e] at q5
          have hyz : y ≠ z := by
            rintro rfl
            by_cases e : y = x <;> simp [List.eraseDups_cons, e] at q5
          refine rs_par (par3_of tALk_mono (ps_par3 (ta := tALk (tAs X.K cm s ts s1)) A.calm A.nd (slotL_of S m4).1 (slotL_of S m6).1 (slotL_of S m9).1 (dist m4 m6 hxy) (dist m4 m9 hxz) (dist m6 m9 hyz) (S.loc _ v2) (S.loc _ v3) (S.loc _ v4) ?_ hw hs)) h4 hz hlt
          exact pa.lk
  · cases h
/-- x += e, ints -/
theorem ss_aug {x : Str} {px : Pos} {op : Operator} {e : Expr} {Ev : E} {i : Nat} (H : IH cm kk C c n) (A : Amb X cm kk C) (S : Sc X c sc) (hi : slotL c.N sc x = some i) (h2 : erE c (n + 1) sc e = some Ev) (h : ex C N (M + 1) (.aug i op Ev) s = some (fl, s')) : PS X (.AugAssign (.Name x px) op e pos) (tS X.K cm s fl s') := by
  obtain ⟨g1, g2, g3⟩ := slotL_of S hi
  unfold ex at h
  try dsimp only at h
  split at h
  · rename_i z ow h3
    obtain ⟨⟨t, s1⟩, h4, h⟩ := obind h
    obtain ⟨d, h5, h⟩ := obind h
    try dsimp only at h
    split at h
    · cases h
      refine (ps_aug A.nd g1 g2 (se_all H A S h2 h4) ip_add g3).imp fun D σ Hh ⟨b0, H0, F0, L0, F, L, b, pp⟩ => ?_
      have vx : σ[i]? = some (some (.int z)) := by
        cases ow with
        | false =>
          obtain ⟨v, e1, r⟩ := b.g.pure i _ h3
          cases r; exact e1
        | true =>
          obtain ⟨a, _, _, _, top⟩ := b.g.own i _ h3
          exact top.elim
      refine ⟨.int z, vx, F, L, b.g, fun v H1 F1 L1 g1' x1 q1 n1 => ?_⟩
      have ev := vw_int (q1.vw g1' h5)
      subst ev
      refine ⟨z, _, rfl, rfl, ?_⟩
      exact pp _ H1 F1 L1 (b.step (g1'.put (.int _) i) x1 fun a h => .inl (x1.own (own_put h))) x1.sub x1.pre
    · cases h
  · cases h

/-- the promise of statements, at fuel n -/
structure IHS (cm : Str → Option Addr) (kk : Nat) (C : CallF) (c : Ec) (F n : Nat) : Prop where
  s : ∀ {X : Cx} {sc : Scope} {a : Stmt} {A' : S}, Amb X cm kk C → Sc X c sc → SX X sc → erS c (F + 1) n sc a = some A' → ∀ {N M : Nat} {s : St} {fl : Fl} {s' : St}, ex C N M A' s = some (fl, s') → PS X a (tS X.K cm s fl s')
theorem ihs_list (I : IHS cm kk C c F n) (A : Amb X cm kk C) (S : Sc X c sc) (Z : SX X sc) : ∀ {as : List Stmt} {As : List Mp.S} {s : St} {fl : Fl} {s' : St}, mapO (erS c (F + 1) n sc) as = some As → runL (ex C N M) As s = some (fl, s') → PSs X as (tS X.K cm s fl s')
  | [], As, s, fl, s', h, h2 => by
    cases h
    cases h2
    exact rs_nil
  | a :: as, As, s, fl, s', h, h2 => by
    obtain ⟨A1, As', h3, h4, rfl⟩ := mapO_cons h
    unfold runL at h2
    obtain ⟨⟨f1, s1⟩, h5, h2⟩ := obind h2
    cases f1 with
    | nx => exact rs_cons (I.s A S Z h3 h5) (ihs_list I A S Z h4 h2)
    | rt d b => cases h2; exact rs_stop (I.s A S Z h3 h5)
theorem sw_none {ts : List Expr} {k : Nat} {e : Expr} {env : Env} (hn : ∀ es k p, e ≠ .Tuple es k p) : swappedStores [.Tuple ts k p1] e env = pure none := by
  cases e <;> first | rfl | exact absurd rfl (hn _ _ _)
theorem ss_ret {e : Expr} {E1 : E} (HH : IH cm kk C c F) (A : Amb X cm kk C) (S : Sc X c sc) (h3 : erE c (F + 1) sc e = some E1) (h2 : ex C N (M + 1) (.ret E1) s = some (fl, s')) : PS X (.Return (some e) pos) (tS X.K cm s fl s') := by
  unfold ex at h2
  try dsimp only at h2
  obtain ⟨⟨t, s1⟩, h5, h2⟩ := obind h2
  cases t with
  | v d fr => cases h2; exact rs_ret (se_all HH A S h3 h5) (.inl rfl)
  | x i =>
    obtain ⟨q, h6, h2⟩ := obind h2
    cases h2
    exact rs_ret (se_all HH A S h3 h5) (.inr ⟨i, rfl, h6⟩)
theorem ss_iff {e : Expr} {a b : List Stmt} {E1 : E} {a' b' : List Mp.S} (I : IHS cm kk C c F n) (A : Amb X cm kk C) (S : Sc X c sc) (Z : SX X sc) (h3 : erE c (F + 1) sc e = some E1) (h4 : mapO (erS c (F + 1) n sc) a = some a') (h5 : mapO (erS c (F + 1) n sc) b = some b')
    (h2 : ex C N (M + 1) (.iff E1 a' b') s = some (fl, s')) : PS X (.If e a b pos) (tS X.K cm s fl s') := by
  unfold ex at h2
  try dsimp only at h2
  obtain ⟨⟨r, s1⟩, h6, h2⟩ := obind h2
  refine rs_iff ((ih_all (F + 1)).t A S h3 h6) (fun e => ?_) (fun e => ?_)
  · subst e
    exact ihs_list I A S Z h4 h2
  · subst e
    exact ihs_list I A S Z h5 h2
theorem ss_for {tg it : Expr} {b : List Stmt} {tgg : Tg} {I1 : It} {b' : List Mp.S} (I : IHS cm kk C c F n) (A : Amb X cm kk C) (S : Sc X c sc) (Z : SX X sc) (h3 : erI c (F + 1) sc tg it = some I1) (h4 : tgOf c.N sc tg = some tgg) (h5 : mapO (erS c (F + 1) n sc) b = some b')
    (h2 : ex C N (M + 1) (.for_ tgg I1 b') s = some (fl, s')) : PS X (.For tg it b [] pos) (tS X.K cm s fl s') := by
  unfold ex at h2
  try dsimp only at h2
  obtain ⟨⟨src, s1⟩, h6, h2⟩ := obind h2
  have pi := (ih_all (F + 1)).i A S h3 h6
  have fin : ∀ {xs : List D} {s2 : St}, PI X tg it (tI X.K cm s (.fix xs) s2) → forL (stepS tgg (runL (ex C N M) b')) xs s2 = some (fl, s') → PS X (.For tg it b [] pos) (tS X.K cm s fl s') := fun hi run =>
    rs_for (R := runL (ex C N M) b') Z.pass A.calm hi (tg_ok S A.nd A.calm h4) (fun s1 f1 s2 h => ihs_list I A S Z h5 h) (ei_notSet h3 _) run
  cases src with
  | fix xs => exact fin pi h2
  | var i =>
    have h2 : (match s1.get i with
      | some (.lst xs, _) => some (xs, s1.frz i)
      | _ => none : Option (List D × St)).bind (fun p => forL (stepS tgg (runL (ex C N M) b')) p.1 p.2) = some (fl, s') := h2
    obtain ⟨⟨xs, s2⟩, h7, h2⟩ := obind h2
    split at h7
    · rename_i ys o h8
      cases h7
      exact fin (ri_frz pi h8) h2
    · cases h7
theorem ss_all {a : Stmt} {A' : Mp.S} (I : IHS cm kk C c F n) (A : Amb X cm kk C) (S : Sc X c sc) (Z : SX X sc) (h : erS c (F + 1) (n + 1) sc a = some A') (h2 : ex C N M A' s = some (fl, s')) : PS X a (tS X.K cm s fl s') := by
  cases M with
  | zero => unfold ex at h2; cases h2
  | succ M =>
    have HH : IH cm kk C c F := ih_all F
    unfold erS at h
    split at h
    · obtain ⟨i, h3, h⟩ := obind h
      obtain ⟨E1, h4, h⟩ := obind h
      cases h
      unfold ex at h2
      try dsimp only at h2
      obtain ⟨⟨t, s1⟩, h5, h2⟩ := obind h2
      obtain ⟨s2, h6, h2⟩ := obind h2
      cases h2
      exact ss_asg HH A S (by rw [Z.eq]; exact Z.kind) h3 h4 h5 h6
    · obtain ⟨tg, h3, h⟩ := obind h
      try dsimp only at h
      split at h
      · split at h
        · obtain ⟨_, h4, h⟩ := obind h
          obtain ⟨Es, h5, h⟩ := obind h
          split at h
          · rename_i hl
            cases h
            exact ss_par HH A S Z h3 h4 h5 hl h2
          · cases h
        · rename_i hne
          obtain ⟨E1, h5, h⟩ := obind h
          split at h
          · rename_i hn
            cases h
            exact ss_asgT HH A S h3 (fun _ _ e => by cases e) h5 hn (sw_none fun es k p e => hne es k p e) h2
          · cases h
      · cases h
    · obtain ⟨O, h3, h⟩ := obind h
      obtain ⟨I1, h4, h⟩ := obind h
      obtain ⟨E1, h5, h⟩ := obind h
      split at h
      · rename_i hn
        rw [Bool.and_eq_true] at hn
        cases h
        exact ss_setI HH A S h3 h4 h5 hn.1 hn.2 h2
      · cases h
    · obtain ⟨O, h3, h⟩ := obind h
      obtain ⟨E1, h5, h⟩ := obind h
      split at h
      · rename_i hn
        rw [Bool.and_eq_true] at hn
        cases h
        exact ss_setF (b := 0) HH A S h3 h5 hn.1 hn.2 h2
      · cases h
    · obtain ⟨i, h3, h⟩ := obind h
      obtain ⟨E1, h5, h⟩ := obind h
      cases h
      exact ss_aug HH A S h3 h5 h2
    · obtain ⟨E1, h5, h⟩ := obind h
      split at h
      · rename_i hn
        cases h
        unfold ex at h2
        try dsimp only at h2
        obtain ⟨⟨t, s1⟩, h6, h2⟩ := obind h2
        cases h2
        exact rs_ex (se_all HH A S h5 h6) (er_nosw h5 hn)
      · cases h
    · obtain ⟨E1, h5, h⟩ := obind h
      cases h
      exact ss_ret HH A S h5 h2
    · obtain ⟨E1, h5, h⟩ := obind h
      obtain ⟨a', h6, h⟩ := obind h
      obtain ⟨b', h7, h⟩ := obind h
      cases h
      exact ss_iff I A S Z h5 h6 h7 h2
    · obtain ⟨I1, h5, h⟩ := obind h
      obtain ⟨tgg, h6, h⟩ := obind h
      obtain ⟨b', h7, h⟩ := obind h
      cases h
      exact ss_for I A S Z h5 h6 h7 h2
    · obtain ⟨E1, h5, h⟩ := obind h
      obtain ⟨b', h6, h⟩ := obind h
      cases h
      unfold ex at h2
      try dsimp only at h2
      exact rs_whl (Tt := tst C N E1) (R := runL (ex C N M) b') Z.pass (fun s1 r s2 h => (ih_all (F + 1)).t A S h5 h) (fun s1 f1 s2 h => ihs_list I A S Z h6 h) h2
    · cases h
      unfold ex at h2
      cases h2
      exact rs_pass
    · cases h
      unfold ex at h2
      cases h2
    · cases h
theorem ihs_all (F : Nat) : ∀ n, IHS cm kk C c F n
  | 0 => { s := fun A S Z h => by (unfold erS at h; cases h) }
  | n + 1 => { s := fun A S Z h _ _ _ _ _ h2 => ss_all (ihs_all F n) A S Z h h2 }
end
end Mp
/-! Mp, part Ze: bodies, the table of defs, the law. -/
namespace Mp
open PySem PySem.Spec PyProof.Rows L2 RZ
/-! ### parameters -/
def plainP (ps : List Str) (a : Arguments) : Bool := a.posonlyargs.isEmpty && decide (a.args.map (·.arg) = ps) && a.vararg.isNone && a.kwonlyargs.isEmpty && a.kwarg.isNone && decide ps.Nodup
theorem zip_look {ps : List Str} {us : List Value} (hl : us.length = ps.length) : ∀ n ∈ ps, ((ps.zip us).lookup n).isNone = false := by
  induction ps generalizing us with
  | nil => intro n h; simp at h
  | cons p ps ih =>
    cases us with
    | nil => simp at hl
    | cons u us =>
      intro n hn
      simp only [List.zip_cons_cons, List.lookup_cons]
      by_cases e : n == p
      · simp [e]
      · simp only [e]
        rcases List.mem_cons.mp hn with rfl | h
        · simp at e
        · exact ih (by simpa using hl) n h
theorem zip_fm {ps : List Str} {us : List Value} (hl : us.length = ps.length) (nd : ps.Nodup) : (ps.filterMap fun n => ((ps.zip us).lookup n).map fun v => (n, v)) = ps.zip us := by
  induction ps generalizing us with
  | nil => simp
  | cons p ps ih =>
    cases us with
    | nil => simp at hl
    | cons u us =>
      obtain ⟨h1, h2⟩ := List.nodup_cons.mp nd
      rw [List.filterMap_cons]
      simp only [List.zip_cons_cons, List.lookup_cons, beq_self_eq_true, Option.map_some]
      congr 1
      refine Eq.trans ?_ (ih (us := us) (by simpa using hl) h2)
      clear ih h2 nd
      have key : ∀ l : List Str, (∀ n ∈ l, n ∈ ps) → (l.filterMap fun n => (match n == p with
        | true => some u
        | false => (ps.zip us).lookup n).map fun v => (n, v)) = l.filterMap fun n => ((ps.zip us).lookup n).map fun v => (n, v) := by
        intro l
        induction l with
        | nil => intro _; rfl
        | cons n l ih =>
          intro hm
          have : (n == p) = false := by
            rw [beq_eq_false_iff_ne]
            rintro rfl
            exact h1 (hm _ List.mem_cons_self)
          rw [List.filterMap_cons, List.filterMap_cons, this, ih fun m h => hm m (List.mem_cons_of_mem _ h)]
      exact key ps fun _ h => h
theorem plain_binds {ps : List Str} {x q : Str} {params : Arguments} {body : List Stmt} {scope : Scope} {kV doc pm : Value} {an : Option Addr} {cdv ct : Value} {us : List Value} (h : plainP ps params = true) (hl : us.length = ps.length) :
    bindArgs (PySem.W.fnOf x q params body scope .none kV doc pm an cdv ct) ⟨us, []⟩ = pure (ps.zip us) := by
  unfold plainP at h
  simp only [Bool.and_eq_true, decide_eq_true_eq, List.isEmpty_iff, Option.isNone_iff_eq_none] at h
  obtain ⟨⟨⟨⟨⟨h1, h2⟩, h3⟩, h4⟩, h5⟩, h6⟩ := h
  unfold bindArgs
  simp only [PySem.W.fnOf, h1, h2, h3, h4, h5, List.map_nil, List.nil_append, List.append_nil]
  have m0 : (ps.filter fun n => ((ps.zip us).lookup n).isNone) = [] := by
    rw [List.filter_eq_nil_iff]
    intro n hn
    rw [zip_look hl n hn]
    simp
  have s0 : seqItems? Value.none = pure none := rfl
  rw [s0]
  simp only [pure_bind]
  simp
  have t0 : ps.length - (List.drop (0 - ps.length) ([] : List Value)).length = ps.length := by simp
  rw [if_neg (by omega)]
  simp only [t0, List.take_length, m0, List.isEmpty_nil, Bool.not_true, Bool.false_eq_true, if_false]
  rw [zip_fm hl h6]

theorem forIn_all {σ : Type} {l : List (Str × Value)} {e0 : σ} {f : (Str × Value) → List (Str × Value) × σ → Sem (ForInStep (List (Str × Value) × σ))} (ok : ∀ pre x post, l = pre ++ x :: post → f x (pre, e0) = pure (.yield (pre ++ [x], e0))) : forIn l (([] : List (Str × Value)), e0) f = pure (l, e0) := by
  have : ∀ rest pre, l = pre ++ rest → forIn rest (pre, e0) f = pure (l, e0) := by
    intro rest
    induction rest with
    | nil =>
      intro pre e
      rw [List.append_nil] at e
      rw [e]; rfl
    | cons x rest ih =>
      intro pre e
      rw [List.forIn_cons, ok pre x rest e]
      simp only [pure_bind]
      exact ih (pre ++ [x]) (by rw [e]; simp)
  exact this l [] rfl
theorem lookup_no {k : Str} : ∀ {l : List (Str × Value)}, k ∉ l.map (·.1) → l.lookup k = none
  | [], _ => rfl
  | (a, v) :: l, h => by
    rw [List.map_cons, List.mem_cons, not_or] at h
    rw [List.lookup_cons]
    have : (k == a) = false := by rw [beq_eq_false_iff_ne]; exact h.1
    rw [this]
    exact lookup_no h.2
theorem lookup_yes {k : Str} {α : Type} : ∀ {ks : List Str} {ws : List α}, ws.length = ks.length → k ∈ ks → ((ks.zip ws).lookup k).isSome = true
  | [], _, _, h => by cases h
  | a :: ks, [], hl, _ => by simp at hl
  | a :: ks, w :: ws, hl, h => by
    rw [List.zip_cons_cons, List.lookup_cons]
    cases e : k == a with
    | true => rfl
    | false =>
      exact lookup_yes (by simpa using hl) ((List.mem_cons.mp h).resolve_left fun q => by rw [q] at e; simp at e)
theorem reord_zip {ps ks : List Str} {ws : List Value} (hp : ks.Perm ps) (hl : ws.length = ks.length) : (ps.filterMap fun n => ((ks.zip ws).lookup n).map fun v => (n, v)) = ps.zip (reordV ps ks ws) := by
  unfold reordV
  have : ∀ l : List Str, (∀ p ∈ l, p ∈ ks) → (l.filterMap fun n => ((ks.zip ws).lookup n).map fun v => (n, v)) = l.zip (l.filterMap fun p => (ks.zip ws).lookup p) := by
    intro l
    induction l with
    | nil => intro _; rfl
    | cons p l ih =>
      intro h
      obtain ⟨v, hv⟩ := Option.isSome_iff_exists.mp (lookup_yes (ws := ws) hl (h p List.mem_cons_self))
      rw [List.filterMap_cons, List.filterMap_cons, hv]
      show (p, v) :: _ = _
      rw [ih fun q hq => h q (List.mem_cons_of_mem _ hq)]; rfl
  exact this ps fun p hpp => hp.mem_iff.mpr hpp
theorem kw_binds {ps ks : List Str} {x q : Str} {params : Arguments} {body : List Stmt} {scope : Scope} {kV doc pm : Value} {an : Option Addr} {cdv ct : Value} {ws : List Value} (h : plainP ps params = true) (hp : ks.Perm ps) (hl : ws.length = ks.length) :
    bindArgs (PySem.W.fnOf x q params body scope .none kV doc pm an cdv ct) ⟨[], ks.zip ws⟩ = pure (ps.zip (reordV ps ks ws)) := by
  unfold plainP at h
  simp only [Bool.and_eq_true, decide_eq_true_eq, List.isEmpty_iff, Option.isNone_iff_eq_none] at h
  obtain ⟨⟨⟨⟨⟨h1, h2⟩, h3⟩, h4⟩, h5⟩, h6⟩ := h
  have hkn : ks.Nodup := hp.nodup_iff.mpr h6
  have hz : (ks.zip ws).map (·.1) = ks := List.map_fst_zip (by omega)
  unfold bindArgs
  simp only [PySem.W.fnOf, h1, h2, h3, h4, h5, List.map_nil, List.nil_append, List.append_nil, List.zip_nil_right]
  rw [forIn_all (l := ks.zip ws) (fun pre x post e => by
    have e2 : ks = pre.map (·.1) ++ x.1 :: post.map (·.1) := by rw [← hz, e, List.map_append, List.map_cons]
    have hx : x.1 ∈ ps := hp.mem_iff.mp (by rw [e2]; simp)
    have hn : x.1 ∉ pre.map (·.1) := fun r => by
      rw [e2] at hkn
      exact (List.nodup_append.mp hkn).2.2 x.1 r x.1 List.mem_cons_self rfl
    have hc : ps.contains x.1 = true := by simpa using hx
    rw [if_pos (by rw [hc]; rfl), if_neg (by rw [lookup_no hn]; simp)])]
  have s0 : seqItems? Value.none = pure none := rfl
  have m0 : (ps.filter fun n => ((ks.zip ws).lookup n).isNone) = [] := by
    rw [List.filter_eq_nil_iff]
    intro n hn
    have := lookup_yes (ws := ws) hl (hp.mem_iff.mpr hn)
    rw [Option.isNone_iff_eq_none]
    intro r
    rw [r] at this; cases this
  rw [s0]
  simp only [pure_bind]
  simp
  have t0 : ps.length - (List.drop (0 - ps.length) ([] : List Value)).length = ps.length := by simp
  simp only [t0, List.take_length, m0, List.isEmpty_nil, Bool.not_true, Bool.false_eq_true, if_false]
  rw [reord_zip hp hl]
theorem FunD.kwB {K : Fr0} {x qual : Str} {params : Arguments} {body : List Stmt} {scope : Scope} {f : Addr} {fd : FuncData} {ps : List Str} (F : FunD K x qual params body scope [] [] f fd) (h : plainP ps params = true) : KwB K fd ps := by
  obtain ⟨oc, od, dV, kV, doc, pm, an, cdv, ct, osl, rfl, lk, hcd, hD, hK⟩ := F.ex
  rcases hD with ⟨_, rfl⟩ | ⟨e, _⟩
  · exact fun ks hp s ws hl => .of_eq (kw_binds h hp hl)
  · exact absurd rfl e
theorem FunD.pmOf {K : Fr0} {x qual : Str} {params : Arguments} {body : List Stmt} {scope : Scope} {f : Addr} {fd : FuncData} {ps : List Str} (F : FunD K x qual params body scope [] [] f fd) (h : plainP ps params = true) : PmOf K f ps := by
  obtain ⟨oc, od, dV, kV, doc, pm, an, cdv, ct, osl, rfl, lk, hcd, hD, hK⟩ := F.ex
  unfold plainP at h
  simp only [Bool.and_eq_true, decide_eq_true_eq] at h
  exact ⟨_, _, lk, rfl, h.1.1.1.1.2⟩
theorem cls_notFn {K : Fr0} {Cl : Addr} {ps : List Str} (c : Cls K Cl) (h : PmOf K Cl ps) : False := by
  obtain ⟨o, fd, e1, e2, _⟩ := h
  have := c.hd
  unfold PySem.W.hasDictIn PySem.W.clsIn at this
  rw [e1] at this
  obtain ⟨a, b, d, s⟩ := o
  simp only at e2
  rw [e2] at this
  cases this

/-! ### bodies -/
theorem start_get (N : List Str) (ds : List D) (b : List (List Int)) (ns i : Nat) : ({ e := ds.map (fun d => some (d, false)) ++ List.replicate (ns - ds.length) none, b := b } : St).get i = (ds[i]?).map fun d => (d, false) := by
  show (ds.map (fun d => some (d, false)) ++ List.replicate (ns - ds.length) none).getD i none = _
  rw [List.getD_eq_getElem?_getD]
  rcases Nat.lt_or_ge i ds.length with h | h
  · rw [List.getElem?_append_left (by simpa using h), List.getElem?_map, List.getElem?_eq_getElem h]; rfl
  · rw [List.getElem?_append_right (by simpa using h), List.getElem?_eq_none h]
    simp only [List.getElem?_replicate]
    split <;> rfl
section
variable {P : Program} {w : World} {K : Fr0} {mg : Str → Option Value} {base : Heap} {cm : Str → Option Addr} {k : Nat} {C : CallF}
theorem good_start {N : List Str} {H F : Hp} {L : List Addr} {b : List (List Int)} {ds : List D} {vs : List V} {ns : Nat} (g : Good K cm ⟨[], b⟩ [] H F L) (r : RepL K cm F L ds vs) (hn : N.length = ns) (hl : vs.length ≤ ns) : Good K cm { e := ds.map (fun d => some (d, false)) ++ List.replicate (ns - ds.length) none, b := b } (L2.start N vs) H F L where
  sub := g.sub
  len := by
    have := r.len
    unfold L2.start
    simp only [List.length_append, List.length_map, List.length_replicate]
    omega
  pure := fun i d h => by
    rw [start_get N] at h
    cases e : ds[i]? with
    | none => rw [e] at h; cases h
    | some d' =>
      rw [e] at h
      cases h
      obtain ⟨v, h1, h2⟩ := r.get e
      refine ⟨v, ?_, h2⟩
      unfold L2.start
      rw [List.getElem?_append_left (by rw [List.length_map]; exact (List.getElem?_eq_some_iff.mp h1).1), List.getElem?_map, h1]
      rfl
  own := fun i d h => by
    rw [start_get N] at h
    cases e : ds[i]? with
    | none => rw [e] at h; cases h
    | some d' => rw [e] at h; cases h
  apart := fun i j d e a _ h => by
    rw [start_get N] at h
    cases e : ds[i]? with
    | none => rw [e] at h; cases h
    | some d' => rw [e] at h; cases h
  box := g.box
  lenB := g.lenB
  nd := g.nd
theorem own_start {N : List Str} {b : List (List Int)} {ds : List D} {ns : Nat} {σ : L2.St} {a : Addr} : ¬ Own { e := ds.map (fun d => some (d, false)) ++ List.replicate (ns - ds.length) none, b := b } σ a := fun ⟨i, d, h, _⟩ => by
  rw [start_get N] at h
  cases e : ds[i]? with
  | none => rw [e] at h; cases h
  | some d' => rw [e] at h; cases h
/-- calls that stand whatever the room -/
structure Cals (P : Program) (w : World) (K : Fr0) (mg : Str → Option Value) (base : Heap) (gs : List (Str × Key)) (pm : List (Str × List Str)) (k : Nat) (cm : Str → Option Addr) (C : CallF) : Prop where
  gs : ∀ x z, gs.lookup x = some z → ConAt (mg x) z
  pm : ∀ f ps, pm.lookup f = some ps → ∃ fa, mg f = some (.ref fa) ∧ PmOf K fa ps
  cal : ∀ A, Room (k + 1) A → A.guards = some [] → Cal P w K mg base A k cm C
  ck : ClsOk K cm
  nb : ∀ x ∈ bNames, mg x = none
/-- a def of the table -/
structure Rw where
  key : Str
  at_ : Str × Option Str
  st : Stmt
  N : List Str
  ps : List Str
  bx : Bool
  F : FDef
def Rw.dd (r : Rw) (nm : Str) (q : Str) : He.DefD := ⟨r.at_, nm, q, defArgs r.st, defBody r.st, defScope r.st, [], []⟩
def scopeB (N ps : List Str) (sc : Scope) : Bool := decide (sc.kind = .function) && decide (sc.isCoroutine = false) && decide (sc.isGenerator = false) && decide N.Nodup && decide (N.take ps.length = ps) && (ps.all fun x => decide (sc.names.lookup x = some .local) || decide (sc.names.lookup x = some .cell)) && sc.names.all fun y => decide (y.2 ≠ .free)
theorem scope_of {N ps : List Str} {sc : Scope} (h : scopeB N ps sc = true) : FnScope N ps sc := by
  unfold scopeB at h
  simp only [Bool.and_eq_true, decide_eq_true_eq, List.all_eq_true, Bool.or_eq_true] at h
  obtain ⟨⟨⟨⟨⟨⟨h1, h2⟩, h3⟩, h4⟩, h5⟩, h6⟩, h7⟩ := h
  exact ⟨h1, h2, h3, h4, h5, h6, h7⟩
theorem lay_some {c : Ec} {Fu : Nat} {kd : Kd} {np : Nat} {sc : Scope} {body : List Stmt} {F : FDef} (h : lay c Fu kd np sc body = some F) : ∃ b, mapO (erS c Fu Fu sc) body = some b ∧ F = ⟨kd, np, c.N.length, b⟩ := by
  unfold lay at h
  obtain ⟨b, h1, h2⟩ := obind h
  cases h2
  exact ⟨b, h1, rfl⟩
section
variable {N ps : List Str} {x qual : Str} {params : Arguments} {body : List Stmt} {scope : Scope} {f : Addr} {fd : FuncData} {bx : Bool} {gs : List (Str × Key)} {pm : List (Str × List Str)} {F : FDef} {Fu M : Nat}
theorem body_run {cdv : Value} {A : Around} {outer : List Env} {s : Shared} {H : Hp} {E : XK} {s1 : St} {fl : Fl} {kd : Kd} (Cs : Cals P w K mg base gs pm k cm C) (Sc0 : FnScope N ps scope) (hlay : lay ⟨N, bx, gs, pm⟩ (Fu + 1) kd ps.length scope body = some F) (gd : A.guards = some []) (hr : Room (k + 1) (A.deeper (envOfC qual scope s.heap.objs.size f cdv)))
    {s0 : St} (h : runL (ex C M M) F.body s0 = some (fl, s1)) : PSs (cxOf CX0 P w K mg base N qual scope f cdv A outer s H E) body (tS K cm s0 fl s1) := by
  obtain ⟨bd, h1, rfl⟩ := lay_some hlay
  refine PSs.nox ?_
  have Am : Amb (cxOf CX0 P w K mg base N qual scope f cdv A outer s H E).nox cm k C := ⟨Sc0.nd, rfl, Cs.cal _ hr gd, Cs.ck, Cs.nb⟩
  have Z : SX (cxOf CX0 P w K mg base N qual scope f cdv A outer s H E).nox scope := ⟨rfl, Sc0.kind, PassesOwn.never⟩
  have S : Sc (cxOf CX0 P w K mg base N qual scope f cdv A outer s H E).nox ⟨N, bx, gs, pm⟩ scope := ⟨rfl, fun _ h => h, fun _ h => h, fun x h => .inr h, fun _ h => h, fun _ _ => rfl, Cs.gs, Cs.pm⟩
  exact ihs_list (X := (cxOf CX0 P w K mg base N qual scope f cdv A outer s H E).nox) (c := ⟨N, bx, gs, pm⟩) (ihs_all Fu (Fu + 1)) Am S Z h1 h
theorem fn_ok (FD : FunD K x qual params body scope [] [] f fd) (Sc0 : FnScope N ps scope) (hlay : lay ⟨N, bx, gs, pm⟩ (Fu + 1) .fn ps.length scope body = some F) (Cs : Cals P w K mg base gs pm k cm C) {C' : CallF} {g : Str} (hC : ∀ ds b, C' g ds b = runF C M F ds b) :
    FnG P w K mg base CX0 (k + 2) f fd ps (spC K cm C' g ps.length) := by
  refine okG FD Sc0 (fun vs H Q E h => h.1) fun cdv A outer s H vs Q E gd hr h => ?_
  obtain ⟨hl, F0, L, b, ds, d, fr, b', g0, r, hc, fin⟩ := h
  rw [hC] at hc
  unfold runF at hc
  split at hc
  · rename_i hnp
    obtain ⟨⟨fl, s1⟩, h1, h2⟩ := obind hc
    refine ⟨_, body_run (s0 := initSt F ds b) Cs Sc0 hlay gd hr h1, ?_⟩
    obtain ⟨bd, h3, hF⟩ := lay_some hlay
    have hns : F.ns = N.length := by rw [hF]
    have hpl : ps.length ≤ N.length := by have := congrArg List.length Sc0.pre; rw [List.length_take] at this; omega
    have gs : Good K cm (initSt F ds b) (L2.start N vs) H F0 L := good_start g0 r hns.symm (by rw [hns, hl]; exact hpl)
    refine ⟨b, H, F0, L, F0, L, ⟨gs, Ext.refl, fun a ha => absurd ha (own_start (N := N))⟩, ?_⟩
    cases fl with
    | nx =>
      cases h2
      intro σ' H' F' L' bo u p
      exact fin .non H' F' L' ⟨bo.g.sub, rfl, fun i d h => by simp [St.get] at h, fun i d h => by simp [St.get] at h, fun i j d e a _ h => by simp [St.get] at h, bo.g.box, bo.g.lenB, bo.g.nd⟩ bo.x (show Rep K cm F' L' .non .non from .non) fun _ _ e => by cases e
    | rt d' fr' =>
      cases h2
      intro v H' F' L' g1 x1 q1 n1
      exact fin v H' F' L' g1 x1 q1 fun d a e => by cases e; exact n1 rfl a
  · cases hc
/-- statements that keep the slots -/
def tF (K : Fr0) (cm : Str → Option Addr) (s s' : St) : TS := fun D σ H => ∃ b0 H0 F0 L0 F L, Bo K cm b0 H0 F0 L0 s σ H F L ∧ ∀ H' F' L', Bo K cm b0 H0 F0 L0 s' σ H' F' L' → Sub F F' → Pfx L L' → D.nx σ H'
section
variable {X : Cx} {s s1 s2 s' : St} {t : Tmp} {e o : Expr} {pos p1 : Pos} {d : D} {j : Nat} {c : Ec} {n sc : Nat}
theorem rf_nil : PSs X [] (tF X.K cm s s) := pss_nil.imp fun D σ H ⟨b0, H0, F0, L0, F, L, b, p⟩ => p H F L b (Sub.refl F) (Pfx.refl L)
theorem rf_cons {st : Stmt} {rest : List Stmt} (h1 : PS X st (tF X.K cm s s1)) (h2 : PSs X rest (tF X.K cm s1 s2)) : PSs X (st :: rest) (tF X.K cm s s2) :=
  (pss_cons h1 h2).imp fun D σ H ⟨b0, H0, F0, L0, F, L, b, p⟩ => ⟨b0, H0, F0, L0, F, L, b, fun H' F' L' b' i j => ⟨b0, H0, F0, L0, F', L', b', fun H'' F'' L'' b'' i' j' => p H'' F'' L'' b'' (i.trans i') (j.trans j')⟩⟩
theorem rf_asgF {f c : Str} {fs : List (Str × D)} (ck : ClsOk X.K cm) (he : PE X e (tE X.K cm s t s1)) (ht : take t s1 = some (d, s2)) (ho : PE X o (tVar j)) (hj : s2.get j = some (.ins c fs, true)) (hl : fs.length < 1000) (hf : f ∈ flds)
    (hs : swapsWith e (some (.Attribute o f p1)) pos.line X.env = pure false) : PS X (.Assign [.Attribute o f p1] e pos) (tF X.K cm s (s2.put j (.ins c (ptF f d fs)) true)) :=
  (ps_fld ho he.lk hs).imp fun D σ H ⟨b0, H0, F0, L0, F, L, b, pp⟩ => ⟨F, L, b.g, fun v H1 F1 L1 g1 x1 q1 n1 => (take_ok g1 b.g x1 q1 n1 ht).imp fun H2 ⟨F2, g2, x2, r2, _, _⟩ => by
    have b2 := b.expr g2 x2
    obtain ⟨a, e1, e2, e3, C, dx, vs, h1, h2, h3⟩ := g2.own j _ hj
    refine ⟨.ref a, e1, a, C, dx, vs, rfl, h2, ck.cls c C h1, ck.noat c C f h1 hf, by rw [← h3.len]; exact hl, ?_⟩
    exact pp _ F2 L1 (b2.upd (g2.mut hj e1 ⟨C, dx, _, h1, upd_same, h3.put r2⟩) (fun z hz => absurd (b2.own a ⟨j, _, hj, e1⟩) (by rw [hz]; simp)) fun c h => own_mut hj h) x2.sub x2.pre⟩
end
def isF : S → Bool
  | .asgF (.loc 0) _ _ => true
  | _ => false
theorem init_run {X : Cx} {C : CallF} {kk : Nat} {c : Ec} {Fu N : Nat} {sc : Scope} (A : Amb X cm kk C) (S : Sc X c sc) : ∀ {as : List Stmt} {As : List Mp.S} {n : Nat} {s : St} {fl : Fl} {s' : St}, mapO (erS c (Fu + 1) n sc) as = some As → As.all isF = true → runL (ex C N N) As s = some (fl, s') → fl = .nx ∧ PSs X as (tF X.K cm s s')
  | [], As, n, s, fl, s', h, _, h2 => by
    cases h
    cases h2
    exact ⟨rfl, rf_nil⟩
  | a :: as, As, n, s, fl, s', h, ha, h2 => by
    obtain ⟨A1, As', h3, h4, rfl⟩ := mapO_cons h
    rw [List.all_cons, Bool.and_eq_true] at ha
    unfold runL at h2
    obtain ⟨⟨f1, s1⟩, h5, h2⟩ := obind h2
    have one : f1 = .nx ∧ PS X a (tF X.K cm s s1) := by
      cases n with
      | zero => unfold erS at h3; cases h3
      | succ n =>
        cases N with
        | zero => unfold ex at h5; cases h5
        | succ N =>
          unfold erS at h3
          split at h3
          · obtain ⟨i, _, h⟩ := obind h3
            obtain ⟨E1, _, h⟩ := obind h
            cases h; cases ha.1
          · obtain ⟨tg, _, h⟩ := obind h3
            try dsimp only at h
            split at h
            · split at h
              · obtain ⟨_, _, h⟩ := obind h
                obtain ⟨Es, _, h⟩ := obind h
                split at h
                · cases h; cases ha.1
                · cases h
              · obtain ⟨E1, _, h⟩ := obind h
                split at h
                · cases h; cases ha.1
                · cases h
            · cases h
          · obtain ⟨O, _, h⟩ := obind h3
            obtain ⟨I1, _, h⟩ := obind h
            obtain ⟨E1, _, h⟩ := obind h
            split at h
            · cases h; cases ha.1
            · cases h
          · obtain ⟨O, h6, h⟩ := obind h3
            obtain ⟨E1, h7, h⟩ := obind h
            split at h
            · rename_i hn
              rw [Bool.and_eq_true] at hn
              cases h
              rcases er_isloc h6 hn.2 with ⟨j, rfl⟩ | hz
              case inr =>
                rcases hz with ⟨z, rfl⟩ | ⟨z, rfl⟩
                · unfold ex at h5
                  try dsimp only at h5
                  obtain ⟨_, _, h5⟩ := obind h5
                  obtain ⟨_, _, h5⟩ := obind h5
                  cases h5
                · unfold ex at h5
                  try dsimp only at h5
                  obtain ⟨_, _, h5⟩ := obind h5
                  obtain ⟨_, _, h5⟩ := obind h5
                  cases h5
              unfold ex at h5
              try dsimp only at h5
              obtain ⟨⟨t, s2⟩, h8, h5⟩ := obind h5
              obtain ⟨⟨d, s3⟩, h9, h5⟩ := obind h5
              try dsimp only at h5
              split at h5
              · rename_i cl fs h10
                split at h5
                · rename_i h11
                  cases h5
                  exact ⟨rfl, rf_asgF A.ck (se_all (ih_all Fu) A S h7 h8) h9 (Mp.er_var S h6 hn.2) h10 h11.1 h11.2 (er_nosw h7 hn.1)⟩
                · cases h5
              · cases h5
            · cases h
          · obtain ⟨i, _, h⟩ := obind h3
            obtain ⟨E1, _, h⟩ := obind h
            cases h; cases ha.1
          · obtain ⟨E1, _, h⟩ := obind h3
            split at h
            · cases h; cases ha.1
            · cases h
          · obtain ⟨E1, _, h⟩ := obind h3
            cases h; cases ha.1
          · obtain ⟨E1, _, h⟩ := obind h3
            obtain ⟨a', _, h⟩ := obind h
            obtain ⟨b', _, h⟩ := obind h
            cases h; cases ha.1
          · obtain ⟨I1, _, h⟩ := obind h3
            obtain ⟨tgg, _, h⟩ := obind h
            obtain ⟨b', _, h⟩ := obind h
            cases h; cases ha.1
          · obtain ⟨E1, _, h⟩ := obind h3
            obtain ⟨b', _, h⟩ := obind h
            cases h; cases ha.1
          · cases h3; cases ha.1
          · cases h3; cases ha.1
          · cases h3
    obtain ⟨rfl, o2⟩ := one
    obtain ⟨e1, p2⟩ := init_run A S h4 ha.2 h2
    exact ⟨e1, rf_cons o2 p2⟩
theorem in_ok (FD : FunD K x qual params body scope [] [] f fd) (Sc0 : FnScope N ps scope) (hlay : lay ⟨N, bx, gs, pm⟩ (Fu + 1) .ini ps.length scope body = some F) (hF : F.body.all isF = true) (Cs : Cals P w K mg base gs pm k cm C) {C' : CallF} {g : Str} (hC : ∀ ds b, C' g ds b = runI C M g F ds b) :
    FnG P w K mg base CX0 (k + 2) f fd ps (spI K cm C' g ps.length) := by
  refine okG FD Sc0 (fun vs H Q E h => h.1) fun cdv A outer s H vs Q E gd hr h => ?_
  obtain ⟨hl, y, dx, ws, Cl, H0, rfl, hcm, hy, hdx, hne, rfl, F0, L, b, ds, d, b', g0, r, hc, fin⟩ := h
  rw [hC] at hc
  unfold runI at hc
  split at hc
  · rename_i hnp
    obtain ⟨⟨fl, s1⟩, h1, h2⟩ := obind hc
    have h1 : runL (ex C M M) F.body ((initSt F (.ins g [] :: ds) b).put 0 (.ins g []) true) = some (fl, s1) := h1
    obtain ⟨bd, h3, hFe⟩ := lay_some hlay
    have hns : F.ns = N.length := by rw [hFe]
    have hbd : F.body = bd := by rw [hFe]
    rw [hbd] at h1 hF
    have Am : Amb (cxOf CX0 P w K mg base N qual scope f cdv A outer s (upd (upd H0 dx (HO.own y)) y (HO.ins Cl dx [])) E).nox cm k C := ⟨Sc0.nd, rfl, Cs.cal _ hr gd, Cs.ck, Cs.nb⟩
    have S : Sc (cxOf CX0 P w K mg base N qual scope f cdv A outer s (upd (upd H0 dx (HO.own y)) y (HO.ins Cl dx [])) E).nox ⟨N, bx, gs, pm⟩ scope := ⟨rfl, fun _ h => h, fun _ h => h, fun x h => .inr h, fun _ h => h, fun _ _ => rfl, Cs.gs, Cs.pm⟩
    obtain ⟨rfl, run⟩ := init_run (c := ⟨N, bx, gs, pm⟩) Am S h3 hF h1
    refine ⟨_, PSs.nox run, ?_⟩
    obtain ⟨p, h5, h6⟩ := obind h2
    have hpl : ps.length ≤ N.length := by have := congrArg List.length Sc0.pre; rw [List.length_take] at this; omega
    have hrl := r.len
    have hwl : ws.length + 1 ≤ N.length := by rw [List.length_cons] at hl; omega
    have gH : Good K cm ⟨[], b⟩ [] (upd (upd H0 dx (HO.own y)) y (HO.ins Cl dx [])) F0 L := (g0.laid hdx).laid (by rw [upd_ne (fun z => hne z.symm)]; exact hy)
    have g1 : Good K cm { e := none :: (ds.map (fun d => some (d, false)) ++ List.replicate (F.ns - (ds.length + 1)) none), b := b } (L2.start N (.ref y :: ws)) (upd (upd H0 dx (HO.own y)) y (HO.ins Cl dx [])) F0 L := by
      have gt : ∀ i, ({ e := none :: (ds.map (fun d => some (d, false)) ++ List.replicate (F.ns - (ds.length + 1)) none), b := b } : St).get i = match i with
        | 0 => none
        | i + 1 => (ds[i]?).map fun d => (d, false) := by
        intro i
        cases i with
        | zero => rfl
        | succ i =>
          have := start_get N ds b (F.ns - 1) i
          rw [Nat.sub_sub, Nat.add_comm 1] at this
          exact this
      refine ⟨gH.sub, ?_, fun i d h => ?_, fun i d h => ?_, fun i j d e a _ h => ?_, gH.box, gH.lenB, gH.nd⟩
      · unfold L2.start
        simp only [List.length_cons, List.length_append, List.length_map, List.length_replicate, List.map_cons]
        omega
      · rw [gt] at h
        cases i with
        | zero => cases h
        | succ i =>
          cases e : ds[i]? with
          | none => simp [e] at h
          | some d' =>
            simp only [e, Option.map_some, Option.some.injEq, Prod.mk.injEq, and_true] at h
            subst h
            obtain ⟨v, h7, h8⟩ := r.get e
            refine ⟨v, ?_, h8⟩
            unfold L2.start
            rw [List.getElem?_append_left (by simp; exact (List.getElem?_eq_some_iff.mp h7).1), List.getElem?_map, List.getElem?_cons_succ, h7]
            rfl
      · rw [gt] at h
        cases i with
        | zero => cases h
        | succ i => cases e : ds[i]? <;> simp [e] at h
      · rw [gt] at h
        cases i with
        | zero => cases h
        | succ i => cases e : ds[i]? <;> simp [e] at h
    have hyL : y ∉ L := fun z => g0.dL z hy
    have g2 := g1.putO (d := .ins g []) (g0.fnone hy) hyL ⟨Cl, dx, [], hcm, upd_same, .nil⟩ (fun ⟨i, d, h, _⟩ => by
      cases i with
      | zero => cases h
      | succ i =>
        have := start_get N ds b (F.ns - 1) i
        rw [Nat.sub_sub, Nat.add_comm 1] at this
        have h : ({ e := (ds.map (fun d => some (d, false)) ++ List.replicate (F.ns - (ds.length + 1)) none), b := b } : St).get i = some (d, true) := h
        rw [this] at h
        cases e : ds[i]? <;> simp [e] at h) 0
    have eσ : (L2.start N (V.ref y :: ws)).set 0 (some (.ref y)) = L2.start N (.ref y :: ws) := by
      unfold L2.start
      rfl
    rw [eσ] at g2
    refine ⟨b, H0, F0, L, F0, L, ⟨g2, ?_, fun a ⟨i, d, h7, h8⟩ => ?_⟩, ?_⟩
    · exact (Ext.laid hdx).then (g0.laid hdx) (Ext.laid (by rw [upd_ne (fun z => hne z.symm)]; exact hy))
    · have : i = 0 := by
        rw [get_put] at h7
        split at h7
        · rename_i c; exact c.1
        · cases i with
          | zero => rfl
          | succ i =>
            have := start_get N ds b (F.ns - 1) i
            rw [Nat.sub_sub, Nat.add_comm 1] at this
            have h : ({ e := (ds.map (fun d => some (d, false)) ++ List.replicate (F.ns - (ds.length + 1)) none), b := b } : St).get i = some (d, true) := h7
            rw [this] at h
            cases e : ds[i]? <;> simp [e] at h
      subst this
      have : (L2.start N (V.ref y :: ws))[0]? = some (some (.ref y)) := rfl
      rw [this] at h8
      cases h8
      exact hy
    · intro H' F' L' bo u pf
      obtain ⟨dd, oo⟩ := p
      cases dd with
      | ins c fs =>
        cases h6
        have gb : Good K cm ⟨[], s1.b⟩ [] H' F' L' := ⟨bo.g.sub, rfl, fun i d h => by simp [St.get] at h, fun i d h => by simp [St.get] at h, fun i j d e a _ h => by simp [St.get] at h, bo.g.box, bo.g.lenB, bo.g.nd⟩
        have h0 : (L2.start N (V.ref y :: ws))[0]? = some (some (.ref y)) := rfl
        cases oo with
        | false =>
          obtain ⟨v, h7, h8⟩ := bo.g.pure 0 _ h5
          rw [h0] at h7; cases h7
          exact fin H' F' L' gb bo.x h8
        | true =>
          obtain ⟨a, h7, h8, h9, C1, dx1, vs1, h10, h11, h12⟩ := bo.g.own 0 _ h5
          rw [h0] at h7; cases h7
          have ex := Ext.upd1 (s' := ⟨[], s1.b⟩) (a := y) (o := .ins C1 dx1 vs1) bo.x (.inl hy) h8 (Fz.refl _)
          rw [upd_self h11] at ex
          refine fin H' (upd F' y (.ins C1 dx1 vs1)) L' ⟨fun a o h => ?_, rfl, fun i d h => by simp [St.get] at h, fun i d h => by simp [St.get] at h, fun i j d e a _ h => by simp [St.get] at h, fun k is h => ?_, bo.g.lenB, bo.g.nd⟩ ex (.ins h10 upd_same (h12.mono (sub_upd h8) (Pfx.refl L')))
          · by_cases e : a = y
            · subst e; rw [upd_same] at h; cases h; exact h11
            · rw [upd_ne e] at h; exact bo.g.sub a o h
          · obtain ⟨a, h13, h14, h15⟩ := bo.g.box k is h
            refine ⟨a, h13, ?_, h15⟩
            rw [upd_ne fun e => h9 (by rw [← e]; exact List.mem_of_getElem? h13)]
            exact h14
      | _ => cases h6
  · cases hc
end
end
end Mp
/-! Mp, part Zf: the table of defs, the law. -/
namespace Mp
open PySem PySem.Spec PyProof.Rows L2 RZ
def stName : Stmt → Str
  | .FunctionDef n _ _ _ _ _ _ _ _ _ => n
  | _ => ""
def dotS : Str := "."
def noDot (x : Str) : Bool := !x.cps.toList.contains 46
def Rw.qual (r : Rw) : Str := match r.at_.2 with
  | none => r.at_.1
  | some m => r.at_.1 ++ dotS ++ m
def Rw.d (r : Rw) : He.DefD := ⟨r.at_, stName r.st, r.qual, defArgs r.st, defBody r.st, defScope r.st, [], []⟩
def tblOf (rows : List Rw) : Tbl := rows.map fun r => (r.key, r.F)
/-- the fuel of the eraser -/
def fuelE : Nat := 40
def Rw.laid (gs : List (Str × Key)) (pm : List (Str × List Str)) (r : Rw) : Prop := lay ⟨r.N, r.bx, gs, pm⟩ fuelE r.F.kd r.ps.length (defScope r.st) (defBody r.st) = some r.F
def Rw.kinds (cls : List Str) (r : Rw) : Bool := match r.F.kd, r.at_.2 with
  | .fn, none => decide (r.key = r.at_.1) && noDot r.key && !cls.contains r.key
  | .fn, some m => decide (r.key = r.at_.1 ++ dotS ++ m) && noDot r.at_.1 && noDot m && cls.contains r.at_.1
  | .ini, some m => decide (m = ("__init__" : Str)) && decide (r.key = r.at_.1) && noDot r.key && cls.contains r.key && r.F.body.all isF
  | .ini, none => false
def Rw.ok (cls : List Str) (r : Rw) : Bool := plainP r.ps (defArgs r.st) && scopeB r.N r.ps (defScope r.st) && r.kinds cls
/-- what is to be known of the module's names -/
def Rw.facts (r : Rw) : List He.Fa := match r.at_.2 with
  | none => [.glo r.at_.1]
  | some m => match r.F.kd with
    | .fn => [.meth r.at_.1 m]
    | .ini => []
def clsFacts (c : Str) : List He.Fa := [.glo c, .cls c, .mkr c] ++ flds.map fun f => .noat c f
/-- the parameters' names that calls by names lean on -/
def pmOk (rows : List Rw) (pm : List (Str × List Str)) : Bool := pm.all fun p => rows.any fun r => decide (r.at_ = (p.1, none)) && decide (r.key = p.1) && decide (r.ps = p.2)
def conFact (p : Str × Key) : He.Fa := match p.2 with
  | .inr z => .str p.1 z
  | .inl i => .int p.1 i
def factsOf (rows : List Rw) (cls : List Str) (gs : List (Str × Key)) : List He.Fa := rows.flatMap Rw.facts ++ cls.flatMap clsFacts ++ (gs.map conFact ++ bNames.map fun x => .free x)
theorem fact_mem {fa : List He.Fa} {fn : List He.DefD} {K : PySem.W.Frag} (c : He.SaysD fa fn K) {f : He.Fa} (h : f ∈ fa) : f.ok K = true := by
  obtain ⟨i, hi⟩ := List.getElem?_of_mem h
  exact c.fact i hi
theorem def_mem {fa : List He.Fa} {fn : List He.DefD} {K : PySem.W.Frag} (c : He.SaysD fa fn K) {d : He.DefD} (h : d ∈ fn) : ∃ fd, FunD K d.name d.qual d.params d.body d.scope (d.dvs K) (d.kws K) (He.fAd K d.at_) fd := by
  obtain ⟨i, hi⟩ := List.getElem?_of_mem h
  exact c.def_ i hi
theorem lookup_mem {T : Tbl} {f : Str} {F : FDef} (h : T.lookup f = some F) : (f, F) ∈ T := by
  induction T with
  | nil => cases h
  | cons p T ih =>
    obtain ⟨g, G⟩ := p
    rw [List.lookup_cons] at h
    cases e : f == g with
    | true => rw [e] at h; cases h; rw [eq_of_beq e]; exact List.mem_cons_self
    | false => rw [e] at h; exact List.mem_cons_of_mem _ (ih h)
theorem cps_app (a b : Str) : (a ++ b).cps.toList = a.cps.toList ++ b.cps.toList := by
  show (a.cps ++ b.cps).toList = _
  simp
theorem str_ext {a b : Str} (h : a.cps.toList = b.cps.toList) : a = b := by
  cases a; cases b
  congr
  exact Array.toList_inj.mp h
theorem dot_split {c m c' m' : Str} (h : c ++ dotS ++ m = c' ++ dotS ++ m') (h1 : noDot c' = true) (h2 : noDot m' = true) : c = c' ∧ m = m' := by
  have hl : c.cps.toList ++ 46 :: m.cps.toList = c'.cps.toList ++ 46 :: m'.cps.toList := by
    have := congrArg (fun z : Str => z.cps.toList) h
    simp only [cps_app] at this
    have d : dotS.cps.toList = [46] := by decide
    rw [d] at this
    simpa using this
  have n1 : 46 ∉ c'.cps.toList := by unfold noDot at h1; simpa using h1
  have n2 : 46 ∉ m'.cps.toList := by unfold noDot at h2; simpa using h2
  have key : ∀ {x y x' y' : List Nat}, x ++ 46 :: y = x' ++ 46 :: y' → 46 ∉ x' → 46 ∉ y' → x = x' ∧ y = y' := by
    intro x
    induction x with
    | nil =>
      intro y x' y' e a1 a2
      cases x' with
      | nil => simp at e; exact ⟨rfl, e⟩
      | cons u x' => simp at e; exact absurd (by rw [e.1]; simp) a1
    | cons u x ih =>
      intro y x' y' e a1 a2
      cases x' with
      | nil =>
        simp at e
        exact absurd (by rw [← e.2]; simp) a2
      | cons u' x' =>
        simp at e
        obtain ⟨h1, h2⟩ := ih e.2 (fun z => a1 (List.mem_cons_of_mem _ z)) a2
        exact ⟨by rw [e.1, h1], h2⟩
  obtain ⟨e1, e2⟩ := key hl n1 n2
  exact ⟨str_ext e1, str_ext e2⟩
theorem dot_in (c m : Str) : noDot (c ++ dotS ++ m) = false := by
  unfold noDot
  simp only [cps_app]
  have d : dotS.cps.toList = [46] := by decide
  rw [d]
  simp
section
variable {P : Program} {w : World} {K : Fr0} {mg : Str → Option Value} {base h : Heap} {rows : List Rw} {cls : List Str} {gs : List (Str × Key)} {pm : List (Str × List Str)} {M : Nat}
def cmOf (K : Fr0) (cls : List Str) (c : Str) : Option Addr := if cls.contains c = true then some (He.ga K c) else none
theorem cm_some {c : Str} {Cl : Addr} (h : cmOf K cls c = some Cl) : c ∈ cls ∧ Cl = He.ga K c := by
  unfold cmOf at h
  split at h
  · rename_i e; cases h; exact ⟨by simpa using e, rfl⟩
  · cases h
theorem cm_of {c : Str} (h : cls.contains c = true) : cmOf K cls c = some (He.ga K c) := if_pos h
theorem mem_rf {r : Rw} {f : He.Fa} (hr : r ∈ rows) (hf : f ∈ r.facts) : f ∈ factsOf rows cls gs := List.mem_append_left _ (List.mem_append_left _ (List.mem_flatMap.mpr ⟨r, hr, hf⟩))
theorem mem_cf {c : Str} {f : He.Fa} (hc : c ∈ cls) (hf : f ∈ clsFacts c) : f ∈ factsOf rows cls gs := List.mem_append_left _ (List.mem_append_right _ (List.mem_flatMap.mpr ⟨c, hc, hf⟩))
theorem dotted {q : Rw} {cc m : Str} (hk : q.kinds cls = true) (hke : q.key = cc ++ ("." : Str) ++ m) : ∃ m', q.at_.2 = some m' ∧ q.F.kd = .fn ∧ q.at_.1 = cc ∧ m' = m ∧ cls.contains cc = true := by
  have hke : q.key = cc ++ dotS ++ m := hke
  unfold Rw.kinds at hk
  cases hkd : q.F.kd with
  | fn =>
    cases ha : q.at_.2 with
    | none =>
      simp only [hkd, ha, Bool.and_eq_true, decide_eq_true_eq] at hk
      have := hk.1.2
      rw [hke, dot_in] at this; cases this
    | some m' =>
      simp only [hkd, ha, Bool.and_eq_true, decide_eq_true_eq] at hk
      obtain ⟨⟨⟨h1, h2⟩, h3⟩, h4⟩ := hk
      obtain ⟨e1, e2⟩ := dot_split (hke.symm.trans h1) h2 h3
      exact ⟨m', rfl, rfl, e1.symm, e2.symm, by rw [e1]; exact h4⟩
  | ini =>
    cases ha : q.at_.2 with
    | none => simp [hkd, ha] at hk
    | some m' =>
      simp only [hkd, ha, Bool.and_eq_true, decide_eq_true_eq] at hk
      have := hk.1.1.2
      rw [hke, dot_in] at this; cases this
theorem cals_at (X : K.In h) (G : h.Ns mainGlobals mg) (c : He.SaysD (factsOf rows cls gs) (rows.map Rw.d) K) (hok : rows.all (Rw.ok cls) = true) (hd : cls.all noDot = true) (hpm : pmOk rows pm = true) (hl : ∀ r ∈ rows, r.laid gs pm) : ∀ d : Nat, Cals P w K mg base gs pm (2 * d) (cmOf K cls) (callAt (tblOf rows) M d)
  | 0 => {
    cal := fun A hr gd => {
      room := hr
      gd := gd
      fn := fun f ds b r _ _ h => by cases h
      cls := fun f Cl ds b r _ h => by cases h
      kw := fun f fa ps ds b r _ _ _ h => by cases h
      mc := fun c m ds b r h => by cases h
      mt := fun c m Cl ds b r _ h => by cases h }
    ck := ⟨fun x C e => by
      obtain ⟨h1, rfl⟩ := cm_some e
      exact He.cls_ok (fact_mem c (mem_cf h1 (by unfold clsFacts; simp))), fun x C f e hf => by
      obtain ⟨h1, rfl⟩ := cm_some e
      exact He.noat_ok (fact_mem c (mem_cf h1 (List.mem_append_right _ (List.mem_map_of_mem hf))))⟩
    gs := fun x z h => by
      have hm : (x, z) ∈ gs := by
        clear c hl
        induction gs with
        | nil => cases h
        | cons p gs ih =>
          obtain ⟨y, u⟩ := p
          rw [List.lookup_cons] at h
          cases e : x == y with
          | true => rw [e] at h; cases h; rw [eq_of_beq e]; exact List.mem_cons_self
          | false => rw [e] at h; exact List.mem_cons_of_mem _ (ih h)
      have hf := fact_mem c (List.mem_append_right _ (List.mem_append_left _ (List.mem_map_of_mem (f := conFact) hm)))
      cases z with
      | inr z => exact He.str_ok X G hf
      | inl i => exact He.int_ok X G hf
    pm := fun f ps h => by
      have hm : (f, ps) ∈ pm := by
        clear c hl hpm
        induction pm with
        | nil => cases h
        | cons p pm ih =>
          obtain ⟨y, u⟩ := p
          rw [List.lookup_cons] at h
          cases e : f == y with
          | true => rw [e] at h; cases h; rw [eq_of_beq e]; exact List.mem_cons_self
          | false => rw [e] at h; exact List.mem_cons_of_mem _ (ih h)
      have h1 := List.all_eq_true.mp hpm _ hm
      obtain ⟨q, hq, h2⟩ := List.any_eq_true.mp h1
      simp only [Bool.and_eq_true, decide_eq_true_eq] at h2
      obtain ⟨⟨e1, e2⟩, rfl⟩ := h2
      have ho := List.all_eq_true.mp hok q hq
      unfold Rw.ok at ho
      rw [Bool.and_eq_true, Bool.and_eq_true] at ho
      obtain ⟨fd, FD⟩ := def_mem c (List.mem_map_of_mem (f := Rw.d) hq)
      have FD : FunD K (stName q.st) q.qual (defArgs q.st) (defBody q.st) (defScope q.st) [] [] (He.fAd K q.at_) fd := FD
      rw [e1] at FD
      refine ⟨He.ga K f, ?_, FunD.pmOf FD ho.1.1⟩
      exact He.glo_ok X G (fact_mem c (mem_rf hq (by unfold Rw.facts; rw [e1]; simp)))
    nb := fun x hx => He.free_ok X G (fact_mem c (List.mem_append_right _ (List.mem_append_right _ (List.mem_map_of_mem hx)))) }
  | d + 1 => by
    have IH := cals_at X G c hok hd hpm hl d
    refine ⟨IH.gs, IH.pm, fun A hr gd => ?_, IH.ck, IH.nb⟩
    have row : ∀ {f : Str} {ds : List D} {b : List (List Int)} {r : D × Bool × List (List Int)}, callAt (tblOf rows) M (d + 1) f ds b = some r → ∃ q ∈ rows, q.key = f ∧ (∀ ds b, callAt (tblOf rows) M (d + 1) f ds b = match q.F.kd with
        | .fn => runF (callAt (tblOf rows) M d) M q.F ds b
        | .ini => runI (callAt (tblOf rows) M d) M f q.F ds b) ∧ q.laid gs pm ∧ plainP q.ps (defArgs q.st) = true ∧ FnScope q.N q.ps (defScope q.st) ∧ q.kinds cls = true ∧ ∃ fd, FunD K (stName q.st) q.qual (defArgs q.st) (defBody q.st) (defScope q.st) [] [] (He.fAd K q.at_) fd := by
      intro f ds b r h
      unfold callAt at h
      cases e : (tblOf rows).lookup f with
      | none => rw [e] at h; cases h
      | some F =>
        have hm := lookup_mem e
        unfold tblOf at hm
        rw [List.mem_map] at hm
        obtain ⟨q, hq, e2⟩ := hm
        cases e2
        have ho := List.all_eq_true.mp hok q hq
        unfold Rw.ok at ho
        rw [Bool.and_eq_true, Bool.and_eq_true] at ho
        refine ⟨q, hq, rfl, fun ds b => ?_, hl q hq, ho.1.1, scope_of ho.1.2, ho.2, def_mem c (List.mem_map_of_mem (f := Rw.d) hq)⟩
        show (match (tblOf rows).lookup q.key with
          | none => none
          | some F => (match F.kd with
            | .fn => runF (callAt (tblOf rows) M d) M F ds b
            | .ini => runI (callAt (tblOf rows) M d) M q.key F ds b)) = _
        rw [e]
    have bnd : ∀ {q : Rw} {fd : FuncData}, plainP q.ps (defArgs q.st) = true → FunD K (stName q.st) q.qual (defArgs q.st) (defBody q.st) (defScope q.st) [] [] (He.fAd K q.at_) fd → Binds K fd q.ps [] := fun hp FD => FD.bindsN fun _ _ _ _ _ _ us hu => plain_binds hp hu
    have np : ∀ {q : Rw}, q.laid gs pm → q.F.np = q.ps.length := fun {q} hq => by
      obtain ⟨b, _, e⟩ := lay_some hq
      rw [e]
    refine ⟨hr, gd, fun f fa ps ds b r hmg hpo hdot h => ?_, fun f ds b r hcm hdot h => ?_, fun f Cl ds b r hcm h => ?_, fun cc m ds b r h => ?_, fun cc m Cl ds b r hcm h => ?_⟩
    · obtain ⟨q, hq, rfl, hC, hla, hp, hs, hk, fd, FD⟩ := row h
      rw [hC] at h
      unfold Rw.kinds at hk
      cases hkd : q.F.kd with
      | ini =>
        cases ha : q.at_.2 with
        | none => simp [hkd, ha] at hk
        | some m =>
          simp only [hkd, ha, Bool.and_eq_true] at hk
          have hcl : q.key ∈ cls := by simpa using hk.1.2
          have e1 : mg q.key = some (.ref (He.ga K q.key)) := He.glo_ok X G (fact_mem c (mem_cf (c := q.key) hcl (by unfold clsFacts; simp)))
          rw [hmg] at e1
          cases e1
          exact (cls_notFn (IH.ck.cls _ _ (cm_of hk.1.2)) hpo).elim
      | fn =>
        cases ha : q.at_.2 with
        | some m =>
          simp only [hkd, ha, Bool.and_eq_true, decide_eq_true_eq] at hk
          have := dot_in q.at_.1 m
          rw [← hk.1.1.1] at this
          unfold noDot at this
          rw [hdot] at this
          cases this
        | none =>
          simp only [hkd, ha, Bool.and_eq_true, decide_eq_true_eq] at hk
          simp only [hkd] at h hC
          have e0 : q.at_ = (q.key, none) := by
            have h1 := hk.1.1
            rw [Prod.ext_iff]; exact ⟨h1.symm, ha⟩
          have hla' : lay ⟨q.N, q.bx, gs, pm⟩ fuelE .fn q.ps.length (defScope q.st) (defBody q.st) = some q.F := by rw [← hkd]; exact hla
          have go := fn_ok (P := P) (w := w) (mg := mg) (base := base) FD hs hla' IH hC
          have hlen : ds.length = q.F.np := by
            unfold runF at h
            split at h
            · assumption
            · cases h
          rw [e0] at FD go
          have e1 : mg q.key = some (.ref (He.ga K q.key)) := He.glo_ok X G (fact_mem c (mem_rf hq (by unfold Rw.facts; rw [ha, ← hk.1.1]; simp)))
          rw [hmg] at e1
          cases e1
          obtain rfl := hpo.det (FunD.pmOf FD hp)
          exact ⟨fd, by rw [hlen, np hla], go, FunD.kwB FD hp, FD.kp⟩
    · obtain ⟨q, hq, rfl, hC, hla, hp, hs, hk, fd, FD⟩ := row h
      rw [hC] at h
      unfold Rw.kinds at hk
      cases hkd : q.F.kd with
      | ini =>
        cases ha : q.at_.2 with
        | none => simp [hkd, ha] at hk
        | some m =>
          simp only [hkd, ha, Bool.and_eq_true] at hk
          rw [cm_of hk.1.2] at hcm; cases hcm
      | fn =>
        cases ha : q.at_.2 with
        | some m =>
          simp only [hkd, ha, Bool.and_eq_true, decide_eq_true_eq] at hk
          have := dot_in q.at_.1 m
          rw [← hk.1.1.1] at this
          unfold noDot at this
          rw [hdot] at this
          cases this
        | none =>
          simp only [hkd, ha, Bool.and_eq_true, decide_eq_true_eq] at hk
          simp only [hkd] at h hC
          have e0 : q.at_ = (q.key, none) := by
            have h1 := hk.1.1
            rw [Prod.ext_iff]; exact ⟨h1.symm, ha⟩
          have hla' : lay ⟨q.N, q.bx, gs, pm⟩ fuelE .fn q.ps.length (defScope q.st) (defBody q.st) = some q.F := by rw [← hkd]; exact hla
          have go := fn_ok (P := P) (w := w) (mg := mg) (base := base) FD hs hla' IH hC
          have hlen : ds.length = q.F.np := by
            unfold runF at h
            split at h
            · assumption
            · cases h
          rw [e0] at FD go
          refine ⟨He.ga K q.key, ⟨fd, q.ps, by rw [hlen, np hla], go, ?_⟩, ?_, ?_⟩
          · exact FD.bindsN fun _ _ _ _ _ _ us hu => plain_binds hp hu
          · exact He.glo_ok X G (fact_mem c (mem_rf hq (by unfold Rw.facts; rw [ha, hk.1.1]; simp)))
          · exact FD.kp
    · obtain ⟨q, hq, rfl, hC, hla, hp, hs, hk, fd, FD⟩ := row h
      rw [hC] at h
      obtain ⟨hcl, rfl⟩ := cm_some hcm
      unfold Rw.kinds at hk
      cases hkd : q.F.kd with
      | fn =>
        cases ha : q.at_.2 with
        | none =>
          simp only [hkd, ha, Bool.and_eq_true] at hk
          have := hk.2
          rw [List.contains_iff_mem.mpr hcl] at this; cases this
        | some m =>
          exfalso
          simp only [hkd, ha, Bool.and_eq_true, decide_eq_true_eq] at hk
          have h1 := dot_in q.at_.1 m
          have h2 := List.all_eq_true.mp hd _ hcl
          rw [hk.1.1.1] at h2
          rw [h1] at h2; cases h2
      | ini =>
        cases ha : q.at_.2 with
        | none => simp [hkd, ha] at hk
        | some m =>
          simp only [hkd, ha, Bool.and_eq_true, decide_eq_true_eq] at hk
          simp only [hkd] at h hC
          obtain ⟨⟨⟨⟨hm, hkey⟩, hnd⟩, hcc⟩, hbF⟩ := hk
          have e0 : q.at_ = (q.key, some ("__init__" : Str)) := by
            rw [Prod.ext_iff]; exact ⟨hkey.symm, by rw [ha, hm]⟩
          have hla' : lay ⟨q.N, q.bx, gs, pm⟩ fuelE .ini q.ps.length (defScope q.st) (defBody q.st) = some q.F := by rw [← hkd]; exact hla
          have go := in_ok (P := P) (w := w) (mg := mg) (base := base) FD hs hla' hbF IH hC
          have hh : (ds.length + 1 = q.F.np ∧ ds.isEmpty = false) ∧ r.2.1 = false := by
            unfold runI at h
            split at h
            · rename_i h1
              refine ⟨h1, ?_⟩
              obtain ⟨⟨fl, s1⟩, _, h⟩ := obind h
              cases fl with
              | rt d f => cases h
              | nx =>
                obtain ⟨p, _, h⟩ := obind h
                try dsimp only at h
                split at h
                · cases h; rfl
                · cases h
            · cases h
          rw [e0] at FD go
          have mk := He.mkr_ok (x := q.key) (fact_mem c (mem_cf hcl (by unfold clsFacts; simp)))
          refine ⟨fun e => by (have := hh.1.2; rw [e] at this; cases this), hh.2, _, mk, ⟨fd, q.ps, by rw [hh.1.1, np hla], go, ?_⟩, ?_⟩
          · exact FD.bindsN fun _ _ _ _ _ _ us hu => plain_binds hp hu
          · exact He.glo_ok X G (fact_mem c (mem_cf hcl (by unfold clsFacts; simp)))
    · obtain ⟨q, hq, hke, hC, hla, hp, hs, hk, fd, FD⟩ := row h
      obtain ⟨m', ha, hkd, e1, e2, hcc⟩ := dotted hk hke
      exact ⟨_, cm_of hcc⟩
    · obtain ⟨q, hq, hke, hC, hla, hp, hs, hk, fd, FD⟩ := row h
      obtain ⟨m', ha, hkd, e1, e2, hcc⟩ := dotted hk hke
      subst e2
      rw [hC] at h
      simp only [hkd] at h hC
      obtain ⟨_, rfl⟩ := cm_some hcm
      have e0 : q.at_ = (cc, some m') := by
        rw [Prod.ext_iff]; exact ⟨e1, ha⟩
      have hla' : lay ⟨q.N, q.bx, gs, pm⟩ fuelE .fn q.ps.length (defScope q.st) (defBody q.st) = some q.F := by rw [← hkd]; exact hla
      have go := fn_ok (P := P) (w := w) (mg := mg) (base := base) FD hs hla' IH hC
      have hlen : ds.length = q.F.np := by
        unfold runF at h
        split at h
        · assumption
        · cases h
      rw [e0] at FD go
      refine ⟨He.ma K (He.ga K cc) m', He.meth_ok (fact_mem c (mem_rf hq (by unfold Rw.facts; rw [ha, hkd, e1]; simp))), ⟨fd, q.ps, by rw [hlen, np hla], go, ?_⟩⟩
      exact FD.bindsN fun _ _ _ _ _ _ us hu => plain_binds hp hu
/-! ### the law -/
theorem law_F {fa : Addr} {lk : Str} {D0 : Nat} {x : Str} {n : Nat} (X : K.In h) (G : h.Ns mainGlobals mg) (c : He.SaysD (factsOf rows cls gs) (rows.map Rw.d) K) (hok : rows.all (Rw.ok cls) = true) (hd : cls.all noDot = true) (hpm : pmOk rows pm = true) (hl : ∀ r ∈ rows, r.laid gs pm)
    (hfa : mg lk = some (.ref fa)) (hq : ∃ q ∈ rows, q.key = lk ∧ q.at_.2 = none ∧ q.ps = [x] ∧ (tblOf rows).lookup lk = some q.F) (hall : ∀ ns : List Int, ns.length ≤ n → ∃ fr b', callAt (tblOf rows) M (D0 + 1) lk [.scr ns] [] = some (.bl true, fr, b')) :
    ∃ (fd : FuncData) (sp : Sp), (∀ (s : Shared) (u : Value), BindsTo s fd ⟨[u], []⟩ [(x, u)]) ∧ (∀ (H : Hp) (a : Addr) (ns : List Int), ns.length ≤ n → Only H → SqL K H a (ns.map V.int) → sp [.ref a] H (fun v _ => v = .bl true) fun _ _ _ => False) ∧
      ∀ base : Heap, K.In base → base.Ns mainGlobals mg → FnG P w K mg base CX0 (2 * D0 + 2) fa fd [x] sp := by
  obtain ⟨q, hq, hke, hat, hps, hlk⟩ := hq
  have ho := List.all_eq_true.mp hok q hq
  unfold Rw.ok at ho
  rw [Bool.and_eq_true, Bool.and_eq_true] at ho
  obtain ⟨⟨hp, hs⟩, hk⟩ := ho
  have hla := hl q hq
  obtain ⟨fd, FD⟩ := def_mem c (List.mem_map_of_mem (f := Rw.d) hq)
  unfold Rw.kinds at hk
  cases hkd : q.F.kd with
  | ini => simp [hkd, hat] at hk
  | fn =>
    simp only [hkd, hat, Bool.and_eq_true, decide_eq_true_eq] at hk
    have e0 : q.at_ = (lk, none) := by
      rw [Prod.ext_iff]; exact ⟨by rw [← hke]; exact hk.1.1.symm, hat⟩
    have FD : FunD K (stName q.st) q.qual (defArgs q.st) (defBody q.st) (defScope q.st) [] [] (He.fAd K q.at_) fd := FD
    have hla' : lay ⟨q.N, q.bx, gs, pm⟩ fuelE .fn q.ps.length (defScope q.st) (defBody q.st) = some q.F := by rw [← hkd]; exact hla
    have hfa2 : mg lk = some (.ref (He.ga K lk)) := He.glo_ok X G (fact_mem c (mem_rf hq (by unfold Rw.facts; rw [hat, ← hke, hk.1.1]; simp)))
    rw [hfa] at hfa2
    cases hfa2
    refine ⟨fd, spC K (cmOf K cls) (callAt (tblOf rows) M (D0 + 1)) lk 1, fun s u => ?_, fun H a ns hn _ hS => ?_, fun base hb1 hb2 => ?_⟩
    · have := FD.bindsA (ps := q.ps) (fun _ _ _ _ _ _ us hu => plain_binds hp hu) s [u] (by rw [hps]; rfl)
      rw [hps] at this
      exact this
    · obtain ⟨fr, b', hc⟩ := hall ns hn
      refine ⟨rfl, H, [], [], [.scr ns], _, fr, b', ⟨Sub.refl H, rfl, fun i d h => by simp [St.get] at h, fun i d h => by simp [St.get] at h, fun i j d e a _ h => by simp [St.get] at h, fun k is h => by simp at h, rfl, List.nodup_nil⟩, .cons (.scr hS) .nil, hc, fun v H' F' L' g x1 q1 n1 => ?_⟩
      cases fr with
      | false => exact vw_bl (Rep.vw (d := .bl true) g.sub q1)
      | true =>
        obtain ⟨a, _, _, _, top, _⟩ := q1
        exact top.elim
    · have C0 := cals_at (P := P) (w := w) (base := base) (M := M) X G c hok hd hpm hl D0
      have hC : ∀ ds b, callAt (tblOf rows) M (D0 + 1) lk ds b = runF (callAt (tblOf rows) M D0) M q.F ds b := fun ds b => by
        show (match (tblOf rows).lookup lk with
          | none => none
          | some F => (match F.kd with
            | .fn => runF (callAt (tblOf rows) M D0) M F ds b
            | .ini => runI (callAt (tblOf rows) M D0) M lk F ds b)) = _
        rw [hlk]
        simp only [hkd]
      have go := fn_ok (P := P) (w := w) (mg := mg) (base := base) FD (scope_of hs) hla' C0 hC
      rw [e0, hps] at go
      exact go
end
end Mp
/-! Mp, part Gw: a law's end, where no container's text is under way. -/
namespace Mp
open PySem PySem.Spec PyProof.Rows L2
theorem end_G {P : Program} {w : World} {K : PySem.W.Frag} {mg mb : Str → Option Value} {CX : CXT} {k : Nat} {fa a : Addr} {fd : FuncData} {x : Str} {sp : Sp} {t : Shared} {vs : List Value} {ns : List Int}
    (KX : K.In t.heap) (nsm : t.heap.Ns mainGlobals mg) (nsb : t.heap.Ns builtinsNs mb) (mbb : ∀ x : Str, x ≠ "__name__" → mb x = bootBuiltins x) (nl : t.heap.NoLimit) (gn : t.gens = #[])
    (ha : t.heap.get? a = some { cls := .type "list", data := .seq vs.toArray }) (hi : IntsAre vs ns) (hl : ns.length ≤ sizeLine) (rm : Room k callerA)
    (F : ∀ base : Heap, K.In base → base.Ns mainGlobals mg → FnG P w K mg base CX k fa fd [x] sp) (bt : ∀ (s : Shared) (u : Value), BindsTo s fd ⟨[u], []⟩ [(x, u)])
    (hsp : ∀ H : Hp, Only H → SqL K H a (ns.map V.int) → sp [.ref a] H (fun v _ => v = .bl true) fun _ _ _ => False) (hcx : ∀ H z t', CX [] H t (fun _ _ _ => False) z t' → False) :
    codeAny (model P w) callerA (.call (.ref fa) ⟨[.ref a], []⟩) (fun r t' => r = .ok (.ret (.bool true)) ∧ OldK t.heap t'.heap ∧ t'.os = t.os ∧ AllBare t'.gens) t := by
  have rv := vals_ints hi
  have lv := hi.length
  -- whatever is tracked, if it is the script alone
  have core : ∀ H : Hp, Only H → SqL K H a (ns.map V.int) → HOk P w H t.heap → (∀ b u, H b = some u → b = a) → (∀ u, H a = some u → K.lookup a = none) →
      codeAny (model P w) callerA (.call (.ref fa) ⟨[.ref a], []⟩) (fun r t' => r = .ok (.ret (.bool true)) ∧ OldK t.heap t'.heap ∧ t'.os = t.os ∧ AllBare t'.gens) t := by
    intro H hO hS hok hA hK
    have free : ∀ {b : Addr} {z : Obj}, t.heap.get? b = some z → (b = a → H b = none) → H b = none := fun {b z} _ h => by
      cases q : H b with
      | none => rfl
      | some u => exact (h (hA b u q)) ▸ q.symm
    have dict0 : ∀ {b : Addr} {z : Obj} {es : Array DictEntry} {ep : Nat}, t.heap.get? b = some z → z.data = .dict es ep → H b = none := fun {b z es ep} e d => free e fun q => by
      subst q
      rw [ha] at e; cases e
      have d' : Data.seq vs.toArray _ = Data.dict es ep := d
      cases d'
    have ns0 : ∀ {b : Addr} {m : Str → Option Value}, t.heap.Ns b m → (hidT t.heap H).Ns b m := fun {b m} ⟨z, es, ep, e, d, r⟩ => ⟨z, es, ep, hidT_get e (dict0 e d), d, r⟩
    have kin : K.In (hidT t.heap H) := fun b z e => hidT_get (KX b z e) (by
      cases q : H b with
      | none => rfl
      | some u =>
        cases hA b u q
        rw [hK u q] at e; cases e)
    have md : Mod K mg (hidT t.heap H) := ⟨kin, ns0 nsm, ⟨mb, ns0 nsb, mbb⟩, let ⟨mc, z1, z2⟩ := nl; ⟨mc, ns0 z1, z2⟩⟩
    have e0 : Env0 P w K mg (hidT t.heap H) callerA [] t H := ⟨rfl, md, fun b z e => of_hidT e, Nat.le_of_eq (hidT_size _ _), trivial, fun b hb => absurd (show b ∈ ([] : List Addr) from hb) List.not_mem_nil, hok, .of_eq gn⟩
    refine codeAny_mono ((F _ kin (ns0 nsm)).go callerA [] t H ⟨[.ref a], []⟩ [.ref a] [.ref a] _ _ rfl rm e0 (bt t (.ref a)) (.cons rfl .nil) (hsp H hO hS)) fun r t' hr => ?_
    cases r with
    | error z => exact (hcx H z t' hr).elim
    | ok fl =>
      cases fl with
      | next => cases hr
      | brk => cases hr
      | cont => cases hr
      | ret u =>
        obtain ⟨v, H', os, bare, un, hok', r', q⟩ := hr
        cases (show v = .bl true from q)
        cases (show u = Value.bool true from r')
        refine ⟨rfl, OldK.of_keep fun b z e => ?_, os, bare⟩
        cases q : H b with
        | none => exact un.keep b z e q (fun hb => absurd (show b ∈ ([] : List Addr) from hb) List.not_mem_nil) (by simp)
        | some u =>
          rcases hO b with y | ⟨ob, xs, y⟩
          · rw [q] at y; cases y
          · obtain ⟨e1, _⟩ := hok b _ y
            obtain ⟨e2, _⟩ := hok' b _ (un.frzs b ob _ y)
            rw [e] at e1; cases e1
            exact e2
  cases hk : K.lookup a with
  | some z =>
    have e := KX a z hk
    rw [ha] at e
    cases e
    exact core (fun _ => none) (fun _ => .inl rfl) (.inr ⟨_, vs.toArray, _, hk, rfl, rfl, rfl, by rw [List.size_toArray, lv]; exact hl, by simpa using rv⟩) (fun b u y => by cases (show (none : Option HO) = some u from y)) (fun b u y => by cases (show (none : Option HO) = some u from y)) fun u y => by cases (show (none : Option HO) = some u from y)
  | none =>
    refine core (fun b => if b = a then some (.frz { cls := .type "list", data := .seq vs.toArray } (.lst (ns.map V.int))) else none) (fun b => ?_) (.inl (.inr ⟨{ cls := .type "list", data := .seq vs.toArray }, if_pos rfl⟩)) (fun b u y => ?_) (fun b u y => ?_) fun _ _ => hk
    · rcases Decidable.em (b = a) with hb | hb
      · exact .inr ⟨_, _, if_pos hb⟩
      · exact .inl (if_neg hb)
    · rcases Decidable.em (b = a) with hb | hb
      · cases (if_pos hb).symm.trans y
        subst hb
        exact ⟨ha, by rw [List.length_map]; exact hl, vs, _, rv, ha⟩
      · cases (if_neg hb).symm.trans y
    · rcases Decidable.em (b = a) with hb | hb
      · exact hb
      · cases (if_neg hb).symm.trans y
theorem walk_G {l : PySem.W.OpenLaw} {n k : Nat} {q : Program} {loose : List Str} {XP : (Str → Option Value) → Heap → Prop} {YP : World → Heap → Prop} {d : DefRec} {CX : CXT} {x : Str}
    (hn : l.most = some n) (hn2 : n ≤ sizeLine) (hdf : d.params.defaults = []) (rm : Room k callerA)
    (F : ∀ (w : World) (mg : Str → Option Value) (fa : Addr) (h : Heap), YP w h → h.Ns mainGlobals mg → mg d.name = some (.ref fa) →
      ∃ (K : PySem.W.Frag) (fd : FuncData) (sp : Sp), K.In h ∧ (∀ (s : Shared) (u : Value), BindsTo s fd ⟨[u], []⟩ [(x, u)]) ∧
        (∀ (H : Hp) (a : Addr) (ns : List Int), ns.length ≤ n → Only H → SqL K H a (ns.map V.int) → sp [.ref a] H (fun v _ => v = .bl true) fun _ _ _ => False) ∧
        ∀ base : Heap, K.In base → base.Ns mainGlobals mg → FnG l.prog w K mg base CX k fa fd [x] sp)
    (hcx : ∀ (H : Hp) (t : Shared) (z : Value) (t' : Shared), CX [] H t (fun _ _ _ => False) z t' → False) : PySem.W.WalkO q loose XP YP l.row.toRowW d [] (fun f vs => PySem.call f vs) :=
  Att.attach_call hn hdf fun w s₀ s₁ mg mb fa o pm cd doc a vs ns G Y ho hd hcd hmg hobj hints hlen hg => by
    obtain ⟨K, fd, sp, KX, bt, hsp, hF⟩ := F w mg fa _ Y G.T.g hmg
    exact end_G KX G.T.g G.T.b G.T.builtins G.T.nolimit hg hobj hints (Nat.le_trans hlen hn2) rm hF bt (fun H hO hS => hsp H a ns hlen hO hS) fun H e s' => hcx H s₁ e s'
end Mp
/-! Mq, part 0: plain evaluation, its laws. -/
namespace Mp
open PySem L2
/-! ### the state -/
theorem st_get0 (a : Option (D × Bool)) (l b) : St.get ⟨a :: l, b⟩ 0 = a := rfl
/-- a for's body for one item -/
def forB (C : CallF) (N n : Nat) (tg : Tg) (b : List S) (x : D) (s : St) : Option (Fl × St) := (bindT tg x s) >>= fun s => runL (ex C N n) b s
def whlB (C : CallF) (N n : Nat) (b : List S) (s : St) : Option (Fl × St) := runL (ex C N n) b s
def srcXs : Src → St → Option (List D × St)
  | .fix xs, s => some (xs, s)
  | .var i, s => (match s.get i with
    | some (.lst xs, _) => some (xs, s.frz i)
    | _ => none)
theorem srcX_fix (xs : List D) (s : St) : srcXs (.fix xs) s = some (xs, s) := rfl
theorem srcX_var (i : Nat) (s : St) : srcXs (.var i) s = (match s.get i with
    | some (.lst xs, _) => some (xs, s.frz i)
    | _ => none) := rfl
/-! ### one construct each -/
section
variable (C : CallF) (n N : Nat) (s : St)
theorem ev_loc (i : Nat) : ev C (n + 1) (.loc i) s = (match s.get i with
  | some (_, true) => some (.x i, s)
  | some (d, false) => some (.v d false, s)
  | none => none) := rfl

theorem ev_lc (el tg it ifs own) : ev C (n + 1) (.lc el (.mk tg it ifs) own) s = (do
        let (src, s) ← itr C n it s
        let (l, s1) ← gats (stepB tg own (bodyL (tests (tst C n) ifs) (ev C n el))) src (s.wipe own)
        if l.length ≤ sizeLine then some (.v (.lst l) true, s1.back s own) else none) := rfl
theorem ev_lc2 (el tg it ifs tg2 it2 ifs2 own) : ev C (n + 1) (.lc2 el (.mk tg it ifs) (.mk tg2 it2 ifs2) own) s = (do
        let (src, s) ← itr C n it s
        let (l, s1) ← gats (stepB tg own (body2 (tests (tst C n) ifs) (itr C n it2) tg2 (bodyL (tests (tst C n) ifs2) (ev C n el)))) src (s.wipe own)
        if l.length ≤ sizeLine then some (.v (.lst l) true, s1.back s own) else none) := rfl
theorem ev_dc (k v tg it ifs own) : ev C (n + 1) (.dc k v (.mk tg it ifs) own) s = (do
        let (src, s) ← itr C n it s
        let (l, s1) ← gats (stepB tg own (bodyK (tests (tst C n) ifs) (ev C n k) (ev C n v))) src (s.wipe own)
        if l.length ≤ sizeLine then some (.v (.dK (ptAll l)) true, s1.back s own) else none) := rfl
theorem ev_lofV (a) : ev C (n + 1) (.lof (.vals a)) s = (do
        let (t, s) ← ev C n a s
        match ← t.d s with
        | .dK kvs => some (.v (.lst (kvs.map (·.2))) true, s)
        | _ => none) := rfl
theorem ev_int (i) : ev C (n + 1) (.int i) s = (some (.v (.int i) false, s)) := rfl
theorem ev_str (z) : ev C (n + 1) (.str z) s = (some (.v (.str z) false, s)) := rfl
theorem ev_bl (b) : ev C (n + 1) (.bl b) s = (some (.v (.bl b) false, s)) := rfl
theorem ev_non  : ev C (n + 1) (.non) s = (some (.v .non false, s)) := rfl
theorem ev_tup (es) : ev C (n + 1) (.tup es) s = (do
      let (ts, s) ← evL (ev C n) es s
      let (ds, s) ← takes ts s
      if ds.length ≤ sizeLine then some (.v (.tup ds) false, s) else none) := rfl
theorem ev_lst (es) : ev C (n + 1) (.lst es) s = (do
      let (ts, s) ← evL (ev C n) es s
      let (ds, s) ← takes ts s
      if ds.length ≤ sizeLine then some (.v (.lst ds) true, s) else none) := rfl
theorem ev_nbox (es) : ev C (n + 1) (.nbox es) s = (do
      let (ts, s) ← evL (ev C n) es s
      let (ds, s) ← takes ts s
      let is ← intsOf ds
      if is.length ≤ sizeLine then some (.v (.box s.b.length) false, { s with b := s.b ++ [is] }) else none) := rfl
theorem ev_dic (kvs) : ev C (n + 1) (.dic kvs) s = ((match kvs with
      | [] => some (.v (.dK []) true, s)
      | _ => none)) := rfl
theorem ev_bin (op a b) : ev C (n + 1) (.bin op a b) s = (do
      let (t, s) ← ev C n a s
      let (u, s) ← ev C n b s
      let x ← t.d s
      let y ← u.d s
      let (d, f) ← binD op x y
      some (.v d f, s)) := rfl
theorem ev_neg (a) : ev C (n + 1) (.neg a) s = (do
      let (t, s) ← ev C n a s
      match ← t.d s with
      | .int i => some (.v (.int (-i)) false, s)
      | _ => none) := rfl
theorem ev_cmp (op a b) : ev C (n + 1) (.cmp op a b) s = (do
      let (t, s) ← ev C n a s
      let (u, s) ← ev C n b s
      let x ← t.d s
      let y ← u.d s
      let r ← cmpD op x y
      some (.v (.bl r) false, s)) := rfl
theorem ev_chn (o1 o2 a b c) : ev C (n + 1) (.chn o1 o2 a b c) s = (do
      let (t, s) ← ev C n a s
      let (u, s) ← ev C n b s
      let x ← t.d s
      let y ← u.d s
      let r ← cmpD o1 x y
      if r then do
        let (w, s) ← ev C n c s
        let y ← u.d s
        let z ← w.d s
        let r ← cmpD o2 y z
        some (.v (.bl r) false, s)
      else some (.v (.bl false) false, s)) := rfl
theorem ev_and (es) : ev C (n + 1) (.and es) s = (andV (ev C n) es s) := rfl
theorem ev_or (es) : ev C (n + 1) (.or es) s = (orV (ev C n) es s) := rfl
theorem ev_not (a) : ev C (n + 1) (.not a) s = (do
      let (t, s) ← ev C n a s
      let d ← t.d s
      let b ← truth d
      some (.v (.bl (!b)) false, s)) := rfl
theorem ev_ite (c a b) : ev C (n + 1) (.ite c a b) s = (do
      let (r, s) ← tst C n c s
      if r then ev C n a s else ev C n b s) := rfl
theorem ev_ix (a i) : ev C (n + 1) (.ix a i) s = (do
      let (t, s) ← ev C n a s
      let (u, s) ← ev C n i s
      let x ← t.d s
      let y ← u.d s
      match x with
      | .box k => (match y with
        | .int j => do
          let ds ← s.b[k]?
          let d ← L2.atI ds j
          some (.v (.int d) false, s)
        | _ => none)
      | x => do
        let d ← ixD x y
        some (.v d false, s)) := rfl
theorem ev_sl (a lo hi) : ev C (n + 1) (.sl a lo hi) s = (do
      let (t, s) ← ev C n a s
      let (l, s) ← optD (ev C n) lo s
      let (h, s) ← optD (ev C n) hi s
      let x ← t.d s
      let (d, f) ← slD x l h
      some (.v d f, s)) := rfl
theorem ev_rev (a) : ev C (n + 1) (.rev a) s = (do
      let (t, s) ← ev C n a s
      match ← t.d s with
      | .lst xs => some (.v (.lst xs.reverse) true, s)
      | .tup xs => some (.v (.tup xs.reverse) false, s)
      | _ => none) := rfl
theorem ev_fld (a f) : ev C (n + 1) (.fld a f) s = (do
      let (t, s) ← ev C n a s
      let x ← t.d s
      let d ← fldD x f
      some (.v d false, s)) := rfl
theorem ev_call (f es) : ev C (n + 1) (.call f es) s = (if f.cps.toList.contains 46 then none else do
      let (ts, s) ← evL (ev C n) es s
      let (ds, s) ← args ts s
      let r ← C f ds s.b
      some (called ts s r)) := rfl
theorem ev_callK (f es ks ws) : ev C (n + 1) (.callK f es ks ws) s = (if f.cps.toList.contains 46 then none else do
      let (ts, s) ← evL (ev C n) ws s
      let (ds, s) ← args ts s
      let r ← C f (reordV (nmsOf es) ks ds) s.b
      some (called ts s r)) := rfl
theorem ev_bi (f es) : ev C (n + 1) (.bi f es) s = (do
      let (ts, s) ← evL (ev C n) es s
      let ds ← dsOf ts s
      let (d, fr) ← biD f ds
      some (.v d fr, s)) := rfl
theorem ev_isi (a ts u2) : ev C (n + 1) (.isi a ts u2) s = (do
      let (t, s) ← ev C n a s
      let x ← t.d s
      let b ← isi x (ts.map fun z => String.ofList (z.cps.toList.map Char.ofNat))
      some (.v (.bl b) false, s)) := rfl
theorem ev_sset (a) : ev C (n + 1) (.sset a) s = (do
      let (t, s) ← ev C n a s
      match ← t.d s with
      | .lst xs => do
        let ys ← strsOf xs
        if ys.length + 1 < scanBound then some (.v (.lst ((ssrt ys).map .str)) true, s) else none
      | .tup xs => do
        let ys ← strsOf xs
        if ys.length + 1 < scanBound then some (.v (.lst ((ssrt ys).map .str)) true, s) else none
      | _ => none) := rfl
theorem ev_meth (o m es) : ev C (n + 1) (.meth o m es) s = (
      if muts.contains m then (match o with
        | .loc i => if mutK m (s.get i) then do
          let (ts, s) ← evL (ev C n) es s
          let (ds, s) ← takes ts s
          match s.get i with
          | some (d, true) => do
            let (d, r) ← mutD m d ds
            some (.v r false, s.put i d true)
          | _ => none
          else none
        | _ => none)
      else do
        let (t, s) ← ev C n o s
        let x0 ← t.d s
        match x0 with
        | .ins c fs => if (fs.lookup m).isSome then none else do
          let (ts, s) ← evL (ev C n) es s
          let (ds, s) ← args (t :: ts) s
          let r ← C (c ++ ("." : Str) ++ m) ds s.b
          some (called (t :: ts) s r)
        | x0 => if metK m x0 = false then none else do
          let (ts, s) ← evL (ev C n) es s
          let x ← t.d s
          let ds ← dsOf ts s
          let (d, fr) ← metD m x ds
          some (.v d fr, s)) := rfl
theorem tst_and (es) : tst C (n + 1) (.and es) s = (andT (tst C n) es s) := rfl
theorem tst_or (es) : tst C (n + 1) (.or es) s = (orT (tst C n) es s) := rfl
theorem tst_not (a) : tst C (n + 1) (.not a) s = (do
      let (b, s) ← tst C n a s
      some (!b, s)) := rfl
theorem tst_ite (u0 u1 u2) : tst C (n + 1) (.ite u0 u1 u2) s = (none) := rfl
theorem itr_ex (e) : itr C (n + 1) (.ex e) s = (do
      let (t, s) ← ev C n e s
      match t with
      | .x i => (match s.get i with
        | some (.lst _, _) => some (.var i, s)
        | some (.dK kvs, _) => some (.fix (kvs.map fun kv => kD kv.1), s.frz i)
        | some (.dT kvs, _) => some (.fix (kvs.map fun kv => .tup (kv.1.map kD)), s.frz i)
        | _ => none)
      | .v d _ => do
        let xs ← itemsOf d
        some (.fix xs, s)) := rfl
theorem itr_rng (a b) : itr C (n + 1) (.rng a b) s = (do
      let (t, s) ← ev C n a s
      let (u, s) ← ev C n b s
      match ← t.d s, ← u.d s with
      | .int lo, .int hi => if (inB lo && inB hi) = true then some (.fix (rngD lo (hi - lo).toNat), s) else none
      | _, _ => none) := rfl
theorem itr_zip (a b) : itr C (n + 1) (.zip a b) s = (do
      let (t, s) ← ev C n a s
      let (u, s) ← ev C n b s
      let (x, s) ← take t s
      let (y, s) ← take u s
      match x, y with
      | .lst xs, .lst ys => some (.fix (zipD xs ys), s)
      | .tup xs, .tup ys => some (.fix (zipD xs ys), s)
      | _, _ => none) := rfl
theorem itr_enum (a k) : itr C (n + 1) (.enum a k) s = (if k = 0 then do
      let (t, s) ← ev C n a s
      let (x, s) ← take t s
      match x with
      | .lst xs => some (.fix (enumD 0 xs), s)
      | _ => none
      else none) := rfl
theorem itr_items (a) : itr C (n + 1) (.items a) s = (do
      let (t, s) ← ev C n a s
      let (x, s) ← take t s
      match x with
      | .dK kvs => some (.fix (kvs.map fun kv => .tup [kD kv.1, kv.2]), s)
      | _ => none) := rfl
theorem itr_vals (a) : itr C (n + 1) (.vals a) s = (do
      let (t, s) ← ev C n a s
      let (x, s) ← take t s
      match x with
      | .dK kvs => some (.fix (kvs.map (·.2)), s)
      | _ => none) := rfl
theorem ex_asg (i e) : ex C N (n + 1) (.asg i e) s = (do
      let (t, s) ← ev C N e s
      let s ← asg1 i t s
      some (.nx, s)) := rfl
theorem ex_asgT (is e) : ex C N (n + 1) (.asgT is e) s = (do
      let (t, s) ← ev C N e s
      let (d, s) ← take t s
      let s ← bindT (.tp is) (unl d) s
      some (.nx, s)) := rfl
theorem ex_par (is es) : ex C N (n + 1) (.par is es) s = (do
      let (ts, s) ← evL (ev C N) es s
      if ts.length ≤ sizeLine then do
        let s ← asgs is ts s
        some (.nx, s)
      else none) := rfl
theorem ex_asgI (o i e) : ex C N (n + 1) (.asgI o i e) s = (do
      let (t, s) ← ev C N e s
      let (d, s) ← take t s
      match o with
      | .loc j => if (s.get j).isSome = false then none else do
        let (u, s) ← ev C N i s
        let k ← u.d s
        match s.get j with
        | some (.box m, _) => (match k, d with
          | .int p, .int z => do
            let ds ← s.b[m]?
            let q ← L2.ixN ds.length p
            some (.nx, { s with b := s.b.set m (ds.set q z) })
          | _, _ => none)
        | some (x, true) => do
          let x ← setD x k d
          some (.nx, s.put j x true)
        | _ => none
      | _ => none) := rfl
theorem ex_asgF (o f e) : ex C N (n + 1) (.asgF o f e) s = (do
      let (t, s) ← ev C N e s
      let (d, s) ← take t s
      match o with
      | .loc j => (match s.get j with
        | some (.ins c fs, true) => if fs.length < 1000 ∧ f ∈ flds then some (.nx, s.put j (.ins c (ptF f d fs)) true) else none
        | _ => none)
      | _ => none) := rfl
theorem ex_aug (i op e) : ex C N (n + 1) (.aug i op e) s = (do
      match s.get i with
      | some (.int x, _) => do
        let (t, s) ← ev C N e s
        match op, ← t.d s with
        | .Add, .int y => some (.nx, s.put i (.int (x + y)) false)
        | _, _ => none
      | _ => none) := rfl
theorem ex_ex (e) : ex C N (n + 1) (.ex e) s = (do
      let (_, s) ← ev C N e s
      some (.nx, s)) := rfl
theorem ex_ret (e) : ex C N (n + 1) (.ret e) s = (do
      let (t, s) ← ev C N e s
      match t with
      | .v d fr => some (.rt d fr, s)
      | .x i => do
        let p ← s.get i
        some (.rt p.1 p.2, s)) := rfl
theorem ex_iff (c a b) : ex C N (n + 1) (.iff c a b) s = (do
      let (r, s) ← tst C N c s
      if r then runL (ex C N n) a s else runL (ex C N n) b s) := rfl
theorem ex_for_ (tg it b) : ex C N (n + 1) (.for_ tg it b) s = (itr C N it s >>= fun p => srcXs p.1 p.2 >>= fun q => forL (forB C N n tg b) q.1 q.2) := by
  have e : ex C N (n + 1) (.for_ tg it b) s = (do
      let (src, s) ← itr C N it s
      let (xs, s) ← match src with
        | .fix xs => some (xs, s)
        | .var i => (match s.get i with
          | some (.lst xs, _) => some (xs, s.frz i)
          | _ => none)
      forL (fun x s => do
        let s ← bindT tg x s
        runL (ex C N n) b s) xs s) := rfl
  rw [e]
  cases itr C N it s with
  | none => rfl
  | some p =>
    obtain ⟨src, s1⟩ := p
    cases src <;> rfl
theorem ex_whl (c b) : ex C N (n + 1) (.whl c b) s = whlL (tst C N c) (whlB C N n b) big s := rfl
theorem ex_pass  : ex C N (n + 1) (.pass) s = (some (.nx, s)) := rfl
theorem ex_stop  : ex C N (n + 1) (.stop) s = (none) := rfl
theorem tst_loc (i) : tst C (n + 1) (.loc i) s = (do
      let (t, s) ← ev C n (.loc i) s
      let d ← t.d s
      let b ← truth d
      some (b, s)) := rfl
theorem tst_glob (i) : tst C (n + 1) (.glob i) s = (do
      let (t, s) ← ev C n (.glob i) s
      let d ← t.d s
      let b ← truth d
      some (b, s)) := rfl
theorem tst_int (i) : tst C (n + 1) (.int i) s = (do
      let (t, s) ← ev C n (.int i) s
      let d ← t.d s
      let b ← truth d
      some (b, s)) := rfl
theorem tst_str (i) : tst C (n + 1) (.str i) s = (do
      let (t, s) ← ev C n (.str i) s
      let d ← t.d s
      let b ← truth d
      some (b, s)) := rfl
theorem tst_bl (i) : tst C (n + 1) (.bl i) s = (do
      let (t, s) ← ev C n (.bl i) s
      let d ← t.d s
      let b ← truth d
      some (b, s)) := rfl
theorem tst_non  : tst C (n + 1) (.non ) s = (do
      let (t, s) ← ev C n (.non ) s
      let d ← t.d s
      let b ← truth d
      some (b, s)) := rfl
theorem tst_tup (a) : tst C (n + 1) (.tup a) s = (do
      let (t, s) ← ev C n (.tup a) s
      let d ← t.d s
      let b ← truth d
      some (b, s)) := rfl
theorem tst_lst (a) : tst C (n + 1) (.lst a) s = (do
      let (t, s) ← ev C n (.lst a) s
      let d ← t.d s
      let b ← truth d
      some (b, s)) := rfl
theorem tst_nbox (a) : tst C (n + 1) (.nbox a) s = (do
      let (t, s) ← ev C n (.nbox a) s
      let d ← t.d s
      let b ← truth d
      some (b, s)) := rfl
theorem tst_dic (a) : tst C (n + 1) (.dic a) s = (do
      let (t, s) ← ev C n (.dic a) s
      let d ← t.d s
      let b ← truth d
      some (b, s)) := rfl
theorem tst_bin (a b c) : tst C (n + 1) (.bin a b c) s = (do
      let (t, s) ← ev C n (.bin a b c) s
      let d ← t.d s
      let b ← truth d
      some (b, s)) := rfl
theorem tst_neg (a) : tst C (n + 1) (.neg a) s = (do
      let (t, s) ← ev C n (.neg a) s
      let d ← t.d s
      let b ← truth d
      some (b, s)) := rfl
theorem tst_cmp (a b c) : tst C (n + 1) (.cmp a b c) s = (do
      let (t, s) ← ev C n (.cmp a b c) s
      let d ← t.d s
      let b ← truth d
      some (b, s)) := rfl
theorem tst_chn (a b c d e) : tst C (n + 1) (.chn a b c d e) s = (do
      let (t, s) ← ev C n (.chn a b c d e) s
      let d ← t.d s
      let b ← truth d
      some (b, s)) := rfl
theorem tst_ix (a b) : tst C (n + 1) (.ix a b) s = (do
      let (t, s) ← ev C n (.ix a b) s
      let d ← t.d s
      let b ← truth d
      some (b, s)) := rfl
theorem tst_sl (a b c) : tst C (n + 1) (.sl a b c) s = (do
      let (t, s) ← ev C n (.sl a b c) s
      let d ← t.d s
      let b ← truth d
      some (b, s)) := rfl
theorem tst_rev (a) : tst C (n + 1) (.rev a) s = (do
      let (t, s) ← ev C n (.rev a) s
      let d ← t.d s
      let b ← truth d
      some (b, s)) := rfl
theorem tst_fld (a b) : tst C (n + 1) (.fld a b) s = (do
      let (t, s) ← ev C n (.fld a b) s
      let d ← t.d s
      let b ← truth d
      some (b, s)) := rfl
theorem tst_call (a b) : tst C (n + 1) (.call a b) s = (do
      let (t, s) ← ev C n (.call a b) s
      let d ← t.d s
      let b ← truth d
      some (b, s)) := rfl
theorem tst_callK (a b c d) : tst C (n + 1) (.callK a b c d) s = (do
      let (t, s) ← ev C n (.callK a b c d) s
      let d ← t.d s
      let b ← truth d
      some (b, s)) := rfl
theorem tst_bi (a b) : tst C (n + 1) (.bi a b) s = (do
      let (t, s) ← ev C n (.bi a b) s
      let d ← t.d s
      let b ← truth d
      some (b, s)) := rfl
theorem tst_isi (a b c) : tst C (n + 1) (.isi a b c) s = (do
      let (t, s) ← ev C n (.isi a b c) s
      let d ← t.d s
      let b ← truth d
      some (b, s)) := rfl
theorem tst_sset (a) : tst C (n + 1) (.sset a) s = (do
      let (t, s) ← ev C n (.sset a) s
      let d ← t.d s
      let b ← truth d
      some (b, s)) := rfl
theorem tst_lset (a) : tst C (n + 1) (.lset a) s = (do
      let (t, s) ← ev C n (.lset a) s
      let d ← t.d s
      let b ← truth d
      some (b, s)) := rfl
theorem tst_lof (a) : tst C (n + 1) (.lof a) s = (do
      let (t, s) ← ev C n (.lof a) s
      let d ← t.d s
      let b ← truth d
      some (b, s)) := rfl
theorem tst_meth (a b c) : tst C (n + 1) (.meth a b c) s = (do
      let (t, s) ← ev C n (.meth a b c) s
      let d ← t.d s
      let b ← truth d
      some (b, s)) := rfl
theorem tst_lc (a b c) : tst C (n + 1) (.lc a b c) s = (do
      let (t, s) ← ev C n (.lc a b c) s
      let d ← t.d s
      let b ← truth d
      some (b, s)) := rfl
theorem tst_lc2 (a b c d) : tst C (n + 1) (.lc2 a b c d) s = (do
      let (t, s) ← ev C n (.lc2 a b c d) s
      let d ← t.d s
      let b ← truth d
      some (b, s)) := rfl
theorem tst_dc (a b c d) : tst C (n + 1) (.dc a b c d) s = (do
      let (t, s) ← ev C n (.dc a b c d) s
      let d ← t.d s
      let b ← truth d
      some (b, s)) := rfl
theorem tst_dc2 (a b c d e) : tst C (n + 1) (.dc2 a b c d e) s = (do
      let (t, s) ← ev C n (.dc2 a b c d e) s
      let d ← t.d s
      let b ← truth d
      some (b, s)) := rfl
end
end Mp
/-! Mq, part 1: plain data; equality and membership; walks. -/
namespace Mp
open PySem L2
theorem ec_tupled (C : CallF) (n : Nat) (s : St) (es : List E) : ev C (n + 1) (.call (Str.ofString "tupled") es) s = (evL (ev C n) es s >>= fun p => args p.1 p.2 >>= fun q => C (Str.ofString "tupled") q.1 q.2.b >>= fun r => some (called p.1 q.2 r)) := by
  rw [ev_call, if_neg (by decide +kernel)]
theorem ec_names_of (C : CallF) (n : Nat) (s : St) (es : List E) : ev C (n + 1) (.call (Str.ofString "names_of") es) s = (evL (ev C n) es s >>= fun p => args p.1 p.2 >>= fun q => C (Str.ofString "names_of") q.1 q.2.b >>= fun r => some (called p.1 q.2 r)) := by
  rw [ev_call, if_neg (by decide +kernel)]
theorem ec_above (C : CallF) (n : Nat) (s : St) (es : List E) : ev C (n + 1) (.call (Str.ofString "above") es) s = (evL (ev C n) es s >>= fun p => args p.1 p.2 >>= fun q => C (Str.ofString "above") q.1 q.2.b >>= fun r => some (called p.1 q.2 r)) := by
  rw [ev_call, if_neg (by decide +kernel)]
theorem ec_below_by (C : CallF) (n : Nat) (s : St) (es : List E) : ev C (n + 1) (.call (Str.ofString "below_by") es) s = (evL (ev C n) es s >>= fun p => args p.1 p.2 >>= fun q => C (Str.ofString "below_by") q.1 q.2.b >>= fun r => some (called p.1 q.2 r)) := by
  rw [ev_call, if_neg (by decide +kernel)]
theorem ec_products (C : CallF) (n : Nat) (s : St) (es : List E) : ev C (n + 1) (.call (Str.ofString "products") es) s = (evL (ev C n) es s >>= fun p => args p.1 p.2 >>= fun q => C (Str.ofString "products") q.1 q.2.b >>= fun r => some (called p.1 q.2 r)) := by
  rw [ev_call, if_neg (by decide +kernel)]
theorem ec_shapes (C : CallF) (n : Nat) (s : St) (es : List E) : ev C (n + 1) (.call (Str.ofString "shapes") es) s = (evL (ev C n) es s >>= fun p => args p.1 p.2 >>= fun q => C (Str.ofString "shapes") q.1 q.2.b >>= fun r => some (called p.1 q.2 r)) := by
  rw [ev_call, if_neg (by decide +kernel)]
theorem ec_greatest_by (C : CallF) (n : Nat) (s : St) (es : List E) : ev C (n + 1) (.call (Str.ofString "greatest_by") es) s = (evL (ev C n) es s >>= fun p => args p.1 p.2 >>= fun q => C (Str.ofString "greatest_by") q.1 q.2.b >>= fun r => some (called p.1 q.2 r)) := by
  rw [ev_call, if_neg (by decide +kernel)]
theorem ec_common (C : CallF) (n : Nat) (s : St) (es : List E) : ev C (n + 1) (.call (Str.ofString "common") es) s = (evL (ev C n) es s >>= fun p => args p.1 p.2 >>= fun q => C (Str.ofString "common") q.1 q.2.b >>= fun r => some (called p.1 q.2 r)) := by
  rw [ev_call, if_neg (by decide +kernel)]
theorem ec_fitting_by (C : CallF) (n : Nat) (s : St) (es : List E) : ev C (n + 1) (.call (Str.ofString "fitting_by") es) s = (evL (ev C n) es s >>= fun p => args p.1 p.2 >>= fun q => C (Str.ofString "fitting_by") q.1 q.2.b >>= fun r => some (called p.1 q.2 r)) := by
  rw [ev_call, if_neg (by decide +kernel)]
theorem ec_nearest_by (C : CallF) (n : Nat) (s : St) (es : List E) : ev C (n + 1) (.call (Str.ofString "nearest_by") es) s = (evL (ev C n) es s >>= fun p => args p.1 p.2 >>= fun q => C (Str.ofString "nearest_by") q.1 q.2.b >>= fun r => some (called p.1 q.2 r)) := by
  rw [ev_call, if_neg (by decide +kernel)]
theorem ec_torn_by (C : CallF) (n : Nat) (s : St) (es : List E) : ev C (n + 1) (.call (Str.ofString "torn_by") es) s = (evL (ev C n) es s >>= fun p => args p.1 p.2 >>= fun q => C (Str.ofString "torn_by") q.1 q.2.b >>= fun r => some (called p.1 q.2 r)) := by
  rw [ev_call, if_neg (by decide +kernel)]
theorem ec_shapes_of (C : CallF) (n : Nat) (s : St) (es : List E) : ev C (n + 1) (.call (Str.ofString "shapes_of") es) s = (evL (ev C n) es s >>= fun p => args p.1 p.2 >>= fun q => C (Str.ofString "shapes_of") q.1 q.2.b >>= fun r => some (called p.1 q.2 r)) := by
  rw [ev_call, if_neg (by decide +kernel)]
theorem ec_ups_of (C : CallF) (n : Nat) (s : St) (es : List E) : ev C (n + 1) (.call (Str.ofString "ups_of") es) s = (evL (ev C n) es s >>= fun p => args p.1 p.2 >>= fun q => C (Str.ofString "ups_of") q.1 q.2.b >>= fun r => some (called p.1 q.2 r)) := by
  rw [ev_call, if_neg (by decide +kernel)]
theorem ec_shape_of (C : CallF) (n : Nat) (s : St) (es : List E) : ev C (n + 1) (.call (Str.ofString "shape_of") es) s = (evL (ev C n) es s >>= fun p => args p.1 p.2 >>= fun q => C (Str.ofString "shape_of") q.1 q.2.b >>= fun r => some (called p.1 q.2 r)) := by
  rw [ev_call, if_neg (by decide +kernel)]
theorem ec_labels_of (C : CallF) (n : Nat) (s : St) (es : List E) : ev C (n + 1) (.call (Str.ofString "labels_of") es) s = (evL (ev C n) es s >>= fun p => args p.1 p.2 >>= fun q => C (Str.ofString "labels_of") q.1 q.2.b >>= fun r => some (called p.1 q.2 r)) := by
  rw [ev_call, if_neg (by decide +kernel)]
theorem ec_fitting (C : CallF) (n : Nat) (s : St) (es : List E) : ev C (n + 1) (.call (Str.ofString "fitting") es) s = (evL (ev C n) es s >>= fun p => args p.1 p.2 >>= fun q => C (Str.ofString "fitting") q.1 q.2.b >>= fun r => some (called p.1 q.2 r)) := by
  rw [ev_call, if_neg (by decide +kernel)]
theorem ec_nearest (C : CallF) (n : Nat) (s : St) (es : List E) : ev C (n + 1) (.call (Str.ofString "nearest") es) s = (evL (ev C n) es s >>= fun p => args p.1 p.2 >>= fun q => C (Str.ofString "nearest") q.1 q.2.b >>= fun r => some (called p.1 q.2 r)) := by
  rw [ev_call, if_neg (by decide +kernel)]
theorem ec_chosen (C : CallF) (n : Nat) (s : St) (es : List E) : ev C (n + 1) (.call (Str.ofString "chosen") es) s = (evL (ev C n) es s >>= fun p => args p.1 p.2 >>= fun q => C (Str.ofString "chosen") q.1 q.2.b >>= fun r => some (called p.1 q.2 r)) := by
  rw [ev_call, if_neg (by decide +kernel)]
theorem ec_torn (C : CallF) (n : Nat) (s : St) (es : List E) : ev C (n + 1) (.call (Str.ofString "torn") es) s = (evL (ev C n) es s >>= fun p => args p.1 p.2 >>= fun q => C (Str.ofString "torn") q.1 q.2.b >>= fun r => some (called p.1 q.2 r)) := by
  rw [ev_call, if_neg (by decide +kernel)]
theorem ec_greatest_torn (C : CallF) (n : Nat) (s : St) (es : List E) : ev C (n + 1) (.call (Str.ofString "greatest_torn") es) s = (evL (ev C n) es s >>= fun p => args p.1 p.2 >>= fun q => C (Str.ofString "greatest_torn") q.1 q.2.b >>= fun r => some (called p.1 q.2 r)) := by
  rw [ev_call, if_neg (by decide +kernel)]
theorem ec_meet (C : CallF) (n : Nat) (s : St) (es : List E) : ev C (n + 1) (.call (Str.ofString "meet") es) s = (evL (ev C n) es s >>= fun p => args p.1 p.2 >>= fun q => C (Str.ofString "meet") q.1 q.2.b >>= fun r => some (called p.1 q.2 r)) := by
  rw [ev_call, if_neg (by decide +kernel)]
theorem ec_cover (C : CallF) (n : Nat) (s : St) (es : List E) : ev C (n + 1) (.call (Str.ofString "cover") es) s = (evL (ev C n) es s >>= fun p => args p.1 p.2 >>= fun q => C (Str.ofString "cover") q.1 q.2.b >>= fun r => some (called p.1 q.2 r)) := by
  rw [ev_call, if_neg (by decide +kernel)]
theorem ec_is_under (C : CallF) (n : Nat) (s : St) (es : List E) : ev C (n + 1) (.call (Str.ofString "is_under") es) s = (evL (ev C n) es s >>= fun p => args p.1 p.2 >>= fun q => C (Str.ofString "is_under") q.1 q.2.b >>= fun r => some (called p.1 q.2 r)) := by
  rw [ev_call, if_neg (by decide +kernel)]
theorem ec_is_below (C : CallF) (n : Nat) (s : St) (es : List E) : ev C (n + 1) (.call (Str.ofString "is_below") es) s = (evL (ev C n) es s >>= fun p => args p.1 p.2 >>= fun q => C (Str.ofString "is_below") q.1 q.2.b >>= fun r => some (called p.1 q.2 r)) := by
  rw [ev_call, if_neg (by decide +kernel)]
theorem ec_shape_below (C : CallF) (n : Nat) (s : St) (es : List E) : ev C (n + 1) (.call (Str.ofString "shape_below") es) s = (evL (ev C n) es s >>= fun p => args p.1 p.2 >>= fun q => C (Str.ofString "shape_below") q.1 q.2.b >>= fun r => some (called p.1 q.2 r)) := by
  rw [ev_call, if_neg (by decide +kernel)]
theorem ec_law_box (C : CallF) (n : Nat) (s : St) (es : List E) : ev C (n + 1) (.call (Str.ofString "_law_box") es) s = (evL (ev C n) es s >>= fun p => args p.1 p.2 >>= fun q => C (Str.ofString "_law_box") q.1 q.2.b >>= fun r => some (called p.1 q.2 r)) := by
  rw [ev_call, if_neg (by decide +kernel)]
theorem ec_law_take (C : CallF) (n : Nat) (s : St) (es : List E) : ev C (n + 1) (.call (Str.ofString "_law_take") es) s = (evL (ev C n) es s >>= fun p => args p.1 p.2 >>= fun q => C (Str.ofString "_law_take") q.1 q.2.b >>= fun r => some (called p.1 q.2 r)) := by
  rw [ev_call, if_neg (by decide +kernel)]
theorem ec_law_cells (C : CallF) (n : Nat) (s : St) (es : List E) : ev C (n + 1) (.call (Str.ofString "_law_cells") es) s = (evL (ev C n) es s >>= fun p => args p.1 p.2 >>= fun q => C (Str.ofString "_law_cells") q.1 q.2.b >>= fun r => some (called p.1 q.2 r)) := by
  rw [ev_call, if_neg (by decide +kernel)]
theorem ec_law_of (C : CallF) (n : Nat) (s : St) (es : List E) : ev C (n + 1) (.call (Str.ofString "_law_of") es) s = (evL (ev C n) es s >>= fun p => args p.1 p.2 >>= fun q => C (Str.ofString "_law_of") q.1 q.2.b >>= fun r => some (called p.1 q.2 r)) := by
  rw [ev_call, if_neg (by decide +kernel)]
theorem ec_law_same (C : CallF) (n : Nat) (s : St) (es : List E) : ev C (n + 1) (.call (Str.ofString "_law_same") es) s = (evL (ev C n) es s >>= fun p => args p.1 p.2 >>= fun q => C (Str.ofString "_law_same") q.1 q.2.b >>= fun r => some (called p.1 q.2 r)) := by
  rw [ev_call, if_neg (by decide +kernel)]
theorem ec_law_shapes (C : CallF) (n : Nat) (s : St) (es : List E) : ev C (n + 1) (.call (Str.ofString "_law_shapes") es) s = (evL (ev C n) es s >>= fun p => args p.1 p.2 >>= fun q => C (Str.ofString "_law_shapes") q.1 q.2.b >>= fun r => some (called p.1 q.2 r)) := by
  rw [ev_call, if_neg (by decide +kernel)]
theorem ec_law_methods (C : CallF) (n : Nat) (s : St) (es : List E) : ev C (n + 1) (.call (Str.ofString "_law_methods") es) s = (evL (ev C n) es s >>= fun p => args p.1 p.2 >>= fun q => C (Str.ofString "_law_methods") q.1 q.2.b >>= fun r => some (called p.1 q.2 r)) := by
  rw [ev_call, if_neg (by decide +kernel)]
theorem ec_law_kinds (C : CallF) (n : Nat) (s : St) (es : List E) : ev C (n + 1) (.call (Str.ofString "_law_kinds") es) s = (evL (ev C n) es s >>= fun p => args p.1 p.2 >>= fun q => C (Str.ofString "_law_kinds") q.1 q.2.b >>= fun r => some (called p.1 q.2 r)) := by
  rw [ev_call, if_neg (by decide +kernel)]
theorem ec_law_up (C : CallF) (n : Nat) (s : St) (es : List E) : ev C (n + 1) (.call (Str.ofString "_law_up") es) s = (evL (ev C n) es s >>= fun p => args p.1 p.2 >>= fun q => C (Str.ofString "_law_up") q.1 q.2.b >>= fun r => some (called p.1 q.2 r)) := by
  rw [ev_call, if_neg (by decide +kernel)]
theorem ec_law_under (C : CallF) (n : Nat) (s : St) (es : List E) : ev C (n + 1) (.call (Str.ofString "_law_under") es) s = (evL (ev C n) es s >>= fun p => args p.1 p.2 >>= fun q => C (Str.ofString "_law_under") q.1 q.2.b >>= fun r => some (called p.1 q.2 r)) := by
  rw [ev_call, if_neg (by decide +kernel)]
theorem ec_law_calls (C : CallF) (n : Nat) (s : St) (es : List E) : ev C (n + 1) (.call (Str.ofString "_law_calls") es) s = (evL (ev C n) es s >>= fun p => args p.1 p.2 >>= fun q => C (Str.ofString "_law_calls") q.1 q.2.b >>= fun r => some (called p.1 q.2 r)) := by
  rw [ev_call, if_neg (by decide +kernel)]
theorem ec_law_right (C : CallF) (n : Nat) (s : St) (es : List E) : ev C (n + 1) (.call (Str.ofString "_law_right") es) s = (evL (ev C n) es s >>= fun p => args p.1 p.2 >>= fun q => C (Str.ofString "_law_right") q.1 q.2.b >>= fun r => some (called p.1 q.2 r)) := by
  rw [ev_call, if_neg (by decide +kernel)]
theorem ec_law_lists (C : CallF) (n : Nat) (s : St) (es : List E) : ev C (n + 1) (.call (Str.ofString "_law_lists") es) s = (evL (ev C n) es s >>= fun p => args p.1 p.2 >>= fun q => C (Str.ofString "_law_lists") q.1 q.2.b >>= fun r => some (called p.1 q.2 r)) := by
  rw [ev_call, if_neg (by decide +kernel)]
theorem ec_law_fits (C : CallF) (n : Nat) (s : St) (es : List E) : ev C (n + 1) (.call (Str.ofString "_law_fits") es) s = (evL (ev C n) es s >>= fun p => args p.1 p.2 >>= fun q => C (Str.ofString "_law_fits") q.1 q.2.b >>= fun r => some (called p.1 q.2 r)) := by
  rw [ev_call, if_neg (by decide +kernel)]
theorem ec_law_near (C : CallF) (n : Nat) (s : St) (es : List E) : ev C (n + 1) (.call (Str.ofString "_law_near") es) s = (evL (ev C n) es s >>= fun p => args p.1 p.2 >>= fun q => C (Str.ofString "_law_near") q.1 q.2.b >>= fun r => some (called p.1 q.2 r)) := by
  rw [ev_call, if_neg (by decide +kernel)]
theorem ec_law_chosen (C : CallF) (n : Nat) (s : St) (es : List E) : ev C (n + 1) (.call (Str.ofString "_law_chosen") es) s = (evL (ev C n) es s >>= fun p => args p.1 p.2 >>= fun q => C (Str.ofString "_law_chosen") q.1 q.2.b >>= fun r => some (called p.1 q.2 r)) := by
  rw [ev_call, if_neg (by decide +kernel)]
theorem ec_law_pairs (C : CallF) (n : Nat) (s : St) (es : List E) : ev C (n + 1) (.call (Str.ofString "_law_pairs") es) s = (evL (ev C n) es s >>= fun p => args p.1 p.2 >>= fun q => C (Str.ofString "_law_pairs") q.1 q.2.b >>= fun r => some (called p.1 q.2 r)) := by
  rw [ev_call, if_neg (by decide +kernel)]
theorem ec_law_generic (C : CallF) (n : Nat) (s : St) (es : List E) : ev C (n + 1) (.call (Str.ofString "_law_generic") es) s = (evL (ev C n) es s >>= fun p => args p.1 p.2 >>= fun q => C (Str.ofString "_law_generic") q.1 q.2.b >>= fun r => some (called p.1 q.2 r)) := by
  rw [ev_call, if_neg (by decide +kernel)]
theorem sb {α β : Type} (a : α) (f : α → Option β) : (some a >>= f) = f a := rfl
theorem nb {α β : Type} (f : α → Option β) : ((none : Option α) >>= f) = none := rfl
theorem gt1 (a l b) : St.get ⟨a :: l, b⟩ 1 = St.get ⟨l, b⟩ 0 := rfl
theorem gt2 (a l b) : St.get ⟨a :: l, b⟩ 2 = St.get ⟨l, b⟩ 1 := rfl
theorem gt3 (a l b) : St.get ⟨a :: l, b⟩ 3 = St.get ⟨l, b⟩ 2 := rfl
theorem gt4 (a l b) : St.get ⟨a :: l, b⟩ 4 = St.get ⟨l, b⟩ 3 := rfl
theorem gt5 (a l b) : St.get ⟨a :: l, b⟩ 5 = St.get ⟨l, b⟩ 4 := rfl
theorem gt6 (a l b) : St.get ⟨a :: l, b⟩ 6 = St.get ⟨l, b⟩ 5 := rfl
theorem gt7 (a l b) : St.get ⟨a :: l, b⟩ 7 = St.get ⟨l, b⟩ 6 := rfl
theorem gt8 (a l b) : St.get ⟨a :: l, b⟩ 8 = St.get ⟨l, b⟩ 7 := rfl
theorem gt9 (a l b) : St.get ⟨a :: l, b⟩ 9 = St.get ⟨l, b⟩ 8 := rfl
theorem gt10 (a l b) : St.get ⟨a :: l, b⟩ 10 = St.get ⟨l, b⟩ 9 := rfl
theorem gt11 (a l b) : St.get ⟨a :: l, b⟩ 11 = St.get ⟨l, b⟩ 10 := rfl
theorem gt12 (a l b) : St.get ⟨a :: l, b⟩ 12 = St.get ⟨l, b⟩ 11 := rfl
theorem pu0 (a0 l b d o) : St.put ⟨a0 :: l, b⟩ 0 d o = ⟨some (d, o) :: l, b⟩ := rfl
theorem se0 {α : Type} (a0 x : α) (l : List α) : (a0 :: l).set 0 x = x :: l := rfl
theorem pu1 (a0 a1 l b d o) : St.put ⟨a0 :: a1 :: l, b⟩ 1 d o = ⟨a0 :: some (d, o) :: l, b⟩ := rfl
theorem se1 {α : Type} (a0 a1 x : α) (l : List α) : (a0 :: a1 :: l).set 1 x = a0 :: x :: l := rfl
theorem pu2 (a0 a1 a2 l b d o) : St.put ⟨a0 :: a1 :: a2 :: l, b⟩ 2 d o = ⟨a0 :: a1 :: some (d, o) :: l, b⟩ := rfl
theorem se2 {α : Type} (a0 a1 a2 x : α) (l : List α) : (a0 :: a1 :: a2 :: l).set 2 x = a0 :: a1 :: x :: l := rfl
theorem pu3 (a0 a1 a2 a3 l b d o) : St.put ⟨a0 :: a1 :: a2 :: a3 :: l, b⟩ 3 d o = ⟨a0 :: a1 :: a2 :: some (d, o) :: l, b⟩ := rfl
theorem se3 {α : Type} (a0 a1 a2 a3 x : α) (l : List α) : (a0 :: a1 :: a2 :: a3 :: l).set 3 x = a0 :: a1 :: a2 :: x :: l := rfl
theorem pu4 (a0 a1 a2 a3 a4 l b d o) : St.put ⟨a0 :: a1 :: a2 :: a3 :: a4 :: l, b⟩ 4 d o = ⟨a0 :: a1 :: a2 :: a3 :: some (d, o) :: l, b⟩ := rfl
theorem se4 {α : Type} (a0 a1 a2 a3 a4 x : α) (l : List α) : (a0 :: a1 :: a2 :: a3 :: a4 :: l).set 4 x = a0 :: a1 :: a2 :: a3 :: x :: l := rfl
theorem pu5 (a0 a1 a2 a3 a4 a5 l b d o) : St.put ⟨a0 :: a1 :: a2 :: a3 :: a4 :: a5 :: l, b⟩ 5 d o = ⟨a0 :: a1 :: a2 :: a3 :: a4 :: some (d, o) :: l, b⟩ := rfl
theorem se5 {α : Type} (a0 a1 a2 a3 a4 a5 x : α) (l : List α) : (a0 :: a1 :: a2 :: a3 :: a4 :: a5 :: l).set 5 x = a0 :: a1 :: a2 :: a3 :: a4 :: x :: l := rfl
theorem pu6 (a0 a1 a2 a3 a4 a5 a6 l b d o) : St.put ⟨a0 :: a1 :: a2 :: a3 :: a4 :: a5 :: a6 :: l, b⟩ 6 d o = ⟨a0 :: a1 :: a2 :: a3 :: a4 :: a5 :: some (d, o) :: l, b⟩ := rfl
theorem se6 {α : Type} (a0 a1 a2 a3 a4 a5 a6 x : α) (l : List α) : (a0 :: a1 :: a2 :: a3 :: a4 :: a5 :: a6 :: l).set 6 x = a0 :: a1 :: a2 :: a3 :: a4 :: a5 :: x :: l := rfl
theorem pu7 (a0 a1 a2 a3 a4 a5 a6 a7 l b d o) : St.put ⟨a0 :: a1 :: a2 :: a3 :: a4 :: a5 :: a6 :: a7 :: l, b⟩ 7 d o = ⟨a0 :: a1 :: a2 :: a3 :: a4 :: a5 :: a6 :: some (d, o) :: l, b⟩ := rfl
theorem se7 {α : Type} (a0 a1 a2 a3 a4 a5 a6 a7 x : α) (l : List α) : (a0 :: a1 :: a2 :: a3 :: a4 :: a5 :: a6 :: a7 :: l).set 7 x = a0 :: a1 :: a2 :: a3 :: a4 :: a5 :: a6 :: x :: l := rfl
theorem pu8 (a0 a1 a2 a3 a4 a5 a6 a7 a8 l b d o) : St.put ⟨a0 :: a1 :: a2 :: a3 :: a4 :: a5 :: a6 :: a7 :: a8 :: l, b⟩ 8 d o = ⟨a0 :: a1 :: a2 :: a3 :: a4 :: a5 :: a6 :: a7 :: some (d, o) :: l, b⟩ := rfl
theorem se8 {α : Type} (a0 a1 a2 a3 a4 a5 a6 a7 a8 x : α) (l : List α) : (a0 :: a1 :: a2 :: a3 :: a4 :: a5 :: a6 :: a7 :: a8 :: l).set 8 x = a0 :: a1 :: a2 :: a3 :: a4 :: a5 :: a6 :: a7 :: x :: l := rfl
theorem pu9 (a0 a1 a2 a3 a4 a5 a6 a7 a8 a9 l b d o) : St.put ⟨a0 :: a1 :: a2 :: a3 :: a4 :: a5 :: a6 :: a7 :: a8 :: a9 :: l, b⟩ 9 d o = ⟨a0 :: a1 :: a2 :: a3 :: a4 :: a5 :: a6 :: a7 :: a8 :: some (d, o) :: l, b⟩ := rfl
theorem se9 {α : Type} (a0 a1 a2 a3 a4 a5 a6 a7 a8 a9 x : α) (l : List α) : (a0 :: a1 :: a2 :: a3 :: a4 :: a5 :: a6 :: a7 :: a8 :: a9 :: l).set 9 x = a0 :: a1 :: a2 :: a3 :: a4 :: a5 :: a6 :: a7 :: a8 :: x :: l := rfl
theorem pu10 (a0 a1 a2 a3 a4 a5 a6 a7 a8 a9 a10 l b d o) : St.put ⟨a0 :: a1 :: a2 :: a3 :: a4 :: a5 :: a6 :: a7 :: a8 :: a9 :: a10 :: l, b⟩ 10 d o = ⟨a0 :: a1 :: a2 :: a3 :: a4 :: a5 :: a6 :: a7 :: a8 :: a9 :: some (d, o) :: l, b⟩ := rfl
theorem se10 {α : Type} (a0 a1 a2 a3 a4 a5 a6 a7 a8 a9 a10 x : α) (l : List α) : (a0 :: a1 :: a2 :: a3 :: a4 :: a5 :: a6 :: a7 :: a8 :: a9 :: a10 :: l).set 10 x = a0 :: a1 :: a2 :: a3 :: a4 :: a5 :: a6 :: a7 :: a8 :: a9 :: x :: l := rfl
theorem pu11 (a0 a1 a2 a3 a4 a5 a6 a7 a8 a9 a10 a11 l b d o) : St.put ⟨a0 :: a1 :: a2 :: a3 :: a4 :: a5 :: a6 :: a7 :: a8 :: a9 :: a10 :: a11 :: l, b⟩ 11 d o = ⟨a0 :: a1 :: a2 :: a3 :: a4 :: a5 :: a6 :: a7 :: a8 :: a9 :: a10 :: some (d, o) :: l, b⟩ := rfl
theorem se11 {α : Type} (a0 a1 a2 a3 a4 a5 a6 a7 a8 a9 a10 a11 x : α) (l : List α) : (a0 :: a1 :: a2 :: a3 :: a4 :: a5 :: a6 :: a7 :: a8 :: a9 :: a10 :: a11 :: l).set 11 x = a0 :: a1 :: a2 :: a3 :: a4 :: a5 :: a6 :: a7 :: a8 :: a9 :: a10 :: x :: l := rfl
theorem pu12 (a0 a1 a2 a3 a4 a5 a6 a7 a8 a9 a10 a11 a12 l b d o) : St.put ⟨a0 :: a1 :: a2 :: a3 :: a4 :: a5 :: a6 :: a7 :: a8 :: a9 :: a10 :: a11 :: a12 :: l, b⟩ 12 d o = ⟨a0 :: a1 :: a2 :: a3 :: a4 :: a5 :: a6 :: a7 :: a8 :: a9 :: a10 :: a11 :: some (d, o) :: l, b⟩ := rfl
theorem se12 {α : Type} (a0 a1 a2 a3 a4 a5 a6 a7 a8 a9 a10 a11 a12 x : α) (l : List α) : (a0 :: a1 :: a2 :: a3 :: a4 :: a5 :: a6 :: a7 :: a8 :: a9 :: a10 :: a11 :: a12 :: l).set 12 x = a0 :: a1 :: a2 :: a3 :: a4 :: a5 :: a6 :: a7 :: a8 :: a9 :: a10 :: a11 :: x :: l := rfl
/-! ### data that can be compared -/
def D.okN (n : Nat) (d : D) : Bool := d.pl && d.py.canLay0 && decide (d.py.depth ≤ n)
theorem sh_of {n : Nat} {d : D} (h : d.okN n = true) (hn : n ≤ 60) : d.sh = true := by
  unfold D.okN at h
  unfold D.sh
  rw [Bool.and_eq_true, Bool.and_eq_true, decide_eq_true_eq] at h ⊢
  exact ⟨h.1, by omega⟩
def nok (x : Str) : Bool := (PyData.str x).canLay0
theorem ok_str {n : Nat} {x : Str} (h : nok x = true) : (D.str x).okN n = true := by
  unfold D.okN
  rw [Bool.and_eq_true, Bool.and_eq_true, decide_eq_true_eq]
  exact ⟨⟨rfl, h⟩, Nat.zero_le _⟩
theorem ok_int {n : Nat} {i : Int} : (D.int i).okN n = true := by
  unfold D.okN
  rw [Bool.and_eq_true, Bool.and_eq_true, decide_eq_true_eq]
  exact ⟨⟨rfl, rfl⟩, Nat.zero_le _⟩
theorem ok_bl {n : Nat} {i : Bool} : (D.bl i).okN n = true := by
  unfold D.okN
  rw [Bool.and_eq_true, Bool.and_eq_true, decide_eq_true_eq]
  exact ⟨⟨rfl, rfl⟩, Nat.zero_le _⟩
theorem ok_non {n : Nat} : (D.non).okN n = true := by
  unfold D.okN
  rw [Bool.and_eq_true, Bool.and_eq_true, decide_eq_true_eq]
  exact ⟨⟨rfl, rfl⟩, Nat.zero_le _⟩
theorem okL {n : Nat} : ∀ {ds : List D}, (∀ d ∈ ds, d.okN n = true) → plL ds = true ∧ PyData.canLayAll0 (pyL ds) = true ∧ PyData.depthAll (pyL ds) ≤ n
  | [], _ => ⟨rfl, rfl, Nat.zero_le _⟩
  | d :: ds, h => by
    obtain ⟨h1, h2, h3⟩ := okL (ds := ds) fun x hx => h x (List.mem_cons_of_mem _ hx)
    have h0 := h d List.mem_cons_self
    unfold D.okN at h0
    rw [Bool.and_eq_true, Bool.and_eq_true, decide_eq_true_eq] at h0
    refine ⟨?_, ?_, ?_⟩
    · rw [plL, h0.1.1, h1]; rfl
    · show (PyData.canLay0 d.py && PyData.canLayAll0 (pyL ds)) = true
      rw [h0.1.2, h2]; rfl
    · show max d.py.depth (PyData.depthAll (pyL ds)) ≤ n
      omega
theorem ok_tup {n : Nat} {ds : List D} (h : ∀ d ∈ ds, d.okN n = true) : (D.tup ds).okN (n + 1) = true := by
  obtain ⟨h1, h2, h3⟩ := okL h
  unfold D.okN
  rw [Bool.and_eq_true, Bool.and_eq_true, decide_eq_true_eq]
  exact ⟨⟨h1, h2⟩, Nat.succ_le_succ h3⟩
theorem ok_lst {n : Nat} {ds : List D} (h : ∀ d ∈ ds, d.okN n = true) : (D.lst ds).okN (n + 1) = true := by
  obtain ⟨h1, h2, h3⟩ := okL h
  unfold D.okN
  rw [Bool.and_eq_true, Bool.and_eq_true, decide_eq_true_eq]
  exact ⟨⟨h1, h2⟩, Nat.succ_le_succ h3⟩
theorem ok_up {n m : Nat} {d : D} (h : d.okN n = true) (hn : n ≤ m) : d.okN m = true := by
  unfold D.okN at *
  rw [Bool.and_eq_true, Bool.and_eq_true, decide_eq_true_eq] at *
  exact ⟨h.1, by omega⟩
/-! ### equality -/
theorem eq_some {a b : D} {n m : Nat} (h : a.okN n = true) (k : b.okN m = true) (hn : n ≤ 60) (hm : m ≤ 60) : eqD a b = some (PyData.eqv a.py b.py) := by
  unfold eqD
  rw [sh_of h hn, sh_of k hm]; rfl
theorem eqv_str (x y : Str) : PyData.eqv (D.str x).py (D.str y).py = decide (x = y) := by
  show (x == y) = _
  by_cases h : x = y
  · subst h; simp
  · simp [h]
theorem eqv_int (x y : Int) : PyData.eqv (D.int x).py (D.int y).py = decide (x = y) := by
  show (x == y) = _
  by_cases h : x = y
  · subst h; simp
  · simp [h]
theorem eqv_bl (x y : Bool) : PyData.eqv (D.bl x).py (D.bl y).py = decide (x = y) := by cases x <;> cases y <;> rfl
/-- an encoding that tells all apart -/
structure Enc (α : Type) [DecidableEq α] where
  f : α → D
  ok : α → Bool
  n : Nat
  hok : ∀ a, ok a = true → (f a).okN n = true
  eqv : ∀ a b, PyData.eqv (f a).py (f b).py = decide (a = b)
theorem eqvAll_map {α : Type} [DecidableEq α] (f : α → D) (h : ∀ a b, PyData.eqv (f a).py (f b).py = decide (a = b)) : ∀ xs ys : List α, PyData.eqvAll (pyL (xs.map f)) (pyL (ys.map f)) = decide (xs = ys)
  | [], [] => rfl
  | [], y :: ys => rfl
  | x :: xs, [] => rfl
  | x :: xs, y :: ys => by
    show (PyData.eqv (f x).py (f y).py && PyData.eqvAll (pyL (xs.map f)) (pyL (ys.map f))) = _
    rw [h, eqvAll_map f h xs ys]
    by_cases e : x = y <;> by_cases e2 : xs = ys <;> simp [e, e2]
def eStr : Enc Str := ⟨D.str, nok, 0, fun a h => ok_str h, eqv_str⟩
def eTup {α : Type} [DecidableEq α] (e : Enc α) : Enc (List α) where
  f := fun xs => .tup (xs.map e.f)
  ok := fun xs => xs.all e.ok
  n := e.n + 1
  hok := fun xs h => ok_tup fun d hd => by
    obtain ⟨a, ha, rfl⟩ := List.mem_map.mp hd
    exact e.hok a (List.all_eq_true.mp h a ha)
  eqv := fun a b => eqvAll_map e.f e.eqv a b
def eLst {α : Type} [DecidableEq α] (e : Enc α) : Enc (List α) where
  f := fun xs => .lst (xs.map e.f)
  ok := fun xs => xs.all e.ok
  n := e.n + 1
  hok := fun xs h => ok_lst fun d hd => by
    obtain ⟨a, ha, rfl⟩ := List.mem_map.mp hd
    exact e.hok a (List.all_eq_true.mp h a ha)
  eqv := fun a b => eqvAll_map e.f e.eqv a b
def ePair {α β : Type} [DecidableEq α] [DecidableEq β] (e : Enc α) (g : Enc β) : Enc (α × β) where
  f := fun p => .tup [e.f p.1, g.f p.2]
  ok := fun p => e.ok p.1 && g.ok p.2
  n := max e.n g.n + 1
  hok := fun p h => by
    rw [Bool.and_eq_true] at h
    refine ok_tup fun d hd => ?_
    rcases List.mem_cons.mp hd with rfl | hd
    · exact ok_up (e.hok _ h.1) (by omega)
    · rw [List.mem_singleton.mp hd]; exact ok_up (g.hok _ h.2) (by omega)
  eqv := fun a b => by
    show (PyData.eqv (e.f a.1).py (e.f b.1).py && (PyData.eqv (g.f a.2).py (g.f b.2).py && true)) = _
    rw [e.eqv, g.eqv]
    obtain ⟨a1, a2⟩ := a
    obtain ⟨b1, b2⟩ := b
    by_cases h : a1 = b1 <;> by_cases h2 : a2 = b2 <;> simp [h, h2]
abbrev eSh : Enc (List Str) := eTup eStr
abbrev eM : Enc (Str × List Str) := ePair eStr eSh
section
variable {α : Type} [DecidableEq α] (e : Enc α)
theorem eq_enc (hn : e.n ≤ 60) {a b : α} (h : e.ok a = true) (k : e.ok b = true) : eqD (e.f a) (e.f b) = some (decide (a = b)) := by
  rw [eq_some (e.hok a h) (e.hok b k) hn hn, e.eqv]
theorem in_enc (hn : e.n + 1 ≤ 60) {a : α} {xs : List α} (h : e.ok a = true) (k : xs.all e.ok = true) : inL (e.f a) (xs.map e.f) = some (decide (a ∈ xs)) := by
  unfold inL
  rw [sh_of (e.hok a h) (by omega), (show (D.lst (xs.map e.f)).sh = true from sh_of ((eLst e).hok xs k) hn)]
  simp only [Bool.and_self, if_true, Option.some.injEq]
  rw [List.any_map]
  have : ((fun z => PyData.eqv z.py (e.f a).py) ∘ e.f) = fun x => decide (x = a) := by
    funext x
    exact e.eqv x a
  rw [this]
  induction xs with
  | nil => rfl
  | cons x xs ih =>
    have := ih (by rw [List.all_cons, Bool.and_eq_true] at k; exact k.2)
    rw [List.any_cons, this]
    by_cases h : x = a
    · subst h; simp
    · have h2 : ¬ a = x := fun e => h e.symm
      simp [h, h2]
end
/-! ### walks -/
theorem gat_map {α β : Type} {step : D → St → Option (List α × St)} {f : β → D} {g : β → List α} {s : St} {xs : List β} (h : ∀ x ∈ xs, step (f x) s = some (g x, s)) : gat step (xs.map f) s = some (xs.flatMap g, s) := by
  induction xs with
  | nil => rfl
  | cons x xs ih =>
    show (step (f x) s).bind (fun p => (gat step (xs.map f) p.2).bind fun q => some (p.1 ++ q.1, q.2)) = _
    rw [h x List.mem_cons_self]
    show (gat step (xs.map f) s).bind (fun q => some (g x ++ q.1, q.2)) = _
    rw [ih fun y hy => h y (List.mem_cons_of_mem _ hy)]
    rfl
theorem gats_map {α β : Type} {step : D → St → Option (List α × St)} {f : β → D} {g : β → List α} {s : St} {xs : List β} (h : ∀ x ∈ xs, step (f x) s = some (g x, s)) : gats step (.fix (xs.map f)) s = some (xs.flatMap g, s) := gat_map h
/-! ### reckoning -/
theorem tr_bl (b : Bool) : truth (.bl b) = some b := rfl
theorem tr_int (i : Int) : truth (.int i) = some (i != 0) := rfl
theorem tr_lst (xs : List D) : truth (.lst xs) = some (!xs.isEmpty) := rfl
theorem tr_tup (xs : List D) : truth (.tup xs) = some (!xs.isEmpty) := rfl
theorem tr_non : truth .non = some false := rfl
theorem io_tup (xs : List D) : itemsOf (.tup xs) = some xs := rfl
theorem io_lst (xs : List D) : itemsOf (.lst xs) = some xs := rfl
theorem io_unlT (xs : List D) : unl (.tup xs) = .tup xs := rfl
theorem io_unlL (xs : List D) : unl (.lst xs) = .tup xs := rfl
theorem io_dK (kvs) : itemsOf (.dK kvs) = some (kvs.map fun kv => kD kv.1) := rfl
theorem bn_addI (i j : Int) : binD .Add (.int i) (.int j) = some (.int (i + j), false) := rfl
theorem bn_subI (i j : Int) : binD .Sub (.int i) (.int j) = some (.int (i - j), false) := rfl
theorem bn_addT (xs ys : List D) : binD .Add (.tup xs) (.tup ys) = if xs.length + ys.length ≤ sizeLine then some (.tup (xs ++ ys), false) else none := rfl
theorem bn_addL (xs ys : List D) : binD .Add (.lst xs) (.lst ys) = if xs.length + ys.length ≤ sizeLine then some (.lst (xs ++ ys), true) else none := rfl
theorem bn_addS (s t : Str) : binD .Add (.str s) (.str t) = if s.length + t.length ≤ sizeLine then some (.str (s ++ t), false) else none := rfl
theorem or_lt (i j : Int) : cmpD .Lt (.int i) (.int j) = some (decide (i < j)) := rfl
theorem or_le (i j : Int) : cmpD .LtE (.int i) (.int j) = some (decide (i ≤ j)) := rfl
theorem or_gt (i j : Int) : cmpD .Gt (.int i) (.int j) = some (decide (j < i)) := rfl
theorem or_ge (i j : Int) : cmpD .GtE (.int i) (.int j) = some (decide (j ≤ i)) := rfl
theorem or_ltS (x y : Str) : cmpD .Lt (.str x) (.str y) = some (decide (x.cps.toList < y.cps.toList)) := rfl
theorem ix_lst (xs : List D) (i : Int) : ixD (.lst xs) (.int i) = L2.atI xs i := rfl
theorem ix_tup (xs : List D) (i : Int) : ixD (.tup xs) (.int i) = L2.atI xs i := rfl
theorem ix_dK (kvs) (x : Str) : ixD (.dK kvs) (.str x) = lk kvs (.inr x) := rfl
theorem at_0 {α : Type} (x : α) (xs : List α) : L2.atI (x :: xs) 0 = some x := by
  simp [L2.atI, L2.ixN]
theorem at_1 {α : Type} (x y : α) (xs : List α) : L2.atI (x :: y :: xs) 1 = some y := by
  simp [L2.atI, L2.ixN]
  rw [if_pos (by omega)]
  rfl
theorem at_2 {α : Type} (x y z : α) (xs : List α) : L2.atI (x :: y :: z :: xs) 2 = some z := by
  simp [L2.atI, L2.ixN]
  rw [if_pos (by omega)]
  rfl
theorem boolsOf_map {β : Type} (p : β → Bool) : ∀ xs : List β, boolsOf (xs.map fun x => D.bl (p x)) = some (xs.map p)
  | [] => rfl
  | x :: xs => by
    show (boolsOf (xs.map fun x => D.bl (p x))).bind (fun bs => some (p x :: bs)) = _
    rw [boolsOf_map p xs]; rfl
theorem flat1 {β γ : Type} (f : β → γ) (xs : List β) : xs.flatMap (fun x => [f x]) = xs.map f := by
  induction xs with
  | nil => rfl
  | cons x xs ih => rw [List.flatMap_cons, ih]; rfl
theorem flatIf {β γ : Type} (p : β → Bool) (f : β → γ) (xs : List β) : xs.flatMap (fun x => if p x = true then [f x] else []) = (xs.filter p).map f := by
  induction xs with
  | nil => rfl
  | cons x xs ih =>
    rw [List.flatMap_cons, ih, List.filter_cons]
    split <;> rfl
theorem bi_allM {β : Type} (p : β → Bool) (xs : List β) : biD "all" [.lst (xs.map fun x => D.bl (p x))] = some (.bl (xs.all p), false) := by
  show (boolsOf (xs.map fun x => D.bl (p x))).bind (fun bs => some (D.bl (bs.all id), false)) = _
  rw [boolsOf_map]
  simp [List.all_map, Function.comp_def]
theorem bi_anyM {β : Type} (p : β → Bool) (xs : List β) : biD "any" [.lst (xs.map fun x => D.bl (p x))] = some (.bl (xs.any p), false) := by
  show (boolsOf (xs.map fun x => D.bl (p x))).bind (fun bs => some (D.bl (bs.any id), false)) = _
  rw [boolsOf_map]
  simp [List.any_map, Function.comp_def]
theorem bi_lenL (xs : List D) : biD "len" [.lst xs] = some (.int xs.length, false) := rfl
theorem bi_lenT (xs : List D) : biD "len" [.tup xs] = some (.int xs.length, false) := rfl
theorem bi_tupL (xs : List D) : biD "tuple" [.lst xs] = some (.tup xs, false) := rfl
theorem bi_tupT (xs : List D) : biD "tuple" [.tup xs] = some (.tup xs, false) := rfl
theorem bi_lstL (xs : List D) : biD "list" [.lst xs] = some (.lst xs, true) := rfl
theorem bi_lstT (xs : List D) : biD "list" [.tup xs] = some (.lst xs, true) := rfl
theorem bi_intI (i : Int) : biD "int" [.int i] = some (.int i, false) := rfl
theorem bi_intB (i : Bool) : biD "int" [.bl i] = some (.int (if i then 1 else 0), false) := rfl
theorem cmp_in (x y : D) : cmpD .In x y = inD x y := rfl
theorem cmp_notin (x y : D) : cmpD .NotIn x y = (inD x y).map (!·) := rfl
theorem cmp_eq (x y : D) : cmpD .Eq x y = eqD x y := rfl
theorem cmp_ne (x y : D) : cmpD .NotEq x y = (eqD x y).map (!·) := rfl
theorem in_lst (x : D) (xs : List D) : inD x (.lst xs) = inL x xs := rfl
theorem in_tup (x : D) (xs : List D) : inD x (.tup xs) = inL x xs := rfl
theorem in_str (e : Str) (xs : List Str) (h : nok e = true) (k : xs.all nok = true) : inL (.str e) (xs.map .str) = some (decide (e ∈ xs)) := in_enc eStr (by decide) h k
/-- a loop that does not return -/
theorem forL_inv {β : Type} {f : β → D} {step : D → St → Option (Fl × St)} (I : List β → St → Prop) {xs : List β} : ∀ {todo done : List β} {s : St}, xs = done ++ todo → I done s → (∀ x rest done s, xs = done ++ x :: rest → I done s → ∃ s', step (f x) s = some (.nx, s') ∧ I (done ++ [x]) s') → ∃ s', forL step (todo.map f) s = some (.nx, s') ∧ I xs s'
  | [], done, s, e, h, _ => ⟨s, rfl, by rw [e, List.append_nil]; exact h⟩
  | x :: todo, done, s, e, h, k => by
    obtain ⟨s1, h1, h2⟩ := k x todo done s e h
    obtain ⟨s2, h3, h4⟩ := forL_inv I (todo := todo) (done := done ++ [x]) (by rw [e, List.append_assoc]; rfl) h2 k
    refine ⟨s2, ?_, h4⟩
    show (step (f x) s).bind (fun p => match p.1 with
      | .nx => forL step (todo.map f) p.2
      | .rt d b => some (.rt d b, p.2)) = _
    rw [h1]
    exact h3
theorem sd_dK (kvs) (x : Str) (v : D) : setD (.dK kvs) (.str x) v = if kvs.length < sizeLine then some (.dK (pt kvs (.inr x) v)) else none := rfl
theorem sd_lst (xs : List D) (i : Int) (v : D) : setD (.lst xs) (.int i) v = (L2.ixN xs.length i).bind fun k => some (.lst (xs.set k v)) := rfl
theorem strsOf_map (ys : List Str) : strsOf (ys.map D.str) = some ys := by
  induction ys with
  | nil => rfl
  | cons y ys ih =>
    show (strsOf (ys.map D.str)).bind (fun bs => some (y :: bs)) = _
    rw [ih]; rfl
theorem forL_out {β : Type} {f : β → D} {step : D → St → Option (Fl × St)} {s0 : St} {o : Option (Fl × St)} {xs : List β} (hf : forL step (xs.map f) s0 = o) (I : List β → St → Prop) (h0 : I [] s0)
    (hs : ∀ x rest done s, xs = done ++ x :: rest → I done s → ∃ s', step (f x) s = some (.nx, s') ∧ I (done ++ [x]) s') : ∃ s', o = some (.nx, s') ∧ I xs s' := by
  obtain ⟨s', h1, h2⟩ := forL_inv I (todo := xs) (done := []) rfl h0 hs
  exact ⟨s', by rw [← hf, h1], h2⟩
theorem lf_bl (x) : (D.bl x).lf = true := rfl
theorem lf_int (x) : (D.int x).lf = true := rfl
theorem lf_str (x) : (D.str x).lf = true := rfl
theorem lf_non : (D.non).lf = true := rfl
theorem lf_box (x) : (D.box x).lf = true := rfl
theorem lf_lst (x) : (D.lst x).lf = false := rfl
theorem lf_dK (x) : (D.dK x).lf = false := rfl
theorem lf_tup (x) : (D.tup x).lf = lfL x := rfl
theorem lf_lfS : ∀ xs : List Str, lfL (xs.map D.str) = true
  | [] => rfl
  | _ :: xs => lf_lfS xs
theorem lf_lfC (x xs) : lfL (x :: xs) = (x.lf && lfL xs) := rfl
theorem lf_lfN : lfL [] = true := rfl
theorem sl_0 : (0 ≤ sizeLine) = True := by rw [sizeLine_eq]; simp
theorem sl_1 : (1 ≤ sizeLine) = True := by rw [sizeLine_eq]; simp
theorem sl_2 : (2 ≤ sizeLine) = True := by rw [sizeLine_eq]; simp
theorem sl_3 : (3 ≤ sizeLine) = True := by rw [sizeLine_eq]; simp
theorem sl_4 : (4 ≤ sizeLine) = True := by rw [sizeLine_eq]; simp
theorem sl_5 : (5 ≤ sizeLine) = True := by rw [sizeLine_eq]; simp
theorem sl_6 : (6 ≤ sizeLine) = True := by rw [sizeLine_eq]; simp
theorem sl_7 : (7 ≤ sizeLine) = True := by rw [sizeLine_eq]; simp
theorem sl_8 : (8 ≤ sizeLine) = True := by rw [sizeLine_eq]; simp
theorem sl_9 : (9 ≤ sizeLine) = True := by rw [sizeLine_eq]; simp
theorem sl_10 : (10 ≤ sizeLine) = True := by rw [sizeLine_eq]; simp
theorem sl_11 : (11 ≤ sizeLine) = True := by rw [sizeLine_eq]; simp
theorem sl_12 : (12 ≤ sizeLine) = True := by rw [sizeLine_eq]; simp
theorem strsOf_cons (x : Str) (ys : List Str) : strsOf (D.str x :: ys.map D.str) = some (x :: ys) := by
  show (strsOf (ys.map D.str)).bind (fun bs => some (x :: bs)) = _
  rw [strsOf_map]; rfl
theorem gatV_from {α β : Type} {step : D → St → Option (List α × St)} {f : β → D} {g : β → List α} {s : St} {i : Nat} {xs : List β} (hs : s.get i = some (.lst (xs.map f), true)) (h : ∀ x ∈ xs, step (f x) s = some (g x, s)) : ∀ (fu j : Nat), xs.length - j < fu → j ≤ xs.length → gatV step i fu j s = some ((xs.drop j).flatMap g, s)
  | 0, j, hf, hj => by omega
  | fu + 1, j, hf, hj => by
    show (match s.get i with
      | some (.lst ys, true) => (match ys[j]? with
        | none => some ([], s)
        | some x => (step x s).bind fun p => (gatV step i fu (j + 1) p.2).bind fun q => some (p.1 ++ q.1, q.2))
      | _ => none) = _
    rw [hs]
    show (match (xs.map f)[j]? with
        | none => some ([], s)
        | some x => (step x s).bind fun p => (gatV step i fu (j + 1) p.2).bind fun q => some (p.1 ++ q.1, q.2)) = _
    rw [List.getElem?_map]
    rcases Nat.lt_or_ge j xs.length with hl | hl
    · rw [List.getElem?_eq_getElem hl, List.drop_eq_getElem_cons hl]
      show (step (f xs[j]) s).bind (fun p => (gatV step i fu (j + 1) p.2).bind fun q => some (p.1 ++ q.1, q.2)) = _
      rw [h _ (List.getElem_mem hl)]
      show (gatV step i fu (j + 1) s).bind (fun q => some (g xs[j] ++ q.1, q.2)) = _
      rw [gatV_from hs h fu (j + 1) (by omega) (by omega)]
      rfl
    · rw [List.getElem?_eq_none hl, List.drop_eq_nil_of_le hl]
      rfl
theorem gatsV_map {α β : Type} {step : D → St → Option (List α × St)} {f : β → D} {g : β → List α} {s : St} {i : Nat} {xs : List β} (hs : s.get i = some (.lst (xs.map f), true)) (hz : xs.length < big) (h : ∀ x ∈ xs, step (f x) s = some (g x, s)) : gats step (.var i) s = some (xs.flatMap g, s) := by
  have := gatV_from hs h big 0 (by omega) (Nat.zero_le _)
  rw [List.drop_zero] at this
  exact this
theorem mt_pop (C : CallF) (n : Nat) (s : St) (i : Nat) (es : List E) : ev C (n + 1) (.meth (.loc i) "pop" es) s = (if mutK "pop" (s.get i) then do
          let (ts, s) ← evL (ev C n) es s
          let (ds, s) ← takes ts s
          match s.get i with
          | some (d, true) => do
            let (d, r) ← mutD "pop" d ds
            some (.v r false, s.put i d true)
          | _ => none
          else none) := by
  rw [ev_meth, if_pos (by decide +kernel)] <;> rfl
theorem mt_app (C : CallF) (n : Nat) (s : St) (i : Nat) (es : List E) : ev C (n + 1) (.meth (.loc i) "append" es) s = (if mutK "append" (s.get i) then do
          let (ts, s) ← evL (ev C n) es s
          let (ds, s) ← takes ts s
          match s.get i with
          | some (d, true) => do
            let (d, r) ← mutD "append" d ds
            some (.v r false, s.put i d true)
          | _ => none
          else none) := by
  rw [ev_meth, if_pos (by decide +kernel)] <;> rfl
theorem mt_kpop (xs : List D) : mutK "pop" (some (.lst xs, true)) = true := by
  show (decide (("pop" : Str) ≠ ("update" : Str)) && decide (("pop" : Str) ≠ ("remove" : Str))) = true
  decide +kernel
theorem mt_kapp (xs : List D) : mutK "append" (some (.lst xs, true)) = true := by
  show (decide (("append" : Str) ≠ ("update" : Str)) && decide (("append" : Str) ≠ ("remove" : Str))) = true
  decide +kernel
theorem mt_dapp (xs : List D) (y : D) : mutD "append" (.lst xs) [y] = if xs.length < sizeLine then some (.lst (xs ++ [y]), .non) else none := rfl
theorem mt_dpop (xs : List D) (i : Int) : mutD "pop" (.lst xs) [.int i] = (L2.ixN xs.length i).bind fun k => (xs[k]?).bind fun v => some (.lst (xs.eraseIdx k), v) := rfl
end Mp
/-! Mq, part 2: what the program's defs do. -/
namespace Mp
open PySem L2
abbrev Ups := List (Str × List Str)
abbrev upsD (u : Ups) : D := .dK (u.map fun p => (.inr p.1, .lst (p.2.map .str)))
def upOf (u : Ups) (x : Str) : List Str := (u.lookup x).getD []
/-! ### calls of the table -/
/-- from level l on, f called with ds hands back d -/
def Lv (T : Tbl) (N l : Nat) (f : Str) (ds : List D) (d : D) (fr : Bool) : Prop := ∀ m b, l ≤ m → callAt T N m f ds b = some (d, fr, b)
theorem callAt_fn {T : Tbl} {N k : Nat} {f : Str} {F : FDef} {ds : List D} {b : List (List Int)} (h : T.lookup f = some F) (hk : F.kd = .fn) : callAt T N (k + 1) f ds b = runF (callAt T N k) N F ds b := by
  show (match T.lookup f with
    | none => none
    | some F => (match F.kd with
      | .fn => runF (callAt T N k) N F ds b
      | .ini => runI (callAt T N k) N f F ds b)) = _
  rw [h]
  simp only [hk]
theorem Lv.of {T : Tbl} {N l : Nat} {f : Str} {F : FDef} {ds : List D} {d : D} {fr : Bool} (hT : T.lookup f = some F) (hk : F.kd = .fn) (h : ∀ k b, l ≤ k → runF (callAt T N k) N F ds b = some (d, fr, b)) : Lv T N (l + 1) f ds d fr := fun m b hm => by
  obtain ⟨k, rfl⟩ : ∃ k, m = k + 1 := ⟨m - 1, by omega⟩
  rw [callAt_fn hT hk]
  exact h k b (by omega)
theorem Lv.up {T : Tbl} {N l l' : Nat} {f : Str} {ds : List D} {d : D} {fr : Bool} (h : Lv T N l f ds d fr) (hl : l ≤ l') : Lv T N l' f ds d fr := fun m b hm => h m b (by omega)
local macro_rules | `(tactic| walk_at "ev") => `(tactic| simp only [sb, nb, List.length_cons, List.length_nil, Nat.zero_add, Nat.reduceAdd, Nat.reduceSub, if_true, initSt, runL, evL, takes, take, dsOf, Tmp.d, List.map_cons, List.map_nil, List.cons_append, List.nil_append, List.replicate_succ, List.replicate_zero, st_get0, stepB, bindT, slotsT, bodyL, tests, St.wipe, St.back, List.foldr_cons, List.foldr_nil, List.foldl_cons, List.foldl_nil, List.zip_cons_cons, List.zip_nil_right, args, arg, called, asgs, setl, puts, St.frz, St.frzs, varsOf, optD, body2, bodyK, Option.isSome_some, Bool.true_eq_false, Bool.false_eq_true, if_false, Option.map_some, Bool.not_true, Bool.not_false, strsOf_map, strsOf_cons, sd_dK, sd_lst, andT, orT, andV, orV, gt1, gt2, gt3, gt4, gt5, gt6, gt7, gt8, gt9, gt10, gt11, gt12, pu0, pu1, pu2, pu3, pu4, pu5, pu6, pu7, pu8, pu9, pu10, pu11, pu12, se0, se1, se2, se3, se4, se5, se6, se7, se8, se9, se10, se11, se12, List.getD_cons_zero, List.getD_cons_succ, in_lst, in_tup, ite_self, Bool.and_self, Bool.true_and, Bool.and_true, Bool.false_and, Bool.and_false, decide_true, decide_false, ne_eq, not_true_eq_false, not_false_eq_true, eq_self, List.length_map, asg1, Nat.reduceEqDiff, srcX_fix, srcX_var, ev_loc, ev_lc, ev_lc2, ev_dc, ev_lofV, ev_int, ev_str, ev_bl, ev_non, ev_tup, ev_lst, ev_nbox, ev_dic, ev_bin, ev_neg, ev_cmp, ev_chn, ev_and, ev_or, ev_not, ev_ite, ev_ix, ev_sl, ev_rev, ev_fld, ev_bi, ev_isi, ev_sset, tst_and, tst_or, tst_not, tst_ite, itr_ex, itr_rng, itr_zip, itr_enum, itr_items, itr_vals, ex_asg, ex_asgT, ex_par, ex_asgI, ex_asgF, ex_aug, ex_ex, ex_ret, ex_iff, ex_for_, ex_whl, ex_pass, ex_stop, tst_loc, tst_glob, tst_int, tst_str, tst_bl, tst_non, tst_tup, tst_lst, tst_nbox, tst_dic, tst_bin, tst_neg, tst_cmp, tst_chn, tst_ix, tst_sl, tst_rev, tst_fld, tst_call, tst_callK, tst_bi, tst_isi, tst_sset, tst_lset, tst_lof, tst_meth, tst_lc, tst_lc2, tst_dc, tst_dc2, ec_tupled, ec_names_of, ec_above, ec_below_by, ec_products, ec_shapes, ec_greatest_by, ec_common, ec_fitting_by, ec_nearest_by, ec_torn_by, ec_shapes_of, ec_ups_of, ec_shape_of, ec_labels_of, ec_fitting, ec_nearest, ec_chosen, ec_torn, ec_greatest_torn, ec_meet, ec_cover, ec_is_under, ec_is_below, ec_shape_below, ec_law_box, ec_law_take, ec_law_cells, ec_law_of, ec_law_same, ec_law_shapes, ec_law_methods, ec_law_kinds, ec_law_up, ec_law_under, ec_law_calls, ec_law_right, ec_law_lists, ec_law_fits, ec_law_near, ec_law_chosen, ec_law_pairs, ec_law_generic, tr_bl, tr_int, tr_lst, tr_tup, tr_non, io_tup, io_lst, io_unlT, io_unlL, io_dK, bn_addI, bn_subI, bn_addT, bn_addL, bn_addS, or_lt, or_le, or_gt, or_ge, or_ltS, ix_lst, ix_tup, ix_dK, at_0, at_1, at_2, bi_allM, bi_anyM, bi_lenL, bi_lenT, bi_tupL, bi_tupT, bi_lstL, bi_lstT, bi_intI, bi_intB, cmp_in, cmp_notin, cmp_eq, cmp_ne, lf_bl, lf_int, lf_str, lf_non, lf_box, lf_lst, lf_dK, lf_tup, lf_lfS, lf_lfC, lf_lfN, sl_0, sl_1, sl_2, sl_3, sl_4, sl_5, sl_6, sl_7, sl_8, sl_9, sl_10, sl_11, sl_12, mt_pop, mt_app, mt_kpop, mt_kapp, mt_dapp])
variable {T : Tbl} {n : Nat}
/-! ### tupled -/
def F_tupled : FDef := ⟨.fn, 1, 2, [.ret (.ite (.isi (.loc 0) ["list", "tuple"] true) (.bi "tuple" [.lc (.call "tupled" [.loc 1]) (.mk (.nm 1) (.ex (.loc 0)) []) [1]]) (.loc 0))]⟩
theorem nm_list : String.ofList (List.map Char.ofNat (Str.ofString "list").cps.toList) = "list" := by decide +kernel
theorem nm_tuple : String.ofList (List.map Char.ofNat (Str.ofString "tuple").cps.toList) = "tuple" := by decide +kernel
theorem nm_int : String.ofList (List.map Char.ofNat (Str.ofString "int").cps.toList) = "int" := by decide +kernel
theorem nm_bool : String.ofList (List.map Char.ofNat (Str.ofString "bool").cps.toList) = "bool" := by decide +kernel
theorem nm_str : String.ofList (List.map Char.ofNat (Str.ofString "str").cps.toList) = "str" := by decide +kernel
def isAtom : D → Bool
  | .non => true
  | .int _ => true
  | .str _ => true
  | .bl _ => true
  | _ => false
theorem isi_atom {d : D} (h : isAtom d = true) : isi d ["list", "tuple"] = some false := by
  cases d <;> first | (cases h; done) | rfl
theorem isi_tup {xs : List D} : isi (.tup xs) ["list", "tuple"] = some true := rfl
theorem isi_lst {xs : List D} : isi (.lst xs) ["list", "tuple"] = some true := rfl
def belowBy (u : Ups) (one other : List Str) : Bool := (one.zip other).all fun p => decide (p.2 ∈ upOf u p.1)
theorem zipD_map {α β : Type} (f : α → D) (g : β → D) : ∀ (xs : List α) (ys : List β), zipD (xs.map f) (ys.map g) = (xs.zip ys).map fun p => .tup [f p.1, g p.2]
  | [], _ => rfl
  | _ :: _, [] => rfl
  | x :: xs, y :: ys => by show _ :: zipD (xs.map f) (ys.map g) = _; rw [zipD_map f g xs ys]; rfl
end Mp
/-! Mq, part 3: tupled, names_of, above, below_by, products, shapes. -/
namespace Mp
open PySem L2
local macro_rules | `(tactic| walk_at "ev") => `(tactic| simp only [sb, nb, List.length_cons, List.length_nil, Nat.zero_add, Nat.reduceAdd, Nat.reduceSub, if_true, initSt, runL, evL, takes, take, dsOf, Tmp.d, List.map_cons, List.map_nil, List.cons_append, List.nil_append, List.replicate_succ, List.replicate_zero, st_get0, stepB, bindT, slotsT, bodyL, tests, St.wipe, St.back, List.foldr_cons, List.foldr_nil, List.foldl_cons, List.foldl_nil, List.zip_cons_cons, List.zip_nil_right, args, arg, called, asgs, setl, puts, St.frz, St.frzs, varsOf, optD, body2, bodyK, Option.isSome_some, Bool.true_eq_false, Bool.false_eq_true, if_false, Option.map_some, Bool.not_true, Bool.not_false, strsOf_map, strsOf_cons, sd_dK, sd_lst, andT, orT, andV, orV, gt1, gt2, gt3, gt4, gt5, gt6, gt7, gt8, gt9, gt10, gt11, gt12, pu0, pu1, pu2, pu3, pu4, pu5, pu6, pu7, pu8, pu9, pu10, pu11, pu12, se0, se1, se2, se3, se4, se5, se6, se7, se8, se9, se10, se11, se12, List.getD_cons_zero, List.getD_cons_succ, in_lst, in_tup, ite_self, Bool.and_self, Bool.true_and, Bool.and_true, Bool.false_and, Bool.and_false, decide_true, decide_false, ne_eq, not_true_eq_false, not_false_eq_true, eq_self, List.length_map, asg1, Nat.reduceEqDiff, srcX_fix, srcX_var, ev_loc, ev_lc, ev_lc2, ev_dc, ev_lofV, ev_int, ev_str, ev_bl, ev_non, ev_tup, ev_lst, ev_nbox, ev_dic, ev_bin, ev_neg, ev_cmp, ev_chn, ev_and, ev_or, ev_not, ev_ite, ev_ix, ev_sl, ev_rev, ev_fld, ev_bi, ev_isi, ev_sset, tst_and, tst_or, tst_not, tst_ite, itr_ex, itr_rng, itr_zip, itr_enum, itr_items, itr_vals, ex_asg, ex_asgT, ex_par, ex_asgI, ex_asgF, ex_aug, ex_ex, ex_ret, ex_iff, ex_for_, ex_whl, ex_pass, ex_stop, tst_loc, tst_glob, tst_int, tst_str, tst_bl, tst_non, tst_tup, tst_lst, tst_nbox, tst_dic, tst_bin, tst_neg, tst_cmp, tst_chn, tst_ix, tst_sl, tst_rev, tst_fld, tst_call, tst_callK, tst_bi, tst_isi, tst_sset, tst_lset, tst_lof, tst_meth, tst_lc, tst_lc2, tst_dc, tst_dc2, ec_tupled, ec_names_of, ec_above, ec_below_by, ec_products, ec_shapes, ec_greatest_by, ec_common, ec_fitting_by, ec_nearest_by, ec_torn_by, ec_shapes_of, ec_ups_of, ec_shape_of, ec_labels_of, ec_fitting, ec_nearest, ec_chosen, ec_torn, ec_greatest_torn, ec_meet, ec_cover, ec_is_under, ec_is_below, ec_shape_below, ec_law_box, ec_law_take, ec_law_cells, ec_law_of, ec_law_same, ec_law_shapes, ec_law_methods, ec_law_kinds, ec_law_up, ec_law_under, ec_law_calls, ec_law_right, ec_law_lists, ec_law_fits, ec_law_near, ec_law_chosen, ec_law_pairs, ec_law_generic, tr_bl, tr_int, tr_lst, tr_tup, tr_non, io_tup, io_lst, io_unlT, io_unlL, io_dK, bn_addI, bn_subI, bn_addT, bn_addL, bn_addS, or_lt, or_le, or_gt, or_ge, or_ltS, ix_lst, ix_tup, ix_dK, at_0, at_1, at_2, bi_allM, bi_anyM, bi_lenL, bi_lenT, bi_tupL, bi_tupT, bi_lstL, bi_lstT, bi_intI, bi_intB, cmp_in, cmp_notin, cmp_eq, cmp_ne, lf_bl, lf_int, lf_str, lf_non, lf_box, lf_lst, lf_dK, lf_tup, lf_lfS, lf_lfC, lf_lfN, sl_0, sl_1, sl_2, sl_3, sl_4, sl_5, sl_6, sl_7, sl_8, sl_9, sl_10, sl_11, sl_12, mt_pop, mt_app, mt_kpop, mt_kapp, mt_dapp, nm_list, nm_tuple, nm_int, nm_bool, nm_str, isi_tup, isi_lst])
section
variable {T : Tbl} {n : Nat}
abbrev Row := Str × List Str × Bool
def kRow (r : Row) : D := .tup [.str r.1, .tup (r.2.1.map .str), .bl r.2.2]
theorem kRow_eq (r : Row) : kRow r = .tup [.str r.1, .tup (r.2.1.map .str), .bl r.2.2] := rfl
def F_names_of : FDef := ⟨.fn, 1, 2, [.ret (.lc (.ix (.loc 1) (.int 0)) (.mk (.nm 1) (.ex (.loc 0)) []) [1])]⟩
/-! ### above -/
def aboveM (ks : List Row) : Ups := ks.foldl (fun u r => u ++ [(r.1, ssrt (r.1 :: r.2.1.flatMap (upOf u)))]) []
structure KOk (ks : List Row) : Prop where
  row : ∀ done x rest, ks = done ++ x :: rest → nok x.1 = true ∧ x.1 ∉ done.map (·.1) ∧ (∀ y ∈ x.2.1, y ∈ done.map (·.1)) ∧ x.2.1.length ≤ 12
  len : ks.length ≤ 12
theorem KOk.pre {done rest : List Row} (h : KOk (done ++ rest)) : KOk done := ⟨fun d x r e => h.row d x (r ++ rest) (by rw [e]; simp), by have := h.len; simp at this; omega⟩
theorem aboveM_snoc (done : List Row) (x : Row) : aboveM (done ++ [x]) = aboveM done ++ [(x.1, ssrt (x.1 :: x.2.1.flatMap (upOf (aboveM done))))] := by
  unfold aboveM
  rw [List.foldl_append]; rfl
theorem snoc_ind {α : Type} {P : List α → Prop} (h0 : P []) (h1 : ∀ l x, P l → P (l ++ [x])) (l : List α) : P l := by
  have : ∀ m : List α, P m.reverse := by
    intro m
    induction m with
    | nil => exact h0
    | cons x m ih => rw [List.reverse_cons]; exact h1 _ x ih
  have := this l.reverse
  rwa [List.reverse_reverse] at this
theorem aboveM_keys (ks : List Row) : (aboveM ks).map (·.1) = ks.map (·.1) := by
  induction ks using snoc_ind with
  | h0 => rfl
  | h1 l x ih => rw [aboveM_snoc, List.map_append, List.map_append, ih]; rfl
theorem KOk.noks {ks : List Row} (h : KOk ks) : (ks.map (·.1)).all nok = true := by
  rw [List.all_eq_true]
  intro y hy
  obtain ⟨x, hx, rfl⟩ := List.mem_map.mp hy
  obtain ⟨a, c, e⟩ := List.append_of_mem hx
  exact (h.row a x c e).1
theorem KOk.nodup {ks : List Row} (h : KOk ks) : (ks.map (·.1)).Nodup := by
  induction ks using snoc_ind with
  | h0 => exact List.nodup_nil
  | h1 l x ih =>
    rw [List.map_append, List.nodup_append]
    refine ⟨ih h.pre, by simp, fun y hy z hz e => ?_⟩
    have := (h.row l x [] rfl).2.1
    simp at hz
    subst hz; subst e
    exact this hy
theorem lookup_snoc {u : Ups} {x y : Str} {l : List Str} : (u ++ [(x, l)]).lookup y = match u.lookup y with
    | some r => some r
    | none => if y = x then some l else none := by
  induction u with
  | nil =>
    by_cases e : y = x
    · subst e; simp
    · simp [List.lookup_cons, e, beq_eq_false_iff_ne.mpr e]
  | cons p u ih =>
    obtain ⟨z, m⟩ := p
    rw [List.cons_append, List.lookup_cons, List.lookup_cons]
    cases y == z <;> simp [ih]
theorem lookup_none {u : Ups} {y : Str} : u.lookup y = none ↔ y ∉ u.map (·.1) := by
  induction u with
  | nil => simp
  | cons p u ih =>
    obtain ⟨z, m⟩ := p
    rw [List.lookup_cons]
    by_cases e : y = z
    · subst e; simp
    · simp [beq_eq_false_iff_ne.mpr e, ih, e]
theorem up_old {u : Ups} {x y : Str} {l : List Str} (h : y ∈ u.map (·.1)) : upOf (u ++ [(x, l)]) y = upOf u y := by
  unfold upOf
  rw [lookup_snoc]
  cases e : u.lookup y with
  | none => exact absurd h (lookup_none.mp e)
  | some r => rfl
theorem up_new {u : Ups} {x : Str} {l : List Str} (h : x ∉ u.map (·.1)) : upOf (u ++ [(x, l)]) x = l := by
  unfold upOf
  rw [lookup_snoc, lookup_none.mpr h]
  simp
theorem up_out {u : Ups} {y : Str} (h : y ∉ u.map (·.1)) : upOf u y = [] := by
  unfold upOf
  rw [lookup_none.mpr h]; rfl
/-- what stands above is of the kinds -/
theorem up_sub {ks : List Row} (h : KOk ks) : ∀ y z, z ∈ upOf (aboveM ks) y → z ∈ ks.map (·.1) := by
  induction ks using snoc_ind with
  | h0 => intro y z hz; simp [aboveM, upOf] at hz
  | h1 l x ih =>
    intro y z hz
    have hl := h.pre
    obtain ⟨r1, r2, r3, r4⟩ := h.row l x [] rfl
    rw [aboveM_snoc] at hz
    rw [List.map_append]
    by_cases e : y = x.1
    · subst e
      rw [up_new (by rw [aboveM_keys]; exact r2), ssrt_mem] at hz
      rcases List.mem_cons.mp hz with rfl | hz
      · simp
      · obtain ⟨s, hs, hz⟩ := List.mem_flatMap.mp hz
        exact List.mem_append_left _ (ih hl s z hz)
    · by_cases e2 : y ∈ (aboveM l).map (·.1)
      · rw [up_old e2] at hz
        exact List.mem_append_left _ (ih hl y z hz)
      · rw [up_out] at hz
        · simp at hz
        · rw [List.map_append]; simp [e, e2]
theorem nodup_len {α : Type} [DecidableEq α] : ∀ {l m : List α}, l.Nodup → (∀ x ∈ l, x ∈ m) → l.length ≤ m.length
  | [], m, _, _ => Nat.zero_le _
  | x :: l, m, h, k => by
    obtain ⟨h1, h2⟩ := List.nodup_cons.mp h
    have hx := k x List.mem_cons_self
    have := nodup_len (l := l) (m := m.erase x) h2 fun y hy => (List.mem_erase_of_ne fun e => h1 (by rw [← e]; exact hy)).mpr (k y (List.mem_cons_of_mem _ hy))
    rw [List.length_erase_of_mem hx] at this
    have := List.length_pos_of_mem hx
    simp only [List.length_cons]
    omega
def F_above : FDef := ⟨.fn, 1, 8, [.asg 1 (.dic []), .for_ (.tp [2, 3, 4]) (.ex (.loc 0)) [.asg 5 (.bin .Add (.lst [.loc 2]) (.lc2 (.loc 7) (.mk (.nm 6) (.ex (.loc 3)) []) (.mk (.nm 7) (.ex (.ix (.loc 1) (.loc 6))) []) [6, 7])), .asgI (.loc 1) (.loc 2) (.sset (.loc 5))], .ret (.loc 1)]⟩
end
end Mp
/-! Mq, part 4: what fits, what is nearest. -/
namespace Mp
open PySem L2
local macro_rules | `(tactic| walk_at "ev") => `(tactic| simp only [sb, nb, List.length_cons, List.length_nil, Nat.zero_add, Nat.reduceAdd, Nat.reduceSub, if_true, initSt, runL, evL, takes, take, dsOf, Tmp.d, List.map_cons, List.map_nil, List.cons_append, List.nil_append, List.replicate_succ, List.replicate_zero, st_get0, stepB, bindT, slotsT, bodyL, tests, St.wipe, St.back, List.foldr_cons, List.foldr_nil, List.foldl_cons, List.foldl_nil, List.zip_cons_cons, List.zip_nil_right, args, arg, called, asgs, setl, puts, St.frz, St.frzs, varsOf, optD, body2, bodyK, Option.isSome_some, Bool.true_eq_false, Bool.false_eq_true, if_false, Option.map_some, Bool.not_true, Bool.not_false, strsOf_map, strsOf_cons, sd_dK, sd_lst, andT, orT, andV, orV, gt1, gt2, gt3, gt4, gt5, gt6, gt7, gt8, gt9, gt10, gt11, gt12, pu0, pu1, pu2, pu3, pu4, pu5, pu6, pu7, pu8, pu9, pu10, pu11, pu12, se0, se1, se2, se3, se4, se5, se6, se7, se8, se9, se10, se11, se12, List.getD_cons_zero, List.getD_cons_succ, in_lst, in_tup, ite_self, Bool.and_self, Bool.true_and, Bool.and_true, Bool.false_and, Bool.and_false, decide_true, decide_false, ne_eq, not_true_eq_false, not_false_eq_true, eq_self, List.length_map, asg1, Nat.reduceEqDiff, srcX_fix, srcX_var, ev_loc, ev_lc, ev_lc2, ev_dc, ev_lofV, ev_int, ev_str, ev_bl, ev_non, ev_tup, ev_lst, ev_nbox, ev_dic, ev_bin, ev_neg, ev_cmp, ev_chn, ev_and, ev_or, ev_not, ev_ite, ev_ix, ev_sl, ev_rev, ev_fld, ev_bi, ev_isi, ev_sset, tst_and, tst_or, tst_not, tst_ite, itr_ex, itr_rng, itr_zip, itr_enum, itr_items, itr_vals, ex_asg, ex_asgT, ex_par, ex_asgI, ex_asgF, ex_aug, ex_ex, ex_ret, ex_iff, ex_for_, ex_whl, ex_pass, ex_stop, tst_loc, tst_glob, tst_int, tst_str, tst_bl, tst_non, tst_tup, tst_lst, tst_nbox, tst_dic, tst_bin, tst_neg, tst_cmp, tst_chn, tst_ix, tst_sl, tst_rev, tst_fld, tst_call, tst_callK, tst_bi, tst_isi, tst_sset, tst_lset, tst_lof, tst_meth, tst_lc, tst_lc2, tst_dc, tst_dc2, ec_tupled, ec_names_of, ec_above, ec_below_by, ec_products, ec_shapes, ec_greatest_by, ec_common, ec_fitting_by, ec_nearest_by, ec_torn_by, ec_shapes_of, ec_ups_of, ec_shape_of, ec_labels_of, ec_fitting, ec_nearest, ec_chosen, ec_torn, ec_greatest_torn, ec_meet, ec_cover, ec_is_under, ec_is_below, ec_shape_below, ec_law_box, ec_law_take, ec_law_cells, ec_law_of, ec_law_same, ec_law_shapes, ec_law_methods, ec_law_kinds, ec_law_up, ec_law_under, ec_law_calls, ec_law_right, ec_law_lists, ec_law_fits, ec_law_near, ec_law_chosen, ec_law_pairs, ec_law_generic, tr_bl, tr_int, tr_lst, tr_tup, tr_non, io_tup, io_lst, io_unlT, io_unlL, io_dK, bn_addI, bn_subI, bn_addT, bn_addL, bn_addS, or_lt, or_le, or_gt, or_ge, or_ltS, ix_lst, ix_tup, ix_dK, at_0, at_1, at_2, bi_allM, bi_anyM, bi_lenL, bi_lenT, bi_tupL, bi_tupT, bi_lstL, bi_lstT, bi_intI, bi_intB, cmp_in, cmp_notin, cmp_eq, cmp_ne, lf_bl, lf_int, lf_str, lf_non, lf_box, lf_lst, lf_dK, lf_tup, lf_lfS, lf_lfC, lf_lfN, sl_0, sl_1, sl_2, sl_3, sl_4, sl_5, sl_6, sl_7, sl_8, sl_9, sl_10, sl_11, sl_12, mt_pop, mt_app, mt_kpop, mt_kapp, mt_dapp, nm_list, nm_tuple, nm_int, nm_bool, nm_str, isi_tup, isi_lst])
section
variable {T : Tbl} {n : Nat} {u : Ups}
structure UOk (u : Ups) : Prop where
  keys : (u.map (·.1)).all nok = true
  vals : ∀ p ∈ u, p.2.all nok = true
  len : u.length ≤ 12
/-- a shape of these kinds -/
structure SOk (u : Ups) (s : List Str) : Prop where
  mem : ∀ x ∈ s, x ∈ u.map (·.1)
  len : s.length ≤ 6
theorem SOk.nok (U : UOk u) {s : List Str} (h : SOk u s) : s.all nok = true := by
  rw [List.all_eq_true]
  intro x hx
  exact List.all_eq_true.mp U.keys x (h.mem x hx)
theorem up_noks {ks : List Row} (h : KOk ks) : UOk (aboveM ks) := by
  refine ⟨by rw [aboveM_keys]; exact h.noks, fun p hp => ?_, ?_⟩
  · rw [List.all_eq_true]
    intro x hx
    have : ∀ ks : List Row, KOk ks → ∀ p ∈ aboveM ks, ∀ x ∈ p.2, x ∈ ks.map (·.1) := by
      intro ks
      induction ks using snoc_ind with
      | h0 => intro _ p hp; simp [aboveM] at hp
      | h1 l y ih =>
        intro h p hp x hx
        rw [aboveM_snoc] at hp
        rw [List.map_append]
        rcases List.mem_append.mp hp with hp | hp
        · exact List.mem_append_left _ (ih h.pre p hp x hx)
        · rw [List.mem_singleton.mp hp] at hx
          rcases List.mem_cons.mp ((ssrt_mem _).mp hx) with e | hx
          · rw [e]; simp
          · obtain ⟨s, hs, hz⟩ := List.mem_flatMap.mp hx
            exact List.mem_append_left _ (up_sub h.pre s x hz)
    exact List.all_eq_true.mp h.noks x (this ks h p hp x hx)
  · have := congrArg List.length (aboveM_keys ks)
    rw [List.length_map, List.length_map] at this
    rw [this]; exact h.len
def F_below_by : FDef := ⟨.fn, 3, 5, [.ret (.bi "all" [.lc (.cmp .In (.loc 4) (.ix (.loc 0) (.loc 3))) (.mk (.tp [3, 4]) (.zip (.loc 1) (.loc 2)) []) [3, 4]])]⟩
/-! ### fitting_by, nearest_by -/
abbrev shD (s : List Str) : D := .tup (s.map .str)
def F_fitting_by : FDef := ⟨.fn, 3, 4, [.ret (.lc (.loc 3) (.mk (.nm 3) (.ex (.loc 1)) [.call "below_by" [.loc 0, .loc 2, .loc 3]]) [3])]⟩
def fittingM (u : Ups) (sm : List (List Str)) (call : List Str) : List (List Str) := sm.filter fun s => belowBy u call s
def F_nearest_by : FDef := ⟨.fn, 3, 6, [.asg 3 (.call "fitting_by" [.loc 0, .loc 1, .loc 2]), .ret (.lc (.loc 4) (.mk (.nm 4) (.ex (.loc 3)) [.not (.bi "any" [.lc (.and [.cmp .NotEq (.loc 5) (.loc 4), .call "below_by" [.loc 0, .loc 5, .loc 4]]) (.mk (.nm 5) (.ex (.loc 3)) []) [5]])]) [4])]⟩
def loneM (u : Ups) (fits : List (List Str)) (s : List Str) : Bool := !(fits.any fun o => decide (o ≠ s) && belowBy u o s)
def nearestM (u : Ups) (sm : List (List Str)) (call : List Str) : List (List Str) := (fittingM u sm call).filter (loneM u (fittingM u sm call))
def F_torn_by : FDef := ⟨.fn, 3, 4, [.ret (.lc (.loc 3) (.mk (.nm 3) (.ex (.loc 1)) [.cmp .Gt (.bi "len" [.call "nearest_by" [.loc 0, .loc 2, .loc 3]]) (.int 1)]) [3])]⟩
def tornM (u : Ups) (calls sm : List (List Str)) : List (List Str) := calls.filter fun c => decide (1 < (nearestM u sm c).length)
/-! ### products -/
def F_products : FDef := ⟨.fn, 1, 5, [.asg 1 (.lst [.tup []]), .for_ (.nm 2) (.ex (.loc 0)) [.asg 1 (.lc2 (.bin .Add (.loc 3) (.tup [.loc 4])) (.mk (.nm 3) (.ex (.loc 1)) []) (.mk (.nm 4) (.ex (.loc 2)) []) [3, 4])], .ret (.loc 1)]⟩
def prodM (rows : List (List Str)) : List (List Str) := rows.foldl (fun found row => found.flatMap fun sm => row.map fun one => sm ++ [one]) [[]]
theorem prodM_snoc (rows : List (List Str)) (row : List Str) : prodM (rows ++ [row]) = (prodM rows).flatMap fun sm => row.map fun one => sm ++ [one] := by
  unfold prodM
  rw [List.foldl_append]; rfl
theorem prodM_len (rows : List (List Str)) : ∀ s ∈ prodM rows, s.length = rows.length := by
  induction rows using snoc_ind with
  | h0 => intro s hs; rw [List.mem_singleton.mp hs]; rfl
  | h1 l x ih =>
    intro s hs
    rw [prodM_snoc] at hs
    obtain ⟨t, ht, hs⟩ := List.mem_flatMap.mp hs
    obtain ⟨o, ho, rfl⟩ := List.mem_map.mp hs
    rw [List.length_append, List.length_append, ih t ht]; rfl
end
end Mp
/-! Mq, part 5: sorting typed things. -/
namespace Mp
open PySem L2
section
variable {α β : Type}
def insB (le : α → α → Bool) (x : α) : List α → List α
  | [] => [x]
  | y :: ys => if le x y = true then x :: y :: ys else y :: insB le x ys
def srtB (le : α → α → Bool) : List α → List α
  | [] => []
  | x :: xs => insB le x (srtB le xs)
theorem insB_perm (le : α → α → Bool) (x : α) : ∀ ys : List α, (insB le x ys).Perm (x :: ys)
  | [] => .refl _
  | y :: ys => by
    unfold insB
    split
    · exact .refl _
    · exact ((insB_perm le x ys).cons y).trans (.swap x y ys)
theorem srtB_perm (le : α → α → Bool) : ∀ xs : List α, (srtB le xs).Perm xs
  | [] => .refl _
  | x :: xs => (insB_perm le x _).trans ((srtB_perm le xs).cons x)
theorem srtB_mem (le : α → α → Bool) {xs : List α} {x : α} : x ∈ srtB le xs ↔ x ∈ xs := (srtB_perm le xs).mem_iff
structure Tot (le : α → α → Bool) : Prop where
  tot : ∀ a b, le a b = true ∨ le b a = true
  trans : ∀ a b c, le a b = true → le b c = true → le a c = true
variable {le : α → α → Bool}
end
/-! ### texts, rows of a label and a shape -/
def leS (x y : Str) : Bool := !ltS y x
abbrev srtS : List Str → List Str := srtB leS
abbrev Meth := Str × List Str
def mD (m : Meth) : D := .tup [.str m.1, shD m.2]
def leM (a b : Meth) : Bool := leS a.1 b.1
abbrev srtM : List Meth → List Meth := srtB leM
/-! ### sorted(..) -/
end Mp
/-! Mq, part 6: generics. -/
namespace Mp
open PySem L2
local macro_rules | `(tactic| walk_at "ev") => `(tactic| simp only [sb, nb, List.length_cons, List.length_nil, Nat.zero_add, Nat.reduceAdd, Nat.reduceSub, if_true, initSt, runL, evL, takes, take, dsOf, Tmp.d, List.map_cons, List.map_nil, List.cons_append, List.nil_append, List.replicate_succ, List.replicate_zero, st_get0, stepB, bindT, slotsT, bodyL, tests, St.wipe, St.back, List.foldr_cons, List.foldr_nil, List.foldl_cons, List.foldl_nil, List.zip_cons_cons, List.zip_nil_right, args, arg, called, asgs, setl, puts, St.frz, St.frzs, varsOf, optD, body2, bodyK, Option.isSome_some, Bool.true_eq_false, Bool.false_eq_true, if_false, Option.map_some, Bool.not_true, Bool.not_false, strsOf_map, strsOf_cons, sd_dK, sd_lst, andT, orT, andV, orV, gt1, gt2, gt3, gt4, gt5, gt6, gt7, gt8, gt9, gt10, gt11, gt12, pu0, pu1, pu2, pu3, pu4, pu5, pu6, pu7, pu8, pu9, pu10, pu11, pu12, se0, se1, se2, se3, se4, se5, se6, se7, se8, se9, se10, se11, se12, List.getD_cons_zero, List.getD_cons_succ, in_lst, in_tup, ite_self, Bool.and_self, Bool.true_and, Bool.and_true, Bool.false_and, Bool.and_false, decide_true, decide_false, ne_eq, not_true_eq_false, not_false_eq_true, eq_self, List.length_map, asg1, Nat.reduceEqDiff, srcX_fix, srcX_var, ev_loc, ev_lc, ev_lc2, ev_dc, ev_lofV, ev_int, ev_str, ev_bl, ev_non, ev_tup, ev_lst, ev_nbox, ev_dic, ev_bin, ev_neg, ev_cmp, ev_chn, ev_and, ev_or, ev_not, ev_ite, ev_ix, ev_sl, ev_rev, ev_fld, ev_bi, ev_isi, ev_sset, tst_and, tst_or, tst_not, tst_ite, itr_ex, itr_rng, itr_zip, itr_enum, itr_items, itr_vals, ex_asg, ex_asgT, ex_par, ex_asgI, ex_asgF, ex_aug, ex_ex, ex_ret, ex_iff, ex_for_, ex_whl, ex_pass, ex_stop, tst_loc, tst_glob, tst_int, tst_str, tst_bl, tst_non, tst_tup, tst_lst, tst_nbox, tst_dic, tst_bin, tst_neg, tst_cmp, tst_chn, tst_ix, tst_sl, tst_rev, tst_fld, tst_call, tst_callK, tst_bi, tst_isi, tst_sset, tst_lset, tst_lof, tst_meth, tst_lc, tst_lc2, tst_dc, tst_dc2, ec_tupled, ec_names_of, ec_above, ec_below_by, ec_products, ec_shapes, ec_greatest_by, ec_common, ec_fitting_by, ec_nearest_by, ec_torn_by, ec_shapes_of, ec_ups_of, ec_shape_of, ec_labels_of, ec_fitting, ec_nearest, ec_chosen, ec_torn, ec_greatest_torn, ec_meet, ec_cover, ec_is_under, ec_is_below, ec_shape_below, ec_law_box, ec_law_take, ec_law_cells, ec_law_of, ec_law_same, ec_law_shapes, ec_law_methods, ec_law_kinds, ec_law_up, ec_law_under, ec_law_calls, ec_law_right, ec_law_lists, ec_law_fits, ec_law_near, ec_law_chosen, ec_law_pairs, ec_law_generic, tr_bl, tr_int, tr_lst, tr_tup, tr_non, io_tup, io_lst, io_unlT, io_unlL, io_dK, bn_addI, bn_subI, bn_addT, bn_addL, bn_addS, or_lt, or_le, or_gt, or_ge, or_ltS, ix_lst, ix_tup, ix_dK, at_0, at_1, at_2, bi_allM, bi_anyM, bi_lenL, bi_lenT, bi_tupL, bi_tupT, bi_lstL, bi_lstT, bi_intI, bi_intB, cmp_in, cmp_notin, cmp_eq, cmp_ne, lf_bl, lf_int, lf_str, lf_non, lf_box, lf_lst, lf_dK, lf_tup, lf_lfS, lf_lfC, lf_lfN, sl_0, sl_1, sl_2, sl_3, sl_4, sl_5, sl_6, sl_7, sl_8, sl_9, sl_10, sl_11, sl_12, mt_pop, mt_app, mt_kpop, mt_kapp, mt_dapp, nm_list, nm_tuple, nm_int, nm_bool, nm_str, isi_tup, isi_lst])
structure Gen where
  ks : List Row
  pl : Nat
  ms : List Meth
def gD (g : Gen) : D := .tup [.tup (g.ks.map kRow), .int g.pl, .tup (g.ms.map mD)]
def names (ks : List Row) : List Str := ks.map (·.1)
structure GOk (g : Gen) : Prop where
  k : KOk g.ks
  pl : g.pl ≤ 6
  lab : ∀ m ∈ g.ms, nok m.1 = true
  nod : (g.ms.map (·.1)).Nodup
  shp : ∀ m ∈ g.ms, (∀ x ∈ m.2, x ∈ names g.ks) ∧ m.2.length = g.pl
  size : g.ks.length ^ g.pl ≤ 2000
  many : g.ms.length ≤ 100
abbrev Gen.u (g : Gen) : Ups := aboveM g.ks
abbrev Gen.ss (g : Gen) : List (List Str) := g.ms.map (·.2)
def allSh (ks : List Row) (pl : Nat) : List (List Str) := prodM (List.replicate pl (srtS (names ks)))
abbrev Gen.calls (g : Gen) : List (List Str) := allSh g.ks g.pl
theorem u_keys (g : Gen) : g.u.map (·.1) = names g.ks := aboveM_keys g.ks
theorem GOk.U {g : Gen} (h : GOk g) : UOk g.u := up_noks h.k
theorem sok_of {g : Gen} (h : GOk g) {s : List Str} (h1 : ∀ x ∈ s, x ∈ names g.ks) (h2 : s.length = g.pl) : SOk g.u s := ⟨fun x hx => by rw [u_keys]; exact h1 x hx, by have := h.pl; omega⟩
theorem GOk.ss {g : Gen} (h : GOk g) : ∀ s ∈ g.ss, SOk g.u s := fun s hs => by
  obtain ⟨m, hm, rfl⟩ := List.mem_map.mp hs
  exact sok_of h (h.shp m hm).1 (h.shp m hm).2
theorem prodM_mem (rows : List (List Str)) (X : List Str) (h : ∀ r ∈ rows, ∀ x ∈ r, x ∈ X) : ∀ s ∈ prodM rows, ∀ x ∈ s, x ∈ X := by
  induction rows using snoc_ind with
  | h0 => intro s hs x hx; rw [List.mem_singleton.mp hs] at hx; cases hx
  | h1 l y ih =>
    intro s hs x hx
    rw [prodM_snoc] at hs
    obtain ⟨t, ht, hs⟩ := List.mem_flatMap.mp hs
    obtain ⟨o, ho, rfl⟩ := List.mem_map.mp hs
    rcases List.mem_append.mp hx with hx | hx
    · exact ih (fun r hr => h r (by simp [hr])) t ht x hx
    · rw [List.mem_singleton.mp hx]; exact h y (by simp) o ho
theorem allSh_mem {ks : List Row} {pl : Nat} {s : List Str} (hs : s ∈ allSh ks pl) : (∀ x ∈ s, x ∈ names ks) ∧ s.length = pl :=
  ⟨prodM_mem _ _ (fun r hr x hx => by rw [(List.mem_replicate.mp hr).2] at hx; exact (srtB_mem leS).mp hx) s hs, by
    have := prodM_len _ s hs
    rw [List.length_replicate] at this; exact this⟩
theorem GOk.calls {g : Gen} (h : GOk g) : ∀ s ∈ g.calls, SOk g.u s := fun s hs => sok_of h (allSh_mem hs).1 (allSh_mem hs).2
/-- the table has the package's defs -/
structure PT (T : Tbl) : Prop where
  tupled : T.lookup ("tupled" : Str) = some F_tupled
  names_of : T.lookup ("names_of" : Str) = some F_names_of
  above : T.lookup ("above" : Str) = some F_above
  below_by : T.lookup ("below_by" : Str) = some F_below_by
  products : T.lookup ("products" : Str) = some F_products
section
variable {T : Tbl} {n : Nat}
def F_shapes : FDef := ⟨.fn, 1, 4, [.asgT [1, 2, 3] (.call "tupled" [.loc 0]), .ret (.call "products" [.bin .Mult (.lst [.bi "sorted" [.call "names_of" [.loc 1]]]) (.loc 2)])]⟩
def F_shapes_of : FDef := ⟨.fn, 1, 3, [.ret (.dc (.loc 1) (.loc 2) (.mk (.tp [1, 2]) (.ex (.ix (.call "tupled" [.loc 0]) (.int 2))) []) [1, 2])]⟩
def F_ups_of : FDef := ⟨.fn, 1, 1, [.ret (.call "above" [.ix (.call "tupled" [.loc 0]) (.int 0)])]⟩
def F_labels_of : FDef := ⟨.fn, 2, 4, [.ret (.lc (.loc 2) (.mk (.tp [2, 3]) (.items (.call "shapes_of" [.loc 0])) [.cmp .In (.loc 3) (.loc 1)]) [2, 3])]⟩
def F_fitting : FDef := ⟨.fn, 2, 2, [.ret (.call "labels_of" [.loc 0, .call "fitting_by" [.call "ups_of" [.loc 0], .lof (.vals (.call "shapes_of" [.loc 0])), .call "tupled" [.loc 1]]])]⟩
def F_nearest : FDef := ⟨.fn, 2, 2, [.ret (.call "labels_of" [.loc 0, .call "nearest_by" [.call "ups_of" [.loc 0], .lof (.vals (.call "shapes_of" [.loc 0])), .call "tupled" [.loc 1]]])]⟩
def F_chosen : FDef := ⟨.fn, 2, 3, [.asg 2 (.call "nearest" [.loc 0, .loc 1]), .iff (.cmp .Gt (.bi "len" [.loc 2]) (.int 1)) [.ret (.str "torn")] [], .ret (.ite (.cmp .Eq (.bi "len" [.loc 2]) (.int 1)) (.ix (.loc 2) (.int 0)) (.str "none"))]⟩
def F_torn : FDef := ⟨.fn, 1, 1, [.ret (.call "torn_by" [.call "ups_of" [.loc 0], .call "shapes" [.loc 0], .lof (.vals (.call "shapes_of" [.loc 0]))])]⟩
structure PG0 (T : Tbl) : Prop extends PT T where
  fitting_by : T.lookup ("fitting_by" : Str) = some F_fitting_by
  nearest_by : T.lookup ("nearest_by" : Str) = some F_nearest_by
  torn_by : T.lookup ("torn_by" : Str) = some F_torn_by
  shapes : T.lookup ("shapes" : Str) = some F_shapes
  shapes_of : T.lookup ("shapes_of" : Str) = some F_shapes_of
  ups_of : T.lookup ("ups_of" : Str) = some F_ups_of
  labels_of : T.lookup ("labels_of" : Str) = some F_labels_of
  nearest : T.lookup ("nearest" : Str) = some F_nearest
  torn : T.lookup ("torn" : Str) = some F_torn
structure PG (T : Tbl) : Prop extends PG0 T where
  fitting : T.lookup ("fitting" : Str) = some F_fitting
  chosen : T.lookup ("chosen" : Str) = some F_chosen
instance {T : Tbl} : Coe (PG T) (PG0 T) := ⟨PG.toPG0⟩
def bookD (ms : List Meth) : D := .dK (ms.map fun m => (.inr m.1, shD m.2))
def fitRows (g : Gen) (c : List Str) : List Meth := g.ms.filter fun m => belowBy g.u c m.2
def nearRows (g : Gen) (c : List Str) : List Meth := g.ms.filter fun m => belowBy g.u c m.2 && loneM g.u (fittingM g.u g.ss c) m.2
def word : List Meth → Str
  | [] => "none"
  | [m] => m.1
  | _ => "torn"
theorem eq_int (i j : Int) : eqD (.int i) (.int j) = some (decide (i = j)) := by
  rw [eq_some (n := 0) (m := 0) ok_int ok_int (by omega) (by omega), eqv_int]
end
end Mp
/-! Mq, part 7: the laws' draws. -/
namespace Mp
open PySem L2
local macro_rules | `(tactic| walk_at "ev") => `(tactic| simp only [sb, nb, List.length_cons, List.length_nil, Nat.zero_add, Nat.reduceAdd, Nat.reduceSub, if_true, initSt, runL, evL, takes, take, dsOf, Tmp.d, List.map_cons, List.map_nil, List.cons_append, List.nil_append, List.replicate_succ, List.replicate_zero, st_get0, stepB, bindT, slotsT, bodyL, tests, St.wipe, St.back, List.foldr_cons, List.foldr_nil, List.foldl_cons, List.foldl_nil, List.zip_cons_cons, List.zip_nil_right, args, arg, called, asgs, setl, puts, St.frz, St.frzs, varsOf, optD, body2, bodyK, Option.isSome_some, Bool.true_eq_false, Bool.false_eq_true, if_false, Option.map_some, Bool.not_true, Bool.not_false, strsOf_map, strsOf_cons, sd_dK, sd_lst, andT, orT, andV, orV, gt1, gt2, gt3, gt4, gt5, gt6, gt7, gt8, gt9, gt10, gt11, gt12, pu0, pu1, pu2, pu3, pu4, pu5, pu6, pu7, pu8, pu9, pu10, pu11, pu12, se0, se1, se2, se3, se4, se5, se6, se7, se8, se9, se10, se11, se12, List.getD_cons_zero, List.getD_cons_succ, in_lst, in_tup, ite_self, Bool.and_self, Bool.true_and, Bool.and_true, Bool.false_and, Bool.and_false, decide_true, decide_false, ne_eq, not_true_eq_false, not_false_eq_true, eq_self, List.length_map, asg1, Nat.reduceEqDiff, srcX_fix, srcX_var, ev_loc, ev_lc, ev_lc2, ev_dc, ev_lofV, ev_int, ev_str, ev_bl, ev_non, ev_tup, ev_lst, ev_nbox, ev_dic, ev_bin, ev_neg, ev_cmp, ev_chn, ev_and, ev_or, ev_not, ev_ite, ev_ix, ev_sl, ev_rev, ev_fld, ev_bi, ev_isi, ev_sset, tst_and, tst_or, tst_not, tst_ite, itr_ex, itr_rng, itr_zip, itr_enum, itr_items, itr_vals, ex_asg, ex_asgT, ex_par, ex_asgI, ex_asgF, ex_aug, ex_ex, ex_ret, ex_iff, ex_for_, ex_whl, ex_pass, ex_stop, tst_loc, tst_glob, tst_int, tst_str, tst_bl, tst_non, tst_tup, tst_lst, tst_nbox, tst_dic, tst_bin, tst_neg, tst_cmp, tst_chn, tst_ix, tst_sl, tst_rev, tst_fld, tst_call, tst_callK, tst_bi, tst_isi, tst_sset, tst_lset, tst_lof, tst_meth, tst_lc, tst_lc2, tst_dc, tst_dc2, ec_tupled, ec_names_of, ec_above, ec_below_by, ec_products, ec_shapes, ec_greatest_by, ec_common, ec_fitting_by, ec_nearest_by, ec_torn_by, ec_shapes_of, ec_ups_of, ec_shape_of, ec_labels_of, ec_fitting, ec_nearest, ec_chosen, ec_torn, ec_greatest_torn, ec_meet, ec_cover, ec_is_under, ec_is_below, ec_shape_below, ec_law_box, ec_law_take, ec_law_cells, ec_law_of, ec_law_same, ec_law_shapes, ec_law_methods, ec_law_kinds, ec_law_up, ec_law_under, ec_law_calls, ec_law_right, ec_law_lists, ec_law_fits, ec_law_near, ec_law_chosen, ec_law_pairs, ec_law_generic, tr_bl, tr_int, tr_lst, tr_tup, tr_non, io_tup, io_lst, io_unlT, io_unlL, io_dK, bn_addI, bn_subI, bn_addT, bn_addL, bn_addS, or_lt, or_le, or_gt, or_ge, or_ltS, ix_lst, ix_tup, ix_dK, at_0, at_1, at_2, bi_allM, bi_anyM, bi_lenL, bi_lenT, bi_tupL, bi_tupT, bi_lstL, bi_lstT, bi_intI, bi_intB, cmp_in, cmp_notin, cmp_eq, cmp_ne, lf_bl, lf_int, lf_str, lf_non, lf_box, lf_lst, lf_dK, lf_tup, lf_lfS, lf_lfC, lf_lfN, sl_0, sl_1, sl_2, sl_3, sl_4, sl_5, sl_6, sl_7, sl_8, sl_9, sl_10, sl_11, sl_12, mt_pop, mt_app, mt_kpop, mt_kapp, mt_dapp, nm_list, nm_tuple, nm_int, nm_bool, nm_str, isi_tup, isi_lst])
def BX (b : List (List Int)) (i : Nat) (m : Int) : Prop := ∃ a p q, b[i]? = some [a, p, q] ∧ 0 ≤ q ∧ q ≤ m
theorem BX.mono {b : List (List Int)} {i : Nat} {m m' : Int} (h : BX b i m) (hm : m ≤ m') : BX b i m' := by
  obtain ⟨a, p, q, h1, h2, h3⟩ := h
  exact ⟨a, p, q, h1, h2, by omega⟩
def F_law_take : FDef := ⟨.fn, 2, 6, [.iff (.cmp .Gt (.ix (.loc 0) (.int 0)) (.int 0)) [.asg 2 (.bin .Mod (.bi "int" [.ix (.loc 0) (.int 0)]) (.loc 1)), .asgI (.loc 0) (.int 0) (.bin .FloorDiv (.ix (.loc 0) (.int 0)) (.loc 1)), .ret (.loc 2)] [], .asgI (.loc 0) (.int 2) (.bin .Add (.ix (.loc 0) (.int 2)) (.int 1)), .asg 3 (.bin .Mod (.bi "int" [.bin .Mult (.bin .Add (.ix (.loc 0) (.int 1)) (.bin .Mult (.int 48271) (.ix (.loc 0) (.int 2)))) (.bin .Add (.int 39373) (.ix (.loc 0) (.int 2)))]) (.int 2147483647)), .asg 4 (.bin .Add (.bin .Mod (.bi "int" [.loc 3]) (.int 40009)) (.int 7)), .asg 5 (.bin .Mod (.bi "int" [.bin .Mult (.bin .Add (.bin .Add (.loc 3) (.ix (.loc 0) (.int 2))) (.bin .FloorDiv (.ix (.loc 0) (.int 1)) (.int 1000003))) (.loc 4)]) (.int 2147483629)), .ret (.bin .Mod (.bi "int" [.bin .FloorDiv (.bin .Mod (.bi "int" [.bin .Add (.bin .Mult (.loc 5) (.int 48271)) (.loc 3)]) (.int 2147483587)) (.int 64)]) (.loc 1))]⟩
section
variable {T : Tbl} {n : Nat}
theorem bn_mod {i j : Int} (h : 0 < j) : binD .Mod (.int i) (.int j) = some (.int (i % j), false) := by
  show (if 0 < j then _ else none) = _
  rw [if_pos h]
theorem bn_fdiv {i j : Int} (h : 0 < j) (h2 : j.natAbs.log2 < 9000) : binD .FloorDiv (.int i) (.int j) = some (.int (i / j), false) := by
  show (if 0 < j ∧ j.natAbs.log2 < 9000 then _ else none) = _
  rw [if_pos ⟨h, h2⟩]
theorem bn_mul {i j : Int} (h : mulOk i j = true) : binD .Mult (.int i) (.int j) = some (.int (i * j), false) := by
  show (if mulOk i j = true then _ else none) = _
  rw [if_pos h]
theorem mul_l {i j : Int} (h : -(2 ^ 64) < i) (h2 : i < 2 ^ 64) : mulOk i j = true := by
  unfold mulOk
  rw [decide_eq_true h, decide_eq_true h2]; rfl
theorem mul_r {i j : Int} (h : -(2 ^ 64) < j) (h2 : j < 2 ^ 64) : mulOk i j = true := by
  unfold mulOk
  rw [decide_eq_true h, decide_eq_true h2, Bool.or_comm]; rfl
theorem log_small {j : Int} (h : 0 < j) (h2 : j < 100000000) : j.natAbs.log2 < 9000 := by
  have h3 : j.natAbs < 2 ^ 27 := by omega
  have := (Nat.log2_lt (n := j.natAbs) (k := 27) (by omega)).mpr h3
  omega
theorem ixn0 : L2.ixN 3 0 = some 0 := rfl
theorem ixn2 : L2.ixN 3 2 = some 2 := rfl
/-- a draw -/
theorem lv_take (hT : T.lookup ("_law_take" : Str) = some F_law_take) {i : Nat} {w : Int} (hw : 0 < w) (hw2 : w < 100000) {m : Nat} {b : List (List Int)} {μ : Int} (hm : 1 ≤ m) (hb : BX b i μ) (hμ : μ < 2 ^ 40) :
    ∃ v b', callAt T (n + 20) m "_law_take" [.box i, .int w] b = some (.int v, false, b') ∧ 0 ≤ v ∧ v < w ∧ BX b' i (μ + 1) := by
  obtain ⟨k, rfl⟩ : ∃ k, m = k + 1 := ⟨m - 1, by omega⟩
  obtain ⟨a, p, q, h1, h2, h3⟩ := hb
  rw [callAt_fn hT rfl]
  unfold runF F_law_take
  have hil : i < b.length := by
    rcases Nat.lt_or_ge i b.length with h | h
    · exact h
    · rw [List.getElem?_eq_none h] at h1; cases h1
  by_cases ha : 0 < a
  · have m1 := bn_mod (i := a) hw
    have m2 := bn_fdiv (i := a) hw (log_small hw (by omega))
    refine ⟨a % w, b.set i [a / w, p, q], ?_, Int.emod_nonneg _ (by omega), Int.emod_lt_of_pos _ hw, a / w, p, q, List.getElem?_set_self hil, h2, by omega⟩
    (repeat (first | walk_at "ev" | simp only [h1, decide_eq_true ha, m1, m2, ixn0]))
  · have q1 : 0 ≤ q + 1 := by omega
    have s1 : (b.set i [a, p, q + 1])[i]? = some [a, p, q + 1] := List.getElem?_set_self hil
    have m1 : ∀ z, binD .Mult (.int 48271) (.int z) = some (.int (48271 * z), false) := fun z => bn_mul (mul_l (by decide) (by decide))
    have m2 : binD .Mult (.int (p + 48271 * (q + 1))) (.int (39373 + (q + 1))) = some (.int ((p + 48271 * (q + 1)) * (39373 + (q + 1))), false) := bn_mul (mul_r (by omega) (by omega))
    generalize ((p + 48271 * (q + 1)) * (39373 + (q + 1))) = x2 at m2
    have m3 : binD .Mod (.int x2) (.int 2147483647) = some (.int (x2 % 2147483647), false) := bn_mod (by decide)
    generalize x2 % 2147483647 = x3 at m3
    have m4 : binD .Mod (.int x3) (.int 40009) = some (.int (x3 % 40009), false) := bn_mod (by decide)
    have b4 : 0 ≤ x3 % 40009 ∧ x3 % 40009 < 40009 := ⟨Int.emod_nonneg _ (by decide), Int.emod_lt_of_pos _ (by decide)⟩
    generalize x3 % 40009 = x4 at m4 b4
    have m5 : binD .FloorDiv (.int p) (.int 1000003) = some (.int (p / 1000003), false) := bn_fdiv (by decide) (log_small (by decide) (by decide))
    generalize p / 1000003 = x5 at m5
    have m6 : binD .Mult (.int (x3 + (q + 1) + x5)) (.int (x4 + 7)) = some (.int ((x3 + (q + 1) + x5) * (x4 + 7)), false) := bn_mul (mul_r (by omega) (by omega))
    generalize (x3 + (q + 1) + x5) * (x4 + 7) = x6 at m6
    have m7 : binD .Mod (.int x6) (.int 2147483629) = some (.int (x6 % 2147483629), false) := bn_mod (by decide)
    generalize x6 % 2147483629 = x7 at m7
    have m8 : binD .Mult (.int x7) (.int 48271) = some (.int (x7 * 48271), false) := bn_mul (mul_r (by decide) (by decide))
    generalize x7 * 48271 = x8 at m8
    have m9 : binD .Mod (.int (x8 + x3)) (.int 2147483587) = some (.int ((x8 + x3) % 2147483587), false) := bn_mod (by decide)
    generalize (x8 + x3) % 2147483587 = x9 at m9
    have m10 : binD .FloorDiv (.int x9) (.int 64) = some (.int (x9 / 64), false) := bn_fdiv (by decide) (log_small (by decide) (by decide))
    generalize x9 / 64 = x10 at m10
    have m11 := bn_mod (i := x10) hw
    refine ⟨x10 % w, b.set i [a, p, q + 1], ?_, Int.emod_nonneg _ (by omega), Int.emod_lt_of_pos _ hw, a, p, q + 1, s1, q1, by omega⟩
    (repeat (first | walk_at "ev" | simp only [h1, decide_eq_false ha, ixn2, s1, m1, m2, m3, m4, m5, m6, m7, m8, m9, m10, m11]))
end
end Mp
/-! Mq, part 8: the laws' boxes, cells, comparisons. -/
namespace Mp
open PySem L2
local macro_rules | `(tactic| walk_at "ev") => `(tactic| simp only [sb, nb, List.length_cons, List.length_nil, Nat.zero_add, Nat.reduceAdd, Nat.reduceSub, if_true, initSt, runL, evL, takes, take, dsOf, Tmp.d, List.map_cons, List.map_nil, List.cons_append, List.nil_append, List.replicate_succ, List.replicate_zero, st_get0, stepB, bindT, slotsT, bodyL, tests, St.wipe, St.back, List.foldr_cons, List.foldr_nil, List.foldl_cons, List.foldl_nil, List.zip_cons_cons, List.zip_nil_right, args, arg, called, asgs, setl, puts, St.frz, St.frzs, varsOf, optD, body2, bodyK, Option.isSome_some, Bool.true_eq_false, Bool.false_eq_true, if_false, Option.map_some, Bool.not_true, Bool.not_false, strsOf_map, strsOf_cons, sd_dK, sd_lst, andT, orT, andV, orV, gt1, gt2, gt3, gt4, gt5, gt6, gt7, gt8, gt9, gt10, gt11, gt12, pu0, pu1, pu2, pu3, pu4, pu5, pu6, pu7, pu8, pu9, pu10, pu11, pu12, se0, se1, se2, se3, se4, se5, se6, se7, se8, se9, se10, se11, se12, List.getD_cons_zero, List.getD_cons_succ, in_lst, in_tup, ite_self, Bool.and_self, Bool.true_and, Bool.and_true, Bool.false_and, Bool.and_false, decide_true, decide_false, ne_eq, not_true_eq_false, not_false_eq_true, eq_self, List.length_map, asg1, Nat.reduceEqDiff, srcX_fix, srcX_var, ev_loc, ev_lc, ev_lc2, ev_dc, ev_lofV, ev_int, ev_str, ev_bl, ev_non, ev_tup, ev_lst, ev_nbox, ev_dic, ev_bin, ev_neg, ev_cmp, ev_chn, ev_and, ev_or, ev_not, ev_ite, ev_ix, ev_sl, ev_rev, ev_fld, ev_bi, ev_isi, ev_sset, tst_and, tst_or, tst_not, tst_ite, itr_ex, itr_rng, itr_zip, itr_enum, itr_items, itr_vals, ex_asg, ex_asgT, ex_par, ex_asgI, ex_asgF, ex_aug, ex_ex, ex_ret, ex_iff, ex_for_, ex_whl, ex_pass, ex_stop, tst_loc, tst_glob, tst_int, tst_str, tst_bl, tst_non, tst_tup, tst_lst, tst_nbox, tst_dic, tst_bin, tst_neg, tst_cmp, tst_chn, tst_ix, tst_sl, tst_rev, tst_fld, tst_call, tst_callK, tst_bi, tst_isi, tst_sset, tst_lset, tst_lof, tst_meth, tst_lc, tst_lc2, tst_dc, tst_dc2, ec_tupled, ec_names_of, ec_above, ec_below_by, ec_products, ec_shapes, ec_greatest_by, ec_common, ec_fitting_by, ec_nearest_by, ec_torn_by, ec_shapes_of, ec_ups_of, ec_shape_of, ec_labels_of, ec_fitting, ec_nearest, ec_chosen, ec_torn, ec_greatest_torn, ec_meet, ec_cover, ec_is_under, ec_is_below, ec_shape_below, ec_law_box, ec_law_take, ec_law_cells, ec_law_of, ec_law_same, ec_law_shapes, ec_law_methods, ec_law_kinds, ec_law_up, ec_law_under, ec_law_calls, ec_law_right, ec_law_lists, ec_law_fits, ec_law_near, ec_law_chosen, ec_law_pairs, ec_law_generic, tr_bl, tr_int, tr_lst, tr_tup, tr_non, io_tup, io_lst, io_unlT, io_unlL, io_dK, bn_addI, bn_subI, bn_addT, bn_addL, bn_addS, or_lt, or_le, or_gt, or_ge, or_ltS, ix_lst, ix_tup, ix_dK, at_0, at_1, at_2, bi_allM, bi_anyM, bi_lenL, bi_lenT, bi_tupL, bi_tupT, bi_lstL, bi_lstT, bi_intI, bi_intB, cmp_in, cmp_notin, cmp_eq, cmp_ne, lf_bl, lf_int, lf_str, lf_non, lf_box, lf_lst, lf_dK, lf_tup, lf_lfS, lf_lfC, lf_lfN, sl_0, sl_1, sl_2, sl_3, sl_4, sl_5, sl_6, sl_7, sl_8, sl_9, sl_10, sl_11, sl_12, mt_pop, mt_app, mt_kpop, mt_kapp, mt_dapp, nm_list, nm_tuple, nm_int, nm_bool, nm_str, isi_tup, isi_lst])
section
variable {T : Tbl} {n : Nat}
theorem atI_ok {α : Type} {xs : List α} {v : Int} (h : 0 ≤ v) (h2 : v < xs.length) : ∃ d ∈ xs, L2.atI xs v = some d := by
  refine ⟨xs[v.toNat]'(by omega), List.getElem_mem _, ?_⟩
  unfold L2.atI L2.ixN
  rw [if_pos h, if_pos h2]
  show xs[v.toNat]? = _
  rw [List.getElem?_eq_getElem (by omega)]
def F_law_of : FDef := ⟨.fn, 2, 2, [.ret (.ix (.loc 1) (.call "_law_take" [.loc 0, .bi "len" [.loc 1]]))]⟩
theorem lv_of (hT : T.lookup ("_law_take" : Str) = some F_law_take) (hO : T.lookup ("_law_of" : Str) = some F_law_of) {i : Nat} {xs : List D} (hx : 0 < xs.length) (hx2 : xs.length < 100000) {m : Nat} {b : List (List Int)} {μ : Int} (hm : 2 ≤ m) (hb : BX b i μ) (hμ : μ < 2 ^ 40) :
    ∃ d b', callAt T (n + 20) m "_law_of" [.box i, .lst xs] b = some (d, false, b') ∧ d ∈ xs ∧ BX b' i (μ + 1) := by
  obtain ⟨k, rfl⟩ : ∃ k, m = k + 1 := ⟨m - 1, by omega⟩
  obtain ⟨v, b', h1, h2, h3, h4⟩ := lv_take (n := n) hT (w := (xs.length : Int)) (by omega) (by omega) (m := k) (by omega) hb hμ
  obtain ⟨d, hd, he⟩ := atI_ok h2 h3
  refine ⟨d, b', ?_, hd, h4⟩
  rw [callAt_fn hO rfl]
  unfold runF F_law_of
  (repeat (first | walk_at "ev" | simp only [h1, he]))
def F_law_box : FDef := ⟨.fn, 2, 3, [.asg 2 (.ite (.cmp .Lt (.loc 1) (.bi "len" [.loc 0])) (.ix (.loc 0) (.loc 1)) (.int 0)), .ret (.nbox [.bin .Mult (.bi "abs" [.loc 2]) (.bi "int" [.cmp .GtE (.bi "abs" [.loc 2]) (.bin .Pow (.int 10) (.int 18))]), .bin .Add (.bin .Add (.bin .Mod (.bi "int" [.loc 2]) (.int 2305843009213693951)) (.bin .Mult (.int 39373) (.loc 1))) (.int 103), .int 0])]⟩
theorem bi_absI (i : Int) : biD "abs" [.int i] = some (.int (if i < 0 then -i else i), false) := rfl
theorem bn_pow : binD .Pow (.int 10) (.int 18) = some (.int (10 ^ 18), false) := rfl
theorem intsOf3 (a b c : Int) : intsOf [.int a, .int b, .int c] = some [a, b, c] := rfl
theorem lv_box (hT : T.lookup ("_law_box" : Str) = some F_law_box) {cs : List Int} {k : Nat} (hk : k < cs.length) {m : Nat} (hm : 1 ≤ m) (b : List (List Int)) :
    ∃ x y, callAt T (n + 20) m "_law_box" [.lst (cs.map .int), .int k] b = some (.box b.length, false, b ++ [[x, y, 0]]) := by
  obtain ⟨k2, rfl⟩ : ∃ k, m = k + 1 := ⟨m - 1, by omega⟩
  obtain ⟨d, hd, he⟩ := atI_ok (xs := cs.map D.int) (v := (k : Int)) (by omega) (by rw [List.length_map]; omega)
  obtain ⟨c, hc, rfl⟩ := List.mem_map.mp hd
  have hlt : (k : Int) < (cs.length : Int) := by omega
  have m1 : ∀ z, binD .Mult (.int 39373) (.int z) = some (.int (39373 * z), false) := fun z => bn_mul (mul_l (by decide) (by decide))
  have m2 : ∀ z, binD .Mod (.int z) (.int 2305843009213693951) = some (.int (z % 2305843009213693951), false) := fun z => bn_mod (by decide)
  generalize hp : (10 : Int) ^ 18 = P
  have hpw : binD .Pow (.int 10) (.int 18) = some (.int P, false) := by rw [bn_pow, hp]
  have m3 : ∀ z : Int, ∀ t : Bool, binD .Mult (.int z) (.int (if t = true then 1 else 0)) = some (.int (z * (if t = true then 1 else 0)), false) := fun z t => bn_mul (mul_r (by cases t <;> decide) (by cases t <;> decide))
  rw [callAt_fn hT rfl]
  unfold runF F_law_box
  (repeat (first | walk_at "ev" | simp only [hlt, he, bi_absI, hpw, m1, m2, m3, intsOf3]))
  exact ⟨_, _, rfl⟩
def F_law_cells : FDef := ⟨.fn, 2, 6, [.asg 2 (.or [.bi "list" [.sl (.loc 0) none (some (.loc 1))], .lst [.int 0]]), .for_ (.tp [3, 4]) (.enum (.sl (.loc 0) (some (.loc 1)) (some (.int 63))) 0) [.asg 5 (.bin .Mod (.bi "int" [.loc 3]) (.loc 1)), .asgI (.loc 2) (.loc 5) (.bin .Add (.ix (.loc 2) (.loc 5)) (.bin .Mult (.loc 4) (.bin .Add (.loc 3) (.int 2))))], .ret (.loc 2)]⟩
theorem enumD_map : ∀ (ys : List Int) (k : Nat), enumD k (ys.map .int) = (ys.zipIdx k).map fun p => .tup [.int (p.2 : Nat), .int p.1]
  | [], k => rfl
  | y :: ys, k => by
    rw [List.map_cons, List.zipIdx_cons, List.map_cons, ← enumD_map ys (k + 1)]
    rfl
theorem slD_lo (ns : List Int) (M : Nat) : slD (.scr ns) none (some (M : Int)) = some (.lst ((ns.take M).map .int), true) := by
  show some (D.lst (cut (ns.map .int) none (some (M : Int))), true) = _
  unfold cut
  rw [HT.sIx_nat, HT.sIx_none, List.drop_zero, Nat.sub_zero, List.length_map, ← List.map_take, (List.take_eq_take_iff.mpr (by omega) : List.take (min M ns.length) ns = List.take M ns)]
theorem slD_hi (ns : List Int) (M K : Nat) (h : ns.length ≤ K) : slD (.scr ns) (some (M : Int)) (some (K : Int)) = some (.lst ((ns.drop M).map .int), true) := by
  show some (D.lst (cut (ns.map .int) (some (M : Int)) (some (K : Int))), true) = _
  unfold cut
  rw [HT.sIx_nat, HT.sIx_nat, List.length_map, ← List.map_drop, ← List.map_take]
  have h1 : ns.drop (min M ns.length) = ns.drop M := by
    rcases Nat.le_total M ns.length with h2 | h2
    · rw [Nat.min_eq_left h2]
    · rw [Nat.min_eq_right h2, List.drop_length, List.drop_eq_nil_of_le h2]
  rw [h1, List.take_of_length_le]
  rw [List.length_drop]; omega
theorem ixN_ok {k : Nat} {v : Int} (h : 0 ≤ v) (h2 : v < k) : L2.ixN k v = some v.toNat := by
  unfold L2.ixN
  rw [if_pos h, if_pos h2]
theorem runL_cons (f : S → St → Option (Fl × St)) (a : S) (r : List S) (s : St) : runL f (a :: r) s = (f a s >>= fun p => match p.1 with
    | .nx => runL f r p.2
    | .rt d b => some (.rt d b, p.2)) := rfl
theorem lv_cells (hT : T.lookup ("_law_cells" : Str) = some F_law_cells) {ns : List Int} (hn : ns.length ≤ 63) {M : Nat} (hM : 0 < M) (hM2 : M ≤ 60) :
    ∀ m b, 1 ≤ m → ∃ cs : List Int, 0 < cs.length ∧ cs.length ≤ M ∧ callAt T (n + 20) m "_law_cells" [.scr ns, .int M] b = some (.lst (cs.map .int), true, b) := by
  obtain ⟨c0, h0, h01, h02, h03⟩ : ∃ c0 : List Int, 0 < c0.length ∧ c0.length ≤ M ∧ (ns.drop M ≠ [] → c0.length = M) ∧ c0 = if (ns.take M).isEmpty then [0] else ns.take M := by
    by_cases e : (ns.take M).isEmpty = true
    · refine ⟨[0], by simp, by simp; omega, fun q => ?_, by rw [if_pos e]⟩
      exfalso
      rw [List.isEmpty_iff] at e
      have := congrArg List.length e
      rw [List.length_take, List.length_nil] at this
      exact q (List.drop_eq_nil_of_le (by omega))
    · refine ⟨ns.take M, ?_, by rw [List.length_take]; omega, fun q => ?_, by rw [if_neg e]⟩
      · rw [List.length_pos_iff]
        intro q; rw [q] at e; exact e rfl
      · rw [List.length_take]
        rcases Nat.le_total M ns.length with h2 | h2
        · omega
        · exact absurd (List.drop_eq_nil_of_le h2) q
  have hstep : ∀ b k, ex (callAt T (n + 20) k) (n + 20) (n + 20) (.asg 2 (.or [.bi "list" [.sl (.loc 0) none (some (.loc 1))], .lst [.int 0]])) ⟨[some (.scr ns, false), some (.int M, false), none, none, none, none], b⟩ = some (.nx, ⟨[some (.scr ns, false), some (.int M, false), some (.lst (c0.map .int), true), none, none, none], b⟩) := by
    intro b k
    by_cases e : (ns.take M).isEmpty = true
    · have e2 : ((ns.take M).map D.int).isEmpty = true := by rw [List.isEmpty_iff] at e ⊢; rw [e]; rfl
      rw [h03, if_pos e]
      (repeat (first | walk_at "ev" | simp only [slD_lo, e2]))
    · have e2 : ((ns.take M).map D.int).isEmpty = false := by
        rw [Bool.eq_false_iff]
        intro q; apply e
        rw [List.isEmpty_iff] at q ⊢
        exact List.map_eq_nil_iff.mp q
      rw [h03, if_neg e]
      (repeat (first | walk_at "ev" | simp only [slD_lo, e2]))
  intro m b hm
  obtain ⟨k, rfl⟩ : ∃ k, m = k + 1 := ⟨m - 1, by omega⟩
  rw [callAt_fn hT rfl]
  unfold runF F_law_cells
  have hsl : slD (.scr ns) (some (M : Int)) (some 63) = some (.lst ((ns.drop M).map .int), true) := slD_hi ns M 63 hn
  have hz : ∀ p ∈ (ns.drop M).zipIdx 0, p.2 < 63 ∧ 0 < (ns.drop M).length := fun p hp => by
    have := List.snd_lt_of_mem_zipIdx hp
    rw [List.length_drop] at this ⊢
    omega
  have hen : enumD 0 ((ns.drop M).map .int) = _ := enumD_map (ns.drop M) 0
  simp only [List.length_cons, List.length_nil, Nat.zero_add, Nat.reduceAdd, if_true, initSt, List.map_cons, List.map_nil, List.cons_append, List.nil_append, Nat.reduceSub, List.replicate_succ, List.replicate_zero]
  rw [runL_cons, hstep]
  (repeat (first | walk_at "ev" | simp only [hsl, hen]))
  generalize hf : forL _ _ _ = o
  refine Exists.elim (forL_out hf (fun done s => ∃ cs a3 a4 a5, cs.length = c0.length ∧ s = ⟨[some (.scr ns, false), some (.int M, false), some (.lst (cs.map .int), true), a3, a4, a5], b⟩) ⟨c0, none, none, none, rfl, rfl⟩ (fun x rest done s e hs => ?_)) ?_
  · obtain ⟨cs, a3, a4, a5, hcs, rfl⟩ := hs
    obtain ⟨x2, x63⟩ := hz x (by rw [e]; simp)
    have hcM : c0.length = M := h02 (by intro q; rw [q] at x63; simp at x63)
    have hMi : (0 : Int) < (M : Int) := by omega
    have m1 : binD .Mod (.int (x.2 : Nat)) (.int M) = some (.int ((x.2 : Int) % M), false) := bn_mod hMi
    have g1 : 0 ≤ (x.2 : Int) % M := Int.emod_nonneg _ (by omega)
    have g2 : (x.2 : Int) % M < M := Int.emod_lt_of_pos _ hMi
    generalize (x.2 : Int) % M = v at m1 g1 g2
    obtain ⟨d, hd, he⟩ := atI_ok (xs := cs.map D.int) g1 (by rw [List.length_map]; omega)
    obtain ⟨c, hc, rfl⟩ := List.mem_map.mp hd
    have m2 : ∀ z, binD .Mult (.int z) (.int ((x.2 : Int) + 2)) = some (.int (z * ((x.2 : Int) + 2)), false) := fun z => bn_mul (mul_r (by omega) (by omega))
    have hix : L2.ixN cs.length v = some v.toNat := ixN_ok g1 (by omega)
    unfold forB
    (repeat (first | walk_at "ev" | simp only [m1, he, m2, hix, Option.bind_some]))
    rw [← List.map_set]
    exact ⟨_, rfl, cs.set v.toNat (c + x.1 * ((x.2 : Int) + 2)), _, _, _, by rw [List.length_set]; exact hcs, rfl⟩
  · rintro s' ⟨rfl, cs, a3, a4, a5, hcs, rfl⟩
    refine ⟨cs, by omega, by omega, ?_⟩
    walk_at "ev"
def F_law_same : FDef := ⟨.fn, 2, 4, [.iff (.isi (.loc 1) ["list", "tuple"] true) [.iff (.or [.cmp .NotEq (.isi (.loc 0) ["list"] false) (.isi (.loc 1) ["list"] false), .cmp .NotEq (.isi (.loc 0) ["tuple"] false) (.isi (.loc 1) ["tuple"] false)]) [.ret (.bl false)] [], .ret (.and [.cmp .Eq (.bi "len" [.loc 0]) (.bi "len" [.loc 1]), .bi "all" [.lc (.call "_law_same" [.loc 2, .loc 3]) (.mk (.tp [2, 3]) (.zip (.loc 0) (.loc 1)) []) [2, 3]]])] [], .iff (.or [.cmp .Is (.loc 1) (.non), .isi (.loc 1) ["bool", "str"] true]) [.ret (.and [.cmp .Eq (.loc 0) (.loc 1), .cmp .Eq (.isi (.loc 0) ["bool"] false) (.isi (.loc 1) ["bool"] false), .cmp .Eq (.cmp .Is (.loc 0) (.non)) (.cmp .Is (.loc 1) (.non))])] [], .ret (.and [.isi (.loc 0) ["int"] false, .not (.isi (.loc 0) ["bool"] false), .cmp .Eq (.loc 0) (.loc 1)])]⟩
theorem eq_bl (i j : Bool) : eqD (.bl i) (.bl j) = some (decide (i = j)) := by
  rw [eq_some (n := 0) (m := 0) ok_bl ok_bl (by omega) (by omega), eqv_bl]
theorem eq_str (i j : Str) (h : nok i = true) (k : nok j = true) : eqD (.str i) (.str j) = some (decide (i = j)) := by
  rw [eq_some (n := 0) (m := 0) (ok_str h) (ok_str k) (by omega) (by omega), eqv_str]
theorem eq_non : eqD .non .non = some true := by
  rw [eq_some (n := 0) (m := 0) ok_non ok_non (by omega) (by omega)]; rfl
theorem is_non_lt : isi .non ["list", "tuple"] = some false := rfl
theorem is_non_bs : isi .non ["bool", "str"] = some false := rfl
theorem is_non_b : isi .non ["bool"] = some false := rfl
theorem is_non_i : isi .non ["int"] = some false := rfl
theorem is_non_l : isi .non ["list"] = some false := rfl
theorem is_non_t : isi .non ["tuple"] = some false := rfl
theorem is_bl_lt (x : Bool) : isi (.bl x) ["list", "tuple"] = some false := rfl
theorem is_bl_bs (x : Bool) : isi (.bl x) ["bool", "str"] = some true := rfl
theorem is_bl_b (x : Bool) : isi (.bl x) ["bool"] = some true := rfl
theorem is_bl_i (x : Bool) : isi (.bl x) ["int"] = some true := rfl
theorem is_bl_l (x : Bool) : isi (.bl x) ["list"] = some false := rfl
theorem is_bl_t (x : Bool) : isi (.bl x) ["tuple"] = some false := rfl
theorem is_int_lt (x : Int) : isi (.int x) ["list", "tuple"] = some false := rfl
theorem is_int_bs (x : Int) : isi (.int x) ["bool", "str"] = some false := rfl
theorem is_int_b (x : Int) : isi (.int x) ["bool"] = some false := rfl
theorem is_int_i (x : Int) : isi (.int x) ["int"] = some true := rfl
theorem is_int_l (x : Int) : isi (.int x) ["list"] = some false := rfl
theorem is_int_t (x : Int) : isi (.int x) ["tuple"] = some false := rfl
theorem is_str_lt (x : Str) : isi (.str x) ["list", "tuple"] = some false := rfl
theorem is_str_bs (x : Str) : isi (.str x) ["bool", "str"] = some true := rfl
theorem is_str_b (x : Str) : isi (.str x) ["bool"] = some false := rfl
theorem is_str_i (x : Str) : isi (.str x) ["int"] = some false := rfl
theorem is_str_l (x : Str) : isi (.str x) ["list"] = some false := rfl
theorem is_str_t (x : Str) : isi (.str x) ["tuple"] = some false := rfl
theorem is_lst_lt (x : List D) : isi (.lst x) ["list", "tuple"] = some true := rfl
theorem is_lst_bs (x : List D) : isi (.lst x) ["bool", "str"] = some false := rfl
theorem is_lst_b (x : List D) : isi (.lst x) ["bool"] = some false := rfl
theorem is_lst_i (x : List D) : isi (.lst x) ["int"] = some false := rfl
theorem is_lst_l (x : List D) : isi (.lst x) ["list"] = some true := rfl
theorem is_lst_t (x : List D) : isi (.lst x) ["tuple"] = some false := rfl
theorem is_tup_lt (x : List D) : isi (.tup x) ["list", "tuple"] = some true := rfl
theorem is_tup_bs (x : List D) : isi (.tup x) ["bool", "str"] = some false := rfl
theorem is_tup_b (x : List D) : isi (.tup x) ["bool"] = some false := rfl
theorem is_tup_i (x : List D) : isi (.tup x) ["int"] = some false := rfl
theorem is_tup_l (x : List D) : isi (.tup x) ["list"] = some false := rfl
theorem is_tup_t (x : List D) : isi (.tup x) ["tuple"] = some true := rfl
/-- a leaf or a list, a tuple of such things -/
def leafOk : D → Bool
  | .non => true
  | .bl _ => true
  | .int _ => true
  | .str x => nok x
  | _ => false
def SameAt (T : Tbl) (N l : Nat) (d : D) : Prop := Lv T N l "_law_same" [d, d] (.bl true) false
theorem cmp_is (x : D) : cmpD .Is x .non = some (isNon x) := rfl
theorem same_leaf (hT : T.lookup ("_law_same" : Str) = some F_law_same) {d : D} (h : leafOk d = true) : SameAt T (n + 20) 1 d := Lv.of hT rfl fun k b hk => by
  unfold runF F_law_same
  cases d with
  | non => (repeat (first | walk_at "ev" | simp only [is_non_lt, is_non_bs, is_non_b, is_non_i, is_non_l, is_non_t, is_bl_lt, is_bl_bs, is_bl_b, is_bl_i, is_bl_l, is_bl_t, is_int_lt, is_int_bs, is_int_b, is_int_i, is_int_l, is_int_t, is_str_lt, is_str_bs, is_str_b, is_str_i, is_str_l, is_str_t, is_lst_lt, is_lst_bs, is_lst_b, is_lst_i, is_lst_l, is_lst_t, is_tup_lt, is_tup_bs, is_tup_b, is_tup_i, is_tup_l, is_tup_t, cmp_is, isNon, eq_non, eq_bl]))
  | bl x => (repeat (first | walk_at "ev" | simp only [is_non_lt, is_non_bs, is_non_b, is_non_i, is_non_l, is_non_t, is_bl_lt, is_bl_bs, is_bl_b, is_bl_i, is_bl_l, is_bl_t, is_int_lt, is_int_bs, is_int_b, is_int_i, is_int_l, is_int_t, is_str_lt, is_str_bs, is_str_b, is_str_i, is_str_l, is_str_t, is_lst_lt, is_lst_bs, is_lst_b, is_lst_i, is_lst_l, is_lst_t, is_tup_lt, is_tup_bs, is_tup_b, is_tup_i, is_tup_l, is_tup_t, cmp_is, isNon, eq_bl]))
  | int x => (repeat (first | walk_at "ev" | simp only [is_non_lt, is_non_bs, is_non_b, is_non_i, is_non_l, is_non_t, is_bl_lt, is_bl_bs, is_bl_b, is_bl_i, is_bl_l, is_bl_t, is_int_lt, is_int_bs, is_int_b, is_int_i, is_int_l, is_int_t, is_str_lt, is_str_bs, is_str_b, is_str_i, is_str_l, is_str_t, is_lst_lt, is_lst_bs, is_lst_b, is_lst_i, is_lst_l, is_lst_t, is_tup_lt, is_tup_bs, is_tup_b, is_tup_i, is_tup_l, is_tup_t, cmp_is, isNon, eq_int]))
  | str x =>
    have h : nok x = true := h
    (repeat (first | walk_at "ev" | simp only [is_non_lt, is_non_bs, is_non_b, is_non_i, is_non_l, is_non_t, is_bl_lt, is_bl_bs, is_bl_b, is_bl_i, is_bl_l, is_bl_t, is_int_lt, is_int_bs, is_int_b, is_int_i, is_int_l, is_int_t, is_str_lt, is_str_bs, is_str_b, is_str_i, is_str_l, is_str_t, is_lst_lt, is_lst_bs, is_lst_b, is_lst_i, is_lst_l, is_lst_t, is_tup_lt, is_tup_bs, is_tup_b, is_tup_i, is_tup_l, is_tup_t, cmp_is, isNon, eq_bl, eq_str x x h h]))
  | _ => cases h
theorem zip_self {xs : List D} : zipD xs xs = xs.map fun x => .tup [x, x] := by
  induction xs with
  | nil => rfl
  | cons x xs ih => show _ :: zipD xs xs = _; rw [ih]; rfl
theorem same_lst (hT : T.lookup ("_law_same" : Str) = some F_law_same) {l : Nat} {xs : List D} (hz : xs.length ≤ 3000) (ih : ∀ x ∈ xs, SameAt T (n + 20) l x) : SameAt T (n + 20) (l + 1) (.lst xs) := Lv.of hT rfl fun k b hk => by
  unfold runF F_law_same
  (repeat (first | walk_at "ev" | simp only [is_non_lt, is_non_bs, is_non_b, is_non_i, is_non_l, is_non_t, is_bl_lt, is_bl_bs, is_bl_b, is_bl_i, is_bl_l, is_bl_t, is_int_lt, is_int_bs, is_int_b, is_int_i, is_int_l, is_int_t, is_str_lt, is_str_bs, is_str_b, is_str_i, is_str_l, is_str_t, is_lst_lt, is_lst_bs, is_lst_b, is_lst_i, is_lst_l, is_lst_t, is_tup_lt, is_tup_bs, is_tup_b, is_tup_i, is_tup_l, is_tup_t, eq_bl, eq_int, zip_self]))
  rw [gats_map (f := fun x => D.tup [x, x]) (g := fun _ => [D.bl true]) (fun x hx => ?_)]
  · rw [flat1]
    have hl : xs.length ≤ sizeLine := by rw [sizeLine_eq]; omega
    have ha : xs.all (fun _ => true) = true := by rw [List.all_eq_true]; intro _ _; rfl
    (repeat (first | walk_at "ev" | simp only [hl, ha]))
  · (repeat (first | walk_at "ev" | simp only [ih x hx k b hk]))
end
end Mp
/-! Mq, part 9: drawn kinds, shapes, methods. -/
namespace Mp
open PySem L2
local macro_rules | `(tactic| walk_at "ev") => `(tactic| simp only [sb, nb, List.length_cons, List.length_nil, Nat.zero_add, Nat.reduceAdd, Nat.reduceSub, if_true, initSt, runL, evL, takes, take, dsOf, Tmp.d, List.map_cons, List.map_nil, List.cons_append, List.nil_append, List.replicate_succ, List.replicate_zero, st_get0, stepB, bindT, slotsT, bodyL, tests, St.wipe, St.back, List.foldr_cons, List.foldr_nil, List.foldl_cons, List.foldl_nil, List.zip_cons_cons, List.zip_nil_right, args, arg, called, asgs, setl, puts, St.frz, St.frzs, varsOf, optD, body2, bodyK, Option.isSome_some, Bool.true_eq_false, Bool.false_eq_true, if_false, Option.map_some, Bool.not_true, Bool.not_false, strsOf_map, strsOf_cons, sd_dK, sd_lst, andT, orT, andV, orV, gt1, gt2, gt3, gt4, gt5, gt6, gt7, gt8, gt9, gt10, gt11, gt12, pu0, pu1, pu2, pu3, pu4, pu5, pu6, pu7, pu8, pu9, pu10, pu11, pu12, se0, se1, se2, se3, se4, se5, se6, se7, se8, se9, se10, se11, se12, List.getD_cons_zero, List.getD_cons_succ, in_lst, in_tup, ite_self, Bool.and_self, Bool.true_and, Bool.and_true, Bool.false_and, Bool.and_false, decide_true, decide_false, ne_eq, not_true_eq_false, not_false_eq_true, eq_self, List.length_map, asg1, Nat.reduceEqDiff, srcX_fix, srcX_var, ev_loc, ev_lc, ev_lc2, ev_dc, ev_lofV, ev_int, ev_str, ev_bl, ev_non, ev_tup, ev_lst, ev_nbox, ev_dic, ev_bin, ev_neg, ev_cmp, ev_chn, ev_and, ev_or, ev_not, ev_ite, ev_ix, ev_sl, ev_rev, ev_fld, ev_bi, ev_isi, ev_sset, tst_and, tst_or, tst_not, tst_ite, itr_ex, itr_rng, itr_zip, itr_enum, itr_items, itr_vals, ex_asg, ex_asgT, ex_par, ex_asgI, ex_asgF, ex_aug, ex_ex, ex_ret, ex_iff, ex_for_, ex_whl, ex_pass, ex_stop, tst_loc, tst_glob, tst_int, tst_str, tst_bl, tst_non, tst_tup, tst_lst, tst_nbox, tst_dic, tst_bin, tst_neg, tst_cmp, tst_chn, tst_ix, tst_sl, tst_rev, tst_fld, tst_call, tst_callK, tst_bi, tst_isi, tst_sset, tst_lset, tst_lof, tst_meth, tst_lc, tst_lc2, tst_dc, tst_dc2, ec_tupled, ec_names_of, ec_above, ec_below_by, ec_products, ec_shapes, ec_greatest_by, ec_common, ec_fitting_by, ec_nearest_by, ec_torn_by, ec_shapes_of, ec_ups_of, ec_shape_of, ec_labels_of, ec_fitting, ec_nearest, ec_chosen, ec_torn, ec_greatest_torn, ec_meet, ec_cover, ec_is_under, ec_is_below, ec_shape_below, ec_law_box, ec_law_take, ec_law_cells, ec_law_of, ec_law_same, ec_law_shapes, ec_law_methods, ec_law_kinds, ec_law_up, ec_law_under, ec_law_calls, ec_law_right, ec_law_lists, ec_law_fits, ec_law_near, ec_law_chosen, ec_law_pairs, ec_law_generic, tr_bl, tr_int, tr_lst, tr_tup, tr_non, io_tup, io_lst, io_unlT, io_unlL, io_dK, bn_addI, bn_subI, bn_addT, bn_addL, bn_addS, or_lt, or_le, or_gt, or_ge, or_ltS, ix_lst, ix_tup, ix_dK, at_0, at_1, at_2, bi_allM, bi_anyM, bi_lenL, bi_lenT, bi_tupL, bi_tupT, bi_lstL, bi_lstT, bi_intI, bi_intB, cmp_in, cmp_notin, cmp_eq, cmp_ne, lf_bl, lf_int, lf_str, lf_non, lf_box, lf_lst, lf_dK, lf_tup, lf_lfS, lf_lfC, lf_lfN, sl_0, sl_1, sl_2, sl_3, sl_4, sl_5, sl_6, sl_7, sl_8, sl_9, sl_10, sl_11, sl_12, mt_pop, mt_app, mt_kpop, mt_kapp, mt_dapp, nm_list, nm_tuple, nm_int, nm_bool, nm_str, isi_tup, isi_lst])
section
variable {T : Tbl} {n : Nat}
theorem gat_ex {α : Type} {step : D → St → Option (List α × St)} (I : Nat → St → Prop) (Q : α → Prop) (N : Nat) : ∀ {xs : List D} {j : Nat} {s : St}, j + xs.length = N → I j s → (∀ x j s, x ∈ xs → j < N → I j s → ∃ l s', step x s = some (l, s') ∧ l.length ≤ 1 ∧ (∀ a ∈ l, Q a) ∧ I (j + 1) s') →
    ∃ l s', gat step xs s = some (l, s') ∧ l.length ≤ xs.length ∧ (∀ a ∈ l, Q a) ∧ I N s'
  | [], j, s, e, h, _ => ⟨[], s, rfl, Nat.le_refl _, (fun a q => by cases q), by rw [← e]; exact h⟩
  | x :: xs, j, s, e, h, k => by
    rw [List.length_cons] at e
    obtain ⟨l, s1, h1, h2, h3, h4⟩ := k x j s List.mem_cons_self (by omega) h
    obtain ⟨r, s2, h5, h6, h7, h8⟩ := gat_ex I Q N (xs := xs) (by omega) h4 fun x j s hx => k x j s (List.mem_cons_of_mem _ hx)
    refine ⟨l ++ r, s2, ?_, by rw [List.length_append, List.length_cons]; omega, fun a ha => ?_, h8⟩
    · show (step x s).bind (fun p => (gat step xs p.2).bind fun q => some (p.1 ++ q.1, q.2)) = _
      rw [h1]
      show (gat step xs s1).bind (fun q => some (l ++ q.1, q.2)) = _
      rw [h5]; rfl
    · rcases List.mem_append.mp ha with q | q
      · exact h3 a q
      · exact h7 a q
theorem gats_ex {α : Type} {step : D → St → Option (List α × St)} {xs : List D} {s : St} {o : Option (List α × St)} (hg : gats step (.fix xs) s = o) (I : Nat → St → Prop) (Q : α → Prop) (h : I 0 s) (k : ∀ x j s, x ∈ xs → j < xs.length → I j s → ∃ l s', step x s = some (l, s') ∧ l.length ≤ 1 ∧ (∀ a ∈ l, Q a) ∧ I (j + 1) s') :
    ∃ l s', o = some (l, s') ∧ l.length ≤ xs.length ∧ (∀ a ∈ l, Q a) ∧ I xs.length s' := by
  obtain ⟨l, s', h1, h2, h3, h4⟩ := gat_ex I Q xs.length (by omega) h k
  exact ⟨l, s', by rw [← hg]; exact h1, h2, h3, h4⟩
theorem strs_all {P : Str → Prop} : ∀ {l : List D}, (∀ a ∈ l, ∃ y, a = .str y ∧ P y) → ∃ ys : List Str, l = ys.map .str ∧ ∀ y ∈ ys, P y
  | [], _ => ⟨[], rfl, fun y h => by cases h⟩
  | a :: l, h => by
    obtain ⟨y, rfl, hy⟩ := h a List.mem_cons_self
    obtain ⟨ys, rfl, hys⟩ := strs_all (l := l) fun b hb => h b (List.mem_cons_of_mem _ hb)
    exact ⟨y :: ys, rfl, fun z hz => by
      rcases List.mem_cons.mp hz with rfl | hz
      · exact hy
      · exact hys z hz⟩
theorem rng_ok {lo hi : Int} (h1 : -1000000 ≤ lo) (h2 : lo ≤ 1000000) (h3 : -1000000 ≤ hi) (h4 : hi ≤ 1000000) : (inB lo && inB hi) = true := by rw [Bool.and_eq_true, inB_iff, inB_iff]; omega
theorem rngD_map : ∀ (k : Nat) (lo : Nat), rngD lo k = (List.range' lo k).map fun j => .int (j : Nat)
  | 0, _ => rfl
  | k + 1, lo => by
    rw [List.range'_succ, List.map_cons, ← rngD_map k (lo + 1)]
    rfl
theorem ex_run {α : Type} {run A : α} {Q : α → Prop} (h : run = A) (k : Q A) : Q run := h ▸ k
/-- a turn that goes on -/
def Goes (r : Option (Fl × St)) (I : St → Prop) : Prop := ∃ s', r = some (.nx, s') ∧ I s'
theorem goes_run {r A : Option (Fl × St)} {I : St → Prop} (h : r = A) (k : Goes A I) : Goes r I := h ▸ k
theorem forL_go {β : Type} {f : β → D} {step : D → St → Option (Fl × St)} {s0 : St} {o : Option (Fl × St)} {xs : List β} (hf : forL step (xs.map f) s0 = o) (I : List β → St → Prop) (h0 : I [] s0)
    (hs : ∀ x rest done s, xs = done ++ x :: rest → I done s → Goes (step (f x) s) (I (done ++ [x]))) : ∃ s', o = some (.nx, s') ∧ I xs s' := forL_out hf I h0 hs
theorem rngD_map0 (k : Nat) : rngD 0 k = (List.range' 0 k).map fun j => .int (j : Nat) := rngD_map k 0
theorem erase_map {α β : Type} (f : α → β) : ∀ (xs : List α) (k : Nat), (xs.map f).eraseIdx k = (xs.eraseIdx k).map f
  | [], _ => rfl
  | _ :: _, 0 => rfl
  | x :: xs, k + 1 => by
    show f x :: (xs.map f).eraseIdx k = f x :: (xs.eraseIdx k).map f
    rw [erase_map f xs k]
theorem erase_no {α : Type} : ∀ {xs : List α} {k : Nat} (hk : k < xs.length), xs.Nodup → xs[k] ∉ xs.eraseIdx k
  | x :: xs, 0, _, h => (List.nodup_cons.mp h).1
  | x :: xs, k + 1, hk, h => by
    obtain ⟨h1, h2⟩ := List.nodup_cons.mp h
    have hk' : k < xs.length := by simpa using hk
    show xs[k] ∉ x :: xs.eraseIdx k
    intro q
    rcases List.mem_cons.mp q with e | q
    · exact h1 (by rw [← e]; exact List.getElem_mem hk')
    · exact erase_no hk' h2 q
def F_law_kinds : FDef := ⟨.fn, 3, 11, [.par [3, 4] [.lst [.str "a", .str "b", .str "c", .str "d", .str "e", .str "f", .str "ab", .str "z"], .lst []], .for_ (.nm 5) (.rng (.int 0) (.loc 1)) [.par [6, 7] [.meth (.loc 3) "pop" [.call "_law_take" [.loc 0, .bi "len" [.loc 3]]], .lc (.ix (.loc 9) (.int 0)) (.mk (.nm 9) (.ex (.loc 4)) []) [9]], .asg 8 (.sset (.lc (.call "_law_of" [.loc 0, .loc 7]) (.mk (.nm 10) (.rng (.int 0) (.call "_law_take" [.loc 0, .int 4])) [.cmp .NotEq (.loc 7) (.lst [])]) [10])), .ex (.meth (.loc 4) "append" [.tup [.loc 6, .bi "tuple" [.loc 8], .cmp .Lt (.call "_law_take" [.loc 0, .int 12]) (.loc 2)]])], .ret (.bi "tuple" [.loc 4])]⟩
def eight : List Str := ["a", "b", "c", "d", "e", "f", "ab", "z"]
theorem eight_nok : ∀ x ∈ eight, nok x = true := by decide +kernel
theorem eight_nodup : eight.Nodup := by decide +kernel
/-- drawn kinds -/
structure KDr (ks : List Row) : Prop where
  ok : KOk ks
  nm : ∀ x ∈ names ks, x ∈ eight
  up : ∀ r ∈ ks, ∃ ys : List Str, r.2.1 = ssrt ys
theorem eq_lstr (xs ys : List Str) (h : xs.all nok = true) (k : ys.all nok = true) : eqD (.lst (xs.map .str)) (.lst (ys.map .str)) = some (decide (xs = ys)) := eq_enc (eLst eStr) (by decide) (a := xs) (b := ys) h k
theorem eq_lstr0 (xs : List Str) (h : xs.all nok = true) : eqD (.lst (xs.map .str)) (.lst []) = some (decide (xs = [])) := eq_lstr xs [] h rfl
theorem eq_l00 : eqD (.lst []) (.lst []) = some true := eq_lstr [] [] rfl rfl
theorem kdr_nil : KDr [] := by
  refine ⟨⟨fun d x r e => ?_, Nat.zero_le _⟩, fun x hx => ?_, fun r hr => ?_⟩
  · cases d <;> cases e
  · simp [names] at hx
  · cases hr
theorem kok_snoc {ks : List Row} {r : Row} (h : KOk ks) (h1 : nok r.1 = true) (h2 : r.1 ∉ names ks) (h3 : ∀ y ∈ r.2.1, y ∈ names ks) (h4 : r.2.1.length ≤ 12) (h5 : ks.length + 1 ≤ 12) : KOk (ks ++ [r]) := by
  refine ⟨fun done x rest e => ?_, by rw [List.length_append]; exact h5⟩
  rcases List.eq_nil_or_concat rest with rfl | ⟨rest', z, rfl⟩
  · obtain ⟨e1, e2⟩ := List.append_inj' e rfl
    cases e2
    subst e1
    exact ⟨h1, h2, h3, h4⟩
  · rw [List.concat_eq_append, ← List.cons_append, ← List.append_assoc] at e
    obtain ⟨e1, e2⟩ := List.append_inj' e rfl
    exact h.row done x rest' e1
theorem kdr_snoc {ks : List Row} {r : Row} (h : KDr ks) (h1 : r.1 ∈ eight) (h2 : r.1 ∉ names ks) (h3 : ∀ y ∈ r.2.1, y ∈ names ks) (h4 : r.2.1.length ≤ 12) (h5 : ks.length + 1 ≤ 12) (h6 : ∃ ys : List Str, r.2.1 = ssrt ys) : KDr (ks ++ [r]) := by
  refine ⟨kok_snoc h.ok (eight_nok _ h1) h2 h3 h4 h5, fun x hx => ?_, fun q hq => ?_⟩
  · unfold names at hx
    rw [List.map_append] at hx
    rcases List.mem_append.mp hx with hx | hx
    · exact h.nm x hx
    · rw [List.mem_singleton.mp hx]; exact h1
  · rcases List.mem_append.mp hq with hq | hq
    · exact h.up q hq
    · rw [List.mem_singleton.mp hq]; exact h6
theorem lv_kinds (hT : T.lookup ("_law_take" : Str) = some F_law_take) (hO : T.lookup ("_law_of" : Str) = some F_law_of) (hK : T.lookup ("_law_kinds" : Str) = some F_law_kinds) {i : Nat} {many : Nat} {bare : Int} (h8 : many ≤ 8) {m : Nat} {b : List (List Int)} {μ : Int} (hm : 3 ≤ m) (hb : BX b i μ) (hμ : μ < 2 ^ 39) :
    ∃ ks b', callAt T (n + 20) m "_law_kinds" [.box i, .int many, .int bare] b = some (.tup (ks.map kRow), false, b') ∧ KDr ks ∧ ks.length = many ∧ BX b' i (μ + 100) := by
  obtain ⟨k, rfl⟩ : ∃ k, m = k + 1 := ⟨m - 1, by omega⟩
  rw [callAt_fn hK rfl]
  have hr : ((many : Int) - 0).toNat = many := by omega
  have hr1 := rng_ok (lo := 0) (hi := (many : Int)) (by omega) (by omega) (by omega) (by omega)
  have hlab : [D.str "a", D.str "b", D.str "c", D.str "d", D.str "e", D.str "f", D.str "ab", D.str "z"] = eight.map .str := rfl
  refine ex_run (A := ?A) (Q := fun (r : Option (D × Bool × List (List Int))) => ∃ (ks : List Row) (b' : List (List Int)), r = some (D.tup (ks.map kRow), false, b') ∧ KDr ks ∧ ks.length = many ∧ BX b' i (μ + 100)) ?h ?k
  case h =>
    unfold runF F_law_kinds
    (repeat (first | walk_at "ev" | simp only [hr, hr1]))
    exact rfl
  case k =>
    rw [hlab]
    generalize hf : forL _ _ _ = o
    rw [rngD_map0] at hf
    refine Exists.elim (forL_go hf (fun done s => ∃ (lf : List Str) (ks : List Row) (a5 a6 a7 a8 : Option (D × Bool)) (b' : List (List Int)), s = ⟨[some (.box i, false), some (.int many, false), some (.int bare, false), some (.lst (lf.map .str), true), some (.lst (ks.map kRow), true), a5, a6, a7, a8, none, none], b'⟩ ∧ KDr ks ∧ ks.length = done.length ∧ lf.length + done.length = 8 ∧ lf.Nodup ∧ (∀ x ∈ lf, x ∈ eight ∧ x ∉ names ks) ∧ BX b' i (μ + 8 * done.length)) ?i ?s) ?e
    case i => exact ⟨eight, [], none, none, none, none, b, rfl, kdr_nil, rfl, rfl, eight_nodup, fun x hx => ⟨hx, by simp [names]⟩, hb.mono (by simp)⟩
    case s =>
      intro x rest done s e hs
      obtain ⟨lf, ks, a5, a6, a7, a8, b1, rfl, hk1, hk2, hl1, hl2, hl3, hb1⟩ := hs
      have hdm : done.length < many := by
        have := congrArg List.length e
        rw [List.length_range', List.length_append, List.length_cons] at this; omega
      obtain ⟨v, b2, c1, v0, v1, hb2⟩ := lv_take (n := n) hT (w := (lf.length : Int)) (by omega) (by omega) (m := k) (by omega) hb1 (by omega)
      have hix : L2.ixN lf.length v = some v.toNat := ixN_ok v0 v1
      have hvl : v.toNat < lf.length := by omega
      have hpop : (lf.map D.str)[v.toNat]? = some (.str (lf[v.toNat])) := by rw [List.getElem?_map, List.getElem?_eq_getElem hvl]; rfl
      have hkl : ks.length ≤ 8 := by omega
      have hkl2 : ks.length ≤ sizeLine := by rw [sizeLine_eq]; omega
      have hnn : (names ks).all nok = true := hk1.ok.noks
      obtain ⟨v2, b3, c2, v20, v21, hb3⟩ := lv_take (n := n) hT (w := 4) (by omega) (by omega) (m := k) (by omega) hb2 (by omega)
      have hr2 := rng_ok (lo := 0) (hi := v2) (by omega) (by omega) (by omega) (by omega)
      have hnm : ks.map (fun r => D.str r.1) = (names ks).map D.str := by unfold names; rw [List.map_map]; rfl
      refine goes_run (A := ?A2) ?h2 ?k2
      case h2 =>
        unfold forB
        (repeat (first | walk_at "ev" | simp only [c1, mt_dpop, hix, Option.bind_some, hpop]))
        rewrite [gatsV_map (f := kRow) (g := fun r : Row => [D.str r.1]) rfl (by unfold big; omega) (fun r hr => by rw [kRow_eq]; walk_at "ev"), flat1]
        (repeat (first | walk_at "ev" | simp only [hkl2, hnm, c2, hr2]))
        exact rfl
      case k2 =>
        generalize hg : gats _ _ _ = o2
        refine Exists.elim (gats_ex hg (fun j s => ∃ b', s = ⟨[some (D.box i, false), some (D.int many, false), some (D.int bare, false), some (D.lst ((lf.map D.str).eraseIdx v.toNat), true), some (D.lst (ks.map kRow), true), some (D.int x, false), some (D.str (lf[v.toNat]), false), some (D.lst ((names ks).map D.str), true), a8, none, none], b'⟩ ∧ BX b' i (μ + 8 * done.length + 1 + 1 + j)) (fun a => ∃ y, a = D.str y ∧ y ∈ names ks) ⟨b3, rfl, hb3.mono (by omega)⟩ (fun d j s hd hj hs => ?st)) (fun l hl0 => ?mn)
        case st =>
          obtain ⟨b4, rfl, hb4⟩ := hs
          rw [rngD_len] at hj
          by_cases hn : names ks = []
          · (repeat (first | walk_at "ev" | simp only [eq_l00, hn]))
            exact ⟨_, _, rfl, by simp, by simp, b4, rfl, hb4.mono (by omega)⟩
          · have hnl : 0 < ((names ks).map D.str).length := by rw [List.length_map]; exact List.length_pos_iff.mpr hn
            have hnl2 : ((names ks).map D.str).length < 100000 := by unfold names; rw [List.length_map, List.length_map]; omega
            obtain ⟨d', b5, c5, hd', hb5⟩ := lv_of (n := n) hT hO hnl hnl2 (m := k) (by omega) hb4 (by omega)
            obtain ⟨y, hy, rfl⟩ := List.mem_map.mp hd'
            (repeat (first | walk_at "ev" | simp only [eq_lstr0 _ hnn, hn, c5]))
            exact ⟨_, _, rfl, by simp, fun a ha => ⟨y, List.mem_singleton.mp ha, hy⟩, b5, rfl, hb5.mono (by omega)⟩
        case mn =>
          obtain ⟨s2, rfl, hl, hQ, b4, rfl, hb4⟩ := hl0
          obtain ⟨ys, rfl, hys⟩ := strs_all hQ
          rw [rngD_len] at hb4 hl
          rw [List.length_map] at hl
          obtain ⟨v3, b5, c5, v30, v31, hb5⟩ := lv_take (n := n) hT (w := 12) (by omega) (by omega) (m := k) (by omega) hb4 (by omega)
          have l1 : ys.length ≤ sizeLine := by rw [sizeLine_eq]; omega
          have l2 : ys.length + 1 < scanBound := by unfold scanBound; omega
          have l3 : ks.length < sizeLine := by rw [sizeLine_eq]; omega
          (repeat (first | walk_at "ev" | simp only [l1, l2, l3, c5]))
          have hks : ks.map kRow ++ [D.tup [D.str lf[v.toNat], D.tup ((ssrt ys).map D.str), D.bl (decide (v3 < bare))]] = (ks ++ [(lf[v.toNat], ssrt ys, decide (v3 < bare))]).map kRow := by rw [List.map_append]; rfl
          rw [erase_map, hks]
          refine ⟨_, rfl, lf.eraseIdx v.toNat, ks ++ [(lf[v.toNat], ssrt ys, decide (v3 < bare))], _, _, _, _, b5, rfl, ?e2, ?e3, ?e4, ?e5, ?e6, ?e7⟩
          case e2 =>
            have hx0 := hl3 _ (List.getElem_mem hvl)
            exact kdr_snoc hk1 hx0.1 hx0.2 (fun y hy => hys y ((ssrt_mem ys).mp hy)) (by have := ssrt_len ys; show (ssrt ys).length ≤ 12; omega) (by omega) ⟨ys, rfl⟩
          case e3 => rw [List.length_append, List.length_append, hk2]; rfl
          case e4 => rw [List.length_eraseIdx_of_lt hvl, List.length_append, List.length_singleton]; omega
          case e5 => exact hl2.sublist (List.eraseIdx_sublist _ _)
          case e6 =>
            intro y hy
            have h1 := hl3 y ((List.eraseIdx_sublist _ _).mem hy)
            refine ⟨h1.1, fun q => ?_⟩
            unfold names at q
            rw [List.map_append] at q
            rcases List.mem_append.mp q with q | q
            · exact h1.2 q
            · rw [List.mem_singleton.mp q] at hy
              exact erase_no hvl hl2 hy
          case e7 => exact hb5.mono (by rw [List.length_append, List.length_singleton]; omega)
    case e =>
      rintro s' ⟨rfl, lf, ks, a5, a6, a7, a8, b', rfl, hk1, hk2, hl1, hl2, hl3, hb1⟩
      rw [List.length_range'] at hk2 hb1
      walk_at "ev"
      exact ⟨ks, b', rfl, hk1, hk2, hb1.mono (by omega)⟩
end
end Mp
/-! Mq, part 10: the laws' shapes and drawn methods. -/
namespace Mp
open PySem L2
local macro_rules | `(tactic| walk_at "ev") => `(tactic| simp only [sb, nb, List.length_cons, List.length_nil, Nat.zero_add, Nat.reduceAdd, Nat.reduceSub, if_true, initSt, runL, evL, takes, take, dsOf, Tmp.d, List.map_cons, List.map_nil, List.cons_append, List.nil_append, List.replicate_succ, List.replicate_zero, st_get0, stepB, bindT, slotsT, bodyL, tests, St.wipe, St.back, List.foldr_cons, List.foldr_nil, List.foldl_cons, List.foldl_nil, List.zip_cons_cons, List.zip_nil_right, args, arg, called, asgs, setl, puts, St.frz, St.frzs, varsOf, optD, body2, bodyK, Option.isSome_some, Bool.true_eq_false, Bool.false_eq_true, if_false, Option.map_some, Bool.not_true, Bool.not_false, strsOf_map, strsOf_cons, sd_dK, sd_lst, andT, orT, andV, orV, gt1, gt2, gt3, gt4, gt5, gt6, gt7, gt8, gt9, gt10, gt11, gt12, pu0, pu1, pu2, pu3, pu4, pu5, pu6, pu7, pu8, pu9, pu10, pu11, pu12, se0, se1, se2, se3, se4, se5, se6, se7, se8, se9, se10, se11, se12, List.getD_cons_zero, List.getD_cons_succ, in_lst, in_tup, ite_self, Bool.and_self, Bool.true_and, Bool.and_true, Bool.false_and, Bool.and_false, decide_true, decide_false, ne_eq, not_true_eq_false, not_false_eq_true, eq_self, List.length_map, asg1, Nat.reduceEqDiff, srcX_fix, srcX_var, ev_loc, ev_lc, ev_lc2, ev_dc, ev_lofV, ev_int, ev_str, ev_bl, ev_non, ev_tup, ev_lst, ev_nbox, ev_dic, ev_bin, ev_neg, ev_cmp, ev_chn, ev_and, ev_or, ev_not, ev_ite, ev_ix, ev_sl, ev_rev, ev_fld, ev_bi, ev_isi, ev_sset, tst_and, tst_or, tst_not, tst_ite, itr_ex, itr_rng, itr_zip, itr_enum, itr_items, itr_vals, ex_asg, ex_asgT, ex_par, ex_asgI, ex_asgF, ex_aug, ex_ex, ex_ret, ex_iff, ex_for_, ex_whl, ex_pass, ex_stop, tst_loc, tst_glob, tst_int, tst_str, tst_bl, tst_non, tst_tup, tst_lst, tst_nbox, tst_dic, tst_bin, tst_neg, tst_cmp, tst_chn, tst_ix, tst_sl, tst_rev, tst_fld, tst_call, tst_callK, tst_bi, tst_isi, tst_sset, tst_lset, tst_lof, tst_meth, tst_lc, tst_lc2, tst_dc, tst_dc2, ec_tupled, ec_names_of, ec_above, ec_below_by, ec_products, ec_shapes, ec_greatest_by, ec_common, ec_fitting_by, ec_nearest_by, ec_torn_by, ec_shapes_of, ec_ups_of, ec_shape_of, ec_labels_of, ec_fitting, ec_nearest, ec_chosen, ec_torn, ec_greatest_torn, ec_meet, ec_cover, ec_is_under, ec_is_below, ec_shape_below, ec_law_box, ec_law_take, ec_law_cells, ec_law_of, ec_law_same, ec_law_shapes, ec_law_methods, ec_law_kinds, ec_law_up, ec_law_under, ec_law_calls, ec_law_right, ec_law_lists, ec_law_fits, ec_law_near, ec_law_chosen, ec_law_pairs, ec_law_generic, tr_bl, tr_int, tr_lst, tr_tup, tr_non, io_tup, io_lst, io_unlT, io_unlL, io_dK, bn_addI, bn_subI, bn_addT, bn_addL, bn_addS, or_lt, or_le, or_gt, or_ge, or_ltS, ix_lst, ix_tup, ix_dK, at_0, at_1, at_2, bi_allM, bi_anyM, bi_lenL, bi_lenT, bi_tupL, bi_tupT, bi_lstL, bi_lstT, bi_intI, bi_intB, cmp_in, cmp_notin, cmp_eq, cmp_ne, lf_bl, lf_int, lf_str, lf_non, lf_box, lf_lst, lf_dK, lf_tup, lf_lfS, lf_lfC, lf_lfN, sl_0, sl_1, sl_2, sl_3, sl_4, sl_5, sl_6, sl_7, sl_8, sl_9, sl_10, sl_11, sl_12, mt_pop, mt_app, mt_kpop, mt_kapp, mt_dapp, nm_list, nm_tuple, nm_int, nm_bool, nm_str, isi_tup, isi_lst])
section
variable {T : Tbl} {n : Nat}
def F_law_shapes : FDef := ⟨.fn, 2, 8, [.asg 2 (.lst [.tup []]), .for_ (.nm 3) (.rng (.int 0) (.loc 1)) [.asg 4 (.lst []), .for_ (.nm 5) (.ex (.loc 2)) [.asg 4 (.bin .Add (.loc 4) (.lc (.bin .Add (.loc 5) (.tup [.loc 6])) (.mk (.nm 6) (.ex (.bi "sorted" [.lc (.ix (.loc 7) (.int 0)) (.mk (.nm 7) (.ex (.loc 0)) []) [7]])) []) [6]))], .asg 2 (.loc 4)], .ret (.loc 2)]⟩
end
end Mp
/-! Mq, part 11: drawn methods. -/
namespace Mp
open PySem L2
local macro_rules | `(tactic| walk_at "ev") => `(tactic| simp only [sb, nb, List.length_cons, List.length_nil, Nat.zero_add, Nat.reduceAdd, Nat.reduceSub, if_true, initSt, runL, evL, takes, take, dsOf, Tmp.d, List.map_cons, List.map_nil, List.cons_append, List.nil_append, List.replicate_succ, List.replicate_zero, st_get0, stepB, bindT, slotsT, bodyL, tests, St.wipe, St.back, List.foldr_cons, List.foldr_nil, List.foldl_cons, List.foldl_nil, List.zip_cons_cons, List.zip_nil_right, args, arg, called, asgs, setl, puts, St.frz, St.frzs, varsOf, optD, body2, bodyK, Option.isSome_some, Bool.true_eq_false, Bool.false_eq_true, if_false, Option.map_some, Bool.not_true, Bool.not_false, strsOf_map, strsOf_cons, sd_dK, sd_lst, andT, orT, andV, orV, gt1, gt2, gt3, gt4, gt5, gt6, gt7, gt8, gt9, gt10, gt11, gt12, pu0, pu1, pu2, pu3, pu4, pu5, pu6, pu7, pu8, pu9, pu10, pu11, pu12, se0, se1, se2, se3, se4, se5, se6, se7, se8, se9, se10, se11, se12, List.getD_cons_zero, List.getD_cons_succ, in_lst, in_tup, ite_self, Bool.and_self, Bool.true_and, Bool.and_true, Bool.false_and, Bool.and_false, decide_true, decide_false, ne_eq, not_true_eq_false, not_false_eq_true, eq_self, List.length_map, asg1, Nat.reduceEqDiff, srcX_fix, srcX_var, ev_loc, ev_lc, ev_lc2, ev_dc, ev_lofV, ev_int, ev_str, ev_bl, ev_non, ev_tup, ev_lst, ev_nbox, ev_dic, ev_bin, ev_neg, ev_cmp, ev_chn, ev_and, ev_or, ev_not, ev_ite, ev_ix, ev_sl, ev_rev, ev_fld, ev_bi, ev_isi, ev_sset, tst_and, tst_or, tst_not, tst_ite, itr_ex, itr_rng, itr_zip, itr_enum, itr_items, itr_vals, ex_asg, ex_asgT, ex_par, ex_asgI, ex_asgF, ex_aug, ex_ex, ex_ret, ex_iff, ex_for_, ex_whl, ex_pass, ex_stop, tst_loc, tst_glob, tst_int, tst_str, tst_bl, tst_non, tst_tup, tst_lst, tst_nbox, tst_dic, tst_bin, tst_neg, tst_cmp, tst_chn, tst_ix, tst_sl, tst_rev, tst_fld, tst_call, tst_callK, tst_bi, tst_isi, tst_sset, tst_lset, tst_lof, tst_meth, tst_lc, tst_lc2, tst_dc, tst_dc2, ec_tupled, ec_names_of, ec_above, ec_below_by, ec_products, ec_shapes, ec_greatest_by, ec_common, ec_fitting_by, ec_nearest_by, ec_torn_by, ec_shapes_of, ec_ups_of, ec_shape_of, ec_labels_of, ec_fitting, ec_nearest, ec_chosen, ec_torn, ec_greatest_torn, ec_meet, ec_cover, ec_is_under, ec_is_below, ec_shape_below, ec_law_box, ec_law_take, ec_law_cells, ec_law_of, ec_law_same, ec_law_shapes, ec_law_methods, ec_law_kinds, ec_law_up, ec_law_under, ec_law_calls, ec_law_right, ec_law_lists, ec_law_fits, ec_law_near, ec_law_chosen, ec_law_pairs, ec_law_generic, tr_bl, tr_int, tr_lst, tr_tup, tr_non, io_tup, io_lst, io_unlT, io_unlL, io_dK, bn_addI, bn_subI, bn_addT, bn_addL, bn_addS, or_lt, or_le, or_gt, or_ge, or_ltS, ix_lst, ix_tup, ix_dK, at_0, at_1, at_2, bi_allM, bi_anyM, bi_lenL, bi_lenT, bi_tupL, bi_tupT, bi_lstL, bi_lstT, bi_intI, bi_intB, cmp_in, cmp_notin, cmp_eq, cmp_ne, lf_bl, lf_int, lf_str, lf_non, lf_box, lf_lst, lf_dK, lf_tup, lf_lfS, lf_lfC, lf_lfN, sl_0, sl_1, sl_2, sl_3, sl_4, sl_5, sl_6, sl_7, sl_8, sl_9, sl_10, sl_11, sl_12, mt_pop, mt_app, mt_kpop, mt_kapp, mt_dapp, nm_list, nm_tuple, nm_int, nm_bool, nm_str, isi_tup, isi_lst])
section
variable {T : Tbl} {n : Nat}
def F_law_methods : FDef := ⟨.fn, 4, 9, [.par [4, 5, 6] [.lst [.str "p", .str "q", .str "r", .str "s", .str "a", .str "mm", .str "t"], .call "_law_shapes" [.loc 1, .loc 2], .lst []], .for_ (.nm 7) (.rng (.int 0) (.loc 3)) [.iff (.cmp .NotEq (.loc 5) (.lst [])) [.asg 8 (.meth (.loc 5) "pop" [.call "_law_take" [.loc 0, .bi "len" [.loc 5]]]), .ex (.meth (.loc 6) "append" [.tup [.meth (.loc 4) "pop" [.call "_law_take" [.loc 0, .bi "len" [.loc 4]]], .loc 8]])] []], .ret (.bi "tuple" [.bi "sorted" [.loc 6]])]⟩
def seven : List Str := ["p", "q", "r", "s", "a", "mm", "t"]
/-- drawn methods -/
structure MDr (ks : List Row) (pl : Nat) (ms : List Meth) : Prop where
  nod : (ms.map (·.1)).Nodup
  lab : ∀ m ∈ ms, m.1 ∈ seven
  shp : ∀ m ∈ ms, m.2 ∈ allSh ks pl
theorem MDr.perm {ks : List Row} {pl : Nat} {ms ms' : List Meth} (h : MDr ks pl ms) (p : ms'.Perm ms) : MDr ks pl ms' :=
  ⟨(p.map _).nodup_iff.mpr h.nod, fun m hm => h.lab m (p.mem_iff.mp hm), fun m hm => h.shp m (p.mem_iff.mp hm)⟩
end
end Mp
/-! Mq, part 12: two generics side by side (k89). -/
namespace Mp
open PySem L2
local macro_rules | `(tactic| walk_at "ev") => `(tactic| simp only [sb, nb, List.length_cons, List.length_nil, Nat.zero_add, Nat.reduceAdd, Nat.reduceSub, if_true, initSt, runL, evL, takes, take, dsOf, Tmp.d, List.map_cons, List.map_nil, List.cons_append, List.nil_append, List.replicate_succ, List.replicate_zero, st_get0, stepB, bindT, slotsT, bodyL, tests, St.wipe, St.back, List.foldr_cons, List.foldr_nil, List.foldl_cons, List.foldl_nil, List.zip_cons_cons, List.zip_nil_right, args, arg, called, asgs, setl, puts, St.frz, St.frzs, varsOf, optD, body2, bodyK, Option.isSome_some, Bool.true_eq_false, Bool.false_eq_true, if_false, Option.map_some, Bool.not_true, Bool.not_false, strsOf_map, strsOf_cons, sd_dK, sd_lst, andT, orT, andV, orV, gt1, gt2, gt3, gt4, gt5, gt6, gt7, gt8, gt9, gt10, gt11, gt12, pu0, pu1, pu2, pu3, pu4, pu5, pu6, pu7, pu8, pu9, pu10, pu11, pu12, se0, se1, se2, se3, se4, se5, se6, se7, se8, se9, se10, se11, se12, List.getD_cons_zero, List.getD_cons_succ, in_lst, in_tup, ite_self, Bool.and_self, Bool.true_and, Bool.and_true, Bool.false_and, Bool.and_false, decide_true, decide_false, ne_eq, not_true_eq_false, not_false_eq_true, eq_self, List.length_map, asg1, Nat.reduceEqDiff, srcX_fix, srcX_var, ev_loc, ev_lc, ev_lc2, ev_dc, ev_lofV, ev_int, ev_str, ev_bl, ev_non, ev_tup, ev_lst, ev_nbox, ev_dic, ev_bin, ev_neg, ev_cmp, ev_chn, ev_and, ev_or, ev_not, ev_ite, ev_ix, ev_sl, ev_rev, ev_fld, ev_bi, ev_isi, ev_sset, tst_and, tst_or, tst_not, tst_ite, itr_ex, itr_rng, itr_zip, itr_enum, itr_items, itr_vals, ex_asg, ex_asgT, ex_par, ex_asgI, ex_asgF, ex_aug, ex_ex, ex_ret, ex_iff, ex_for_, ex_whl, ex_pass, ex_stop, tst_loc, tst_glob, tst_int, tst_str, tst_bl, tst_non, tst_tup, tst_lst, tst_nbox, tst_dic, tst_bin, tst_neg, tst_cmp, tst_chn, tst_ix, tst_sl, tst_rev, tst_fld, tst_call, tst_callK, tst_bi, tst_isi, tst_sset, tst_lset, tst_lof, tst_meth, tst_lc, tst_lc2, tst_dc, tst_dc2, ec_tupled, ec_names_of, ec_above, ec_below_by, ec_products, ec_shapes, ec_greatest_by, ec_common, ec_fitting_by, ec_nearest_by, ec_torn_by, ec_shapes_of, ec_ups_of, ec_shape_of, ec_labels_of, ec_fitting, ec_nearest, ec_chosen, ec_torn, ec_greatest_torn, ec_meet, ec_cover, ec_is_under, ec_is_below, ec_shape_below, ec_law_box, ec_law_take, ec_law_cells, ec_law_of, ec_law_same, ec_law_shapes, ec_law_methods, ec_law_kinds, ec_law_up, ec_law_under, ec_law_calls, ec_law_right, ec_law_lists, ec_law_fits, ec_law_near, ec_law_chosen, ec_law_pairs, ec_law_generic, tr_bl, tr_int, tr_lst, tr_tup, tr_non, io_tup, io_lst, io_unlT, io_unlL, io_dK, bn_addI, bn_subI, bn_addT, bn_addL, bn_addS, or_lt, or_le, or_gt, or_ge, or_ltS, ix_lst, ix_tup, ix_dK, at_0, at_1, at_2, bi_allM, bi_anyM, bi_lenL, bi_lenT, bi_tupL, bi_tupT, bi_lstL, bi_lstT, bi_intI, bi_intB, cmp_in, cmp_notin, cmp_eq, cmp_ne, lf_bl, lf_int, lf_str, lf_non, lf_box, lf_lst, lf_dK, lf_tup, lf_lfS, lf_lfC, lf_lfN, sl_0, sl_1, sl_2, sl_3, sl_4, sl_5, sl_6, sl_7, sl_8, sl_9, sl_10, sl_11, sl_12, mt_pop, mt_app, mt_kpop, mt_kapp, mt_dapp, nm_list, nm_tuple, nm_int, nm_bool, nm_str, isi_tup, isi_lst])
section
variable {T : Tbl} {n : Nat}
def F_law_calls : FDef := ⟨.fn, 1, 1, [.ret (.call "_law_shapes" [.ix (.loc 0) (.int 0), .ix (.loc 0) (.int 1)])]⟩
/-- two labels joined -/
def jn (a b : Str) : Str := a ++ ("x" : Str) ++ b
def joinM (one other : List Str) : List Str := one.flatMap fun a => other.map fun b => jn a b
def nine : List Str := "none" :: "torn" :: seven
def wordM (a b : Str) : Str := if a = "none" ∨ b = "none" then "none" else if a = "torn" ∨ b = "torn" then "torn" else jn a b
def rowsM (ms1 ms2 : List Meth) : List Meth := ms1.flatMap fun m => ms2.map fun q => (jn m.1 q.1, m.2 ++ q.2)
end
end Mp
/-! Mq, part 13: two generics side by side, the plain law. -/
namespace Mp
open PySem L2
theorem up_refl {ks : List Row} (h : KOk ks) : ∀ x ∈ names ks, x ∈ upOf (aboveM ks) x := by
  induction ks using snoc_ind with
  | h0 => intro x hx; simp [names] at hx
  | h1 l y ih =>
    intro x hx
    obtain ⟨r1, r2, r3, r4⟩ := h.row l y [] rfl
    rw [aboveM_snoc]
    by_cases e : x = y.1
    · subst e
      rw [up_new (by rw [aboveM_keys]; exact r2), ssrt_mem]
      exact List.mem_cons_self
    · have hx' : x ∈ names l := by
        unfold names at hx ⊢
        rw [List.map_append] at hx
        rcases List.mem_append.mp hx with hx | hx
        · exact hx
        · exact absurd (by simpa using hx) e
      rw [up_old (by rw [aboveM_keys]; exact hx')]
      exact ih h.pre x hx'
section
variable {ks : List Row} {p1 p2 : Nat} {ms1 ms2 : List Meth} {c1 c2 : List Str}
/-- two well made generics over the same kinds -/
structure Two (ks : List Row) (p1 p2 : Nat) (ms1 ms2 : List Meth) : Prop where
  k : KOk ks
  d1 : MDr ks p1 ms1
  d2 : MDr ks p2 ms2
  z1 : ms1.length ≤ 7
  z2 : ms2.length ≤ 7
  p : p1 + p2 ≤ 6
  size : ks.length ^ (p1 + p2) ≤ 2000
def g1 (ks : List Row) (p : Nat) (ms : List Meth) : Gen := ⟨ks, p, ms⟩
def gG (ks : List Row) (p1 p2 : Nat) (ms1 ms2 : List Meth) : Gen := ⟨ks, p1 + p2, srtM (rowsM ms1 ms2)⟩
end
end Mp
/-! Mq, part 14: two generics side by side, what is nearest, torn. -/
namespace Mp
open PySem L2
section
variable {ks : List Row} {p1 p2 : Nat} {ms1 ms2 : List Meth} {c1 c2 : List Str}
end
end Mp
/-! Mq, kinds that add nothing: the plain law (k86). -/
namespace Mp
open PySem L2
theorem names_app (a b : List Row) : names (a ++ b) = names a ++ names b := List.map_append
theorem up_pre {p : List Row} : ∀ {q : List Row}, KOk (p ++ q) → ∀ y ∈ names p, upOf (aboveM (p ++ q)) y = upOf (aboveM p) y := by
  intro q
  induction q using snoc_ind with
  | h0 => intro _ y _; rw [List.append_nil]
  | h1 l x ih =>
    intro h y hy
    rw [← List.append_assoc] at h ⊢
    rw [aboveM_snoc, up_old (by rw [aboveM_keys, List.map_append]; exact List.mem_append_left _ hy)]
    exact ih h.pre y hy
theorem KOk.cut {d e : List Row} {r : Row} (h : KOk (d ++ r :: e)) : KOk (d ++ [r]) := by
  have : d ++ r :: e = (d ++ [r]) ++ e := by simp
  rw [this] at h
  exact h.pre
theorem up_row {d e : List Row} {r : Row} (h : KOk (d ++ r :: e)) (z : Str) : z ∈ upOf (aboveM (d ++ r :: e)) r.1 ↔ z = r.1 ∨ ∃ s ∈ r.2.1, z ∈ upOf (aboveM (d ++ r :: e)) s := by
  have e1 : d ++ r :: e = (d ++ [r]) ++ e := by simp
  obtain ⟨r1, r2, r3, r4⟩ := h.row d r e rfl
  have hk : KOk ((d ++ [r]) ++ e) := e1 ▸ h
  have hs : ∀ s ∈ r.2.1, upOf (aboveM (d ++ r :: e)) s = upOf (aboveM d) s := fun s hs => up_pre h s (r3 s hs)
  rw [e1, up_pre hk r.1 (by rw [names_app]; exact List.mem_append_right _ List.mem_cons_self), aboveM_snoc, up_new (by rw [aboveM_keys]; exact r2), ssrt_mem, List.mem_cons, List.mem_flatMap, ← e1]
  constructor
  · rintro (q | ⟨s, h1, h2⟩)
    · exact .inl q
    · exact .inr ⟨s, h1, by rw [hs s h1]; exact h2⟩
  · rintro (q | ⟨s, h1, h2⟩)
    · exact .inl q
    · exact .inr ⟨s, h1, by rw [hs s h1] at h2; exact h2⟩
/-- from the first row to the last -/
theorem pre_ind {ks : List Row} (P : Str → Prop) (step : ∀ d r e, ks = d ++ r :: e → (∀ y ∈ names d, P y) → P r.1) : ∀ y ∈ names ks, P y := by
  have : ∀ p q : List Row, ks = p ++ q → ∀ y ∈ names p, P y := by
    intro p
    induction p using snoc_ind with
    | h0 => intro q _ y hy; cases hy
    | h1 l x ih =>
      intro q e y hy
      have e' : ks = l ++ x :: q := by rw [e]; simp
      rw [names_app] at hy
      rcases List.mem_append.mp hy with hy | hy
      · exact ih (x :: q) e' y hy
      · have : y = x.1 := by simpa [names] using hy
        subst this
        exact step l x q e' (ih (x :: q) e')
  exact this ks [] (by simp)
theorem up_trans {ks : List Row} (h : KOk ks) {x y z : Str} (hx : x ∈ names ks) (h1 : y ∈ upOf (aboveM ks) x) (h2 : z ∈ upOf (aboveM ks) y) : z ∈ upOf (aboveM ks) x := by
  refine pre_ind (ks := ks) (fun x => ∀ y z, y ∈ upOf (aboveM ks) x → z ∈ upOf (aboveM ks) y → z ∈ upOf (aboveM ks) x) (fun d r e q ih y z h1 h2 => ?_) x hx y z h1 h2
  subst q
  rcases (up_row h y).mp h1 with rfl | ⟨s, h3, h4⟩
  · exact h2
  · exact (up_row h z).mpr (.inr ⟨s, h3, ih s ((h.row d r e rfl).2.2.1 s h3) y z h4 h2⟩)
/-! ### other rows ahead -/
/-- the same kinds above each old one, among the old ones -/
def Agr (ks' ks : List Row) : Prop := ∀ x ∈ names ks, ∀ z ∈ names ks, (z ∈ upOf (aboveM ks') x ↔ z ∈ upOf (aboveM ks) x)
/-! ### a kind apart -/
/-! ### all that follows told -/
def fullR (ks : List Row) (n : Str) (r : Row) : Row := (r.1, if r.1 = n then (upOf (aboveM ks) n).filter (fun z => decide (z ≠ n)) else r.2.1, r.2.2)
def fullM (ks : List Row) (n : Str) : List Row := ks.map (fullR ks n)
theorem KOk.others {d e : List Row} {r : Row} (h : KOk (d ++ r :: e)) : (∀ x ∈ d, x.1 ≠ r.1) ∧ ∀ x ∈ e, x.1 ≠ r.1 := by
  have h1 := h.nodup
  rw [List.map_append, List.map_cons] at h1
  obtain ⟨_, h2, h3⟩ := List.nodup_append.mp h1
  constructor
  · intro x hx
    exact h3 _ (List.mem_map.mpr ⟨x, hx, rfl⟩) _ List.mem_cons_self
  · intro x hx e
    exact (List.nodup_cons.mp h2).1 (by rw [← e]; exact List.mem_map.mpr ⟨x, hx, rfl⟩)
end Mp
/-! Mq, kinds that add nothing: a kind above all, a kind between. -/
namespace Mp
open PySem L2
def topR (t : Str) (r : Row) : Row := (r.1, if r.2.1 = [] then [t] else r.2.1, r.2.2)
def topM (t : Str) (ks : List Row) : List Row := (t, [], true) :: ks.map (topR t)
/-! ### a kind between -/
def btw (m n t : Str) (r : Row) : List Row := if r.1 = n then [(m, [t], true), (n, srtS (r.2.1.filter (fun z => decide (z ≠ t)) ++ [m]), r.2.2)] else [r]
def btwM (m n t : Str) (ks : List Row) : List Row := ks.flatMap (btw m n t)
/-! ### what agrees is chosen alike -/
/-- calls that stand alike below all old shapes -/
inductive Sees (ks' ks : List Row) : List Str → List Str → Prop
  | nil : Sees ks' ks [] []
  | cons {x' x : Str} {c' c : List Str} : (∀ z ∈ names ks, (z ∈ upOf (aboveM ks') x' ↔ z ∈ upOf (aboveM ks) x)) → Sees ks' ks c' c → Sees ks' ks (x' :: c') (x :: c)
def ofKs (g : Gen) (ks' : List Row) : Gen := ⟨ks', g.pl, g.ms⟩
end Mp
/-! Mq, k86: the law's small functions. -/
namespace Mp
open PySem L2
local macro_rules | `(tactic| walk_at "ev") => `(tactic| simp only [sb, nb, List.length_cons, List.length_nil, Nat.zero_add, Nat.reduceAdd, Nat.reduceSub, if_true, initSt, runL, evL, takes, take, dsOf, Tmp.d, List.map_cons, List.map_nil, List.cons_append, List.nil_append, List.replicate_succ, List.replicate_zero, st_get0, stepB, bindT, slotsT, bodyL, tests, St.wipe, St.back, List.foldr_cons, List.foldr_nil, List.foldl_cons, List.foldl_nil, List.zip_cons_cons, List.zip_nil_right, args, arg, called, asgs, setl, puts, St.frz, St.frzs, varsOf, optD, body2, bodyK, Option.isSome_some, Bool.true_eq_false, Bool.false_eq_true, if_false, Option.map_some, Bool.not_true, Bool.not_false, strsOf_map, strsOf_cons, sd_dK, sd_lst, andT, orT, andV, orV, gt1, gt2, gt3, gt4, gt5, gt6, gt7, gt8, gt9, gt10, gt11, gt12, pu0, pu1, pu2, pu3, pu4, pu5, pu6, pu7, pu8, pu9, pu10, pu11, pu12, se0, se1, se2, se3, se4, se5, se6, se7, se8, se9, se10, se11, se12, List.getD_cons_zero, List.getD_cons_succ, in_lst, in_tup, ite_self, Bool.and_self, Bool.true_and, Bool.and_true, Bool.false_and, Bool.and_false, decide_true, decide_false, ne_eq, not_true_eq_false, not_false_eq_true, eq_self, List.length_map, asg1, Nat.reduceEqDiff, srcX_fix, srcX_var, ev_loc, ev_lc, ev_lc2, ev_dc, ev_lofV, ev_int, ev_str, ev_bl, ev_non, ev_tup, ev_lst, ev_nbox, ev_dic, ev_bin, ev_neg, ev_cmp, ev_chn, ev_and, ev_or, ev_not, ev_ite, ev_ix, ev_sl, ev_rev, ev_fld, ev_bi, ev_isi, ev_sset, tst_and, tst_or, tst_not, tst_ite, itr_ex, itr_rng, itr_zip, itr_enum, itr_items, itr_vals, ex_asg, ex_asgT, ex_par, ex_asgI, ex_asgF, ex_aug, ex_ex, ex_ret, ex_iff, ex_for_, ex_whl, ex_pass, ex_stop, tst_loc, tst_glob, tst_int, tst_str, tst_bl, tst_non, tst_tup, tst_lst, tst_nbox, tst_dic, tst_bin, tst_neg, tst_cmp, tst_chn, tst_ix, tst_sl, tst_rev, tst_fld, tst_call, tst_callK, tst_bi, tst_isi, tst_sset, tst_lset, tst_lof, tst_meth, tst_lc, tst_lc2, tst_dc, tst_dc2, ec_tupled, ec_names_of, ec_above, ec_below_by, ec_products, ec_shapes, ec_greatest_by, ec_common, ec_fitting_by, ec_nearest_by, ec_torn_by, ec_shapes_of, ec_ups_of, ec_shape_of, ec_labels_of, ec_fitting, ec_nearest, ec_chosen, ec_torn, ec_greatest_torn, ec_meet, ec_cover, ec_is_under, ec_is_below, ec_shape_below, ec_law_box, ec_law_take, ec_law_cells, ec_law_of, ec_law_same, ec_law_shapes, ec_law_methods, ec_law_kinds, ec_law_up, ec_law_under, ec_law_calls, ec_law_right, ec_law_lists, ec_law_fits, ec_law_near, ec_law_chosen, ec_law_pairs, ec_law_generic, tr_bl, tr_int, tr_lst, tr_tup, tr_non, io_tup, io_lst, io_unlT, io_unlL, io_dK, bn_addI, bn_subI, bn_addT, bn_addL, bn_addS, or_lt, or_le, or_gt, or_ge, or_ltS, ix_lst, ix_tup, ix_dK, at_0, at_1, at_2, bi_allM, bi_anyM, bi_lenL, bi_lenT, bi_tupL, bi_tupT, bi_lstL, bi_lstT, bi_intI, bi_intB, cmp_in, cmp_notin, cmp_eq, cmp_ne, lf_bl, lf_int, lf_str, lf_non, lf_box, lf_lst, lf_dK, lf_tup, lf_lfS, lf_lfC, lf_lfN, sl_0, sl_1, sl_2, sl_3, sl_4, sl_5, sl_6, sl_7, sl_8, sl_9, sl_10, sl_11, sl_12, mt_pop, mt_app, mt_kpop, mt_kapp, mt_dapp, nm_list, nm_tuple, nm_int, nm_bool, nm_str, isi_tup, isi_lst])
section
variable {T : Tbl} {n : Nat}
def F_law_up : FDef := ⟨.fn, 1, 7, [.asg 1 (.dic []), .for_ (.tp [2, 3, 4]) (.ex (.loc 0)) [.asg 5 (.lst [.loc 2]), .for_ (.nm 6) (.ex (.loc 3)) [.asg 5 (.bin .Add (.loc 5) (.ix (.loc 1) (.loc 6)))], .asgI (.loc 1) (.loc 2) (.sset (.loc 5))], .ret (.loc 1)]⟩
def F_law_generic : FDef := ⟨.fn, 5, 6, [.asg 5 (.call "_law_kinds" [.loc 0, .loc 1, .loc 4]), .ret (.tup [.loc 5, .loc 2, .call "_law_methods" [.loc 0, .loc 5, .loc 2, .loc 3]])]⟩
def F_is_below : FDef := ⟨.fn, 3, 3, [.ret (.cmp .In (.loc 2) (.ix (.call "above" [.call "tupled" [.loc 0]]) (.loc 1)))]⟩
end
end Mp
/-! Mq, k86: other kinds. -/
namespace Mp
open PySem L2
local macro_rules | `(tactic| walk_at "ev") => `(tactic| simp only [sb, nb, List.length_cons, List.length_nil, Nat.zero_add, Nat.reduceAdd, Nat.reduceSub, if_true, initSt, runL, evL, takes, take, dsOf, Tmp.d, List.map_cons, List.map_nil, List.cons_append, List.nil_append, List.replicate_succ, List.replicate_zero, st_get0, stepB, bindT, slotsT, bodyL, tests, St.wipe, St.back, List.foldr_cons, List.foldr_nil, List.foldl_cons, List.foldl_nil, List.zip_cons_cons, List.zip_nil_right, args, arg, called, asgs, setl, puts, St.frz, St.frzs, varsOf, optD, body2, bodyK, Option.isSome_some, Bool.true_eq_false, Bool.false_eq_true, if_false, Option.map_some, Bool.not_true, Bool.not_false, strsOf_map, strsOf_cons, sd_dK, sd_lst, andT, orT, andV, orV, gt1, gt2, gt3, gt4, gt5, gt6, gt7, gt8, gt9, gt10, gt11, gt12, pu0, pu1, pu2, pu3, pu4, pu5, pu6, pu7, pu8, pu9, pu10, pu11, pu12, se0, se1, se2, se3, se4, se5, se6, se7, se8, se9, se10, se11, se12, List.getD_cons_zero, List.getD_cons_succ, in_lst, in_tup, ite_self, Bool.and_self, Bool.true_and, Bool.and_true, Bool.false_and, Bool.and_false, decide_true, decide_false, ne_eq, not_true_eq_false, not_false_eq_true, eq_self, List.length_map, asg1, Nat.reduceEqDiff, srcX_fix, srcX_var, ev_loc, ev_lc, ev_lc2, ev_dc, ev_lofV, ev_int, ev_str, ev_bl, ev_non, ev_tup, ev_lst, ev_nbox, ev_dic, ev_bin, ev_neg, ev_cmp, ev_chn, ev_and, ev_or, ev_not, ev_ite, ev_ix, ev_sl, ev_rev, ev_fld, ev_bi, ev_isi, ev_sset, tst_and, tst_or, tst_not, tst_ite, itr_ex, itr_rng, itr_zip, itr_enum, itr_items, itr_vals, ex_asg, ex_asgT, ex_par, ex_asgI, ex_asgF, ex_aug, ex_ex, ex_ret, ex_iff, ex_for_, ex_whl, ex_pass, ex_stop, tst_loc, tst_glob, tst_int, tst_str, tst_bl, tst_non, tst_tup, tst_lst, tst_nbox, tst_dic, tst_bin, tst_neg, tst_cmp, tst_chn, tst_ix, tst_sl, tst_rev, tst_fld, tst_call, tst_callK, tst_bi, tst_isi, tst_sset, tst_lset, tst_lof, tst_meth, tst_lc, tst_lc2, tst_dc, tst_dc2, ec_tupled, ec_names_of, ec_above, ec_below_by, ec_products, ec_shapes, ec_greatest_by, ec_common, ec_fitting_by, ec_nearest_by, ec_torn_by, ec_shapes_of, ec_ups_of, ec_shape_of, ec_labels_of, ec_fitting, ec_nearest, ec_chosen, ec_torn, ec_greatest_torn, ec_meet, ec_cover, ec_is_under, ec_is_below, ec_shape_below, ec_law_box, ec_law_take, ec_law_cells, ec_law_of, ec_law_same, ec_law_shapes, ec_law_methods, ec_law_kinds, ec_law_up, ec_law_under, ec_law_calls, ec_law_right, ec_law_lists, ec_law_fits, ec_law_near, ec_law_chosen, ec_law_pairs, ec_law_generic, tr_bl, tr_int, tr_lst, tr_tup, tr_non, io_tup, io_lst, io_unlT, io_unlL, io_dK, bn_addI, bn_subI, bn_addT, bn_addL, bn_addS, or_lt, or_le, or_gt, or_ge, or_ltS, ix_lst, ix_tup, ix_dK, at_0, at_1, at_2, bi_allM, bi_anyM, bi_lenL, bi_lenT, bi_tupL, bi_tupT, bi_lstL, bi_lstT, bi_intI, bi_intB, cmp_in, cmp_notin, cmp_eq, cmp_ne, lf_bl, lf_int, lf_str, lf_non, lf_box, lf_lst, lf_dK, lf_tup, lf_lfS, lf_lfC, lf_lfN, sl_0, sl_1, sl_2, sl_3, sl_4, sl_5, sl_6, sl_7, sl_8, sl_9, sl_10, sl_11, sl_12, mt_pop, mt_app, mt_kpop, mt_kapp, mt_dapp, nm_list, nm_tuple, nm_int, nm_bool, nm_str, isi_tup, isi_lst])
section
variable {T : Tbl} {n : Nat}
def F_law_fuller : FDef := ⟨.fn, 2, 7, [.asg 2 (.call "_law_up" [.loc 0]), .asg 3 (.lst []), .for_ (.nm 4) (.ex (.loc 0)) [.asg 5 (.ite (.cmp .Eq (.ix (.loc 4) (.int 0)) (.loc 1)) (.bi "tuple" [.lc (.loc 6) (.mk (.nm 6) (.ex (.ix (.loc 2) (.loc 1))) [.cmp .NotEq (.loc 6) (.loc 1)]) [6]]) (.ix (.loc 4) (.int 1))), .ex (.meth (.loc 3) "append" [.tup [.ix (.loc 4) (.int 0), .loc 5, .ix (.loc 4) (.int 2)]])], .ret (.bi "tuple" [.loc 3])]⟩
def F_law_topped : FDef := ⟨.fn, 1, 3, [.asg 1 (.lst [.tup [.str "top", .tup [], .bl true]]), .for_ (.nm 2) (.ex (.loc 0)) [.ex (.meth (.loc 1) "append" [.tup [.ix (.loc 2) (.int 0), .ite (.cmp .NotEq (.ix (.loc 2) (.int 1)) (.tup [])) (.ix (.loc 2) (.int 1)) (.tup [.str "top"]), .ix (.loc 2) (.int 2)]])], .ret (.bi "tuple" [.loc 1])]⟩
def F_law_between : FDef := ⟨.fn, 3, 6, [.asg 3 (.lst []), .for_ (.nm 4) (.ex (.loc 0)) [.iff (.cmp .Eq (.ix (.loc 4) (.int 0)) (.loc 1)) [.ex (.meth (.loc 3) "append" [.tup [.str "mid", .tup [.loc 2], .bl true]]), .ex (.meth (.loc 3) "append" [.tup [.loc 1, .bi "tuple" [.bi "sorted" [.bin .Add (.lc (.loc 5) (.mk (.nm 5) (.ex (.ix (.loc 4) (.int 1))) [.cmp .NotEq (.loc 5) (.loc 2)]) [5]) (.lst [.str "mid"])]], .ix (.loc 4) (.int 2)]])] [.ex (.meth (.loc 3) "append" [.loc 4])]], .ret (.bi "tuple" [.loc 3])]⟩
end
end Mp
/-! Mq, k86: the law's comparison. -/
namespace Mp
open PySem L2
local macro_rules | `(tactic| walk_at "ev") => `(tactic| simp only [sb, nb, List.length_cons, List.length_nil, Nat.zero_add, Nat.reduceAdd, Nat.reduceSub, if_true, initSt, runL, evL, takes, take, dsOf, Tmp.d, List.map_cons, List.map_nil, List.cons_append, List.nil_append, List.replicate_succ, List.replicate_zero, st_get0, stepB, bindT, slotsT, bodyL, tests, St.wipe, St.back, List.foldr_cons, List.foldr_nil, List.foldl_cons, List.foldl_nil, List.zip_cons_cons, List.zip_nil_right, args, arg, called, asgs, setl, puts, St.frz, St.frzs, varsOf, optD, body2, bodyK, Option.isSome_some, Bool.true_eq_false, Bool.false_eq_true, if_false, Option.map_some, Bool.not_true, Bool.not_false, strsOf_map, strsOf_cons, sd_dK, sd_lst, andT, orT, andV, orV, gt1, gt2, gt3, gt4, gt5, gt6, gt7, gt8, gt9, gt10, gt11, gt12, pu0, pu1, pu2, pu3, pu4, pu5, pu6, pu7, pu8, pu9, pu10, pu11, pu12, se0, se1, se2, se3, se4, se5, se6, se7, se8, se9, se10, se11, se12, List.getD_cons_zero, List.getD_cons_succ, in_lst, in_tup, ite_self, Bool.and_self, Bool.true_and, Bool.and_true, Bool.false_and, Bool.and_false, decide_true, decide_false, ne_eq, not_true_eq_false, not_false_eq_true, eq_self, List.length_map, asg1, Nat.reduceEqDiff, srcX_fix, srcX_var, ev_loc, ev_lc, ev_lc2, ev_dc, ev_lofV, ev_int, ev_str, ev_bl, ev_non, ev_tup, ev_lst, ev_nbox, ev_dic, ev_bin, ev_neg, ev_cmp, ev_chn, ev_and, ev_or, ev_not, ev_ite, ev_ix, ev_sl, ev_rev, ev_fld, ev_bi, ev_isi, ev_sset, tst_and, tst_or, tst_not, tst_ite, itr_ex, itr_rng, itr_zip, itr_enum, itr_items, itr_vals, ex_asg, ex_asgT, ex_par, ex_asgI, ex_asgF, ex_aug, ex_ex, ex_ret, ex_iff, ex_for_, ex_whl, ex_pass, ex_stop, tst_loc, tst_glob, tst_int, tst_str, tst_bl, tst_non, tst_tup, tst_lst, tst_nbox, tst_dic, tst_bin, tst_neg, tst_cmp, tst_chn, tst_ix, tst_sl, tst_rev, tst_fld, tst_call, tst_callK, tst_bi, tst_isi, tst_sset, tst_lset, tst_lof, tst_meth, tst_lc, tst_lc2, tst_dc, tst_dc2, ec_tupled, ec_names_of, ec_above, ec_below_by, ec_products, ec_shapes, ec_greatest_by, ec_common, ec_fitting_by, ec_nearest_by, ec_torn_by, ec_shapes_of, ec_ups_of, ec_shape_of, ec_labels_of, ec_fitting, ec_nearest, ec_chosen, ec_torn, ec_greatest_torn, ec_meet, ec_cover, ec_is_under, ec_is_below, ec_shape_below, ec_law_box, ec_law_take, ec_law_cells, ec_law_of, ec_law_same, ec_law_shapes, ec_law_methods, ec_law_kinds, ec_law_up, ec_law_under, ec_law_calls, ec_law_right, ec_law_lists, ec_law_fits, ec_law_near, ec_law_chosen, ec_law_pairs, ec_law_generic, tr_bl, tr_int, tr_lst, tr_tup, tr_non, io_tup, io_lst, io_unlT, io_unlL, io_dK, bn_addI, bn_subI, bn_addT, bn_addL, bn_addS, or_lt, or_le, or_gt, or_ge, or_ltS, ix_lst, ix_tup, ix_dK, at_0, at_1, at_2, bi_allM, bi_anyM, bi_lenL, bi_lenT, bi_tupL, bi_tupT, bi_lstL, bi_lstT, bi_intI, bi_intB, cmp_in, cmp_notin, cmp_eq, cmp_ne, lf_bl, lf_int, lf_str, lf_non, lf_box, lf_lst, lf_dK, lf_tup, lf_lfS, lf_lfC, lf_lfN, sl_0, sl_1, sl_2, sl_3, sl_4, sl_5, sl_6, sl_7, sl_8, sl_9, sl_10, sl_11, sl_12, mt_pop, mt_app, mt_kpop, mt_kapp, mt_dapp, nm_list, nm_tuple, nm_int, nm_bool, nm_str, isi_tup, isi_lst])
section
variable {T : Tbl} {n : Nat}
def eBl : Enc Bool := ⟨D.bl, fun _ => true, 0, fun _ _ => ok_bl, eqv_bl⟩
structure PA (T : Tbl) : Prop extends PG T where
  is_below : T.lookup ("is_below" : Str) = some F_is_below
  lshapes : T.lookup ("_law_shapes" : Str) = some F_law_shapes
  lcalls : T.lookup ("_law_calls" : Str) = some F_law_calls
  lsame : T.lookup ("_law_same" : Str) = some F_law_same
def F_law_alike : FDef := ⟨.fn, 2, 11, [.par [2, 3] [.tup [.loc 1, .ix (.loc 0) (.int 1), .ix (.loc 0) (.int 2)], .call "_law_calls" [.loc 0]], .for_ (.nm 4) (.ex (.loc 3)) [.asg 5 (.lst [.call "fitting" [.loc 2, .loc 4], .call "nearest" [.loc 2, .loc 4], .call "chosen" [.loc 2, .loc 4]]), .asg 6 (.lst [.call "fitting" [.loc 0, .loc 4], .call "nearest" [.loc 0, .loc 4], .call "chosen" [.loc 0, .loc 4]]), .iff (.not (.call "_law_same" [.loc 5, .loc 6])) [.ret (.bl false)] []], .asg 7 (.lc (.ix (.loc 9) (.int 0)) (.mk (.nm 9) (.ex (.ix (.loc 0) (.int 0))) []) [9]), .for_ (.nm 8) (.ex (.loc 7)) [.iff (.cmp .NotEq (.lc (.call "is_below" [.loc 1, .loc 8, .loc 10]) (.mk (.nm 10) (.ex (.loc 7)) []) [10]) (.lc (.call "is_below" [.ix (.loc 0) (.int 0), .loc 8, .loc 10]) (.mk (.nm 10) (.ex (.loc 7)) []) [10])) [.ret (.bl false)] []], .ret (.cmp .Eq (.lc (.loc 4) (.mk (.nm 4) (.ex (.call "torn" [.loc 2])) [.cmp .In (.loc 4) (.loc 3)]) [4]) (.call "torn" [.loc 0]))]⟩
end
end Mp
/-! Mq, k86: the law. -/
namespace Mp
open PySem L2
local macro_rules | `(tactic| walk_at "ev") => `(tactic| simp only [sb, nb, List.length_cons, List.length_nil, Nat.zero_add, Nat.reduceAdd, Nat.reduceSub, if_true, initSt, runL, evL, takes, take, dsOf, Tmp.d, List.map_cons, List.map_nil, List.cons_append, List.nil_append, List.replicate_succ, List.replicate_zero, st_get0, stepB, bindT, slotsT, bodyL, tests, St.wipe, St.back, List.foldr_cons, List.foldr_nil, List.foldl_cons, List.foldl_nil, List.zip_cons_cons, List.zip_nil_right, args, arg, called, asgs, setl, puts, St.frz, St.frzs, varsOf, optD, body2, bodyK, Option.isSome_some, Bool.true_eq_false, Bool.false_eq_true, if_false, Option.map_some, Bool.not_true, Bool.not_false, strsOf_map, strsOf_cons, sd_dK, sd_lst, andT, orT, andV, orV, gt1, gt2, gt3, gt4, gt5, gt6, gt7, gt8, gt9, gt10, gt11, gt12, pu0, pu1, pu2, pu3, pu4, pu5, pu6, pu7, pu8, pu9, pu10, pu11, pu12, se0, se1, se2, se3, se4, se5, se6, se7, se8, se9, se10, se11, se12, List.getD_cons_zero, List.getD_cons_succ, in_lst, in_tup, ite_self, Bool.and_self, Bool.true_and, Bool.and_true, Bool.false_and, Bool.and_false, decide_true, decide_false, ne_eq, not_true_eq_false, not_false_eq_true, eq_self, List.length_map, asg1, Nat.reduceEqDiff, srcX_fix, srcX_var, ev_loc, ev_lc, ev_lc2, ev_dc, ev_lofV, ev_int, ev_str, ev_bl, ev_non, ev_tup, ev_lst, ev_nbox, ev_dic, ev_bin, ev_neg, ev_cmp, ev_chn, ev_and, ev_or, ev_not, ev_ite, ev_ix, ev_sl, ev_rev, ev_fld, ev_bi, ev_isi, ev_sset, tst_and, tst_or, tst_not, tst_ite, itr_ex, itr_rng, itr_zip, itr_enum, itr_items, itr_vals, ex_asg, ex_asgT, ex_par, ex_asgI, ex_asgF, ex_aug, ex_ex, ex_ret, ex_iff, ex_for_, ex_whl, ex_pass, ex_stop, tst_loc, tst_glob, tst_int, tst_str, tst_bl, tst_non, tst_tup, tst_lst, tst_nbox, tst_dic, tst_bin, tst_neg, tst_cmp, tst_chn, tst_ix, tst_sl, tst_rev, tst_fld, tst_call, tst_callK, tst_bi, tst_isi, tst_sset, tst_lset, tst_lof, tst_meth, tst_lc, tst_lc2, tst_dc, tst_dc2, ec_tupled, ec_names_of, ec_above, ec_below_by, ec_products, ec_shapes, ec_greatest_by, ec_common, ec_fitting_by, ec_nearest_by, ec_torn_by, ec_shapes_of, ec_ups_of, ec_shape_of, ec_labels_of, ec_fitting, ec_nearest, ec_chosen, ec_torn, ec_greatest_torn, ec_meet, ec_cover, ec_is_under, ec_is_below, ec_shape_below, ec_law_box, ec_law_take, ec_law_cells, ec_law_of, ec_law_same, ec_law_shapes, ec_law_methods, ec_law_kinds, ec_law_up, ec_law_under, ec_law_calls, ec_law_right, ec_law_lists, ec_law_fits, ec_law_near, ec_law_chosen, ec_law_pairs, ec_law_generic, tr_bl, tr_int, tr_lst, tr_tup, tr_non, io_tup, io_lst, io_unlT, io_unlL, io_dK, bn_addI, bn_subI, bn_addT, bn_addL, bn_addS, or_lt, or_le, or_gt, or_ge, or_ltS, ix_lst, ix_tup, ix_dK, at_0, at_1, at_2, bi_allM, bi_anyM, bi_lenL, bi_lenT, bi_tupL, bi_tupT, bi_lstL, bi_lstT, bi_intI, bi_intB, cmp_in, cmp_notin, cmp_eq, cmp_ne, lf_bl, lf_int, lf_str, lf_non, lf_box, lf_lst, lf_dK, lf_tup, lf_lfS, lf_lfC, lf_lfN, sl_0, sl_1, sl_2, sl_3, sl_4, sl_5, sl_6, sl_7, sl_8, sl_9, sl_10, sl_11, sl_12, mt_pop, mt_app, mt_kpop, mt_kapp, mt_dapp, nm_list, nm_tuple, nm_int, nm_bool, nm_str, isi_tup, isi_lst])
section
variable {T : Tbl} {n : Nat}
/-- other kinds that add nothing for the old ones -/
structure AOk (g : Gen) (ks' : List Row) : Prop where
  ok : KOk ks'
  size : ks'.length ^ g.pl ≤ 2000
  agr : Agr ks' g.ks
  nm : (names ks').filter (fun x => decide (x ∈ names g.ks)) = names g.ks
def apartR : Row := ("apart", [], false)
def asTop (t : Str) (s : List Str) : List Str := s.map fun x => if x = ("mid" : Str) then t else x
/-! rows and the empty list -/
theorem eqv_row (a c : Row) : PyData.eqv (kRow a).py (kRow c).py = decide (a = c) := by
  have h : PyData.eqv (kRow a).py (kRow c).py = (PyData.eqv (D.str a.1).py (D.str c.1).py && (PyData.eqv (eSh.f a.2.1).py (eSh.f c.2.1).py && (PyData.eqv (D.bl a.2.2).py (D.bl c.2.2).py && true))) := rfl
  rw [h, eqv_str, eSh.eqv, eqv_bl, Bool.and_true]
  obtain ⟨a1, a2, a3⟩ := a
  obtain ⟨c1, c2, c3⟩ := c
  rw [Bool.eq_iff_iff]
  simp
def eRow : Enc Row where
  f := kRow
  ok := fun r => nok r.1 && r.2.1.all nok
  n := 2
  hok := fun r h => by
    rw [Bool.and_eq_true] at h
    refine ok_tup fun d hd => ?_
    simp only [List.mem_cons, List.not_mem_nil, or_false] at hd
    rcases hd with rfl | rfl | rfl
    · exact ok_str h.1
    · exact eSh.hok r.2.1 h.2
    · exact ok_bl
  eqv := eqv_row
end
end Mp
/-! Mq, k86: the law, walked. -/
namespace Mp
open PySem L2
local macro_rules | `(tactic| walk_at "ev") => `(tactic| simp only [sb, nb, List.length_cons, List.length_nil, Nat.zero_add, Nat.reduceAdd, Nat.reduceSub, if_true, initSt, runL, evL, takes, take, dsOf, Tmp.d, List.map_cons, List.map_nil, List.cons_append, List.nil_append, List.replicate_succ, List.replicate_zero, st_get0, stepB, bindT, slotsT, bodyL, tests, St.wipe, St.back, List.foldr_cons, List.foldr_nil, List.foldl_cons, List.foldl_nil, List.zip_cons_cons, List.zip_nil_right, args, arg, called, asgs, setl, puts, St.frz, St.frzs, varsOf, optD, body2, bodyK, Option.isSome_some, Bool.true_eq_false, Bool.false_eq_true, if_false, Option.map_some, Bool.not_true, Bool.not_false, strsOf_map, strsOf_cons, sd_dK, sd_lst, andT, orT, andV, orV, gt1, gt2, gt3, gt4, gt5, gt6, gt7, gt8, gt9, gt10, gt11, gt12, pu0, pu1, pu2, pu3, pu4, pu5, pu6, pu7, pu8, pu9, pu10, pu11, pu12, se0, se1, se2, se3, se4, se5, se6, se7, se8, se9, se10, se11, se12, List.getD_cons_zero, List.getD_cons_succ, in_lst, in_tup, ite_self, Bool.and_self, Bool.true_and, Bool.and_true, Bool.false_and, Bool.and_false, decide_true, decide_false, ne_eq, not_true_eq_false, not_false_eq_true, eq_self, List.length_map, asg1, Nat.reduceEqDiff, srcX_fix, srcX_var, ev_loc, ev_lc, ev_lc2, ev_dc, ev_lofV, ev_int, ev_str, ev_bl, ev_non, ev_tup, ev_lst, ev_nbox, ev_dic, ev_bin, ev_neg, ev_cmp, ev_chn, ev_and, ev_or, ev_not, ev_ite, ev_ix, ev_sl, ev_rev, ev_fld, ev_bi, ev_isi, ev_sset, tst_and, tst_or, tst_not, tst_ite, itr_ex, itr_rng, itr_zip, itr_enum, itr_items, itr_vals, ex_asg, ex_asgT, ex_par, ex_asgI, ex_asgF, ex_aug, ex_ex, ex_ret, ex_iff, ex_for_, ex_whl, ex_pass, ex_stop, tst_loc, tst_glob, tst_int, tst_str, tst_bl, tst_non, tst_tup, tst_lst, tst_nbox, tst_dic, tst_bin, tst_neg, tst_cmp, tst_chn, tst_ix, tst_sl, tst_rev, tst_fld, tst_call, tst_callK, tst_bi, tst_isi, tst_sset, tst_lset, tst_lof, tst_meth, tst_lc, tst_lc2, tst_dc, tst_dc2, ec_tupled, ec_names_of, ec_above, ec_below_by, ec_products, ec_shapes, ec_greatest_by, ec_common, ec_fitting_by, ec_nearest_by, ec_torn_by, ec_shapes_of, ec_ups_of, ec_shape_of, ec_labels_of, ec_fitting, ec_nearest, ec_chosen, ec_torn, ec_greatest_torn, ec_meet, ec_cover, ec_is_under, ec_is_below, ec_shape_below, ec_law_box, ec_law_take, ec_law_cells, ec_law_of, ec_law_same, ec_law_shapes, ec_law_methods, ec_law_kinds, ec_law_up, ec_law_under, ec_law_calls, ec_law_right, ec_law_lists, ec_law_fits, ec_law_near, ec_law_chosen, ec_law_pairs, ec_law_generic, tr_bl, tr_int, tr_lst, tr_tup, tr_non, io_tup, io_lst, io_unlT, io_unlL, io_dK, bn_addI, bn_subI, bn_addT, bn_addL, bn_addS, or_lt, or_le, or_gt, or_ge, or_ltS, ix_lst, ix_tup, ix_dK, at_0, at_1, at_2, bi_allM, bi_anyM, bi_lenL, bi_lenT, bi_tupL, bi_tupT, bi_lstL, bi_lstT, bi_intI, bi_intB, cmp_in, cmp_notin, cmp_eq, cmp_ne, lf_bl, lf_int, lf_str, lf_non, lf_box, lf_lst, lf_dK, lf_tup, lf_lfS, lf_lfC, lf_lfN, sl_0, sl_1, sl_2, sl_3, sl_4, sl_5, sl_6, sl_7, sl_8, sl_9, sl_10, sl_11, sl_12, mt_pop, mt_app, mt_kpop, mt_kapp, mt_dapp, nm_list, nm_tuple, nm_int, nm_bool, nm_str, isi_tup, isi_lst])
section
variable {T : Tbl} {n : Nat}
def F_law_right86 : FDef := ⟨.fn, 1, 12, [.for_ (.nm 1) (.rng (.int 0) (.int 2)) [.asg 2 (.call "_law_of" [.loc 0, .lst [.tup [.int 5, .int 1], .tup [.int 4, .int 2], .tup [.int 6, .int 1], .tup [.int 5, .int 2], .tup [.int 3, .int 2], .tup [.int 7, .int 1], .tup [.int 2, .int 3]]]), .asg 3 (.call "_law_generic" [.loc 0, .ix (.loc 2) (.int 0), .ix (.loc 2) (.int 1), .bin .Add (.int 1) (.call "_law_take" [.loc 0, .int 6]), .int 2]), .asg 4 (.ix (.loc 3) (.int 0)), .asg 5 (.lst [.call "_law_fuller" [.loc 4, .ix (.call "_law_of" [.loc 0, .loc 4]) (.int 0)], .call "_law_topped" [.loc 4]]), .ex (.meth (.loc 5) "append" [.bin .Add (.loc 4) (.tup [.tup [.str "apart", .tup [], .bl false]])]), .asg 6 (.lc (.loc 7) (.mk (.nm 7) (.ex (.loc 4)) [.cmp .NotEq (.ix (.loc 7) (.int 1)) (.tup [])]) [7]), .iff (.cmp .NotEq (.loc 6) (.lst [])) [.asg 7 (.call "_law_of" [.loc 0, .loc 6]), .asg 8 (.call "_law_of" [.loc 0, .ix (.loc 7) (.int 1)]), .ex (.meth (.loc 5) "append" [.call "_law_between" [.loc 4, .ix (.loc 7) (.int 0), .loc 8]]), .for_ (.nm 9) (.ex (.call "_law_calls" [.tup [.ix (.loc 5) (.neg (.int 1)), .ix (.loc 3) (.int 1), .tup []]])) [.iff (.cmp .In (.str "mid") (.loc 9)) [.asg 10 (.bi "tuple" [.lc (.ite (.cmp .Eq (.loc 11) (.str "mid")) (.loc 8) (.loc 11)) (.mk (.nm 11) (.ex (.loc 9)) []) [11]]), .iff (.cmp .NotEq (.call "chosen" [.bin .Add (.tup [.ix (.loc 5) (.neg (.int 1))]) (.sl (.loc 3) (some (.int 1)) none), .loc 9]) (.call "chosen" [.loc 3, .loc 10])) [.ret (.bl false)] []] []]] [], .iff (.not (.bi "all" [.lc (.call "_law_alike_right" [.loc 3, .loc 11]) (.mk (.nm 11) (.ex (.loc 5)) []) [11]])) [.ret (.bl false)] []], .ret (.bl true)]⟩
structure PR86 (T : Tbl) : Prop extends PA T where
  take : T.lookup ("_law_take" : Str) = some F_law_take
  lof : T.lookup ("_law_of" : Str) = some F_law_of
  kinds : T.lookup ("_law_kinds" : Str) = some F_law_kinds
  methods : T.lookup ("_law_methods" : Str) = some F_law_methods
  generic : T.lookup ("_law_generic" : Str) = some F_law_generic
  up : T.lookup ("_law_up" : Str) = some F_law_up
  fuller : T.lookup ("_law_fuller" : Str) = some F_law_fuller
  topped : T.lookup ("_law_topped" : Str) = some F_law_topped
  between : T.lookup ("_law_between" : Str) = some F_law_between
  alike : T.lookup ("_law_alike_right" : Str) = some F_law_alike
  right : T.lookup ("_law_right" : Str) = some F_law_right86
abbrev ksD (ks : List Row) : D := .tup (ks.map kRow)
end
end Mp
/-! Mq, a law that asks all cells. -/
namespace Mp
open PySem L2
local macro_rules | `(tactic| walk_at "ev") => `(tactic| simp only [sb, nb, List.length_cons, List.length_nil, Nat.zero_add, Nat.reduceAdd, Nat.reduceSub, if_true, initSt, runL, evL, takes, take, dsOf, Tmp.d, List.map_cons, List.map_nil, List.cons_append, List.nil_append, List.replicate_succ, List.replicate_zero, st_get0, stepB, bindT, slotsT, bodyL, tests, St.wipe, St.back, List.foldr_cons, List.foldr_nil, List.foldl_cons, List.foldl_nil, List.zip_cons_cons, List.zip_nil_right, args, arg, called, asgs, setl, puts, St.frz, St.frzs, varsOf, optD, body2, bodyK, Option.isSome_some, Bool.true_eq_false, Bool.false_eq_true, if_false, Option.map_some, Bool.not_true, Bool.not_false, strsOf_map, strsOf_cons, sd_dK, sd_lst, andT, orT, andV, orV, gt1, gt2, gt3, gt4, gt5, gt6, gt7, gt8, gt9, gt10, gt11, gt12, pu0, pu1, pu2, pu3, pu4, pu5, pu6, pu7, pu8, pu9, pu10, pu11, pu12, se0, se1, se2, se3, se4, se5, se6, se7, se8, se9, se10, se11, se12, List.getD_cons_zero, List.getD_cons_succ, in_lst, in_tup, ite_self, Bool.and_self, Bool.true_and, Bool.and_true, Bool.false_and, Bool.and_false, decide_true, decide_false, ne_eq, not_true_eq_false, not_false_eq_true, eq_self, List.length_map, asg1, Nat.reduceEqDiff, srcX_fix, srcX_var, ev_loc, ev_lc, ev_lc2, ev_dc, ev_lofV, ev_int, ev_str, ev_bl, ev_non, ev_tup, ev_lst, ev_nbox, ev_dic, ev_bin, ev_neg, ev_cmp, ev_chn, ev_and, ev_or, ev_not, ev_ite, ev_ix, ev_sl, ev_rev, ev_fld, ev_bi, ev_isi, ev_sset, tst_and, tst_or, tst_not, tst_ite, itr_ex, itr_rng, itr_zip, itr_enum, itr_items, itr_vals, ex_asg, ex_asgT, ex_par, ex_asgI, ex_asgF, ex_aug, ex_ex, ex_ret, ex_iff, ex_for_, ex_whl, ex_pass, ex_stop, tst_loc, tst_glob, tst_int, tst_str, tst_bl, tst_non, tst_tup, tst_lst, tst_nbox, tst_dic, tst_bin, tst_neg, tst_cmp, tst_chn, tst_ix, tst_sl, tst_rev, tst_fld, tst_call, tst_callK, tst_bi, tst_isi, tst_sset, tst_lset, tst_lof, tst_meth, tst_lc, tst_lc2, tst_dc, tst_dc2, ec_tupled, ec_names_of, ec_above, ec_below_by, ec_products, ec_shapes, ec_greatest_by, ec_common, ec_fitting_by, ec_nearest_by, ec_torn_by, ec_shapes_of, ec_ups_of, ec_shape_of, ec_labels_of, ec_fitting, ec_nearest, ec_chosen, ec_torn, ec_greatest_torn, ec_meet, ec_cover, ec_is_under, ec_is_below, ec_shape_below, ec_law_box, ec_law_take, ec_law_cells, ec_law_of, ec_law_same, ec_law_shapes, ec_law_methods, ec_law_kinds, ec_law_up, ec_law_under, ec_law_calls, ec_law_right, ec_law_lists, ec_law_fits, ec_law_near, ec_law_chosen, ec_law_pairs, ec_law_generic, tr_bl, tr_int, tr_lst, tr_tup, tr_non, io_tup, io_lst, io_unlT, io_unlL, io_dK, bn_addI, bn_subI, bn_addT, bn_addL, bn_addS, or_lt, or_le, or_gt, or_ge, or_ltS, ix_lst, ix_tup, ix_dK, at_0, at_1, at_2, bi_allM, bi_anyM, bi_lenL, bi_lenT, bi_tupL, bi_tupT, bi_lstL, bi_lstT, bi_intI, bi_intB, cmp_in, cmp_notin, cmp_eq, cmp_ne, lf_bl, lf_int, lf_str, lf_non, lf_box, lf_lst, lf_dK, lf_tup, lf_lfS, lf_lfC, lf_lfN, sl_0, sl_1, sl_2, sl_3, sl_4, sl_5, sl_6, sl_7, sl_8, sl_9, sl_10, sl_11, sl_12, mt_pop, mt_app, mt_kpop, mt_kapp, mt_dapp, nm_list, nm_tuple, nm_int, nm_bool, nm_str, isi_tup, isi_lst])
section
variable {T : Tbl} {n : Nat}
def F_lawAll (M : Int) : FDef := ⟨.fn, 1, 3, [.asg 1 (.call "_law_cells" [.loc 0, .int M]), .ret (.bi "all" [.lc (.call "_law_right" [.call "_law_box" [.loc 1, .loc 2]]) (.mk (.nm 2) (.rng (.int 0) (.bi "len" [.loc 1])) []) [2]])]⟩
theorem bools_true3 : ∀ {l : List D}, (∀ a ∈ l, a = .bl true) → boolsOf l = some (List.replicate l.length true)
  | [], _ => rfl
  | a :: l, h => by
    have ha := h a List.mem_cons_self
    subst ha
    show (boolsOf l).bind (fun bs => some (true :: bs)) = _
    rw [bools_true3 fun b hb => h b (List.mem_cons_of_mem _ hb)]; rfl
theorem lv_lawAll (hR : ∀ {i : Nat} {b : List (List Int)}, BX b i 0 → ∃ b', callAt T (n + 20) 60 "_law_right" [.box i] b = some (.bl true, false, b')) (hC : T.lookup ("_law_cells" : Str) = some F_law_cells) (hB : T.lookup ("_law_box" : Str) = some F_law_box) {M : Nat} (hM0 : 0 < M) (hM : M ≤ 3) (hL : T.lookup ("law" : Str) = some (F_lawAll M)) {ns : List Int} (hn : ns.length ≤ 63) : ∃ fr b', callAt T (n + 20) 61 "law" [.scr ns] [] = some (.bl true, fr, b') := by
  obtain ⟨cs, z0, z1, c1⟩ := lv_cells (n := n) hC hn (M := M) (by omega) (by omega) 60 [] (by omega)
  have c1' : callAt T (n + 20) 60 "_law_cells" [.scr ns, .int M] [] = some (.lst (cs.map .int), true, []) := c1
  rw [callAt_fn hL rfl]
  have hr : ((cs.length : Int) - 0).toNat = cs.length := by omega
  have hr1 := rng_ok (lo := 0) (hi := (cs.length : Int)) (by omega) (by omega) (by omega) (by omega)
  unfold runF F_lawAll
  (repeat (first | walk_at "ev" | simp only [c1', hr, hr1]))
  generalize hg : gats _ _ _ = o
  rw [rngD_map0] at hg
  obtain ⟨l, s', rfl, hl, hQ, b', rfl⟩ := gats_ex hg (fun _ s => ∃ b', s = ⟨[some (D.scr ns, false), some (D.lst (cs.map D.int), true), none], b'⟩) (fun a => a = D.bl true) ⟨[], rfl⟩ (fun d j s hd hj hs => by
    obtain ⟨b1, rfl⟩ := hs
    obtain ⟨j', hj', rfl⟩ := List.mem_map.mp hd
    have hjl : j' < cs.length := by
      have := List.mem_range'_1.mp hj'
      omega
    obtain ⟨x, y, c2⟩ := lv_box (n := n) hB hjl (m := 60) (by omega) b1
    obtain ⟨b2, c3⟩ := hR (i := b1.length) (b := b1 ++ [[x, y, 0]]) ⟨x, y, 0, by simp, by omega, by omega⟩
    (repeat (first | walk_at "ev" | simp only [c2, c3]))
    exact ⟨_, _, rfl, by simp, by simp, b2, rfl⟩)
  rw [List.length_map, List.length_range'] at hl
  have hls : l.length ≤ sizeLine := by rw [sizeLine_eq]; omega
  have ha : biD "all" [.lst l] = some (.bl true, false) := by
    show (boolsOf l).bind (fun bs => some (D.bl (bs.all id), false)) = _
    rw [bools_true3 hQ]
    simp
  (repeat (first | walk_at "ev" | simp only [hls, ha]))
  exact ⟨_, _, rfl⟩
end
end Mp
/-! Mq: greatest calls, common parts, where two meet. -/
namespace Mp
open PySem L2
local macro_rules | `(tactic| walk_at "ev") => `(tactic| simp only [sb, nb, List.length_cons, List.length_nil, Nat.zero_add, Nat.reduceAdd, Nat.reduceSub, if_true, initSt, runL, evL, takes, take, dsOf, Tmp.d, List.map_cons, List.map_nil, List.cons_append, List.nil_append, List.replicate_succ, List.replicate_zero, st_get0, stepB, bindT, slotsT, bodyL, tests, St.wipe, St.back, List.foldr_cons, List.foldr_nil, List.foldl_cons, List.foldl_nil, List.zip_cons_cons, List.zip_nil_right, args, arg, called, asgs, setl, puts, St.frz, St.frzs, varsOf, optD, body2, bodyK, Option.isSome_some, Bool.true_eq_false, Bool.false_eq_true, if_false, Option.map_some, Bool.not_true, Bool.not_false, strsOf_map, strsOf_cons, sd_dK, sd_lst, andT, orT, andV, orV, gt1, gt2, gt3, gt4, gt5, gt6, gt7, gt8, gt9, gt10, gt11, gt12, pu0, pu1, pu2, pu3, pu4, pu5, pu6, pu7, pu8, pu9, pu10, pu11, pu12, se0, se1, se2, se3, se4, se5, se6, se7, se8, se9, se10, se11, se12, List.getD_cons_zero, List.getD_cons_succ, in_lst, in_tup, ite_self, Bool.and_self, Bool.true_and, Bool.and_true, Bool.false_and, Bool.and_false, decide_true, decide_false, ne_eq, not_true_eq_false, not_false_eq_true, eq_self, List.length_map, asg1, Nat.reduceEqDiff, srcX_fix, srcX_var, ev_loc, ev_lc, ev_lc2, ev_dc, ev_lofV, ev_int, ev_str, ev_bl, ev_non, ev_tup, ev_lst, ev_nbox, ev_dic, ev_bin, ev_neg, ev_cmp, ev_chn, ev_and, ev_or, ev_not, ev_ite, ev_ix, ev_sl, ev_rev, ev_fld, ev_bi, ev_isi, ev_sset, tst_and, tst_or, tst_not, tst_ite, itr_ex, itr_rng, itr_zip, itr_enum, itr_items, itr_vals, ex_asg, ex_asgT, ex_par, ex_asgI, ex_asgF, ex_aug, ex_ex, ex_ret, ex_iff, ex_for_, ex_whl, ex_pass, ex_stop, tst_loc, tst_glob, tst_int, tst_str, tst_bl, tst_non, tst_tup, tst_lst, tst_nbox, tst_dic, tst_bin, tst_neg, tst_cmp, tst_chn, tst_ix, tst_sl, tst_rev, tst_fld, tst_call, tst_callK, tst_bi, tst_isi, tst_sset, tst_lset, tst_lof, tst_meth, tst_lc, tst_lc2, tst_dc, tst_dc2, ec_tupled, ec_names_of, ec_above, ec_below_by, ec_products, ec_shapes, ec_greatest_by, ec_common, ec_fitting_by, ec_nearest_by, ec_torn_by, ec_shapes_of, ec_ups_of, ec_shape_of, ec_labels_of, ec_fitting, ec_nearest, ec_chosen, ec_torn, ec_greatest_torn, ec_meet, ec_cover, ec_is_under, ec_is_below, ec_shape_below, ec_law_box, ec_law_take, ec_law_cells, ec_law_of, ec_law_same, ec_law_shapes, ec_law_methods, ec_law_kinds, ec_law_up, ec_law_under, ec_law_calls, ec_law_right, ec_law_lists, ec_law_fits, ec_law_near, ec_law_chosen, ec_law_pairs, ec_law_generic, tr_bl, tr_int, tr_lst, tr_tup, tr_non, io_tup, io_lst, io_unlT, io_unlL, io_dK, bn_addI, bn_subI, bn_addT, bn_addL, bn_addS, or_lt, or_le, or_gt, or_ge, or_ltS, ix_lst, ix_tup, ix_dK, at_0, at_1, at_2, bi_allM, bi_anyM, bi_lenL, bi_lenT, bi_tupL, bi_tupT, bi_lstL, bi_lstT, bi_intI, bi_intB, cmp_in, cmp_notin, cmp_eq, cmp_ne, lf_bl, lf_int, lf_str, lf_non, lf_box, lf_lst, lf_dK, lf_tup, lf_lfS, lf_lfC, lf_lfN, sl_0, sl_1, sl_2, sl_3, sl_4, sl_5, sl_6, sl_7, sl_8, sl_9, sl_10, sl_11, sl_12, mt_pop, mt_app, mt_kpop, mt_kapp, mt_dapp, nm_list, nm_tuple, nm_int, nm_bool, nm_str, isi_tup, isi_lst])
section
variable {T : Tbl} {n : Nat} {u : Ups}
def F_greatest_by : FDef := ⟨.fn, 2, 4, [.ret (.lc (.loc 2) (.mk (.nm 2) (.ex (.loc 1)) [.not (.bi "any" [.lc (.and [.cmp .NotEq (.loc 3) (.loc 2), .call "below_by" [.loc 0, .loc 2, .loc 3]]) (.mk (.nm 3) (.ex (.loc 1)) []) [3]])]) [2])]⟩
def topB (u : Ups) (sm : List (List Str)) (s : List Str) : Bool := !(sm.any fun o => decide (o ≠ s) && belowBy u s o)
def greatestM (u : Ups) (sm : List (List Str)) : List (List Str) := sm.filter (topB u sm)
def F_greatest_torn : FDef := ⟨.fn, 1, 1, [.ret (.call "greatest_by" [.call "ups_of" [.loc 0], .call "torn" [.loc 0]])]⟩
/-! common parts -/
def bothM (u : Ups) (a c : Str) : List Str := srtS ((u.map (·.1)).filter fun x => decide (a ∈ upOf u x) && decide (c ∈ upOf u x))
def topsM (u : Ups) (l : List Str) : List Str := l.filter fun x => !(l.any fun y => decide (y ≠ x) && decide (y ∈ upOf u x))
def commonM (u : Ups) (one other : List Str) : List (List Str) := prodM ((one.zip other).map fun p => topsM u (bothM u p.1 p.2))
def F_common : FDef := ⟨.fn, 3, 10, [.par [3, 4] [.call "above" [.call "tupled" [.loc 0]], .lst []], .for_ (.tp [5, 6]) (.zip (.loc 1) (.loc 2)) [.asg 7 (.bi "sorted" [.lc (.loc 8) (.mk (.nm 8) (.ex (.loc 3)) [.and [.cmp .In (.loc 5) (.ix (.loc 3) (.loc 8)), .cmp .In (.loc 6) (.ix (.loc 3) (.loc 8))]]) [8]]), .ex (.meth (.loc 4) "append" [.lc (.ix (.loc 9) (.int 0)) (.mk (.nm 9) (.ex (.call "greatest_by" [.loc 3, .lc (.tup [.loc 8]) (.mk (.nm 8) (.ex (.loc 7)) []) [8]])) []) [9]])], .ret (.call "products" [.loc 4])]⟩
end
end Mp
/-! Mq: where two methods meet, what covers them. -/
namespace Mp
open PySem L2
local macro_rules | `(tactic| walk_at "ev") => `(tactic| simp only [sb, nb, List.length_cons, List.length_nil, Nat.zero_add, Nat.reduceAdd, Nat.reduceSub, if_true, initSt, runL, evL, takes, take, dsOf, Tmp.d, List.map_cons, List.map_nil, List.cons_append, List.nil_append, List.replicate_succ, List.replicate_zero, st_get0, stepB, bindT, slotsT, bodyL, tests, St.wipe, St.back, List.foldr_cons, List.foldr_nil, List.foldl_cons, List.foldl_nil, List.zip_cons_cons, List.zip_nil_right, args, arg, called, asgs, setl, puts, St.frz, St.frzs, varsOf, optD, body2, bodyK, Option.isSome_some, Bool.true_eq_false, Bool.false_eq_true, if_false, Option.map_some, Bool.not_true, Bool.not_false, strsOf_map, strsOf_cons, sd_dK, sd_lst, andT, orT, andV, orV, gt1, gt2, gt3, gt4, gt5, gt6, gt7, gt8, gt9, gt10, gt11, gt12, pu0, pu1, pu2, pu3, pu4, pu5, pu6, pu7, pu8, pu9, pu10, pu11, pu12, se0, se1, se2, se3, se4, se5, se6, se7, se8, se9, se10, se11, se12, List.getD_cons_zero, List.getD_cons_succ, in_lst, in_tup, ite_self, Bool.and_self, Bool.true_and, Bool.and_true, Bool.false_and, Bool.and_false, decide_true, decide_false, ne_eq, not_true_eq_false, not_false_eq_true, eq_self, List.length_map, asg1, Nat.reduceEqDiff, srcX_fix, srcX_var, ev_loc, ev_lc, ev_lc2, ev_dc, ev_lofV, ev_int, ev_str, ev_bl, ev_non, ev_tup, ev_lst, ev_nbox, ev_dic, ev_bin, ev_neg, ev_cmp, ev_chn, ev_and, ev_or, ev_not, ev_ite, ev_ix, ev_sl, ev_rev, ev_fld, ev_bi, ev_isi, ev_sset, tst_and, tst_or, tst_not, tst_ite, itr_ex, itr_rng, itr_zip, itr_enum, itr_items, itr_vals, ex_asg, ex_asgT, ex_par, ex_asgI, ex_asgF, ex_aug, ex_ex, ex_ret, ex_iff, ex_for_, ex_whl, ex_pass, ex_stop, tst_loc, tst_glob, tst_int, tst_str, tst_bl, tst_non, tst_tup, tst_lst, tst_nbox, tst_dic, tst_bin, tst_neg, tst_cmp, tst_chn, tst_ix, tst_sl, tst_rev, tst_fld, tst_call, tst_callK, tst_bi, tst_isi, tst_sset, tst_lset, tst_lof, tst_meth, tst_lc, tst_lc2, tst_dc, tst_dc2, ec_tupled, ec_names_of, ec_above, ec_below_by, ec_products, ec_shapes, ec_greatest_by, ec_common, ec_fitting_by, ec_nearest_by, ec_torn_by, ec_shapes_of, ec_ups_of, ec_shape_of, ec_labels_of, ec_fitting, ec_nearest, ec_chosen, ec_torn, ec_greatest_torn, ec_meet, ec_cover, ec_is_under, ec_is_below, ec_shape_below, ec_law_box, ec_law_take, ec_law_cells, ec_law_of, ec_law_same, ec_law_shapes, ec_law_methods, ec_law_kinds, ec_law_up, ec_law_under, ec_law_calls, ec_law_right, ec_law_lists, ec_law_fits, ec_law_near, ec_law_chosen, ec_law_pairs, ec_law_generic, tr_bl, tr_int, tr_lst, tr_tup, tr_non, io_tup, io_lst, io_unlT, io_unlL, io_dK, bn_addI, bn_subI, bn_addT, bn_addL, bn_addS, or_lt, or_le, or_gt, or_ge, or_ltS, ix_lst, ix_tup, ix_dK, at_0, at_1, at_2, bi_allM, bi_anyM, bi_lenL, bi_lenT, bi_tupL, bi_tupT, bi_lstL, bi_lstT, bi_intI, bi_intB, cmp_in, cmp_notin, cmp_eq, cmp_ne, lf_bl, lf_int, lf_str, lf_non, lf_box, lf_lst, lf_dK, lf_tup, lf_lfS, lf_lfC, lf_lfN, sl_0, sl_1, sl_2, sl_3, sl_4, sl_5, sl_6, sl_7, sl_8, sl_9, sl_10, sl_11, sl_12, mt_pop, mt_app, mt_kpop, mt_kapp, mt_dapp, nm_list, nm_tuple, nm_int, nm_bool, nm_str, isi_tup, isi_lst])
section
variable {T : Tbl} {n : Nat} {u : Ups}
def F_shape_of : FDef := ⟨.fn, 2, 3, [.asg 2 (.call "shapes_of" [.loc 0]), .iff (.cmp .NotIn (.loc 1) (.loc 2)) [.stop] [], .ret (.ix (.loc 2) (.loc 1))]⟩
def F_is_under : FDef := ⟨.fn, 3, 3, [.ret (.and [.cmp .NotEq (.loc 1) (.loc 2), .call "below_by" [.loc 0, .loc 1, .loc 2]])]⟩
/-! loops that may end within -/
/-- the first call that both see as nearest -/
def seen (g : Gen) (one its : List Str) (c : List Str) : Bool := decide (one ∈ nearestM g.u g.ss c) && decide (its ∈ nearestM g.u g.ss c)
def meetD (g : Gen) (one its : List Str) : D := match g.calls.find? (seen g one its) with
  | some c => shD c
  | none => .non
def F_meet : FDef := ⟨.fn, 3, 9, [.par [3, 4] [.call "shape_of" [.loc 0, .loc 1], .call "shape_of" [.loc 0, .loc 2]], .par [5, 6] [.call "ups_of" [.loc 0], .lof (.vals (.call "shapes_of" [.loc 0]))], .for_ (.nm 7) (.ex (.call "shapes" [.loc 0])) [.asg 8 (.call "nearest_by" [.loc 5, .loc 6, .loc 7]), .iff (.and [.cmp .In (.loc 3) (.loc 8), .cmp .In (.loc 4) (.loc 8)]) [.ret (.loc 7)] []], .ret (.non)]⟩
end
end Mp
/-! Mq: what covers two methods. -/
namespace Mp
open PySem L2
local macro_rules | `(tactic| walk_at "ev") => `(tactic| simp only [sb, nb, List.length_cons, List.length_nil, Nat.zero_add, Nat.reduceAdd, Nat.reduceSub, if_true, initSt, runL, evL, takes, take, dsOf, Tmp.d, List.map_cons, List.map_nil, List.cons_append, List.nil_append, List.replicate_succ, List.replicate_zero, st_get0, stepB, bindT, slotsT, bodyL, tests, St.wipe, St.back, List.foldr_cons, List.foldr_nil, List.foldl_cons, List.foldl_nil, List.zip_cons_cons, List.zip_nil_right, args, arg, called, asgs, setl, puts, St.frz, St.frzs, varsOf, optD, body2, bodyK, Option.isSome_some, Bool.true_eq_false, Bool.false_eq_true, if_false, Option.map_some, Bool.not_true, Bool.not_false, strsOf_map, strsOf_cons, sd_dK, sd_lst, andT, orT, andV, orV, gt1, gt2, gt3, gt4, gt5, gt6, gt7, gt8, gt9, gt10, gt11, gt12, pu0, pu1, pu2, pu3, pu4, pu5, pu6, pu7, pu8, pu9, pu10, pu11, pu12, se0, se1, se2, se3, se4, se5, se6, se7, se8, se9, se10, se11, se12, List.getD_cons_zero, List.getD_cons_succ, in_lst, in_tup, ite_self, Bool.and_self, Bool.true_and, Bool.and_true, Bool.false_and, Bool.and_false, decide_true, decide_false, ne_eq, not_true_eq_false, not_false_eq_true, eq_self, List.length_map, asg1, Nat.reduceEqDiff, srcX_fix, srcX_var, ev_loc, ev_lc, ev_lc2, ev_dc, ev_lofV, ev_int, ev_str, ev_bl, ev_non, ev_tup, ev_lst, ev_nbox, ev_dic, ev_bin, ev_neg, ev_cmp, ev_chn, ev_and, ev_or, ev_not, ev_ite, ev_ix, ev_sl, ev_rev, ev_fld, ev_bi, ev_isi, ev_sset, tst_and, tst_or, tst_not, tst_ite, itr_ex, itr_rng, itr_zip, itr_enum, itr_items, itr_vals, ex_asg, ex_asgT, ex_par, ex_asgI, ex_asgF, ex_aug, ex_ex, ex_ret, ex_iff, ex_for_, ex_whl, ex_pass, ex_stop, tst_loc, tst_glob, tst_int, tst_str, tst_bl, tst_non, tst_tup, tst_lst, tst_nbox, tst_dic, tst_bin, tst_neg, tst_cmp, tst_chn, tst_ix, tst_sl, tst_rev, tst_fld, tst_call, tst_callK, tst_bi, tst_isi, tst_sset, tst_lset, tst_lof, tst_meth, tst_lc, tst_lc2, tst_dc, tst_dc2, ec_tupled, ec_names_of, ec_above, ec_below_by, ec_products, ec_shapes, ec_greatest_by, ec_common, ec_fitting_by, ec_nearest_by, ec_torn_by, ec_shapes_of, ec_ups_of, ec_shape_of, ec_labels_of, ec_fitting, ec_nearest, ec_chosen, ec_torn, ec_greatest_torn, ec_meet, ec_cover, ec_is_under, ec_is_below, ec_shape_below, ec_law_box, ec_law_take, ec_law_cells, ec_law_of, ec_law_same, ec_law_shapes, ec_law_methods, ec_law_kinds, ec_law_up, ec_law_under, ec_law_calls, ec_law_right, ec_law_lists, ec_law_fits, ec_law_near, ec_law_chosen, ec_law_pairs, ec_law_generic, tr_bl, tr_int, tr_lst, tr_tup, tr_non, io_tup, io_lst, io_unlT, io_unlL, io_dK, bn_addI, bn_subI, bn_addT, bn_addL, bn_addS, or_lt, or_le, or_gt, or_ge, or_ltS, ix_lst, ix_tup, ix_dK, at_0, at_1, at_2, bi_allM, bi_anyM, bi_lenL, bi_lenT, bi_tupL, bi_tupT, bi_lstL, bi_lstT, bi_intI, bi_intB, cmp_in, cmp_notin, cmp_eq, cmp_ne, lf_bl, lf_int, lf_str, lf_non, lf_box, lf_lst, lf_dK, lf_tup, lf_lfS, lf_lfC, lf_lfN, sl_0, sl_1, sl_2, sl_3, sl_4, sl_5, sl_6, sl_7, sl_8, sl_9, sl_10, sl_11, sl_12, mt_pop, mt_app, mt_kpop, mt_kapp, mt_dapp, nm_list, nm_tuple, nm_int, nm_bool, nm_str, isi_tup, isi_lst])
section
variable {T : Tbl} {n : Nat} {u : Ups}
def undM (u : Ups) (s t : List Str) : Bool := decide (s ≠ t) && belowBy u s t
def selM (g : Gen) (one its part : List Str) : List (List Str) := (fittingM g.u g.ss part).filter fun s => undM g.u s one || undM g.u s its
def F_cover : FDef := ⟨.fn, 3, 11, [.iff (.cmp .IsNot (.call "meet" [.loc 0, .loc 1, .loc 2]) (.non)) [.ret (.non)] [], .par [3, 4, 5] [.call "shape_of" [.loc 0, .loc 1], .call "shape_of" [.loc 0, .loc 2], .call "ups_of" [.loc 0]], .asg 6 (.lst []), .for_ (.nm 7) (.ex (.call "common" [.ix (.call "tupled" [.loc 0]) (.int 0), .loc 3, .loc 4])) [.asg 8 (.call "fitting_by" [.loc 5, .lof (.vals (.call "shapes_of" [.loc 0])), .loc 7]), .asg 9 (.lc (.loc 10) (.mk (.nm 10) (.ex (.loc 8)) [.or [.call "is_under" [.loc 5, .loc 10, .loc 3], .call "is_under" [.loc 5, .loc 10, .loc 4]]]) [10]), .ex (.meth (.loc 6) "append" [.ix (.call "labels_of" [.loc 0, .loc 9]) (.int 0)])], .ret (.loc 6)]⟩
end
end Mp
/-! Mq, one place counted (k19): the plain law. -/
namespace Mp
open PySem L2
/-! names -/
def lts : List Str := ["u", "v", "w", "x", "y", "z"]
def lt (k : Nat) : Str := lts.getD k "u"
def zN (k : Nat) : Str := ("z" : Str) ++ lt k
def wN (k : Nat) : Str := ("w" : Str) ++ lt k
def mN (t : Str) : Str := ("m" : Str) ++ t
def four : List Str := ["a", "b", "c", "d"]
def tops (n : Nat) : List Str := four.take n
def prs (n : Nat) : List (List Str) := match n with
  | 2 => [["a", "b"]]
  | 3 => [["a", "b"], ["a", "c"], ["b", "c"]]
  | _ => [["a", "b"], ["a", "c"], ["a", "d"], ["b", "c"], ["b", "d"], ["c", "d"]]
def prL (n k : Nat) : List Str := (prs n).getD k []
def pA (n k : Nat) : Str := (prL n k).getD 0 "a"
def pB (n k : Nat) : Str := (prL n k).getD 1 "a"
/-! what is drawn: which pairs have a kind below, and which of these a method -/
abbrev Bk := List (Nat × Bool)
structure BOk (n j : Nat) (bk : Bk) : Prop where
  n2 : 2 ≤ n
  n4 : n ≤ 4
  jle : j ≤ (prs n).length
  asc : bk.Pairwise fun a b => a.1 < b.1
  lt : ∀ e ∈ bk, e.1 < j
  rows : n + bk.length ≤ 8
  meths : n + (bk.filter (·.2)).length ≤ 7
def zRow (n : Nat) (e : Nat × Bool) : Row := (zN e.1, prL n e.1, false)
def tRow (t : Str) : Row := (t, [], false)
def rowsK (n : Nat) (bk : Bk) : List Row := (tops n).map tRow ++ bk.map (zRow n)
def mRow (t : Str) : Meth := (mN t, [t])
def wRow (e : Nat × Bool) : Meth := (wN e.1, [zN e.1])
def methsK (n : Nat) (bk : Bk) : List Meth := (tops n).map mRow ++ (bk.filter (·.2)).map wRow
def closedK (n : Nat) (bk : Bk) : List (List Str) := (bk.filter (·.2)).map fun e => prL n e.1
def gK (n : Nat) (bk : Bk) : Gen := ⟨rowsK n bk, 1, srtM (methsK n bk)⟩
section
variable {n j : Nat} {bk : Bk}
theorem BOk.pre {bk' : Bk} (h : BOk n j (bk ++ bk')) : BOk n j bk := by
  refine ⟨h.n2, h.n4, h.jle, (List.pairwise_append.mp h.asc).1, fun e he => h.lt e (List.mem_append_left _ he), ?_, ?_⟩
  · have := h.rows
    rw [List.length_append] at this; omega
  · have := h.meths
    rw [List.filter_append, List.length_append] at this; omega
/-! what is above what -/
theorem up_mem_row {ks : List Row} (h : KOk ks) {r : Row} (hr : r ∈ ks) (z : Str) : z ∈ upOf (aboveM ks) r.1 ↔ z = r.1 ∨ ∃ s ∈ r.2.1, z ∈ upOf (aboveM ks) s := by
  obtain ⟨d, e, rfl⟩ := List.append_of_mem hr
  exact up_row h z
end
end Mp
/-! Mq, one place counted (k19): what is torn, where two meet, what covers them. -/
namespace Mp
open PySem L2
section
variable {n j : Nat} {bk : Bk}
def opens (bk : Bk) : List Str := (bk.filter fun e => !e.2).map fun e => zN e.1
/-! a pair -/
end
end Mp
/-! Mq: more slots; sorted single tuples. -/
namespace Mp
open PySem L2
theorem gt13 (a l b) : St.get ⟨a :: l, b⟩ 13 = St.get ⟨l, b⟩ 12 := rfl
theorem pu13 (a0 a1 a2 a3 a4 a5 a6 a7 a8 a9 a10 a11 a12 a13 l b d o) : St.put ⟨a0 :: a1 :: a2 :: a3 :: a4 :: a5 :: a6 :: a7 :: a8 :: a9 :: a10 :: a11 :: a12 :: a13 :: l, b⟩ 13 d o = ⟨a0 :: a1 :: a2 :: a3 :: a4 :: a5 :: a6 :: a7 :: a8 :: a9 :: a10 :: a11 :: a12 :: some (d, o) :: l, b⟩ := rfl
theorem se13 {α : Type} (a0 a1 a2 a3 a4 a5 a6 a7 a8 a9 a10 a11 a12 a13 x : α) (l : List α) : (a0 :: a1 :: a2 :: a3 :: a4 :: a5 :: a6 :: a7 :: a8 :: a9 :: a10 :: a11 :: a12 :: a13 :: l).set 13 x = a0 :: a1 :: a2 :: a3 :: a4 :: a5 :: a6 :: a7 :: a8 :: a9 :: a10 :: a11 :: a12 :: x :: l := rfl
theorem gt14 (a l b) : St.get ⟨a :: l, b⟩ 14 = St.get ⟨l, b⟩ 13 := rfl
theorem pu14 (a0 a1 a2 a3 a4 a5 a6 a7 a8 a9 a10 a11 a12 a13 a14 l b d o) : St.put ⟨a0 :: a1 :: a2 :: a3 :: a4 :: a5 :: a6 :: a7 :: a8 :: a9 :: a10 :: a11 :: a12 :: a13 :: a14 :: l, b⟩ 14 d o = ⟨a0 :: a1 :: a2 :: a3 :: a4 :: a5 :: a6 :: a7 :: a8 :: a9 :: a10 :: a11 :: a12 :: a13 :: some (d, o) :: l, b⟩ := rfl
theorem se14 {α : Type} (a0 a1 a2 a3 a4 a5 a6 a7 a8 a9 a10 a11 a12 a13 a14 x : α) (l : List α) : (a0 :: a1 :: a2 :: a3 :: a4 :: a5 :: a6 :: a7 :: a8 :: a9 :: a10 :: a11 :: a12 :: a13 :: a14 :: l).set 14 x = a0 :: a1 :: a2 :: a3 :: a4 :: a5 :: a6 :: a7 :: a8 :: a9 :: a10 :: a11 :: a12 :: a13 :: x :: l := rfl
theorem gt15 (a l b) : St.get ⟨a :: l, b⟩ 15 = St.get ⟨l, b⟩ 14 := rfl
theorem pu15 (a0 a1 a2 a3 a4 a5 a6 a7 a8 a9 a10 a11 a12 a13 a14 a15 l b d o) : St.put ⟨a0 :: a1 :: a2 :: a3 :: a4 :: a5 :: a6 :: a7 :: a8 :: a9 :: a10 :: a11 :: a12 :: a13 :: a14 :: a15 :: l, b⟩ 15 d o = ⟨a0 :: a1 :: a2 :: a3 :: a4 :: a5 :: a6 :: a7 :: a8 :: a9 :: a10 :: a11 :: a12 :: a13 :: a14 :: some (d, o) :: l, b⟩ := rfl
theorem se15 {α : Type} (a0 a1 a2 a3 a4 a5 a6 a7 a8 a9 a10 a11 a12 a13 a14 a15 x : α) (l : List α) : (a0 :: a1 :: a2 :: a3 :: a4 :: a5 :: a6 :: a7 :: a8 :: a9 :: a10 :: a11 :: a12 :: a13 :: a14 :: a15 :: l).set 15 x = a0 :: a1 :: a2 :: a3 :: a4 :: a5 :: a6 :: a7 :: a8 :: a9 :: a10 :: a11 :: a12 :: a13 :: a14 :: x :: l := rfl
theorem gt16 (a l b) : St.get ⟨a :: l, b⟩ 16 = St.get ⟨l, b⟩ 15 := rfl
theorem pu16 (a0 a1 a2 a3 a4 a5 a6 a7 a8 a9 a10 a11 a12 a13 a14 a15 a16 l b d o) : St.put ⟨a0 :: a1 :: a2 :: a3 :: a4 :: a5 :: a6 :: a7 :: a8 :: a9 :: a10 :: a11 :: a12 :: a13 :: a14 :: a15 :: a16 :: l, b⟩ 16 d o = ⟨a0 :: a1 :: a2 :: a3 :: a4 :: a5 :: a6 :: a7 :: a8 :: a9 :: a10 :: a11 :: a12 :: a13 :: a14 :: a15 :: some (d, o) :: l, b⟩ := rfl
theorem se16 {α : Type} (a0 a1 a2 a3 a4 a5 a6 a7 a8 a9 a10 a11 a12 a13 a14 a15 a16 x : α) (l : List α) : (a0 :: a1 :: a2 :: a3 :: a4 :: a5 :: a6 :: a7 :: a8 :: a9 :: a10 :: a11 :: a12 :: a13 :: a14 :: a15 :: a16 :: l).set 16 x = a0 :: a1 :: a2 :: a3 :: a4 :: a5 :: a6 :: a7 :: a8 :: a9 :: a10 :: a11 :: a12 :: a13 :: a14 :: a15 :: x :: l := rfl
end Mp
/-! Mq, k19: the law's first half. -/
namespace Mp
open PySem L2
local macro_rules | `(tactic| walk_at "ev") => `(tactic| simp only [sb, nb, List.length_cons, List.length_nil, Nat.zero_add, Nat.reduceAdd, Nat.reduceSub, if_true, initSt, runL, evL, takes, take, dsOf, Tmp.d, List.map_cons, List.map_nil, List.cons_append, List.nil_append, List.replicate_succ, List.replicate_zero, st_get0, stepB, bindT, slotsT, bodyL, tests, St.wipe, St.back, List.foldr_cons, List.foldr_nil, List.foldl_cons, List.foldl_nil, List.zip_cons_cons, List.zip_nil_right, args, arg, called, asgs, setl, puts, St.frz, St.frzs, varsOf, optD, body2, bodyK, Option.isSome_some, Bool.true_eq_false, Bool.false_eq_true, if_false, Option.map_some, Bool.not_true, Bool.not_false, strsOf_map, strsOf_cons, sd_dK, sd_lst, andT, orT, andV, orV, gt1, gt2, gt3, gt4, gt5, gt6, gt7, gt8, gt9, gt10, gt11, gt12, pu0, pu1, pu2, pu3, pu4, pu5, pu6, pu7, pu8, pu9, pu10, pu11, pu12, se0, se1, se2, se3, se4, se5, se6, se7, se8, se9, se10, se11, se12, List.getD_cons_zero, List.getD_cons_succ, in_lst, in_tup, ite_self, Bool.and_self, Bool.true_and, Bool.and_true, Bool.false_and, Bool.and_false, decide_true, decide_false, ne_eq, not_true_eq_false, not_false_eq_true, eq_self, List.length_map, asg1, Nat.reduceEqDiff, srcX_fix, srcX_var, ev_loc, ev_lc, ev_lc2, ev_dc, ev_lofV, ev_int, ev_str, ev_bl, ev_non, ev_tup, ev_lst, ev_nbox, ev_dic, ev_bin, ev_neg, ev_cmp, ev_chn, ev_and, ev_or, ev_not, ev_ite, ev_ix, ev_sl, ev_rev, ev_fld, ev_bi, ev_isi, ev_sset, tst_and, tst_or, tst_not, tst_ite, itr_ex, itr_rng, itr_zip, itr_enum, itr_items, itr_vals, ex_asg, ex_asgT, ex_par, ex_asgI, ex_asgF, ex_aug, ex_ex, ex_ret, ex_iff, ex_for_, ex_whl, ex_pass, ex_stop, tst_loc, tst_glob, tst_int, tst_str, tst_bl, tst_non, tst_tup, tst_lst, tst_nbox, tst_dic, tst_bin, tst_neg, tst_cmp, tst_chn, tst_ix, tst_sl, tst_rev, tst_fld, tst_call, tst_callK, tst_bi, tst_isi, tst_sset, tst_lset, tst_lof, tst_meth, tst_lc, tst_lc2, tst_dc, tst_dc2, ec_tupled, ec_names_of, ec_above, ec_below_by, ec_products, ec_shapes, ec_greatest_by, ec_common, ec_fitting_by, ec_nearest_by, ec_torn_by, ec_shapes_of, ec_ups_of, ec_shape_of, ec_labels_of, ec_fitting, ec_nearest, ec_chosen, ec_torn, ec_greatest_torn, ec_meet, ec_cover, ec_is_under, ec_is_below, ec_shape_below, ec_law_box, ec_law_take, ec_law_cells, ec_law_of, ec_law_same, ec_law_shapes, ec_law_methods, ec_law_kinds, ec_law_up, ec_law_under, ec_law_calls, ec_law_right, ec_law_lists, ec_law_fits, ec_law_near, ec_law_chosen, ec_law_pairs, ec_law_generic, tr_bl, tr_int, tr_lst, tr_tup, tr_non, io_tup, io_lst, io_unlT, io_unlL, io_dK, bn_addI, bn_subI, bn_addT, bn_addL, bn_addS, or_lt, or_le, or_gt, or_ge, or_ltS, ix_lst, ix_tup, ix_dK, at_0, at_1, at_2, bi_allM, bi_anyM, bi_lenL, bi_lenT, bi_tupL, bi_tupT, bi_lstL, bi_lstT, bi_intI, bi_intB, cmp_in, cmp_notin, cmp_eq, cmp_ne, lf_bl, lf_int, lf_str, lf_non, lf_box, lf_lst, lf_dK, lf_tup, lf_lfS, lf_lfC, lf_lfN, sl_0, sl_1, sl_2, sl_3, sl_4, sl_5, sl_6, sl_7, sl_8, sl_9, sl_10, sl_11, sl_12, mt_pop, mt_app, mt_kpop, mt_kapp, mt_dapp, nm_list, nm_tuple, nm_int, nm_bool, nm_str, isi_tup, isi_lst, gt13, gt14, gt15, gt16, pu13, pu14, pu15, pu16, se13, se14, se15, se16])
section
variable {T : Tbl} {n : Nat}
def F_law_pairs : FDef := ⟨.fn, 1, 4, [.asg 1 (.lst []), .for_ (.nm 2) (.rng (.int 0) (.bi "len" [.loc 0])) [.asg 1 (.bin .Add (.loc 1) (.lc (.tup [.ix (.loc 0) (.loc 2), .loc 3]) (.mk (.nm 3) (.ex (.sl (.loc 0) (some (.bin .Add (.loc 2) (.int 1))) none)) []) [3]))], .ret (.loc 1)]⟩
/-! the book: pairs and the kinds below -/
def bookL (m : Nat) (bk : Bk) : List (List Key × D) := bk.map fun e => ((prL m e.1).map Sum.inr, .str (zN e.1))
def bookK (m : Nat) : Bk → D
  | [] => .dK []
  | e :: bk => .dT (bookL m (e :: bk))
/-! steps -/
end
end Mp
/-! Mq, k19: the law, walked. -/
namespace Mp
open PySem L2
local macro_rules | `(tactic| walk_at "ev") => `(tactic| simp only [sb, nb, List.length_cons, List.length_nil, Nat.zero_add, Nat.reduceAdd, Nat.reduceSub, if_true, initSt, runL, evL, takes, take, dsOf, Tmp.d, List.map_cons, List.map_nil, List.cons_append, List.nil_append, List.replicate_succ, List.replicate_zero, st_get0, stepB, bindT, slotsT, bodyL, tests, St.wipe, St.back, List.foldr_cons, List.foldr_nil, List.foldl_cons, List.foldl_nil, List.zip_cons_cons, List.zip_nil_right, args, arg, called, asgs, setl, puts, St.frz, St.frzs, varsOf, optD, body2, bodyK, Option.isSome_some, Bool.true_eq_false, Bool.false_eq_true, if_false, Option.map_some, Bool.not_true, Bool.not_false, strsOf_map, strsOf_cons, sd_dK, sd_lst, andT, orT, andV, orV, gt1, gt2, gt3, gt4, gt5, gt6, gt7, gt8, gt9, gt10, gt11, gt12, pu0, pu1, pu2, pu3, pu4, pu5, pu6, pu7, pu8, pu9, pu10, pu11, pu12, se0, se1, se2, se3, se4, se5, se6, se7, se8, se9, se10, se11, se12, List.getD_cons_zero, List.getD_cons_succ, in_lst, in_tup, ite_self, Bool.and_self, Bool.true_and, Bool.and_true, Bool.false_and, Bool.and_false, decide_true, decide_false, ne_eq, not_true_eq_false, not_false_eq_true, eq_self, List.length_map, asg1, Nat.reduceEqDiff, srcX_fix, srcX_var, ev_loc, ev_lc, ev_lc2, ev_dc, ev_lofV, ev_int, ev_str, ev_bl, ev_non, ev_tup, ev_lst, ev_nbox, ev_dic, ev_bin, ev_neg, ev_cmp, ev_chn, ev_and, ev_or, ev_not, ev_ite, ev_ix, ev_sl, ev_rev, ev_fld, ev_bi, ev_isi, ev_sset, tst_and, tst_or, tst_not, tst_ite, itr_ex, itr_rng, itr_zip, itr_enum, itr_items, itr_vals, ex_asg, ex_asgT, ex_par, ex_asgI, ex_asgF, ex_aug, ex_ex, ex_ret, ex_iff, ex_for_, ex_whl, ex_pass, ex_stop, tst_loc, tst_glob, tst_int, tst_str, tst_bl, tst_non, tst_tup, tst_lst, tst_nbox, tst_dic, tst_bin, tst_neg, tst_cmp, tst_chn, tst_ix, tst_sl, tst_rev, tst_fld, tst_call, tst_callK, tst_bi, tst_isi, tst_sset, tst_lset, tst_lof, tst_meth, tst_lc, tst_lc2, tst_dc, tst_dc2, ec_tupled, ec_names_of, ec_above, ec_below_by, ec_products, ec_shapes, ec_greatest_by, ec_common, ec_fitting_by, ec_nearest_by, ec_torn_by, ec_shapes_of, ec_ups_of, ec_shape_of, ec_labels_of, ec_fitting, ec_nearest, ec_chosen, ec_torn, ec_greatest_torn, ec_meet, ec_cover, ec_is_under, ec_is_below, ec_shape_below, ec_law_box, ec_law_take, ec_law_cells, ec_law_of, ec_law_same, ec_law_shapes, ec_law_methods, ec_law_kinds, ec_law_up, ec_law_under, ec_law_calls, ec_law_right, ec_law_lists, ec_law_fits, ec_law_near, ec_law_chosen, ec_law_pairs, ec_law_generic, tr_bl, tr_int, tr_lst, tr_tup, tr_non, io_tup, io_lst, io_unlT, io_unlL, io_dK, bn_addI, bn_subI, bn_addT, bn_addL, bn_addS, or_lt, or_le, or_gt, or_ge, or_ltS, ix_lst, ix_tup, ix_dK, at_0, at_1, at_2, bi_allM, bi_anyM, bi_lenL, bi_lenT, bi_tupL, bi_tupT, bi_lstL, bi_lstT, bi_intI, bi_intB, cmp_in, cmp_notin, cmp_eq, cmp_ne, lf_bl, lf_int, lf_str, lf_non, lf_box, lf_lst, lf_dK, lf_tup, lf_lfS, lf_lfC, lf_lfN, sl_0, sl_1, sl_2, sl_3, sl_4, sl_5, sl_6, sl_7, sl_8, sl_9, sl_10, sl_11, sl_12, mt_pop, mt_app, mt_kpop, mt_kapp, mt_dapp, nm_list, nm_tuple, nm_int, nm_bool, nm_str, isi_tup, isi_lst, gt13, gt14, gt15, gt16, pu13, pu14, pu15, pu16, se13, se14, se15, se16])
section
variable {T : Tbl} {n : Nat}
def F_law_right19 : FDef := ⟨.fn, 1, 17, [.asg 1 (.sl (.lst [.str "a", .str "b", .str "c", .str "d"]) none (some (.bin .Add (.int 2) (.call "_law_take" [.loc 0, .int 3])))), .par [2, 3, 4] [.lc (.tup [.loc 16, .tup [], .bl false]) (.mk (.nm 16) (.ex (.loc 1)) []) [16], .dic [], .lst []], .asg 5 (.lc (.tup [.bin .Add (.str "m") (.loc 16), .tup [.loc 16]]) (.mk (.nm 16) (.ex (.loc 1)) []) [16]), .for_ (.tp [6, 7]) (.enum (.call "_law_pairs" [.loc 1]) 0) [.iff (.and [.cmp .Lt (.bi "len" [.loc 2]) (.int 8), .cmp .Gt (.call "_law_take" [.loc 0, .int 4]) (.int 0)]) [.asg 8 (.bin .Add (.str "z") (.ix (.str "uvwxyz") (.loc 6))), .ex (.meth (.loc 2) "append" [.tup [.loc 8, .loc 7, .bl false]]), .asgI (.loc 3) (.loc 7) (.loc 8), .iff (.and [.cmp .Eq (.call "_law_take" [.loc 0, .int 3]) (.int 0), .cmp .Lt (.bi "len" [.loc 5]) (.int 7)]) [.ex (.meth (.loc 5) "append" [.tup [.bin .Add (.str "w") (.ix (.str "uvwxyz") (.loc 6)), .tup [.loc 8]]]), .ex (.meth (.loc 4) "append" [.loc 7])] []] []], .asg 9 (.tup [.bi "tuple" [.loc 2], .int 1, .bi "tuple" [.bi "sorted" [.loc 5]]]), .asg 10 (.bi "sorted" [.lc (.tup [.ix (.loc 3) (.loc 7)]) (.mk (.nm 7) (.ex (.loc 3)) [.cmp .NotIn (.loc 7) (.loc 4)]) [7]]), .iff (.not (.call "_law_same" [.lst [.call "torn" [.loc 9], .call "greatest_torn" [.loc 9]], .lst [.loc 10, .loc 10]])) [.ret (.bl false)] [], .for_ (.nm 7) (.ex (.call "_law_pairs" [.loc 1])) [.par [11, 12] [.bin .Add (.str "m") (.ix (.loc 7) (.int 0)), .bin .Add (.str "m") (.ix (.loc 7) (.int 1))], .asg 13 (.ite (.and [.cmp .In (.loc 7) (.loc 3), .cmp .NotIn (.loc 7) (.loc 4)]) (.tup [.ix (.loc 3) (.loc 7)]) (.non)), .asg 14 (.ite (.cmp .In (.loc 7) (.loc 4)) (.lst [.bin .Add (.str "w") (.ix (.ix (.loc 3) (.loc 7)) (.int 1))]) (.lst [])), .asg 15 (.lst [.call "meet" [.loc 9, .loc 11, .loc 12], .call "cover" [.loc 9, .loc 12, .loc 11]]), .iff (.not (.call "_law_same" [.loc 15, .lst [.loc 13, .ite (.cmp .Is (.loc 13) (.non)) (.loc 14) (.non)]])) [.ret (.bl false)] [], .iff (.and [.cmp .IsNot (.loc 13) (.non), .not (.call "_law_same" [.call "nearest" [.loc 9, .loc 13], .lst [.loc 11, .loc 12]])]) [.ret (.bl false)] []], .ret (.bl true)]⟩
structure PR19 (T : Tbl) : Prop extends PG0 T where
  greatest_by : T.lookup ("greatest_by" : Str) = some F_greatest_by
  greatest_torn : T.lookup ("greatest_torn" : Str) = some F_greatest_torn
  common : T.lookup ("common" : Str) = some F_common
  shape_of : T.lookup ("shape_of" : Str) = some F_shape_of
  is_under : T.lookup ("is_under" : Str) = some F_is_under
  meet : T.lookup ("meet" : Str) = some F_meet
  cover : T.lookup ("cover" : Str) = some F_cover
  lsame : T.lookup ("_law_same" : Str) = some F_law_same
  take : T.lookup ("_law_take" : Str) = some F_law_take
  pairs : T.lookup ("_law_pairs" : Str) = some F_law_pairs
  right : T.lookup ("_law_right" : Str) = some F_law_right19
def body19 : List S := [.par [11, 12] [.bin .Add (.str "m") (.ix (.loc 7) (.int 0)), .bin .Add (.str "m") (.ix (.loc 7) (.int 1))], .asg 13 (.ite (.and [.cmp .In (.loc 7) (.loc 3), .cmp .NotIn (.loc 7) (.loc 4)]) (.tup [.ix (.loc 3) (.loc 7)]) (.non)), .asg 14 (.ite (.cmp .In (.loc 7) (.loc 4)) (.lst [.bin .Add (.str "w") (.ix (.ix (.loc 3) (.loc 7)) (.int 1))]) (.lst [])), .asg 15 (.lst [.call "meet" [.loc 9, .loc 11, .loc 12], .call "cover" [.loc 9, .loc 12, .loc 11]]), .iff (.not (.call "_law_same" [.loc 15, .lst [.loc 13, .ite (.cmp .Is (.loc 13) (.non)) (.loc 14) (.non)]])) [.ret (.bl false)] [], .iff (.and [.cmp .IsNot (.loc 13) (.non), .not (.call "_law_same" [.call "nearest" [.loc 9, .loc 13], .lst [.loc 11, .loc 12]])]) [.ret (.bl false)] []]
end
end Mp
/-! Mq, k19: the law. -/
namespace Mp
open PySem L2
end Mp
/-! Mq, k12: plain laws. What a search upward finds; the greatest common parts among all shapes. -/
namespace Mp
open PySem L2
/-! ### the search -/
theorem closed_up {ks : List Row} (h : KOk ks) {N : List Str} (hN : ∀ x ∈ N, ∀ r ∈ ks, r.1 = x → ∀ s ∈ r.2.1, s ∈ N) : ∀ x ∈ N, x ∈ names ks → ∀ z ∈ upOf (aboveM ks) x, z ∈ N := by
  have key : ∀ done rest : List Row, ks = done ++ rest → ∀ x ∈ names done, x ∈ N → ∀ z ∈ upOf (aboveM ks) x, z ∈ N := by
    intro done
    induction done using snoc_ind with
    | h0 => intro rest e x hx; cases hx
    | h1 l r ih =>
      intro rest e x hx hxN z hz
      have e2 : ks = l ++ r :: rest := by rw [e, List.append_assoc]; rfl
      have hx' : x ∈ names l ∨ x = r.1 := by
        unfold names at hx ⊢
        rw [List.map_append, List.mem_append] at hx
        rcases hx with hx | hx
        · exact .inl hx
        · exact .inr (List.mem_singleton.mp hx)
      rcases hx' with hx | rfl
      · exact ih (r :: rest) e2 x hx hxN z hz
      · have hr : r ∈ ks := by rw [e2]; simp
        rcases (up_mem_row h hr z).mp hz with rfl | ⟨s, hs, hz⟩
        · exact hxN
        · exact ih (r :: rest) e2 s ((h.row l r rest e2).2.2.1 s hs) (hN _ hxN r hr rfl s hs) z hz
  intro x hx hn
  exact key ks [] (by simp) x hn hx
theorem row_uniq {ks : List Row} (h : KOk ks) {r q : Row} (hr : r ∈ ks) (hq : q ∈ ks) (e : r.1 = q.1) : r = q := by
  have hn := h.nodup
  clear h
  induction ks with
  | nil => cases hr
  | cons x ks ih =>
    rw [List.map_cons, List.nodup_cons] at hn
    rcases List.mem_cons.mp hr with e1 | r1 <;> rcases List.mem_cons.mp hq with e2 | q1
    · rw [e1, e2]
    · exact absurd (List.mem_map.mpr ⟨q, q1, by rw [← e, e1]⟩) hn.1
    · exact absurd (List.mem_map.mpr ⟨r, r1, by rw [e, e2]⟩) hn.1
    · exact ih r1 q1 hn.2
/-- the search's state: what is left, what is known -/
structure WOk (ks : List Row) (one : Str) (lf kn : List Str) : Prop where
  nd : (kn ++ lf).Nodup
  sub : ∀ x ∈ kn ++ lf, x ∈ upOf (aboveM ks) one
  has : one ∈ kn ++ lf
  cl : ∀ x ∈ kn, ∀ r ∈ ks, r.1 = x → ∀ s ∈ r.2.1, s ∈ kn ++ lf
section
variable {ks : List Row} {one : Str} {lf kn : List Str}
theorem sup_names (h : KOk ks) {r : Row} (hr : r ∈ ks) : ∀ s ∈ r.2.1, s ∈ names ks := fun s hs => by
  obtain ⟨d, e, rfl⟩ := List.append_of_mem hr
  unfold names
  rw [List.map_append]
  exact List.mem_append_left _ ((h.row d r e rfl).2.2.1 s hs)
theorem WOk.start (h : KOk ks) (ho : one ∈ names ks) : WOk ks one [one] [] := ⟨by simp, fun x hx => by
  rw [List.nil_append, List.mem_singleton] at hx
  rw [hx]; exact up_refl h one ho, by simp, fun x hx => by cases hx⟩
theorem WOk.step (h : KOk ks) (ho : one ∈ names ks) {l : List Str} {x : Str} (W : WOk ks one (l ++ [x]) kn) {r : Row} (hr : r ∈ ks) (e : r.1 = x) (hn : r.2.1.Nodup) :
    WOk ks one (l ++ r.2.1.filter fun s => !decide (s ∈ (kn ++ [x]) ++ l)) (kn ++ [x]) := by
  have pm : ((kn ++ [x]) ++ l).Perm (kn ++ (l ++ [x])) := by
    rw [List.append_assoc]
    exact List.Perm.append_left _ List.perm_append_comm
  have inn : ∀ y, y ∈ kn ++ (l ++ [x]) → y ∈ (kn ++ [x]) ++ (l ++ r.2.1.filter fun s => !decide (s ∈ (kn ++ [x]) ++ l)) := fun y hy => by
    rw [← List.append_assoc (kn ++ [x]) l]
    exact List.mem_append_left _ (pm.mem_iff.mpr hy)
  refine ⟨?_, fun y hy => ?_, inn one W.has, fun y hy q hq e2 s hs => ?_⟩
  · rw [← List.append_assoc, List.nodup_append]
    refine ⟨pm.nodup_iff.mpr W.nd, hn.sublist List.filter_sublist, fun a ha b hb e3 => ?_⟩
    subst e3
    have := (List.mem_filter.mp hb).2
    rw [decide_eq_true ha] at this
    cases this
  · rw [← List.append_assoc, List.mem_append] at hy
    rcases hy with hy | hy
    · exact W.sub y (pm.mem_iff.mp hy)
    · have hs := (List.mem_filter.mp hy).1
      have hx : x ∈ upOf (aboveM ks) one := W.sub x (by simp)
      refine up_trans h ho hx ?_
      rw [← e]
      exact (up_mem_row h hr y).mpr (.inr ⟨y, hs, up_refl h y (sup_names h hr y hs)⟩)
  · rcases List.mem_append.mp hy with hy | hy
    · exact inn s (W.cl y hy q hq e2 s hs)
    · rw [List.mem_singleton] at hy
      have : q = r := row_uniq h hq hr (by rw [e2, hy, e])
      subst this
      rw [← List.append_assoc, List.mem_append]
      by_cases c : s ∈ (kn ++ [x]) ++ l
      · exact .inl c
      · exact .inr (List.mem_filter.mpr ⟨hs, by rw [decide_eq_false c]; rfl⟩)
theorem WOk.end (h : KOk ks) (ho : one ∈ names ks) (W : WOk ks one [] kn) (z : Str) : z ∈ kn ↔ z ∈ upOf (aboveM ks) one := by
  have hh := W.has
  have hs := W.sub
  have hc := W.cl
  rw [List.append_nil] at hh hs hc
  exact ⟨hs z, fun hz => closed_up h hc one hh ho z hz⟩
theorem WOk.len (h : KOk ks) (W : WOk ks one lf kn) : kn.length + lf.length ≤ ks.length := by
  rw [← List.length_append, ← List.length_map (f := fun r : Row => r.1)]
  exact nodup_len W.nd fun x hx => up_sub h one x (W.sub x hx)
end
/-! ### greatest common parts -/
def bothB (u : Ups) (q : Str × Str) (x : Str) : Bool := decide (q.1 ∈ upOf u x) && decide (q.2 ∈ upOf u x)
def topQ (u : Ups) (q : Str × Str) (x : Str) : Bool := !((bothM u q.1 q.2).any fun y => decide (y ≠ x) && decide (y ∈ upOf u x))
def lowM (u : Ups) (spots : List (List Str)) (one other : List Str) : List (List Str) := spots.filter fun own => belowBy u own one && belowBy u own other
/-- the law's own -/
def lcommonM (u : Ups) (spots : List (List Str)) (one other : List Str) : List (List Str) :=
  (lowM u spots one other).filter fun own => decide (((lowM u spots one other).filter fun its => decide (its ≠ own) && belowBy u own its) = [])
end Mp
/-! Mq, k12: lists in the place of tuples. -/
namespace Mp
open PySem L2
local macro_rules | `(tactic| walk_at "ev") => `(tactic| simp only [sb, nb, List.length_cons, List.length_nil, Nat.zero_add, Nat.reduceAdd, Nat.reduceSub, if_true, initSt, runL, evL, takes, take, dsOf, Tmp.d, List.map_cons, List.map_nil, List.cons_append, List.nil_append, List.replicate_succ, List.replicate_zero, st_get0, stepB, bindT, slotsT, bodyL, tests, St.wipe, St.back, List.foldr_cons, List.foldr_nil, List.foldl_cons, List.foldl_nil, List.zip_cons_cons, List.zip_nil_right, args, arg, called, asgs, setl, puts, St.frz, St.frzs, varsOf, optD, body2, bodyK, Option.isSome_some, Bool.true_eq_false, Bool.false_eq_true, if_false, Option.map_some, Bool.not_true, Bool.not_false, strsOf_map, strsOf_cons, sd_dK, sd_lst, andT, orT, andV, orV, gt1, gt2, gt3, gt4, gt5, gt6, gt7, gt8, gt9, gt10, gt11, gt12, pu0, pu1, pu2, pu3, pu4, pu5, pu6, pu7, pu8, pu9, pu10, pu11, pu12, se0, se1, se2, se3, se4, se5, se6, se7, se8, se9, se10, se11, se12, List.getD_cons_zero, List.getD_cons_succ, in_lst, in_tup, ite_self, Bool.and_self, Bool.true_and, Bool.and_true, Bool.false_and, Bool.and_false, decide_true, decide_false, ne_eq, not_true_eq_false, not_false_eq_true, eq_self, List.length_map, asg1, Nat.reduceEqDiff, srcX_fix, srcX_var, ev_loc, ev_lc, ev_lc2, ev_dc, ev_lofV, ev_int, ev_str, ev_bl, ev_non, ev_tup, ev_lst, ev_nbox, ev_dic, ev_bin, ev_neg, ev_cmp, ev_chn, ev_and, ev_or, ev_not, ev_ite, ev_ix, ev_sl, ev_rev, ev_fld, ev_bi, ev_isi, ev_sset, tst_and, tst_or, tst_not, tst_ite, itr_ex, itr_rng, itr_zip, itr_enum, itr_items, itr_vals, ex_asg, ex_asgT, ex_par, ex_asgI, ex_asgF, ex_aug, ex_ex, ex_ret, ex_iff, ex_for_, ex_whl, ex_pass, ex_stop, tst_loc, tst_glob, tst_int, tst_str, tst_bl, tst_non, tst_tup, tst_lst, tst_nbox, tst_dic, tst_bin, tst_neg, tst_cmp, tst_chn, tst_ix, tst_sl, tst_rev, tst_fld, tst_call, tst_callK, tst_bi, tst_isi, tst_sset, tst_lset, tst_lof, tst_meth, tst_lc, tst_lc2, tst_dc, tst_dc2, ec_tupled, ec_names_of, ec_above, ec_below_by, ec_products, ec_shapes, ec_greatest_by, ec_common, ec_fitting_by, ec_nearest_by, ec_torn_by, ec_shapes_of, ec_ups_of, ec_shape_of, ec_labels_of, ec_fitting, ec_nearest, ec_chosen, ec_torn, ec_greatest_torn, ec_meet, ec_cover, ec_is_under, ec_is_below, ec_shape_below, ec_law_box, ec_law_take, ec_law_cells, ec_law_of, ec_law_same, ec_law_shapes, ec_law_methods, ec_law_kinds, ec_law_up, ec_law_under, ec_law_calls, ec_law_right, ec_law_lists, ec_law_fits, ec_law_near, ec_law_chosen, ec_law_pairs, ec_law_generic, tr_bl, tr_int, tr_lst, tr_tup, tr_non, io_tup, io_lst, io_unlT, io_unlL, io_dK, bn_addI, bn_subI, bn_addT, bn_addL, bn_addS, or_lt, or_le, or_gt, or_ge, or_ltS, ix_lst, ix_tup, ix_dK, at_0, at_1, at_2, bi_allM, bi_anyM, bi_lenL, bi_lenT, bi_tupL, bi_tupT, bi_lstL, bi_lstT, bi_intI, bi_intB, cmp_in, cmp_notin, cmp_eq, cmp_ne, lf_bl, lf_int, lf_str, lf_non, lf_box, lf_lst, lf_dK, lf_tup, lf_lfS, lf_lfC, lf_lfN, sl_0, sl_1, sl_2, sl_3, sl_4, sl_5, sl_6, sl_7, sl_8, sl_9, sl_10, sl_11, sl_12, mt_pop, mt_app, mt_kpop, mt_kapp, mt_dapp, nm_list, nm_tuple, nm_int, nm_bool, nm_str, isi_tup, isi_lst])
section
variable {T : Tbl} {n : Nat}
def F_law_lists : FDef := ⟨.fn, 1, 2, [.ret (.ite (.isi (.loc 0) ["list", "tuple"] true) (.lc (.call "_law_lists" [.loc 1]) (.mk (.nm 1) (.ex (.loc 0)) []) [1]) (.loc 0))]⟩
theorem lv_lists_atom {d : D} (hT : T.lookup ("_law_lists" : Str) = some F_law_lists) (h : isAtom d = true) : Lv T (n + 20) 1 "_law_lists" [d] d false := Lv.of hT rfl fun k b hk => by
  unfold runF F_law_lists
  (repeat (first | walk_at "ev" | simp only [isi_atom h]))
theorem lv_lists_seq {β : Type} {f h : β → D} {xs : List β} {l : Nat} (hT : T.lookup ("_law_lists" : Str) = some F_law_lists) (hz : xs.length ≤ sizeLine) (ih : ∀ x ∈ xs, ∃ fr, Lv T (n + 20) l "_law_lists" [f x] (h x) fr) : Lv T (n + 20) (l + 1) "_law_lists" [.tup (xs.map f)] (.lst (xs.map h)) true := Lv.of hT rfl fun k b hk => by
  unfold runF F_law_lists
  (repeat (first | walk_at "ev" | simp only [isi_tup]))
  rw [gats_map (g := fun x => [h x]) (fun x hx => ?_)]
  · rw [flat1]
    (repeat (first | walk_at "ev" | simp only [hz]))
  · obtain ⟨fr, hf⟩ := ih x hx
    (repeat (first | walk_at "ev" | simp only [hf k b hk]))
/-- three things of unlike kinds, one behind another -/
def kRowL (r : Row) : D := .lst [.str r.1, .lst (r.2.1.map .str), .bl r.2.2]
def ksL (ks : List Row) : D := .lst (ks.map kRowL)
def gL (g : Gen) : D := .lst [ksL g.ks, .int g.pl, .lst []]
def sel3 (a b c : D) (i : Nat) : D := [a, b, c].getD i .non
theorem three_map (a b c : D) : [0, 1, 2].map (sel3 a b c) = [a, b, c] := rfl
theorem lv_lists3 {a b c a' b' c' : D} {l : Nat} (hT : T.lookup ("_law_lists" : Str) = some F_law_lists) (h1 : ∃ fr, Lv T (n + 20) l "_law_lists" [a] a' fr) (h2 : ∃ fr, Lv T (n + 20) l "_law_lists" [b] b' fr) (h3 : ∃ fr, Lv T (n + 20) l "_law_lists" [c] c' fr) : Lv T (n + 20) (l + 1) "_law_lists" [.tup [a, b, c]] (.lst [a', b', c']) true := by
  have := lv_lists_seq (n := n) (f := sel3 a b c) (h := sel3 a' b' c') (xs := [0, 1, 2]) (l := l) hT (by rw [sizeLine_eq]; decide) (fun x hx => by
    simp only [List.mem_cons, List.not_mem_nil, or_false] at hx
    rcases hx with rfl | rfl | rfl
    · exact h1
    · exact h2
    · exact h3)
  rwa [three_map, three_map] at this
theorem row_sups {ks : List Row} (h : KOk ks) {r : Row} (hr : r ∈ ks) : r.2.1.length ≤ sizeLine := by
  obtain ⟨a, c, e⟩ := List.append_of_mem hr
  have := (h.row a r c e).2.2.2
  rw [sizeLine_eq]; omega
theorem ks_size {ks : List Row} (h : KOk ks) : ks.length ≤ sizeLine := by have := h.len; rw [sizeLine_eq]; omega
theorem lv_lists_ks (hT : T.lookup ("_law_lists" : Str) = some F_law_lists) {ks : List Row} (h : KOk ks) : Lv T (n + 20) 4 "_law_lists" [.tup (ks.map kRow)] (ksL ks) true :=
  lv_lists_seq (h := kRowL) hT (ks_size h) fun r hr => ⟨true, lv_lists3 hT ⟨false, (lv_lists_atom hT rfl).up (by omega)⟩ ⟨true, lv_lists_seq (f := D.str) (h := D.str) hT (row_sups h hr) fun x _ => ⟨false, lv_lists_atom hT rfl⟩⟩ ⟨false, (lv_lists_atom hT rfl).up (by omega)⟩⟩
end
end Mp
/-! Mq, k12: the search upward; shapes below shapes; the law's own common parts. -/
namespace Mp
open PySem L2
local macro_rules | `(tactic| walk_at "ev") => `(tactic| simp only [sb, nb, List.length_cons, List.length_nil, Nat.zero_add, Nat.reduceAdd, Nat.reduceSub, if_true, initSt, runL, evL, takes, take, dsOf, Tmp.d, List.map_cons, List.map_nil, List.cons_append, List.nil_append, List.replicate_succ, List.replicate_zero, st_get0, stepB, bindT, slotsT, bodyL, tests, St.wipe, St.back, List.foldr_cons, List.foldr_nil, List.foldl_cons, List.foldl_nil, List.zip_cons_cons, List.zip_nil_right, args, arg, called, asgs, setl, puts, St.frz, St.frzs, varsOf, optD, body2, bodyK, Option.isSome_some, Bool.true_eq_false, Bool.false_eq_true, if_false, Option.map_some, Bool.not_true, Bool.not_false, strsOf_map, strsOf_cons, sd_dK, sd_lst, andT, orT, andV, orV, gt1, gt2, gt3, gt4, gt5, gt6, gt7, gt8, gt9, gt10, gt11, gt12, pu0, pu1, pu2, pu3, pu4, pu5, pu6, pu7, pu8, pu9, pu10, pu11, pu12, se0, se1, se2, se3, se4, se5, se6, se7, se8, se9, se10, se11, se12, List.getD_cons_zero, List.getD_cons_succ, in_lst, in_tup, ite_self, Bool.and_self, Bool.true_and, Bool.and_true, Bool.false_and, Bool.and_false, decide_true, decide_false, ne_eq, not_true_eq_false, not_false_eq_true, eq_self, List.length_map, asg1, Nat.reduceEqDiff, srcX_fix, srcX_var, ev_loc, ev_lc, ev_lc2, ev_dc, ev_lofV, ev_int, ev_str, ev_bl, ev_non, ev_tup, ev_lst, ev_nbox, ev_dic, ev_bin, ev_neg, ev_cmp, ev_chn, ev_and, ev_or, ev_not, ev_ite, ev_ix, ev_sl, ev_rev, ev_fld, ev_bi, ev_isi, ev_sset, tst_and, tst_or, tst_not, tst_ite, itr_ex, itr_rng, itr_zip, itr_enum, itr_items, itr_vals, ex_asg, ex_asgT, ex_par, ex_asgI, ex_asgF, ex_aug, ex_ex, ex_ret, ex_iff, ex_for_, ex_whl, ex_pass, ex_stop, tst_loc, tst_glob, tst_int, tst_str, tst_bl, tst_non, tst_tup, tst_lst, tst_nbox, tst_dic, tst_bin, tst_neg, tst_cmp, tst_chn, tst_ix, tst_sl, tst_rev, tst_fld, tst_call, tst_callK, tst_bi, tst_isi, tst_sset, tst_lset, tst_lof, tst_meth, tst_lc, tst_lc2, tst_dc, tst_dc2, ec_tupled, ec_names_of, ec_above, ec_below_by, ec_products, ec_shapes, ec_greatest_by, ec_common, ec_fitting_by, ec_nearest_by, ec_torn_by, ec_shapes_of, ec_ups_of, ec_shape_of, ec_labels_of, ec_fitting, ec_nearest, ec_chosen, ec_torn, ec_greatest_torn, ec_meet, ec_cover, ec_is_under, ec_is_below, ec_shape_below, ec_law_box, ec_law_take, ec_law_cells, ec_law_of, ec_law_same, ec_law_shapes, ec_law_methods, ec_law_kinds, ec_law_up, ec_law_under, ec_law_calls, ec_law_right, ec_law_lists, ec_law_fits, ec_law_near, ec_law_chosen, ec_law_pairs, ec_law_generic, tr_bl, tr_int, tr_lst, tr_tup, tr_non, io_tup, io_lst, io_unlT, io_unlL, io_dK, bn_addI, bn_subI, bn_addT, bn_addL, bn_addS, or_lt, or_le, or_gt, or_ge, or_ltS, ix_lst, ix_tup, ix_dK, at_0, at_1, at_2, bi_allM, bi_anyM, bi_lenL, bi_lenT, bi_tupL, bi_tupT, bi_lstL, bi_lstT, bi_intI, bi_intB, cmp_in, cmp_notin, cmp_eq, cmp_ne, lf_bl, lf_int, lf_str, lf_non, lf_box, lf_lst, lf_dK, lf_tup, lf_lfS, lf_lfC, lf_lfN, sl_0, sl_1, sl_2, sl_3, sl_4, sl_5, sl_6, sl_7, sl_8, sl_9, sl_10, sl_11, sl_12, mt_pop, mt_app, mt_kpop, mt_kapp, mt_dapp, nm_list, nm_tuple, nm_int, nm_bool, nm_str, isi_tup, isi_lst])
section
variable {T : Tbl} {n : Nat} {u : Ups}
def F_law_is_up : FDef := ⟨.fn, 3, 9, [.asg 3 (.bi "dict" [.lc (.tup [.ix (.loc 7) (.int 0), .ix (.loc 7) (.int 1)]) (.mk (.nm 7) (.ex (.loc 0)) []) [7]]), .par [4, 5] [.lst [.loc 1], .lst []], .whl (.cmp .NotEq (.loc 4) (.lst [])) [.asg 6 (.meth (.loc 4) "pop" []), .ex (.meth (.loc 5) "append" [.loc 6]), .asg 4 (.bin .Add (.loc 4) (.lc (.loc 8) (.mk (.nm 8) (.ex (.ix (.loc 3) (.loc 6))) [.cmp .NotIn (.loc 8) (.bin .Add (.loc 5) (.loc 4))]) [8]))], .ret (.cmp .In (.loc 2) (.loc 5))]⟩
abbrev supD (ks : List Row) : D := .dK (ks.map fun r : Row => ((.inr r.1 : Key), D.tup (r.2.1.map .str)))
theorem at_nat {α : Type} (xs : List α) {i : Nat} (h : i < xs.length) : L2.atI xs (i : Int) = some xs[i] := by
  unfold L2.atI
  rw [ixN_ok (k := xs.length) (v := (i : Int)) (by omega) (by omega)]
  simp [h]
end
end Mp
/-! Mq, k12: kinds, asked. -/
namespace Mp
open PySem L2
local macro_rules | `(tactic| walk_at "ev") => `(tactic| simp only [sb, nb, List.length_cons, List.length_nil, Nat.zero_add, Nat.reduceAdd, Nat.reduceSub, if_true, initSt, runL, evL, takes, take, dsOf, Tmp.d, List.map_cons, List.map_nil, List.cons_append, List.nil_append, List.replicate_succ, List.replicate_zero, st_get0, stepB, bindT, slotsT, bodyL, tests, St.wipe, St.back, List.foldr_cons, List.foldr_nil, List.foldl_cons, List.foldl_nil, List.zip_cons_cons, List.zip_nil_right, args, arg, called, asgs, setl, puts, St.frz, St.frzs, varsOf, optD, body2, bodyK, Option.isSome_some, Bool.true_eq_false, Bool.false_eq_true, if_false, Option.map_some, Bool.not_true, Bool.not_false, strsOf_map, strsOf_cons, sd_dK, sd_lst, andT, orT, andV, orV, gt1, gt2, gt3, gt4, gt5, gt6, gt7, gt8, gt9, gt10, gt11, gt12, pu0, pu1, pu2, pu3, pu4, pu5, pu6, pu7, pu8, pu9, pu10, pu11, pu12, se0, se1, se2, se3, se4, se5, se6, se7, se8, se9, se10, se11, se12, List.getD_cons_zero, List.getD_cons_succ, in_lst, in_tup, ite_self, Bool.and_self, Bool.true_and, Bool.and_true, Bool.false_and, Bool.and_false, decide_true, decide_false, ne_eq, not_true_eq_false, not_false_eq_true, eq_self, List.length_map, asg1, Nat.reduceEqDiff, srcX_fix, srcX_var, ev_loc, ev_lc, ev_lc2, ev_dc, ev_lofV, ev_int, ev_str, ev_bl, ev_non, ev_tup, ev_lst, ev_nbox, ev_dic, ev_bin, ev_neg, ev_cmp, ev_chn, ev_and, ev_or, ev_not, ev_ite, ev_ix, ev_sl, ev_rev, ev_fld, ev_bi, ev_isi, ev_sset, tst_and, tst_or, tst_not, tst_ite, itr_ex, itr_rng, itr_zip, itr_enum, itr_items, itr_vals, ex_asg, ex_asgT, ex_par, ex_asgI, ex_asgF, ex_aug, ex_ex, ex_ret, ex_iff, ex_for_, ex_whl, ex_pass, ex_stop, tst_loc, tst_glob, tst_int, tst_str, tst_bl, tst_non, tst_tup, tst_lst, tst_nbox, tst_dic, tst_bin, tst_neg, tst_cmp, tst_chn, tst_ix, tst_sl, tst_rev, tst_fld, tst_call, tst_callK, tst_bi, tst_isi, tst_sset, tst_lset, tst_lof, tst_meth, tst_lc, tst_lc2, tst_dc, tst_dc2, ec_tupled, ec_names_of, ec_above, ec_below_by, ec_products, ec_shapes, ec_greatest_by, ec_common, ec_fitting_by, ec_nearest_by, ec_torn_by, ec_shapes_of, ec_ups_of, ec_shape_of, ec_labels_of, ec_fitting, ec_nearest, ec_chosen, ec_torn, ec_greatest_torn, ec_meet, ec_cover, ec_is_under, ec_is_below, ec_shape_below, ec_law_box, ec_law_take, ec_law_cells, ec_law_of, ec_law_same, ec_law_shapes, ec_law_methods, ec_law_kinds, ec_law_up, ec_law_under, ec_law_calls, ec_law_right, ec_law_lists, ec_law_fits, ec_law_near, ec_law_chosen, ec_law_pairs, ec_law_generic, tr_bl, tr_int, tr_lst, tr_tup, tr_non, io_tup, io_lst, io_unlT, io_unlL, io_dK, bn_addI, bn_subI, bn_addT, bn_addL, bn_addS, or_lt, or_le, or_gt, or_ge, or_ltS, ix_lst, ix_tup, ix_dK, at_0, at_1, at_2, bi_allM, bi_anyM, bi_lenL, bi_lenT, bi_tupL, bi_tupT, bi_lstL, bi_lstT, bi_intI, bi_intB, cmp_in, cmp_notin, cmp_eq, cmp_ne, lf_bl, lf_int, lf_str, lf_non, lf_box, lf_lst, lf_dK, lf_tup, lf_lfS, lf_lfC, lf_lfN, sl_0, sl_1, sl_2, sl_3, sl_4, sl_5, sl_6, sl_7, sl_8, sl_9, sl_10, sl_11, sl_12, mt_pop, mt_app, mt_kpop, mt_kapp, mt_dapp, nm_list, nm_tuple, nm_int, nm_bool, nm_str, isi_tup, isi_lst])
theorem eqv_rowL (a c : Row) : PyData.eqv (kRowL a).py (kRowL c).py = decide (a = c) := by
  have h : PyData.eqv (kRowL a).py (kRowL c).py = (PyData.eqv (D.str a.1).py (D.str c.1).py && (PyData.eqv ((eLst eStr).f a.2.1).py ((eLst eStr).f c.2.1).py && (PyData.eqv (D.bl a.2.2).py (D.bl c.2.2).py && true))) := rfl
  rw [h, eqv_str, (eLst eStr).eqv, eqv_bl, Bool.and_true]
  obtain ⟨a1, a2, a3⟩ := a
  obtain ⟨c1, c2, c3⟩ := c
  rw [Bool.eq_iff_iff]
  simp
def eRowL : Enc Row where
  f := kRowL
  ok := fun r => nok r.1 && r.2.1.all nok
  n := 2
  hok := fun r h => by
    rw [Bool.and_eq_true] at h
    refine ok_lst fun d hd => ?_
    simp only [List.mem_cons, List.not_mem_nil, or_false] at hd
    rcases hd with rfl | rfl | rfl
    · exact ok_str h.1
    · exact (eLst eStr).hok r.2.1 h.2
    · exact ok_bl
  eqv := eqv_rowL
section
variable {T : Tbl} {n : Nat}
/-- the table holds what this law asks of kinds -/
structure PQ (T : Tbl) : Prop extends PT T where
  shapes : T.lookup ("shapes" : Str) = some F_shapes
  is_below : T.lookup ("is_below" : Str) = some F_is_below
  same : T.lookup ("_law_same" : Str) = some F_law_same
  lists : T.lookup ("_law_lists" : Str) = some F_law_lists
  is_up : T.lookup ("_law_is_up" : Str) = some F_law_is_up
end
end Mp
/-! Mq, k40: names, partings, one by one. -/
namespace Mp
open PySem L2
local macro_rules | `(tactic| walk_at "ev") => `(tactic| simp only [sb, nb, List.length_cons, List.length_nil, Nat.zero_add, Nat.reduceAdd, Nat.reduceSub, if_true, initSt, runL, evL, takes, take, dsOf, Tmp.d, List.map_cons, List.map_nil, List.cons_append, List.nil_append, List.replicate_succ, List.replicate_zero, st_get0, stepB, bindT, slotsT, bodyL, tests, St.wipe, St.back, List.foldr_cons, List.foldr_nil, List.foldl_cons, List.foldl_nil, List.zip_cons_cons, List.zip_nil_right, args, arg, called, asgs, setl, puts, St.frz, St.frzs, varsOf, optD, body2, bodyK, Option.isSome_some, Bool.true_eq_false, Bool.false_eq_true, if_false, Option.map_some, Bool.not_true, Bool.not_false, strsOf_map, strsOf_cons, sd_dK, sd_lst, andT, orT, andV, orV, gt1, gt2, gt3, gt4, gt5, gt6, gt7, gt8, gt9, gt10, gt11, gt12, pu0, pu1, pu2, pu3, pu4, pu5, pu6, pu7, pu8, pu9, pu10, pu11, pu12, se0, se1, se2, se3, se4, se5, se6, se7, se8, se9, se10, se11, se12, List.getD_cons_zero, List.getD_cons_succ, in_lst, in_tup, ite_self, Bool.and_self, Bool.true_and, Bool.and_true, Bool.false_and, Bool.and_false, decide_true, decide_false, ne_eq, not_true_eq_false, not_false_eq_true, eq_self, List.length_map, asg1, Nat.reduceEqDiff, srcX_fix, srcX_var, ev_loc, ev_lc, ev_lc2, ev_dc, ev_lofV, ev_int, ev_str, ev_bl, ev_non, ev_tup, ev_lst, ev_nbox, ev_dic, ev_bin, ev_neg, ev_cmp, ev_chn, ev_and, ev_or, ev_not, ev_ite, ev_ix, ev_sl, ev_rev, ev_fld, ev_bi, ev_isi, ev_sset, tst_and, tst_or, tst_not, tst_ite, itr_ex, itr_rng, itr_zip, itr_enum, itr_items, itr_vals, ex_asg, ex_asgT, ex_par, ex_asgI, ex_asgF, ex_aug, ex_ex, ex_ret, ex_iff, ex_for_, ex_whl, ex_pass, ex_stop, tst_loc, tst_glob, tst_int, tst_str, tst_bl, tst_non, tst_tup, tst_lst, tst_nbox, tst_dic, tst_bin, tst_neg, tst_cmp, tst_chn, tst_ix, tst_sl, tst_rev, tst_fld, tst_call, tst_callK, tst_bi, tst_isi, tst_sset, tst_lset, tst_lof, tst_meth, tst_lc, tst_lc2, tst_dc, tst_dc2, ec_tupled, ec_names_of, ec_above, ec_below_by, ec_products, ec_shapes, ec_greatest_by, ec_common, ec_fitting_by, ec_nearest_by, ec_torn_by, ec_shapes_of, ec_ups_of, ec_shape_of, ec_labels_of, ec_fitting, ec_nearest, ec_chosen, ec_torn, ec_greatest_torn, ec_meet, ec_cover, ec_is_under, ec_is_below, ec_shape_below, ec_law_box, ec_law_take, ec_law_cells, ec_law_of, ec_law_same, ec_law_shapes, ec_law_methods, ec_law_kinds, ec_law_up, ec_law_under, ec_law_calls, ec_law_right, ec_law_lists, ec_law_fits, ec_law_near, ec_law_chosen, ec_law_pairs, ec_law_generic, tr_bl, tr_int, tr_lst, tr_tup, tr_non, io_tup, io_lst, io_unlT, io_unlL, io_dK, bn_addI, bn_subI, bn_addT, bn_addL, bn_addS, or_lt, or_le, or_gt, or_ge, or_ltS, ix_lst, ix_tup, ix_dK, at_0, at_1, at_2, bi_allM, bi_anyM, bi_lenL, bi_lenT, bi_tupL, bi_tupT, bi_lstL, bi_lstT, bi_intI, bi_intB, cmp_in, cmp_notin, cmp_eq, cmp_ne, lf_bl, lf_int, lf_str, lf_non, lf_box, lf_lst, lf_dK, lf_tup, lf_lfS, lf_lfC, lf_lfN, sl_0, sl_1, sl_2, sl_3, sl_4, sl_5, sl_6, sl_7, sl_8, sl_9, sl_10, sl_11, sl_12, mt_pop, mt_app, mt_kpop, mt_kapp, mt_dapp, nm_list, nm_tuple, nm_int, nm_bool, nm_str, isi_tup, isi_lst])
theorem ec_is_name (C : CallF) (n : Nat) (s : St) (es : List E) : ev C (n + 1) (.call (Str.ofString "is_name") es) s = (evL (ev C n) es s >>= fun p => args p.1 p.2 >>= fun q => C (Str.ofString "is_name") q.1 q.2.b >>= fun r => some (called p.1 q.2 r)) := by
  rw [ev_call, if_neg (by decide +kernel)]
section
variable {T : Tbl} {n : Nat}
/-! ### generics with lists in the place of tuples -/
def mDL (m : Meth) : D := .lst [.str m.1, .lst (m.2.map .str)]
def gLm (g : Gen) : D := .lst [ksL g.ks, .int g.pl, .lst (g.ms.map mDL)]
def sel2 (a b : D) (i : Nat) : D := [a, b].getD i .non
/-! ### names -/
def F_is_name : FDef := ⟨.fn, 1, 2, [.iff (.or [.not (.isi (.loc 0) ["str"] false), .not (.chn .LtE .LtE (.int 1) (.bi "len" [.loc 0]) (.int 8))]) [.ret (.bl false)] [], .ret (.bi "all" [.lc (.cmp .In (.loc 1) (.str "abcdefghijklmnopqrstuvwxyz")) (.mk (.nm 1) (.ex (.loc 0)) []) [1]])]⟩
def letS : Str := "abcdefghijklmnopqrstuvwxyz"
def okc (c : Nat) : Bool := !(Builtin.Str.occurrences letS (⟨#[c]⟩ : Str) 0 letS.length 1).isEmpty
def wordOk (z : Str) : Bool := decide (1 ≤ z.length) && decide (z.length ≤ 8) && z.cps.toList.all okc
theorem isi_s1 (z : Str) : isi (.str z) ["str"] = some true := rfl
theorem lv_is_name (hT : T.lookup ("is_name" : Str) = some F_is_name) {z : Str} (h : wordOk z = true) : Lv T (n + 20) 1 "is_name" [.str z] (.bl true) false := Lv.of hT rfl fun k b hk => by
  unfold wordOk at h
  rw [Bool.and_eq_true, Bool.and_eq_true, decide_eq_true_eq, decide_eq_true_eq] at h
  obtain ⟨⟨h1, h2⟩, h3⟩ := h
  have hz : z.length ≤ sizeLine := by rw [sizeLine_eq]; omega
  have q1 : (1 : Int) ≤ (z.length : Int) := by omega
  have q2 : (z.length : Int) ≤ 8 := by omega
  have hcl : z.cps.toList.length = z.length := rfl
  have hl : z.cps.toList.length ≤ sizeLine := by rw [hcl]; exact hz
  have ha := bi_allM (fun _ : Nat => true) z.cps.toList
  have ht : (z.cps.toList.all fun _ => true) = true := by rw [List.all_eq_true]; intro _ _; rfl
  rw [ht] at ha
  have hln : biD "len" [.str z] = some (.int (z.length : Int), false) := by
    show (if z.length ≤ sizeLine then some (D.int (z.length : Int), false) else none) = _
    rw [if_pos hz]
  unfold runF F_is_name
  have hit : itemsOf (.str z) = some (z.cps.toList.map chr) := rfl
  (repeat (first | walk_at "ev" | simp only [isi_s1, hln, q1, q2, hit]))
  rw [gats_map (f := chr) (g := fun _ => [D.bl true]) (fun c hc => ?z)]
  case z =>
    have hin0 : inD (chr c) (.str letS) = some (okc c) := rfl
    rw [List.all_eq_true.mp h3 c hc] at hin0
    have hin : inD (chr c) (.str "abcdefghijklmnopqrstuvwxyz") = some true := hin0
    (repeat (first | walk_at "ev" | simp only [hin]))
  rw [flat1]
  (repeat (first | walk_at "ev" | simp only [hl, ha]))
  rw [ht]
theorem lv_is_name_no (hT : T.lookup ("is_name" : Str) = some F_is_name) {d : D} (h : isi d ["str"] = some false) : Lv T (n + 20) 1 "is_name" [d] (.bl false) false := Lv.of hT rfl fun k b hk => by
  unfold runF F_is_name
  (repeat (first | walk_at "ev" | simp only [h]))
/-! ### partings -/
def partM (ks : List Row) (x y : Str) : Bool := decide (x ∈ names ks) && decide (y ∈ names ks) && ltS x y && !((aboveM ks).any fun p => decide (x ∈ p.2) && decide (y ∈ p.2))
end
end Mp
/-! Mq, k10: things of any form. -/
namespace Mp
open PySem L2
local macro_rules | `(tactic| walk_at "ev") => `(tactic| simp only [sb, nb, List.length_cons, List.length_nil, Nat.zero_add, Nat.reduceAdd, Nat.reduceSub, if_true, initSt, runL, evL, takes, take, dsOf, Tmp.d, List.map_cons, List.map_nil, List.cons_append, List.nil_append, List.replicate_succ, List.replicate_zero, st_get0, stepB, bindT, slotsT, bodyL, tests, St.wipe, St.back, List.foldr_cons, List.foldr_nil, List.foldl_cons, List.foldl_nil, List.zip_cons_cons, List.zip_nil_right, args, arg, called, asgs, setl, puts, St.frz, St.frzs, varsOf, optD, body2, bodyK, Option.isSome_some, Bool.true_eq_false, Bool.false_eq_true, if_false, Option.map_some, Bool.not_true, Bool.not_false, strsOf_map, strsOf_cons, sd_dK, sd_lst, andT, orT, andV, orV, gt1, gt2, gt3, gt4, gt5, gt6, gt7, gt8, gt9, gt10, gt11, gt12, pu0, pu1, pu2, pu3, pu4, pu5, pu6, pu7, pu8, pu9, pu10, pu11, pu12, se0, se1, se2, se3, se4, se5, se6, se7, se8, se9, se10, se11, se12, List.getD_cons_zero, List.getD_cons_succ, in_lst, in_tup, ite_self, Bool.and_self, Bool.true_and, Bool.and_true, Bool.false_and, Bool.and_false, decide_true, decide_false, ne_eq, not_true_eq_false, not_false_eq_true, eq_self, List.length_map, asg1, Nat.reduceEqDiff, srcX_fix, srcX_var, ev_loc, ev_lc, ev_lc2, ev_dc, ev_lofV, ev_int, ev_str, ev_bl, ev_non, ev_tup, ev_lst, ev_nbox, ev_dic, ev_bin, ev_neg, ev_cmp, ev_chn, ev_and, ev_or, ev_not, ev_ite, ev_ix, ev_sl, ev_rev, ev_fld, ev_bi, ev_isi, ev_sset, tst_and, tst_or, tst_not, tst_ite, itr_ex, itr_rng, itr_zip, itr_enum, itr_items, itr_vals, ex_asg, ex_asgT, ex_par, ex_asgI, ex_asgF, ex_aug, ex_ex, ex_ret, ex_iff, ex_for_, ex_whl, ex_pass, ex_stop, tst_loc, tst_glob, tst_int, tst_str, tst_bl, tst_non, tst_tup, tst_lst, tst_nbox, tst_dic, tst_bin, tst_neg, tst_cmp, tst_chn, tst_ix, tst_sl, tst_rev, tst_fld, tst_call, tst_callK, tst_bi, tst_isi, tst_sset, tst_lset, tst_lof, tst_meth, tst_lc, tst_lc2, tst_dc, tst_dc2, ec_tupled, ec_names_of, ec_above, ec_below_by, ec_products, ec_shapes, ec_greatest_by, ec_common, ec_fitting_by, ec_nearest_by, ec_torn_by, ec_shapes_of, ec_ups_of, ec_shape_of, ec_labels_of, ec_fitting, ec_nearest, ec_chosen, ec_torn, ec_greatest_torn, ec_meet, ec_cover, ec_is_under, ec_is_below, ec_shape_below, ec_law_box, ec_law_take, ec_law_cells, ec_law_of, ec_law_same, ec_law_shapes, ec_law_methods, ec_law_kinds, ec_law_up, ec_law_under, ec_law_calls, ec_law_right, ec_law_lists, ec_law_fits, ec_law_near, ec_law_chosen, ec_law_pairs, ec_law_generic, tr_bl, tr_int, tr_lst, tr_tup, tr_non, io_tup, io_lst, io_unlT, io_unlL, io_dK, bn_addI, bn_subI, bn_addT, bn_addL, bn_addS, or_lt, or_le, or_gt, or_ge, or_ltS, ix_lst, ix_tup, ix_dK, at_0, at_1, at_2, bi_allM, bi_anyM, bi_lenL, bi_lenT, bi_tupL, bi_tupT, bi_lstL, bi_lstT, bi_intI, bi_intB, cmp_in, cmp_notin, cmp_eq, cmp_ne, lf_bl, lf_int, lf_str, lf_non, lf_box, lf_lst, lf_dK, lf_tup, lf_lfS, lf_lfC, lf_lfN, sl_0, sl_1, sl_2, sl_3, sl_4, sl_5, sl_6, sl_7, sl_8, sl_9, sl_10, sl_11, sl_12, mt_pop, mt_app, mt_kpop, mt_kapp, mt_dapp, nm_list, nm_tuple, nm_int, nm_bool, nm_str, isi_tup, isi_lst])
/-! ### things -/
def words : List Str := eight ++ (["", "zzzzzzzz", "zzzzzzzzz", "A", "a1", "a\n", "none", "a b"] : List Str)
def leafK : D → Bool
  | .non => true
  | .bl _ => true
  | .int i => decide (i ∈ [(0 : Int), 1, -1, 7])
  | .str z => decide (z ∈ words)
  | _ => false
mutual
def thK : D → Bool
  | .tup xs => thL xs
  | .lst xs => thL xs
  | .non => true
  | .bl _ => true
  | .int i => decide (i ∈ [(0 : Int), 1, -1, 7])
  | .str z => decide (z ∈ words)
  | .dK _ => false
  | .dT _ => false
  | .ins _ _ => false
  | .box _ => false
  | .scr _ => false
def thL : List D → Bool
  | [] => true
  | x :: xs => thK x && thL xs
end
theorem thL_iff : ∀ {xs : List D}, thL xs = true ↔ ∀ x ∈ xs, thK x = true
  | [] => by simp [thL]
  | x :: xs => by
    have ih := thL_iff (xs := xs)
    unfold thL
    rw [Bool.and_eq_true, ih]
    simp
theorem words_nok : ∀ z ∈ words, nok z = true := by decide +kernel
theorem words_len : ∀ z ∈ words, z.length ≤ 9 := by decide +kernel
theorem words_short : ∀ z ∈ words, (z.cps.toList.all fun c => decide (c < 16 ^ 8)) = true := by decide +kernel
theorem words_shown : ∀ z ∈ words, PyData.strOk (reprText z) = true := by decide +kernel
theorem ok_app (a b : Str) : PyData.strOk (a ++ b) = (PyData.strOk a && PyData.strOk b) := by
  show (a.cps ++ b.cps).all _ = _
  rw [Array.all_append]; rfl
theorem ok_e0 : PyData.strOk Str.empty = true := by decide +kernel
theorem ok_e00 : PyData.strOk ("" : Str) = true := by decide +kernel
theorem ok_join {sep : Str} (hs : PyData.strOk sep = true) : ∀ {ts : List Str}, (∀ t ∈ ts, PyData.strOk t = true) → PyData.strOk (Str.join sep ts) = true
  | [], _ => ok_e0
  | [t], h => h t (by simp)
  | t :: u :: r, h => by
    show PyData.strOk (t ++ sep ++ Str.join sep (u :: r)) = true
    rw [ok_app, ok_app, h t (by simp), hs, ok_join hs fun x hx => h x (List.mem_cons_of_mem _ hx)]; rfl
theorem ok_sep : PyData.strOk (", " : Str) = true := by decide +kernel
theorem ok_e1 : PyData.strOk ("(" : Str) = true := by decide +kernel
theorem ok_e2 : PyData.strOk (",)" : Str) = true := by decide +kernel
theorem ok_e3 : PyData.strOk (")" : Str) = true := by decide +kernel
theorem ok_e4 : PyData.strOk ("[" : Str) = true := by decide +kernel
theorem ok_e5 : PyData.strOk ("]" : Str) = true := by decide +kernel
theorem ok_from : ∀ {ts : List Str} {k : Nat} {acc : Str}, PyData.strOk acc = true → (∀ t ∈ ts, PyData.strOk t = true) → PyData.strOk (textFrom k acc ts) = true
  | [], _, _, h, _ => h
  | t :: ts, k, acc, h, ht => by
    unfold textFrom
    refine ok_from ?_ fun x hx => ht x (List.mem_cons_of_mem _ hx)
    rw [ok_app, ok_app, h, ht t List.mem_cons_self]
    have : PyData.strOk ((if k > 0 then ", " else "" : String) : Str) = true := by
      split
      · exact ok_sep
      · exact ok_e00
    rw [this]; rfl
theorem ok_tupT {ts : List Str} (h : ∀ t ∈ ts, PyData.strOk t = true) : PyData.strOk (tupleText ts) = true := by
  unfold tupleText
  rw [ok_app, ok_app, ok_e1, ok_join ok_sep h]
  have : PyData.strOk ((if ts.length == 1 then ",)" else ")" : String) : Str) = true := by
    split
    · exact ok_e2
    · exact ok_e3
  rw [this]; rfl
theorem ok_lisT {ts : List Str} (h : ∀ t ∈ ts, PyData.strOk t = true) : PyData.strOk (listText ts) = true := by
  unfold listText
  rw [ok_app, ok_from ok_e4 h, ok_e5]; rfl
theorem ints_ok : ∀ i ∈ [(0 : Int), 1, -1, 7], decide (i.natAbs.log2 < 1920) = true ∧ decide ((PyData.shown (.int i)).length ≤ 13) = true ∧ PyData.strOk (PyData.shown (.int i)) = true := by decide +kernel
theorem none_ok : PyData.strOk (PyData.shown .none) = true := by decide +kernel
theorem bool_ok : ∀ b, PyData.strOk (PyData.shown (.bool b)) = true := by decide +kernel
/-- what the library asks of a thing that is shown -/
structure Sho (p : PyData) : Prop where
  lay : p.canLay0 = true
  can : p.showable = true
  sho : p.leavesShort 13 = true
  txt : PyData.strOk p.shown = true
structure ShoL (ps : List PyData) : Prop where
  lay : PyData.canLayAll0 ps = true
  can : PyData.showableAll ps = true
  sho : PyData.leavesShortAll 13 ps = true
  txt : ∀ t ∈ PyData.shownAll ps, PyData.strOk t = true
mutual
theorem sho_of : ∀ d : D, thK d = true → d.pl = true ∧ Sho d.py
  | .non, _ => ⟨rfl, ⟨rfl, rfl, rfl, none_ok⟩⟩
  | .bl b, _ => ⟨rfl, ⟨rfl, rfl, rfl, bool_ok b⟩⟩
  | .int i, h => by
    have h : i ∈ [(0 : Int), 1, -1, 7] := of_decide_eq_true h
    obtain ⟨h1, h2, h3⟩ := ints_ok i h
    exact ⟨rfl, ⟨rfl, h1, h2, h3⟩⟩
  | .str z, h => by
    have h : z ∈ words := of_decide_eq_true h
    refine ⟨rfl, ⟨words_nok z h, rfl, words_short z h, ?_⟩⟩
    show PyData.strOk (PyData.shown (.str z)) = true
    simp only [PyData.shown]
    exact words_shown z h
  | .tup xs, h => by
    obtain ⟨h1, h2⟩ := shoL_of xs h
    refine ⟨h1, ⟨h2.lay, h2.can, h2.sho, ?_⟩⟩
    show PyData.strOk (PyData.shown (.tuple (pyL xs))) = true
    simp only [PyData.shown]
    exact ok_tupT h2.txt
  | .lst xs, h => by
    obtain ⟨h1, h2⟩ := shoL_of xs h
    refine ⟨h1, ⟨h2.lay, h2.can, h2.sho, ?_⟩⟩
    show PyData.strOk (PyData.shown (.list (pyL xs))) = true
    simp only [PyData.shown]
    exact ok_lisT h2.txt
  | .dK _, h => by cases h
  | .dT _, h => by cases h
  | .ins _ _, h => by cases h
  | .box _, h => by cases h
  | .scr _, h => by cases h
theorem shoL_of : ∀ xs : List D, thL xs = true → plL xs = true ∧ ShoL (pyL xs)
  | [], _ => ⟨rfl, ⟨rfl, rfl, rfl, fun t ht => by simp only [pyL, PyData.shownAll] at ht; cases ht⟩⟩
  | x :: xs, h => by
    unfold thL at h
    rw [Bool.and_eq_true] at h
    obtain ⟨h1, h2⟩ := sho_of x h.1
    obtain ⟨h3, h4⟩ := shoL_of xs h.2
    refine ⟨?_, ⟨?_, ?_, ?_, ?_⟩⟩
    · show (x.pl && plL xs) = true
      rw [h1, h3]; rfl
    · show (x.py.canLay0 && PyData.canLayAll0 (pyL xs)) = true
      rw [h2.lay, h4.lay]; rfl
    · show (x.py.showable && PyData.showableAll (pyL xs)) = true
      rw [h2.can, h4.can]; rfl
    · show (x.py.leavesShort 13 && PyData.leavesShortAll 13 (pyL xs)) = true
      rw [h2.sho, h4.sho]; rfl
    · intro t ht
      have ht : t ∈ x.py.shown :: PyData.shownAll (pyL xs) := by simpa only [pyL, PyData.shownAll] using ht
      rcases List.mem_cons.mp ht with rfl | ht
      · exact h2.txt
      · exact h4.txt t ht
end
/-- a thing of a depth and a size -/
structure Th (k B : Nat) (d : D) : Prop where
  th : thK d = true
  dp : d.py.depth ≤ k
  bk : d.py.bulk ≤ B
theorem Th.mono {k B k' B' : Nat} {d : D} (h : Th k B d) (hk : k ≤ k') (hB : B ≤ B') : Th k' B' d := ⟨h.th, Nat.le_trans h.dp hk, Nat.le_trans h.bk hB⟩
theorem Th.sh {k B : Nat} {d : D} (h : Th k B d) (hk : k ≤ 60) : d.sh = true := by
  obtain ⟨h1, h2⟩ := sho_of d h.th
  unfold D.sh
  rw [h1, h2.lay, decide_eq_true (Nat.le_trans h.dp hk)]; rfl
theorem Th.fits {k B : Nat} {d : D} (h : Th k B d) (hB : B ≤ 2 ^ 20) : d.py.shown.length ≤ sizeLine := PyData.shown_fits_bulk (B := 13) (by omega) (by omega) (sho_of d h.th).2.sho (Nat.le_trans h.bk hB)
theorem Th.repr {k B : Nat} {d : D} (h : Th k B d) (hk : k ≤ 60) (hB : B ≤ 2 ^ 20) : biD "repr" [d] = some (.str d.py.shown, false) := by
  have hs := h.sh hk
  have hf := h.fits hB
  have hc := (sho_of d h.th).2.can
  have ht := h.th
  cases d with
  | non => rfl
  | bl b => rfl
  | int i =>
    have hi : i ∈ [(0 : Int), 1, -1, 7] := of_decide_eq_true ht
    have := of_decide_eq_true (ints_ok i hi).1
    show (if i.natAbs.log2 < 1920 then some (D.str (PyData.int i).shown, false) else none) = _
    rw [if_pos this]; rfl
  | str z =>
    show (if (PyData.str z).shown.length ≤ sizeLine then some (D.str (PyData.str z).shown, false) else none) = _
    have hf : (PyData.str z).shown.length ≤ sizeLine := hf
    rw [if_pos hf]; rfl
  | tup xs =>
    show (if ((D.tup xs).sh && ((D.tup xs).py.showable && decide ((D.tup xs).py.shown.length ≤ sizeLine))) = true then some (D.str (D.tup xs).py.shown, false) else none) = _
    rw [if_pos (by rw [hs, hc, decide_eq_true hf]; rfl)]
  | lst xs =>
    show (if ((D.lst xs).sh && ((D.lst xs).py.showable && decide ((D.lst xs).py.shown.length ≤ sizeLine))) = true then some (D.str (D.lst xs).py.shown, false) else none) = _
    rw [if_pos (by rw [hs, hc, decide_eq_true hf]; rfl)]
  | dK _ => cases ht
  | dT _ => cases ht
  | ins _ _ => cases ht
  | box _ => cases ht
  | scr _ => cases ht
theorem Th.same {k B : Nat} {d : D} (h : Th k B d) : eqD (.str d.py.shown) (.str d.py.shown) = some true := by
  have hn : nok d.py.shown = true := (sho_of d h.th).2.txt
  rw [eq_str _ _ hn hn, decide_eq_true rfl]
/-! ### parts -/
theorem dep_mem : ∀ {xs : List D} {x : D}, x ∈ xs → x.py.depth ≤ PyData.depthAll (pyL xs)
  | [], x, h => by cases h
  | y :: ys, x, h => by
    show x.py.depth ≤ max y.py.depth (PyData.depthAll (pyL ys))
    rcases List.mem_cons.mp h with rfl | h
    · exact Nat.le_max_left _ _
    · exact Nat.le_trans (dep_mem h) (Nat.le_max_right _ _)
theorem dep_all : ∀ {xs : List D} {k : Nat}, (∀ x ∈ xs, x.py.depth ≤ k) → PyData.depthAll (pyL xs) ≤ k
  | [], k, _ => Nat.zero_le k
  | y :: ys, k, h => by
    show max y.py.depth (PyData.depthAll (pyL ys)) ≤ k
    exact Nat.max_le.mpr ⟨h y List.mem_cons_self, dep_all fun x hx => h x (List.mem_cons_of_mem _ hx)⟩
/-- the size of a row of things -/
def bkL (xs : List D) : Nat := (xs.map fun x => x.py.bulk + 1).sum
theorem bulk_all : ∀ xs : List D, PyData.bulkAll (pyL xs) = bkL xs
  | [] => rfl
  | y :: ys => by
    show y.py.bulk + 1 + PyData.bulkAll (pyL ys) = _
    rw [bulk_all ys]
    unfold bkL
    rw [List.map_cons, List.sum_cons]
theorem bkL_app (xs ys : List D) : bkL (xs ++ ys) = bkL xs + bkL ys := by unfold bkL; rw [List.map_append, List.sum_append]
theorem bkL_mem {xs : List D} {x : D} (h : x ∈ xs) : x.py.bulk + 1 ≤ bkL xs := by
  obtain ⟨a, b, rfl⟩ := List.append_of_mem h
  rw [bkL_app]
  unfold bkL
  rw [List.map_cons, List.sum_cons]
  omega
theorem bkL_len (xs : List D) : xs.length ≤ bkL xs := by
  induction xs with
  | nil => exact Nat.le_refl 0
  | cons x xs ih =>
    unfold bkL at ih ⊢
    rw [List.map_cons, List.sum_cons, List.length_cons]
    omega
structure ThL (k B : Nat) (xs : List D) : Prop where
  th : ∀ x ∈ xs, thK x = true
  dp : ∀ x ∈ xs, x.py.depth ≤ k
  bk : bkL xs ≤ B
theorem ThL.mem {k B : Nat} {xs : List D} (h : ThL k B xs) {x : D} (hx : x ∈ xs) : Th k B x := ⟨h.th x hx, h.dp x hx, by have := bkL_mem hx; have := h.bk; omega⟩
theorem ThL.tup {k B : Nat} {xs : List D} (h : ThL k B xs) : Th (k + 1) B (.tup xs) := ⟨thL_iff.mpr h.th, by
  show PyData.depthAll (pyL xs) + 1 ≤ k + 1
  have := dep_all h.dp; omega, by
  show PyData.bulkAll (pyL xs) ≤ B
  rw [bulk_all]; exact h.bk⟩
theorem ThL.lst {k B : Nat} {xs : List D} (h : ThL k B xs) : Th (k + 1) B (.lst xs) := ⟨thL_iff.mpr h.th, by
  show PyData.depthAll (pyL xs) + 1 ≤ k + 1
  have := dep_all h.dp; omega, by
  show PyData.bulkAll (pyL xs) ≤ B
  rw [bulk_all]; exact h.bk⟩
theorem Th.parts {k B : Nat} {xs : List D} (h : Th (k + 1) B (.tup xs)) : ThL k B xs := ⟨thL_iff.mp h.th, fun x hx => by
  have h1 : PyData.depthAll (pyL xs) + 1 ≤ k + 1 := h.dp
  have := dep_mem hx; omega, by
  have h1 : PyData.bulkAll (pyL xs) ≤ B := h.bk
  rw [bulk_all] at h1; exact h1⟩
theorem Th.pos {B : Nat} {xs : List D} {k : Nat} (h : Th k B (.tup xs)) : ∃ j, k = j + 1 := ⟨k - 1, by
  have h1 : PyData.depthAll (pyL xs) + 1 ≤ k := h.dp
  omega⟩
theorem ThL.app {k B C : Nat} {xs ys : List D} (h : ThL k B xs) (g : ThL k C ys) : ThL k (B + C) (xs ++ ys) := ⟨fun x hx => (List.mem_append.mp hx).elim (h.th x) (g.th x), fun x hx => (List.mem_append.mp hx).elim (h.dp x) (g.dp x), by rw [bkL_app]; exact Nat.add_le_add h.bk g.bk⟩
theorem gats_id {α : Type} {step : D → St → Option (List α × St)} {g : D → List α} {s : St} {xs : List D} (h : ∀ x ∈ xs, step x s = some (g x, s)) : gats step (.fix xs) s = some (xs.flatMap g, s) := by
  have := gats_map (f := fun d : D => d) (g := g) (xs := xs) h
  rwa [List.map_id'] at this
theorem bi_listT (xs : List D) : biD "list" [.tup xs] = some (.lst xs, true) := rfl
end Mp
/-! Mq, k10: kinds or none, by the program and by the law. -/
namespace Mp
open PySem L2
local macro_rules | `(tactic| walk_at "ev") => `(tactic| simp only [sb, nb, List.length_cons, List.length_nil, Nat.zero_add, Nat.reduceAdd, Nat.reduceSub, if_true, initSt, runL, evL, takes, take, dsOf, Tmp.d, List.map_cons, List.map_nil, List.cons_append, List.nil_append, List.replicate_succ, List.replicate_zero, st_get0, stepB, bindT, slotsT, bodyL, tests, St.wipe, St.back, List.foldr_cons, List.foldr_nil, List.foldl_cons, List.foldl_nil, List.zip_cons_cons, List.zip_nil_right, args, arg, called, asgs, setl, puts, St.frz, St.frzs, varsOf, optD, body2, bodyK, Option.isSome_some, Bool.true_eq_false, Bool.false_eq_true, if_false, Option.map_some, Bool.not_true, Bool.not_false, strsOf_map, strsOf_cons, sd_dK, sd_lst, andT, orT, andV, orV, gt1, gt2, gt3, gt4, gt5, gt6, gt7, gt8, gt9, gt10, gt11, gt12, pu0, pu1, pu2, pu3, pu4, pu5, pu6, pu7, pu8, pu9, pu10, pu11, pu12, se0, se1, se2, se3, se4, se5, se6, se7, se8, se9, se10, se11, se12, List.getD_cons_zero, List.getD_cons_succ, in_lst, in_tup, ite_self, Bool.and_self, Bool.true_and, Bool.and_true, Bool.false_and, Bool.and_false, decide_true, decide_false, ne_eq, not_true_eq_false, not_false_eq_true, eq_self, List.length_map, asg1, Nat.reduceEqDiff, srcX_fix, srcX_var, ev_loc, ev_lc, ev_lc2, ev_dc, ev_lofV, ev_int, ev_str, ev_bl, ev_non, ev_tup, ev_lst, ev_nbox, ev_dic, ev_bin, ev_neg, ev_cmp, ev_chn, ev_and, ev_or, ev_not, ev_ite, ev_ix, ev_sl, ev_rev, ev_fld, ev_bi, ev_isi, ev_sset, tst_and, tst_or, tst_not, tst_ite, itr_ex, itr_rng, itr_zip, itr_enum, itr_items, itr_vals, ex_asg, ex_asgT, ex_par, ex_asgI, ex_asgF, ex_aug, ex_ex, ex_ret, ex_iff, ex_for_, ex_whl, ex_pass, ex_stop, tst_loc, tst_glob, tst_int, tst_str, tst_bl, tst_non, tst_tup, tst_lst, tst_nbox, tst_dic, tst_bin, tst_neg, tst_cmp, tst_chn, tst_ix, tst_sl, tst_rev, tst_fld, tst_call, tst_callK, tst_bi, tst_isi, tst_sset, tst_lset, tst_lof, tst_meth, tst_lc, tst_lc2, tst_dc, tst_dc2, ec_tupled, ec_names_of, ec_above, ec_below_by, ec_products, ec_shapes, ec_greatest_by, ec_common, ec_fitting_by, ec_nearest_by, ec_torn_by, ec_shapes_of, ec_ups_of, ec_shape_of, ec_labels_of, ec_fitting, ec_nearest, ec_chosen, ec_torn, ec_greatest_torn, ec_meet, ec_cover, ec_is_under, ec_is_below, ec_shape_below, ec_law_box, ec_law_take, ec_law_cells, ec_law_of, ec_law_same, ec_law_shapes, ec_law_methods, ec_law_kinds, ec_law_up, ec_law_under, ec_law_calls, ec_law_right, ec_law_lists, ec_law_fits, ec_law_near, ec_law_chosen, ec_law_pairs, ec_law_generic, tr_bl, tr_int, tr_lst, tr_tup, tr_non, io_tup, io_lst, io_unlT, io_unlL, io_dK, bn_addI, bn_subI, bn_addT, bn_addL, bn_addS, or_lt, or_le, or_gt, or_ge, or_ltS, ix_lst, ix_tup, ix_dK, at_0, at_1, at_2, bi_allM, bi_anyM, bi_lenL, bi_lenT, bi_tupL, bi_tupT, bi_lstL, bi_lstT, bi_intI, bi_intB, cmp_in, cmp_notin, cmp_eq, cmp_ne, lf_bl, lf_int, lf_str, lf_non, lf_box, lf_lst, lf_dK, lf_tup, lf_lfS, lf_lfC, lf_lfN, sl_0, sl_1, sl_2, sl_3, sl_4, sl_5, sl_6, sl_7, sl_8, sl_9, sl_10, sl_11, sl_12, mt_pop, mt_app, mt_kpop, mt_kapp, mt_dapp, nm_list, nm_tuple, nm_int, nm_bool, nm_str, isi_tup, isi_lst])
theorem ec_ascends (C : CallF) (n : Nat) (s : St) (es : List E) : ev C (n + 1) (.call (Str.ofString "ascends") es) s = (evL (ev C n) es s >>= fun p => args p.1 p.2 >>= fun q => C (Str.ofString "ascends") q.1 q.2.b >>= fun r => some (called p.1 q.2 r)) := by
  rw [ev_call, if_neg (by decide +kernel)]
theorem ec_are_names_of (C : CallF) (n : Nat) (s : St) (es : List E) : ev C (n + 1) (.call (Str.ofString "are_names_of") es) s = (evL (ev C n) es s >>= fun p => args p.1 p.2 >>= fun q => C (Str.ofString "are_names_of") q.1 q.2.b >>= fun r => some (called p.1 q.2 r)) := by
  rw [ev_call, if_neg (by decide +kernel)]
theorem ec_is_kind_row (C : CallF) (n : Nat) (s : St) (es : List E) : ev C (n + 1) (.call (Str.ofString "is_kind_row") es) s = (evL (ev C n) es s >>= fun p => args p.1 p.2 >>= fun q => C (Str.ofString "is_kind_row") q.1 q.2.b >>= fun r => some (called p.1 q.2 r)) := by
  rw [ev_call, if_neg (by decide +kernel)]
theorem ec_is_kinds (C : CallF) (n : Nat) (s : St) (es : List E) : ev C (n + 1) (.call (Str.ofString "is_kinds") es) s = (evL (ev C n) es s >>= fun p => args p.1 p.2 >>= fun q => C (Str.ofString "is_kinds") q.1 q.2.b >>= fun r => some (called p.1 q.2 r)) := by
  rw [ev_call, if_neg (by decide +kernel)]
theorem ec_law_is_word (C : CallF) (n : Nat) (s : St) (es : List E) : ev C (n + 1) (.call (Str.ofString "_law_is_word") es) s = (evL (ev C n) es s >>= fun p => args p.1 p.2 >>= fun q => C (Str.ofString "_law_is_word") q.1 q.2.b >>= fun r => some (called p.1 q.2 r)) := by
  rw [ev_call, if_neg (by decide +kernel)]
theorem ec_law_is_kinds (C : CallF) (n : Nat) (s : St) (es : List E) : ev C (n + 1) (.call (Str.ofString "_law_is_kinds") es) s = (evL (ev C n) es s >>= fun p => args p.1 p.2 >>= fun q => C (Str.ofString "_law_is_kinds") q.1 q.2.b >>= fun r => some (called p.1 q.2 r)) := by
  rw [ev_call, if_neg (by decide +kernel)]
/-! ### plain -/
def isTupD : D → Bool
  | .tup _ => true
  | _ => false
def isStrD : D → Bool
  | .str _ => true
  | _ => false
def isBlD : D → Bool
  | .bl _ => true
  | _ => false
theorem isi_tupD {d : D} (h : thK d = true) : isi d ["tuple"] = some (isTupD d) := by
  cases d <;> first | rfl | cases h
theorem isi_strD {d : D} (h : thK d = true) : isi d ["str"] = some (isStrD d) := by
  cases d <;> first | rfl | cases h
theorem isi_blD {d : D} (h : thK d = true) : isi d ["bool"] = some (isBlD d) := by
  cases d <;> first | rfl | cases h
def isWordD : D → Bool
  | .str z => wordOk z
  | _ => false
def nmIn (kn : List Str) : D → Bool
  | .str z => decide (z ∈ kn)
  | _ => false
def ascB (zs : List Str) : Bool := (zs.zip (zs.drop 1)).all fun p => ltS p.1 p.2
def ascD (ss : List D) : Bool := match strsOf ss with
  | some zs => ascB zs
  | none => false
def partB (kn : List Str) : D → Bool
  | .tup ss => ss.all (nmIn kn) && ascD ss
  | _ => false
def rowB (kn : List Str) : D → Bool
  | .tup [a, s, c] => isWordD a && !(nmIn kn a) && partB kn s && isBlD c
  | _ => false
def keyD : D → Str
  | .tup (.str z :: _) => z
  | _ => ""
def rowsB : List Str → List D → Bool
  | _, [] => true
  | kn, d :: r => rowB kn d && rowsB (kn ++ [keyD d]) r
def kindsB : D → Bool
  | .tup xs => !xs.isEmpty && rowsB [] xs
  | _ => false
theorem asc_pw : ∀ {zs : List Str}, ascB zs = true ↔ zs.Pairwise (fun a b => ltS a b = true)
  | [] => by simp [ascB]
  | [x] => by simp [ascB]
  | x :: y :: r => by
    have ih := asc_pw (zs := y :: r)
    have h1 : ascB (x :: y :: r) = (ltS x y && ascB (y :: r)) := by
      unfold ascB
      simp only [List.drop_succ_cons, List.drop_zero, List.zip_cons_cons, List.all_cons]
    rw [h1, Bool.and_eq_true, ih, List.pairwise_cons (a := x) (l := y :: r)]
    constructor
    · rintro ⟨h2, h3⟩
      refine ⟨fun z hz => ?_, h3⟩
      rcases List.mem_cons.mp hz with rfl | hz
      · exact h2
      · exact ltS_trans h2 ((List.pairwise_cons.mp h3).1 z hz)
    · rintro ⟨h2, h3⟩
      exact ⟨h2 y List.mem_cons_self, h3⟩
theorem asc_srt (zs : List Str) : ascB zs = decide (zs = ssrt zs) := by
  rw [Bool.eq_iff_iff, asc_pw, decide_eq_true_eq]
  constructor
  · intro h
    exact asc_eq h (ssrt_asc zs) fun z => (ssrt_mem zs).symm
  · intro h
    rw [h]; exact ssrt_asc zs
theorem strs_allD : ∀ {ss : List D}, ss.all isStrD = true → ∃ zs : List Str, ss = zs.map .str ∧ strsOf ss = some zs
  | [], _ => ⟨[], rfl, rfl⟩
  | d :: r, h => by
    rw [List.all_cons, Bool.and_eq_true] at h
    obtain ⟨zs, h1, h2⟩ := strs_allD h.2
    cases d <;> first | (cases h.1; done) | skip
    rename_i z
    exact ⟨z :: zs, by rw [h1]; rfl, by
      show (strsOf r).bind (fun bs => some (z :: bs)) = _
      rw [h2]; rfl⟩
theorem nm_strD {kn : List Str} {d : D} (h : nmIn kn d = true) : isStrD d = true := by
  cases d <;> first | rfl | cases h
theorem names_strs {kn : List Str} {ss : List D} (h : ss.all (nmIn kn) = true) : ss.all isStrD = true := List.all_eq_true.mpr fun d hd => nm_strD (List.all_eq_true.mp h d hd)
section
variable {T : Tbl} {n : Nat}
/-! ### the program -/
theorem str_nok {z : Str} (h : thK (.str z) = true) : nok z = true := words_nok z (of_decide_eq_true h)
theorem lv_isnm (hT : T.lookup ("is_name" : Str) = some F_is_name) {d : D} (h : thK d = true) : Lv T (n + 20) 1 "is_name" [d] (.bl (isWordD d)) false := by
  cases hs : isStrD d with
  | false =>
    have hi := isi_strD h
    rw [hs] at hi
    have hw : isWordD d = false := by cases d <;> first | rfl | cases hs
    rw [hw]
    exact lv_is_name_no hT hi
  | true =>
    cases d <;> first | (cases hs; done) | skip
    rename_i z
    have h9 := words_len z (of_decide_eq_true h)
    show Lv T (n + 20) 1 "is_name" [.str z] (.bl (wordOk z)) false
    cases hw : wordOk z with
    | true => exact lv_is_name hT hw
    | false =>
      refine Lv.of hT rfl fun k b hk => ?_
      have hz : z.length ≤ sizeLine := by rw [sizeLine_eq]; omega
      have hln : biD "len" [.str z] = some (.int (z.length : Int), false) := by
        show (if z.length ≤ sizeLine then some (D.int (z.length : Int), false) else none) = _
        rw [if_pos hz]
      have hit : itemsOf (.str z) = some (z.cps.toList.map chr) := rfl
      have hl : z.cps.toList.length ≤ sizeLine := hz
      have ha := bi_allM okc z.cps.toList
      unfold runF F_is_name
      by_cases q1 : (1 : Int) ≤ (z.length : Int)
      · by_cases q2 : (z.length : Int) ≤ 8
        · have h3 : z.cps.toList.all okc = false := by
            unfold wordOk at hw
            rw [decide_eq_true (by omega), decide_eq_true (by omega)] at hw
            simpa using hw
          rw [h3] at ha
          (repeat (first | walk_at "ev" | simp only [isi_s1, hln, q1, q2, hit]))
          rw [gats_map (f := chr) (g := fun c => [D.bl (okc c)]) (fun c hc => ?z)]
          case z =>
            have hin0 : inD (chr c) (.str letS) = some (okc c) := rfl
            have hin : inD (chr c) (.str "abcdefghijklmnopqrstuvwxyz") = some (okc c) := hin0
            (repeat (first | walk_at "ev" | simp only [hin]))
          rw [flat1]
          (repeat (first | walk_at "ev" | simp only [hl, ha]))
          rw [h3]
        · (repeat (first | walk_at "ev" | simp only [isi_s1, hln, q1, q2]))
      · (repeat (first | walk_at "ev" | simp only [isi_s1, hln, q1]))
def F_ascends : FDef := ⟨.fn, 1, 3, [.ret (.bi "all" [.lc (.cmp .Lt (.loc 1) (.loc 2)) (.mk (.tp [1, 2]) (.zip (.loc 0) (.sl (.loc 0) (some (.int 1)) none)) []) [1, 2]])]⟩
theorem sd_tail (xs : List D) : slD (.tup xs) (some 1) none = some (.tup (xs.drop 1), false) := by
  show some (D.tup ((xs.drop (HT.sIx xs.length 0 (some ((1 : Nat) : Int)))).take (xs.length - HT.sIx xs.length 0 (some ((1 : Nat) : Int)))), false) = _
  rw [HT.sIx_nat]
  have : (xs.drop (min 1 xs.length)).take (xs.length - min 1 xs.length) = xs.drop 1 := by
    rw [List.take_of_length_le (by rw [List.length_drop]; exact Nat.le_refl _)]
    rcases Nat.le_total 1 xs.length with h | h
    · rw [Nat.min_eq_left h]
    · rw [Nat.min_eq_right h, List.drop_length, List.drop_eq_nil_of_le h]
  rw [this]
theorem lv_ascends (hT : T.lookup ("ascends" : Str) = some F_ascends) {zs : List Str} (hz : zs.length ≤ 10000) : Lv T (n + 20) 1 "ascends" [.tup (zs.map .str)] (.bl (ascB zs)) false := Lv.of hT rfl fun k b hk => by
  have hsl := sd_tail (zs.map D.str)
  rw [← List.map_drop] at hsl
  have hl : (zs.zip (zs.drop 1)).length ≤ sizeLine := by rw [List.length_zip, sizeLine_eq]; omega
  have ha := bi_allM (fun p : Str × Str => ltS p.1 p.2) (zs.zip (zs.drop 1))
  have ha2 : ((zs.zip (zs.drop 1)).all fun p => ltS p.1 p.2) = ascB zs := rfl
  rw [ha2] at ha
  unfold runF F_ascends
  (repeat (first | walk_at "ev" | simp only [hsl]))
  rw [zipD_map, gats_map (g := fun p : Str × Str => [D.bl (ltS p.1 p.2)]) (fun p hp => ?z)]
  case z =>
    walk_at "ev"
    rfl
  rw [flat1]
  (repeat (first | walk_at "ev" | simp only [hl, ha]))
  rw [ha2]
def F_are_names_of : FDef := ⟨.fn, 2, 3, [.ret (.and [.isi (.loc 0) ["tuple"] false, .bi "all" [.lc (.and [.isi (.loc 2) ["str"] false, .cmp .In (.loc 2) (.loc 1)]) (.mk (.nm 2) (.ex (.loc 0)) []) [2]]])]⟩
theorem lv_are (hT : T.lookup ("are_names_of" : Str) = some F_are_names_of) {d : D} (h : thK d = true) {kn : List Str} (hk : ∀ z ∈ kn, nok z = true) (hz : ∀ ss, d = .tup ss → ss.length ≤ 10000) : Lv T (n + 20) 1 "are_names_of" [d, .lst (kn.map .str)] (.bl (match d with
    | .tup ss => ss.all (nmIn kn)
    | _ => false)) false := Lv.of hT rfl fun k b hkk => by
  have hi := isi_tupD h
  cases ht : isTupD d with
  | false =>
    rw [ht] at hi
    unfold runF F_are_names_of
    (repeat (first | walk_at "ev" | simp only [hi]))
    cases d <;> first | rfl | cases ht
  | true =>
    rw [ht] at hi
    cases d <;> first | (cases ht; done) | skip
    rename_i ss
    have hss := thL_iff.mp (show thL ss = true from h)
    have hl : ss.length ≤ sizeLine := by have := hz ss rfl; rw [sizeLine_eq]; omega
    have ha := bi_allM (nmIn kn) ss
    unfold runF F_are_names_of
    (repeat (first | walk_at "ev" | simp only [hi]))
    have key : ∀ x ∈ ss, isi x ["str"] = some (isStrD x) := fun x hx => isi_strD (hss x hx)
    rewrite [gats_id (g := fun x : D => [D.bl (nmIn kn x)]) (fun x hx => ?z)]
    case z =>
      have k1 := key x hx
      cases hs : isStrD x with
      | false =>
        rw [hs] at k1
        have hn : nmIn kn x = false := by cases x <;> first | rfl | cases hs
        rw [hn]
        (repeat (first | walk_at "ev" | simp only [k1]))
      | true =>
        rw [hs] at k1
        cases x <;> first | (cases hs; done) | skip
        rename_i z
        have hin := in_str z kn (str_nok (hss _ hx)) (List.all_eq_true.mpr hk)
        (repeat (first | walk_at "ev" | simp only [k1, hin]))
        rfl
    rw [flat1]
    (repeat (first | walk_at "ev" | simp only [hl, ha]))
def F_is_kind_row : FDef := ⟨.fn, 2, 2, [.iff (.or [.not (.isi (.loc 0) ["tuple"] false), .cmp .NotEq (.bi "len" [.loc 0]) (.int 3), .not (.call "is_name" [.ix (.loc 0) (.int 0)]), .cmp .In (.ix (.loc 0) (.int 0)) (.loc 1)]) [.ret (.bl false)] [], .ret (.and [.call "are_names_of" [.ix (.loc 0) (.int 1), .loc 1], .call "ascends" [.ix (.loc 0) (.int 1)], .isi (.ix (.loc 0) (.int 2)) ["bool"] false])]⟩
theorem lv_row (hN : T.lookup ("is_name" : Str) = some F_is_name) (hA : T.lookup ("ascends" : Str) = some F_ascends) (hM : T.lookup ("are_names_of" : Str) = some F_are_names_of) (hT : T.lookup ("is_kind_row" : Str) = some F_is_kind_row) {d : D} {j B : Nat} (h : Th j B d) (hB : B ≤ 10000) {kn : List Str} (hk : ∀ z ∈ kn, nok z = true) :
    Lv T (n + 20) 2 "is_kind_row" [d, .lst (kn.map .str)] (.bl (rowB kn d)) false := Lv.of hT rfl fun k b hkk => by
  have hi := isi_tupD h.th
  cases ht : isTupD d with
  | false =>
    rw [ht] at hi
    have hr : rowB kn d = false := by cases d <;> first | rfl | cases ht
    rw [hr]
    unfold runF F_is_kind_row
    (repeat (first | walk_at "ev" | simp only [hi]))
  | true =>
    rw [ht] at hi
    cases d <;> first | (cases ht; done) | skip
    rename_i xs
    obtain ⟨j, rfl⟩ := h.pos
    have hp := h.parts
    by_cases h3 : xs.length = 3
    · match xs, h3, hi, hp with
      | [a, s, c], h33, hi, hp =>
        have ta := hp.th a (by simp)
        have ts := hp.th s (by simp)
        have tc := hp.th c (by simp)
        have e3 : eqD (.int ((3 : Nat) : Int)) (.int 3) = some true := by rw [eq_int]; rfl
        have cn := lv_isnm (n := n) hN ta k b (by omega)
        have at2 : L2.atI [a, s, c] 2 = some c := rfl
        have hr : rowB kn (.tup [a, s, c]) = (isWordD a && !(nmIn kn a) && partB kn s && isBlD c) := rfl
        rw [hr]
        unfold runF F_is_kind_row
        cases wa : isWordD a with
        | false =>
          rw [wa] at cn
          (repeat (first | walk_at "ev" | simp only [hi, e3, ec_is_name, cn]))
        | true =>
          rw [wa] at cn
          cases a <;> first | (cases wa; done) | skip
          rename_i z
          have hin := in_str z kn (str_nok ta) (List.all_eq_true.mpr hk)
          have hnm : nmIn kn (.str z) = decide (z ∈ kn) := rfl
          rw [hnm]
          by_cases q : z ∈ kn
          · rw [decide_eq_true q] at hin
            (repeat (first | walk_at "ev" | simp only [hi, e3, ec_is_name, cn, hin, q]))
          · rw [decide_eq_false q] at hin
            have sz : ∀ ss, s = .tup ss → ss.length ≤ 10000 := fun ss e => by
              have hs := (hp.mem (x := s) (by simp))
              rw [e] at hs
              obtain ⟨j2, rfl⟩ := hs.pos
              have := hs.parts.bk
              have := bkL_len ss
              omega
            have ca := lv_are (n := n) hM ts hk sz k b (by omega)
            have hc := isi_blD tc
            cases s with
            | tup ss =>
              have ca : callAt T (n + 20) k "are_names_of" [.tup ss, .lst (kn.map .str)] b = some (.bl (ss.all (nmIn kn)), false, b) := ca
              have hpb : partB kn (.tup ss) = (ss.all (nmIn kn) && ascD ss) := rfl
              rw [hpb]
              cases p : ss.all (nmIn kn) with
              | false =>
                rw [p] at ca
                (repeat (first | walk_at "ev" | simp only [hi, e3, ec_is_name, cn, hin, q, ec_are_names_of, ca]))
              | true =>
                rw [p] at ca
                obtain ⟨zs, rfl, hzs⟩ := strs_allD (names_strs p)
                have hz : zs.length ≤ 10000 := by have := sz _ rfl; rw [List.length_map] at this; exact this
                have cs := lv_ascends (n := n) hA hz k b (by omega)
                have had : ascD (zs.map D.str) = ascB zs := by unfold ascD; rw [hzs]
                rw [had]
                cases p2 : ascB zs with
                | false =>
                  rw [p2] at cs
                  (repeat (first | walk_at "ev" | simp only [hi, e3, ec_is_name, cn, hin, q, ec_are_names_of, ca, ec_ascends, cs]))
                | true =>
                  rw [p2] at cs
                  (repeat (first | walk_at "ev" | simp only [hi, e3, ec_is_name, cn, hin, q, ec_are_names_of, ca, ec_ascends, cs, at2, hc]))
            | _ =>
              have ca0 : callAt T (n + 20) k "are_names_of" [_, .lst (kn.map .str)] b = some (.bl false, false, b) := ca
              (repeat (first | walk_at "ev" | simp only [hi, e3, ec_is_name, cn, hin, q, ec_are_names_of, ca0]))
              first
                | done
                | rfl
    · have e := eq_int (xs.length : Int) 3
      rw [decide_eq_false (by omega)] at e
      have hr : rowB kn (.tup xs) = false := by
        match xs, h3 with
        | [], _ => rfl
        | [_], _ => rfl
        | [_, _], _ => rfl
        | [_, _, _], h => exact absurd rfl h
        | _ :: _ :: _ :: _ :: _, _ => rfl
      rw [hr]
      unfold runF F_is_kind_row
      (repeat (first | walk_at "ev" | simp only [hi, e]))
end
end Mp
set_option pp.maxSteps 300
/-! Mq, k10: kinds or none: the loops. -/
namespace Mp
open PySem L2
local macro_rules | `(tactic| walk_at "ev") => `(tactic| simp only [sb, nb, List.length_cons, List.length_nil, Nat.zero_add, Nat.reduceAdd, Nat.reduceSub, if_true, initSt, runL, evL, takes, take, dsOf, Tmp.d, List.map_cons, List.map_nil, List.cons_append, List.nil_append, List.replicate_succ, List.replicate_zero, st_get0, stepB, bindT, slotsT, bodyL, tests, St.wipe, St.back, List.foldr_cons, List.foldr_nil, List.foldl_cons, List.foldl_nil, List.zip_cons_cons, List.zip_nil_right, args, arg, called, asgs, setl, puts, St.frz, St.frzs, varsOf, optD, body2, bodyK, Option.isSome_some, Bool.true_eq_false, Bool.false_eq_true, if_false, Option.map_some, Bool.not_true, Bool.not_false, strsOf_map, strsOf_cons, sd_dK, sd_lst, andT, orT, andV, orV, gt1, gt2, gt3, gt4, gt5, gt6, gt7, gt8, gt9, gt10, gt11, gt12, pu0, pu1, pu2, pu3, pu4, pu5, pu6, pu7, pu8, pu9, pu10, pu11, pu12, se0, se1, se2, se3, se4, se5, se6, se7, se8, se9, se10, se11, se12, List.getD_cons_zero, List.getD_cons_succ, in_lst, in_tup, ite_self, Bool.and_self, Bool.true_and, Bool.and_true, Bool.false_and, Bool.and_false, decide_true, decide_false, ne_eq, not_true_eq_false, not_false_eq_true, eq_self, List.length_map, asg1, Nat.reduceEqDiff, srcX_fix, srcX_var, ev_loc, ev_lc, ev_lc2, ev_dc, ev_lofV, ev_int, ev_str, ev_bl, ev_non, ev_tup, ev_lst, ev_nbox, ev_dic, ev_bin, ev_neg, ev_cmp, ev_chn, ev_and, ev_or, ev_not, ev_ite, ev_ix, ev_sl, ev_rev, ev_fld, ev_bi, ev_isi, ev_sset, tst_and, tst_or, tst_not, tst_ite, itr_ex, itr_rng, itr_zip, itr_enum, itr_items, itr_vals, ex_asg, ex_asgT, ex_par, ex_asgI, ex_asgF, ex_aug, ex_ex, ex_ret, ex_iff, ex_for_, ex_whl, ex_pass, ex_stop, tst_loc, tst_glob, tst_int, tst_str, tst_bl, tst_non, tst_tup, tst_lst, tst_nbox, tst_dic, tst_bin, tst_neg, tst_cmp, tst_chn, tst_ix, tst_sl, tst_rev, tst_fld, tst_call, tst_callK, tst_bi, tst_isi, tst_sset, tst_lset, tst_lof, tst_meth, tst_lc, tst_lc2, tst_dc, tst_dc2, ec_tupled, ec_names_of, ec_above, ec_below_by, ec_products, ec_shapes, ec_greatest_by, ec_common, ec_fitting_by, ec_nearest_by, ec_torn_by, ec_shapes_of, ec_ups_of, ec_shape_of, ec_labels_of, ec_fitting, ec_nearest, ec_chosen, ec_torn, ec_greatest_torn, ec_meet, ec_cover, ec_is_under, ec_is_below, ec_shape_below, ec_law_box, ec_law_take, ec_law_cells, ec_law_of, ec_law_same, ec_law_shapes, ec_law_methods, ec_law_kinds, ec_law_up, ec_law_under, ec_law_calls, ec_law_right, ec_law_lists, ec_law_fits, ec_law_near, ec_law_chosen, ec_law_pairs, ec_law_generic, tr_bl, tr_int, tr_lst, tr_tup, tr_non, io_tup, io_lst, io_unlT, io_unlL, io_dK, bn_addI, bn_subI, bn_addT, bn_addL, bn_addS, or_lt, or_le, or_gt, or_ge, or_ltS, ix_lst, ix_tup, ix_dK, at_0, at_1, at_2, bi_allM, bi_anyM, bi_lenL, bi_lenT, bi_tupL, bi_tupT, bi_lstL, bi_lstT, bi_intI, bi_intB, cmp_in, cmp_notin, cmp_eq, cmp_ne, lf_bl, lf_int, lf_str, lf_non, lf_box, lf_lst, lf_dK, lf_tup, lf_lfS, lf_lfC, lf_lfN, sl_0, sl_1, sl_2, sl_3, sl_4, sl_5, sl_6, sl_7, sl_8, sl_9, sl_10, sl_11, sl_12, mt_pop, mt_app, mt_kpop, mt_kapp, mt_dapp, nm_list, nm_tuple, nm_int, nm_bool, nm_str, isi_tup, isi_lst])
theorem ek_is_kinds (C : CallF) (n : Nat) (s : St) (ws : List E) : ev C (n + 1) (.callK "is_kinds" [.str "thing"] ["thing"] ws) s = (evL (ev C n) ws s >>= fun p => args p.1 p.2 >>= fun q => C "is_kinds" (reordV ["thing"] ["thing"] q.1) q.2.b >>= fun r => some (called p.1 q.2 r)) := by
  rw [ev_callK, if_neg (by decide +kernel)]; rfl
theorem reoT (x : D) : reordV ["thing"] ["thing"] [x] = [x] := by
  unfold reordV
  simp only [List.zip_cons_cons, List.zip_nil_right, List.filterMap_cons, List.filterMap_nil, List.lookup_cons, beq_self_eq_true]
/-- what a row's check says of a row that passes -/
theorem row_shape {kn : List Str} {d : D} (h : rowB kn d = true) : ∃ (z : Str) (ss : List D) (c : Bool), d = .tup [.str z, .tup ss, .bl c] := by
  match d, h with
  | .tup [a, s, c], h =>
    have h : (isWordD a && !(nmIn kn a) && partB kn s && isBlD c) = true := h
    rw [Bool.and_eq_true, Bool.and_eq_true, Bool.and_eq_true] at h
    obtain ⟨⟨⟨h1, h2⟩, h3⟩, h4⟩ := h
    cases a <;> first | (cases h1; done) | skip
    cases s <;> first | (cases h3; done) | skip
    cases c <;> first | (cases h4; done) | skip
    exact ⟨_, _, _, rfl⟩
section
variable {T : Tbl} {n : Nat}
/-- the table holds what the program asks of kinds -/
structure PF (T : Tbl) : Prop where
  is_name : T.lookup ("is_name" : Str) = some F_is_name
  ascends : T.lookup ("ascends" : Str) = some F_ascends
  are_names_of : T.lookup ("are_names_of" : Str) = some F_are_names_of
  is_kind_row : T.lookup ("is_kind_row" : Str) = some F_is_kind_row
def bKind : List S := [.iff (.not (.call "is_kind_row" [.loc 2, .loc 1])) [.ret (.bl false)] [], .ex (.meth (.loc 1) "append" [.ix (.loc 2) (.int 0)])]
def F_is_kinds : FDef := ⟨.fn, 1, 3, [.iff (.or [.not (.isi (.loc 0) ["tuple"] false), .cmp .Eq (.bi "len" [.loc 0]) (.int 0)]) [.ret (.bl false)] [], .asg 1 (.lst []), .for_ (.nm 2) (.ex (.loc 0)) bKind, .ret (.bl true)]⟩
theorem loopK (P : PF T) {k : Nat} (hk : 10 ≤ k) {j B : Nat} (hB : B ≤ 10000) {d0 : D} {b : List (List Int)} : ∀ (xs : List D) (kn : List Str) (a2 : Option (D × Bool)), (∀ x ∈ xs, Th j B x) → (∀ z ∈ kn, nok z = true) → kn.length + xs.length ≤ 20000 →
    ∃ s', forL (forB (callAt T (n + 20) k) (n + 20) (n + 19) (.nm 2) bKind) xs ⟨[some (d0, false), some (.lst (kn.map .str), true), a2], b⟩ = some (if rowsB kn xs = true then Fl.nx else Fl.rt (.bl false) false, s') ∧ s'.b = b
  | [], kn, a2, _, _, _ => by
    refine ⟨⟨[some (d0, false), some (.lst (kn.map .str), true), a2], b⟩, ?_, rfl⟩
    show some (Fl.nx, _) = some (if rowsB kn [] = true then Fl.nx else Fl.rt (.bl false) false, _)
    have e0 : rowsB kn [] = true := rfl
    rw [if_pos e0]
  | x :: xs, kn, a2, hx, hkn, hz => by
    have cr := lv_row (n := n) P.is_name P.ascends P.are_names_of P.is_kind_row (hx x List.mem_cons_self) hB hkn k b (by omega)
    have hr : rowsB kn (x :: xs) = (rowB kn x && rowsB (kn ++ [keyD x]) xs) := rfl
    rw [List.length_cons] at hz
    cases q : rowB kn x with
    | false =>
      rw [q] at cr hr
      have step : ∃ s1, forB (callAt T (n + 20) k) (n + 20) (n + 19) (.nm 2) bKind x ⟨[some (d0, false), some (.lst (kn.map .str), true), a2], b⟩ = some (Fl.rt (.bl false) false, s1) ∧ s1.b = b := by
        unfold forB bKind
        (repeat (first | walk_at "ev" | simp only [ec_is_kind_row, cr]))
        exact ⟨_, rfl, rfl⟩
      obtain ⟨s1, h1, h2⟩ := step
      refine ⟨s1, ?_, h2⟩
      rw [hr, Bool.false_and]
      show (forB _ _ _ _ _ x _ >>= fun p => _) = _
      rw [h1]
      rfl
    | true =>
      rw [q] at cr hr
      obtain ⟨z, ss, c, rfl⟩ := row_shape q
      have hkl : kn.length < sizeLine := by rw [sizeLine_eq]; omega
      have hzn : nok z = true := by
        have := (hx _ List.mem_cons_self).th
        exact str_nok (thL_iff.mp (show thL [D.str z, .tup ss, .bl c] = true from this) (.str z) (by simp))
      have step : forB (callAt T (n + 20) k) (n + 20) (n + 19) (.nm 2) bKind (.tup [.str z, .tup ss, .bl c]) ⟨[some (d0, false), some (.lst (kn.map .str), true), a2], b⟩ = some (Fl.nx, ⟨[some (d0, false), some (.lst ((kn ++ [z]).map .str), true), some (.tup [.str z, .tup ss, .bl c], false)], b⟩) := by
        have hm : (kn ++ [z]).map D.str = kn.map D.str ++ [.str z] := by rw [List.map_append]; rfl
        rw [hm]
        unfold forB bKind
        (repeat (first | walk_at "ev" | simp only [ec_is_kind_row, cr, hkl]))
      obtain ⟨s', h1, h2⟩ := loopK P hk hB (d0 := d0) (b := b) xs (kn ++ [z]) (some (.tup [.str z, .tup ss, .bl c], false)) (fun y hy => hx y (List.mem_cons_of_mem _ hy)) (fun y hy => by
        rcases List.mem_append.mp hy with hy | hy
        · exact hkn y hy
        · rw [List.mem_singleton.mp hy]; exact hzn) (by rw [List.length_append, List.length_singleton]; omega)
      refine ⟨s', ?_, h2⟩
      rw [hr, Bool.true_and]
      show (forB _ _ _ _ _ _ _ >>= fun p => _) = _
      rw [step]
      exact h1
theorem lv_is_kinds (P : PF T) (hT : T.lookup ("is_kinds" : Str) = some F_is_kinds) {d : D} {j B : Nat} (h : Th j B d) (hB : B ≤ 10000) : Lv T (n + 20) 11 "is_kinds" [d] (.bl (kindsB d)) false := Lv.of hT rfl fun k b hk => by
  have hi := isi_tupD h.th
  cases ht : isTupD d with
  | false =>
    rw [ht] at hi
    have hr : kindsB d = false := by cases d <;> first | rfl | cases ht
    rw [hr]
    unfold runF F_is_kinds
    (repeat (first | walk_at "ev" | simp only [hi]))
  | true =>
    rw [ht] at hi
    cases d <;> first | (cases ht; done) | skip
    rename_i xs
    obtain ⟨j, rfl⟩ := h.pos
    have hp := h.parts
    have hxl : xs.length ≤ 10000 := by have := bkL_len xs; have := hp.bk; omega
    have e := eq_int (xs.length : Int) 0
    by_cases q : xs = []
    · subst q
      unfold runF F_is_kinds
      have e0 : eqD (.int ((0 : Nat) : Int)) (.int 0) = some true := by rw [eq_int]; rfl
      (repeat (first | walk_at "ev" | simp only [hi, e0]))
      rfl
    · have hne : xs.length ≠ 0 := fun z => q (List.length_eq_zero_iff.mp z)
      rw [decide_eq_false (by omega)] at e
      obtain ⟨s', h1, h2⟩ := loopK (n := n) P hk hB (d0 := .tup xs) (b := b) xs [] none (fun x hx => hp.mem hx) (fun z hz => by cases hz) (by rw [List.length_nil]; omega)
      have hkb : kindsB (.tup xs) = rowsB [] xs := by
        show (!xs.isEmpty && rowsB [] xs) = _
        cases xs with
        | nil => exact absurd rfl q
        | cons _ _ => rfl
      rw [hkb]
      rw [List.map_nil] at h1
      unfold runF F_is_kinds
      (repeat (first | walk_at "ev" | simp only [hi, e, h1]))
      cases r : rowsB [] xs with
      | false =>
        walk_at "ev"
        rw [h2]
      | true =>
        walk_at "ev"
        rw [h2]
/-! ### the law's own look -/
def F_law_is_word : FDef := ⟨.fn, 1, 2, [.iff (.or [.not (.isi (.loc 0) ["str"] false), .cmp .Lt (.bi "len" [.loc 0]) (.int 1), .cmp .Gt (.bi "len" [.loc 0]) (.int 8)]) [.ret (.bl false)] [], .ret (.bi "all" [.lc (.cmp .In (.loc 1) (.str "abcdefghijklmnopqrstuvwxyz")) (.mk (.nm 1) (.ex (.loc 0)) []) [1]])]⟩
theorem lv_isword (hT : T.lookup ("_law_is_word" : Str) = some F_law_is_word) {d : D} (h : thK d = true) : Lv T (n + 20) 1 "_law_is_word" [d] (.bl (isWordD d)) false := Lv.of hT rfl fun k b hk => by
  have hi := isi_strD h
  cases hs : isStrD d with
  | false =>
    rw [hs] at hi
    have hw : isWordD d = false := by cases d <;> first | rfl | cases hs
    rw [hw]
    unfold runF F_law_is_word
    (repeat (first | walk_at "ev" | simp only [hi]))
  | true =>
    cases d <;> first | (cases hs; done) | skip
    rename_i z
    have h9 := words_len z (of_decide_eq_true h)
    have hz : z.length ≤ sizeLine := by rw [sizeLine_eq]; omega
    have hln : biD "len" [.str z] = some (.int (z.length : Int), false) := by
      show (if z.length ≤ sizeLine then some (D.int (z.length : Int), false) else none) = _
      rw [if_pos hz]
    have hit : itemsOf (.str z) = some (z.cps.toList.map chr) := rfl
    have hl : z.cps.toList.length ≤ sizeLine := hz
    have ha := bi_allM okc z.cps.toList
    show runF _ _ _ _ _ = some (.bl (wordOk z), false, b)
    unfold runF F_law_is_word
    by_cases q1 : (z.length : Int) < 1
    · have hw : wordOk z = false := by
        unfold wordOk
        rw [decide_eq_false (by omega)]; rfl
      rw [hw]
      (repeat (first | walk_at "ev" | simp only [isi_s1, hln, q1]))
    · by_cases q2 : (8 : Int) < (z.length : Int)
      · have hw : wordOk z = false := by
          unfold wordOk
          rw [decide_eq_false (show ¬ z.length ≤ 8 by omega), Bool.and_false]; rfl
        rw [hw]
        (repeat (first | walk_at "ev" | simp only [isi_s1, hln, q1, q2]))
      · have hw : wordOk z = z.cps.toList.all okc := by
          unfold wordOk
          rw [decide_eq_true (by omega), decide_eq_true (by omega)]; rfl
        rw [hw]
        (repeat (first | walk_at "ev" | simp only [isi_s1, hln, q1, q2, hit]))
        rw [gats_map (f := chr) (g := fun c => [D.bl (okc c)]) (fun c hc => ?z)]
        case z =>
          have hin0 : inD (chr c) (.str letS) = some (okc c) := rfl
          have hin : inD (chr c) (.str "abcdefghijklmnopqrstuvwxyz") = some (okc c) := hin0
          (repeat (first | walk_at "ev" | simp only [hin]))
        rw [flat1]
        (repeat (first | walk_at "ev" | simp only [hl, ha]))
def bLaw : List S := [.iff (.or [.not (.isi (.loc 2) ["tuple"] false), .cmp .NotEq (.bi "len" [.loc 2]) (.int 3), .not (.call "_law_is_word" [.ix (.loc 2) (.int 0)]), .cmp .In (.ix (.loc 2) (.int 0)) (.loc 1)]) [.ret (.bl false)] [], .iff (.or [.not (.isi (.ix (.loc 2) (.int 1)) ["tuple"] false), .not (.bi "all" [.lc (.isi (.loc 3) ["str"] false) (.mk (.nm 3) (.ex (.ix (.loc 2) (.int 1))) []) [3]])]) [.ret (.bl false)] [], .iff (.or [.cmp .NotEq (.bi "list" [.ix (.loc 2) (.int 1)]) (.sset (.ix (.loc 2) (.int 1))), .cmp .NotEq (.lc (.loc 3) (.mk (.nm 3) (.ex (.ix (.loc 2) (.int 1))) [.cmp .NotIn (.loc 3) (.loc 1)]) [3]) (.lst [])]) [.ret (.bl false)] [], .iff (.not (.isi (.ix (.loc 2) (.int 2)) ["bool"] false)) [.ret (.bl false)] [], .ex (.meth (.loc 1) "append" [.ix (.loc 2) (.int 0)])]
def F_law_is_kinds : FDef := ⟨.fn, 1, 4, [.iff (.or [.not (.isi (.loc 0) ["tuple"] false), .cmp .Eq (.loc 0) (.tup [])]) [.ret (.bl false)] [], .asg 1 (.lst []), .for_ (.nm 2) (.ex (.loc 0)) bLaw, .ret (.bl true)]⟩
/-- one row, by the law -/
theorem rowL_step (hW : T.lookup ("_law_is_word" : Str) = some F_law_is_word) {k : Nat} (hk : 10 ≤ k) {j B : Nat} (hB : B ≤ 4000) {d0 d : D} {b : List (List Int)} (h : Th j B d) {kn : List Str} (hkn : ∀ z ∈ kn, nok z = true) (hkl : kn.length < 20000) (a2 a3 : Option (D × Bool)) :
    ∃ s1, forB (callAt T (n + 20) k) (n + 20) (n + 19) (.nm 2) bLaw d ⟨[some (d0, false), some (.lst (kn.map .str), true), a2, a3], b⟩ = some (if rowB kn d = true then Fl.nx else Fl.rt (.bl false) false, s1) ∧ s1.b = b ∧ (rowB kn d = true → s1 = ⟨[some (d0, false), some (.lst ((kn ++ [keyD d]).map .str), true), some (d, false), a3], b⟩) := by
  have hi := isi_tupD h.th
  have hks : kn.length < sizeLine := by rw [sizeLine_eq]; omega
  cases ht : isTupD d with
  | false =>
    rw [ht] at hi
    have hr : rowB kn d = false := by cases d <;> first | rfl | cases ht
    rw [hr]
    unfold forB bLaw
    (repeat (first | walk_at "ev" | simp only [hi]))
    exact ⟨_, rfl, rfl, fun q => by cases q⟩
  | true =>
    rw [ht] at hi
    cases d <;> first | (cases ht; done) | skip
    rename_i xs
    obtain ⟨j, rfl⟩ := h.pos
    have hp := h.parts
    by_cases h3 : xs.length = 3
    · match xs, h3, hi, hp with
      | [a, s, c], h33, hi, hp =>
        have ta := hp.th a (by simp)
        have ts := hp.th s (by simp)
        have tc := hp.th c (by simp)
        have e3 : eqD (.int ((3 : Nat) : Int)) (.int 3) = some true := by rw [eq_int]; rfl
        have cn := lv_isword (n := n) hW ta k b (by omega)
        have at2 : L2.atI [a, s, c] 2 = some c := rfl
        have hr : rowB kn (.tup [a, s, c]) = (isWordD a && !(nmIn kn a) && partB kn s && isBlD c) := rfl
        unfold forB bLaw
        cases wa : isWordD a with
        | false =>
          rw [wa] at cn hr
          have hV : rowB kn (.tup [a, s, c]) = false := by rw [hr]; rfl
          rw [hV]
          (repeat (first | walk_at "ev" | simp only [hi, e3, ec_law_is_word, cn]))
          exact ⟨_, rfl, rfl, fun q => by cases q⟩
        | true =>
          rw [wa] at cn hr
          cases a <;> first | (cases wa; done) | skip
          rename_i z
          have hin := in_str z kn (str_nok ta) (List.all_eq_true.mpr hkn)
          have hnm : nmIn kn (.str z) = decide (z ∈ kn) := rfl
          rw [hnm] at hr
          by_cases q : z ∈ kn
          · rw [decide_eq_true q] at hin hr
            have hV : rowB kn (.tup [.str z, s, c]) = false := by rw [hr]; rfl
            rw [hV]
            (repeat (first | walk_at "ev" | simp only [hi, e3, ec_law_is_word, cn, hin]))
            exact ⟨_, rfl, rfl, fun q => by cases q⟩
          · rw [decide_eq_false q] at hin hr
            replace hr : rowB kn (.tup [.str z, s, c]) = (partB kn s && isBlD c) := by rw [hr]; rfl
            have si := isi_tupD ts
            have hc := isi_blD tc
            cases hst : isTupD s with
            | false =>
              rw [hst] at si
              have hpb : partB kn s = false := by cases s <;> first | rfl | cases hst
              have hV : rowB kn (.tup [.str z, s, c]) = false := by rw [hr, hpb]; rfl
              rw [hV]
              (repeat (first | walk_at "ev" | simp only [hi, e3, ec_law_is_word, cn, hin, si]))
              exact ⟨_, rfl, rfl, fun q => by cases q⟩
            | true =>
              rw [hst] at si
              cases s <;> first | (cases hst; done) | skip
              rename_i ss
              have hss := thL_iff.mp (show thL ss = true from ts)
              have sl : ss.length ≤ 4000 := by
                have hs := (hp.mem (x := .tup ss) (by simp))
                obtain ⟨j2, rfl⟩ := hs.pos
                have := hs.parts.bk
                have := bkL_len ss
                omega
              have sls : ss.length ≤ sizeLine := by rw [sizeLine_eq]; omega
              have ha := bi_allM isStrD ss
              have hpb : partB kn (.tup ss) = (ss.all (nmIn kn) && ascD ss) := rfl
              rw [hpb] at hr
              (repeat (first | walk_at "ev" | simp only [hi, e3, ec_law_is_word, cn, hin, si]))
              rewrite [gats_id (g := fun x : D => [D.bl (isStrD x)]) (fun x hx => ?z1), flat1]
              case z1 => (repeat (first | walk_at "ev" | simp only [isi_strD (hss x hx)]))
              cases r1 : ss.all isStrD with
              | false =>
                rw [r1] at ha
                have hno : ss.all (nmIn kn) = false := by
                  cases e : ss.all (nmIn kn) with
                  | false => rfl
                  | true => rw [names_strs e] at r1; cases r1
                have hV : rowB kn (.tup [.str z, .tup ss, c]) = false := by rw [hr, hno]; rfl
                rw [hV]
                (repeat (first | walk_at "ev" | simp only [sls, ha, r1]))
                exact ⟨_, rfl, rfl, fun q => by cases q⟩
              | true =>
                rw [r1] at ha
                obtain ⟨zs, rfl, hzs⟩ := strs_allD r1
                rw [List.length_map] at sl sls
                have znok : ∀ y ∈ zs, nok y = true := fun y hy => str_nok (hss (.str y) (List.mem_map.mpr ⟨y, hy, rfl⟩))
                have had : ascD (zs.map D.str) = decide (zs = ssrt zs) := by unfold ascD; rw [hzs]; exact asc_srt zs
                rw [had] at hr
                have hsb : zs.length + 1 < scanBound := Nat.lt_of_le_of_lt (by omega : zs.length + 1 ≤ 4001) (by decide)
                have e1 := eq_lstr zs (ssrt zs) (List.all_eq_true.mpr znok) (List.all_eq_true.mpr fun y hy => znok y ((ssrt_mem zs).mp hy))
                by_cases p1 : zs = ssrt zs
                · rw [decide_eq_true p1] at e1 hr
                  have e2 := eq_lstr0 (zs.filter fun y => !decide (y ∈ kn)) (List.all_eq_true.mpr fun y hy => znok y (List.mem_filter.mp hy).1)
                  have fl : (zs.filter fun y => !decide (y ∈ kn)).length ≤ sizeLine := Nat.le_trans (List.length_filter_le _ _) sls
                  (repeat (first | walk_at "ev" | simp only [sls, ha, r1, bi_listT, hsb, e1]))
                  rewrite [gats_map (f := D.str) (g := fun y : Str => if (!decide (y ∈ kn)) = true then [D.str y] else []) (fun y hy => ?z2), flatIf (fun y : Str => !decide (y ∈ kn)) D.str]
                  case z2 =>
                    have hi2 := in_str y kn (znok y hy) (List.all_eq_true.mpr hkn)
                    by_cases r2 : y ∈ kn
                    · rw [decide_eq_true r2] at hi2
                      (repeat (first | walk_at "ev" | simp only [hi2, r2]))
                    · rw [decide_eq_false r2] at hi2
                      (repeat (first | walk_at "ev" | simp only [hi2, r2]))
                  by_cases p2 : (zs.filter fun y => !decide (y ∈ kn)) = []
                  · rw [decide_eq_true p2] at e2
                    have hyes : (zs.map D.str).all (nmIn kn) = true := by
                      rw [List.all_map, List.all_eq_true]
                      intro y hy
                      have := List.filter_eq_nil_iff.mp p2 y hy
                      show decide (y ∈ kn) = true
                      simpa using this
                    have hV : rowB kn (.tup [.str z, .tup (zs.map .str), c]) = isBlD c := by rw [hr, hyes]; rfl
                    rw [hV]
                    cases hb : isBlD c with
                    | false =>
                      rw [hb] at hc
                      (repeat (first | walk_at "ev" | simp only [fl, e2, at2, hc]))
                      exact ⟨_, rfl, rfl, fun q => by cases q⟩
                    | true =>
                      rw [hb] at hc
                      have hm : (kn ++ [keyD (.tup [.str z, .tup (zs.map .str), c])]).map D.str = kn.map D.str ++ [.str z] := by rw [List.map_append]; rfl
                      rw [hm]
                      (repeat (first | walk_at "ev" | simp only [fl, e2, at2, hc, hks]))
                      exact ⟨_, rfl, rfl, fun _ => rfl⟩
                  · rw [decide_eq_false p2] at e2
                    have hno : (zs.map D.str).all (nmIn kn) = false := by
                      cases e : (zs.map D.str).all (nmIn kn) with
                      | false => rfl
                      | true =>
                        refine absurd (List.filter_eq_nil_iff.mpr fun y hy => ?_) p2
                        have := List.all_eq_true.mp e (.str y) (List.mem_map.mpr ⟨y, hy, rfl⟩)
                        have this : decide (y ∈ kn) = true := this
                        rw [this]; simp
                    have hV : rowB kn (.tup [.str z, .tup (zs.map .str), c]) = false := by rw [hr, hno]; rfl
                    rw [hV]
                    (repeat (first | walk_at "ev" | simp only [fl, e2]))
                    exact ⟨_, rfl, rfl, fun q => by cases q⟩
                · rw [decide_eq_false p1] at e1 hr
                  have hV : rowB kn (.tup [.str z, .tup (zs.map .str), c]) = false := by rw [hr, Bool.and_false]; rfl
                  rw [hV]
                  (repeat (first | walk_at "ev" | simp only [sls, ha, r1, bi_listT, hsb, e1]))
                  exact ⟨_, rfl, rfl, fun q => by cases q⟩
    · have e := eq_int (xs.length : Int) 3
      rw [decide_eq_false (by omega)] at e
      have hr : rowB kn (.tup xs) = false := by
        match xs, h3 with
        | [], _ => rfl
        | [_], _ => rfl
        | [_, _], _ => rfl
        | [_, _, _], h => exact absurd rfl h
        | _ :: _ :: _ :: _ :: _, _ => rfl
      rw [hr]
      unfold forB bLaw
      (repeat (first | walk_at "ev" | simp only [hi, e]))
      exact ⟨_, rfl, rfl, fun q => by cases q⟩
theorem loopL (hW : T.lookup ("_law_is_word" : Str) = some F_law_is_word) {k : Nat} (hk : 10 ≤ k) {j B : Nat} (hB : B ≤ 4000) {d0 : D} {b : List (List Int)} : ∀ (xs : List D) (kn : List Str) (a2 a3 : Option (D × Bool)), (∀ x ∈ xs, Th j B x) → (∀ z ∈ kn, nok z = true) → kn.length + xs.length < 20000 →
    ∃ s', forL (forB (callAt T (n + 20) k) (n + 20) (n + 19) (.nm 2) bLaw) xs ⟨[some (d0, false), some (.lst (kn.map .str), true), a2, a3], b⟩ = some (if rowsB kn xs = true then Fl.nx else Fl.rt (.bl false) false, s') ∧ s'.b = b
  | [], kn, a2, a3, _, _, _ => by
    refine ⟨⟨[some (d0, false), some (.lst (kn.map .str), true), a2, a3], b⟩, ?_, rfl⟩
    show some (Fl.nx, _) = some (if rowsB kn [] = true then Fl.nx else Fl.rt (.bl false) false, _)
    have e0 : rowsB kn [] = true := rfl
    rw [if_pos e0]
  | x :: xs, kn, a2, a3, hx, hkn, hz => by
    rw [List.length_cons] at hz
    obtain ⟨s1, h1, h2, h3⟩ := rowL_step (n := n) hW hk hB (d0 := d0) (b := b) (hx x List.mem_cons_self) hkn (by omega) a2 a3
    have hr : rowsB kn (x :: xs) = (rowB kn x && rowsB (kn ++ [keyD x]) xs) := rfl
    cases q : rowB kn x with
    | false =>
      rw [q] at h1 hr
      refine ⟨s1, ?_, h2⟩
      rw [hr, Bool.false_and]
      show (forB _ _ _ _ _ x _ >>= fun p => _) = _
      rw [h1]
      rfl
    | true =>
      rw [q] at h1 hr
      have h3 := h3 q
      subst h3
      obtain ⟨z, ss, c, rfl⟩ := row_shape q
      have hzn : nok z = true := str_nok (thL_iff.mp (show thL [D.str z, .tup ss, .bl c] = true from (hx _ List.mem_cons_self).th) (.str z) (by simp))
      obtain ⟨s', h4, h5⟩ := loopL hW hk hB (d0 := d0) (b := b) xs (kn ++ [z]) (some (.tup [.str z, .tup ss, .bl c], false)) a3 (fun y hy => hx y (List.mem_cons_of_mem _ hy)) (fun y hy => by
        rcases List.mem_append.mp hy with hy | hy
        · exact hkn y hy
        · rw [List.mem_singleton.mp hy]; exact hzn) (by rw [List.length_append, List.length_singleton]; omega)
      refine ⟨s', ?_, h5⟩
      rw [hr, Bool.true_and]
      show (forB _ _ _ _ _ _ _ >>= fun p => _) = _
      rw [h1]
      exact h4
theorem lv_law_is_kinds (hW : T.lookup ("_law_is_word" : Str) = some F_law_is_word) (hT : T.lookup ("_law_is_kinds" : Str) = some F_law_is_kinds) {d : D} {j B : Nat} (h : Th j B d) (hj : j ≤ 60) (hB : B ≤ 4000) : Lv T (n + 20) 11 "_law_is_kinds" [d] (.bl (kindsB d)) false := Lv.of hT rfl fun k b hk => by
  have hi := isi_tupD h.th
  cases ht : isTupD d with
  | false =>
    rw [ht] at hi
    have hr : kindsB d = false := by cases d <;> first | rfl | cases ht
    rw [hr]
    unfold runF F_law_is_kinds
    (repeat (first | walk_at "ev" | simp only [hi]))
  | true =>
    rw [ht] at hi
    cases d <;> first | (cases ht; done) | skip
    rename_i xs
    have hsh := h.sh hj
    obtain ⟨j, rfl⟩ := h.pos
    have hp := h.parts
    have hxl : xs.length ≤ 10000 := by have := bkL_len xs; have := hp.bk; omega
    have e : eqD (.tup xs) (.tup []) = some (decide (xs = [])) := by
      unfold eqD
      rw [hsh]
      show (if (true && true) = true then some (PyData.eqv (.tuple (pyL xs)) (.tuple [])) else none) = _
      cases xs with
      | nil => rfl
      | cons x xs => rfl
    by_cases q : xs = []
    · subst q
      unfold runF F_law_is_kinds
      (repeat (first | walk_at "ev" | simp only [hi, e]))
      rfl
    · rw [decide_eq_false q] at e
      obtain ⟨s', h1, h2⟩ := loopL (n := n) hW hk hB (d0 := .tup xs) (b := b) xs [] none none (fun x hx => hp.mem hx) (fun z hz => by cases hz) (by rw [List.length_nil]; omega)
      have hkb : kindsB (.tup xs) = rowsB [] xs := by
        show (!xs.isEmpty && rowsB [] xs) = _
        cases xs with
        | nil => exact absurd rfl q
        | cons _ _ => rfl
      rw [hkb]
      rw [List.map_nil] at h1
      unfold runF F_law_is_kinds
      (repeat (first | walk_at "ev" | simp only [hi, e, h1]))
      cases r : rowsB [] xs with
      | false =>
        walk_at "ev"
        rw [h2]
      | true =>
        walk_at "ev"
        rw [h2]
end
end Mp
set_option pp.maxSteps 300
/-! Mq, k10: a thing bent; by hand. -/
namespace Mp
open PySem L2
local macro_rules | `(tactic| walk_at "ev") => `(tactic| simp only [sb, nb, List.length_cons, List.length_nil, Nat.zero_add, Nat.reduceAdd, Nat.reduceSub, if_true, initSt, runL, evL, takes, take, dsOf, Tmp.d, List.map_cons, List.map_nil, List.cons_append, List.nil_append, List.replicate_succ, List.replicate_zero, st_get0, stepB, bindT, slotsT, bodyL, tests, St.wipe, St.back, List.foldr_cons, List.foldr_nil, List.foldl_cons, List.foldl_nil, List.zip_cons_cons, List.zip_nil_right, args, arg, called, asgs, setl, puts, St.frz, St.frzs, varsOf, optD, body2, bodyK, Option.isSome_some, Bool.true_eq_false, Bool.false_eq_true, if_false, Option.map_some, Bool.not_true, Bool.not_false, strsOf_map, strsOf_cons, sd_dK, sd_lst, andT, orT, andV, orV, gt1, gt2, gt3, gt4, gt5, gt6, gt7, gt8, gt9, gt10, gt11, gt12, pu0, pu1, pu2, pu3, pu4, pu5, pu6, pu7, pu8, pu9, pu10, pu11, pu12, se0, se1, se2, se3, se4, se5, se6, se7, se8, se9, se10, se11, se12, List.getD_cons_zero, List.getD_cons_succ, in_lst, in_tup, ite_self, Bool.and_self, Bool.true_and, Bool.and_true, Bool.false_and, Bool.and_false, decide_true, decide_false, ne_eq, not_true_eq_false, not_false_eq_true, eq_self, List.length_map, asg1, Nat.reduceEqDiff, srcX_fix, srcX_var, ev_loc, ev_lc, ev_lc2, ev_dc, ev_lofV, ev_int, ev_str, ev_bl, ev_non, ev_tup, ev_lst, ev_nbox, ev_dic, ev_bin, ev_neg, ev_cmp, ev_chn, ev_and, ev_or, ev_not, ev_ite, ev_ix, ev_sl, ev_rev, ev_fld, ev_bi, ev_isi, ev_sset, tst_and, tst_or, tst_not, tst_ite, itr_ex, itr_rng, itr_zip, itr_enum, itr_items, itr_vals, ex_asg, ex_asgT, ex_par, ex_asgI, ex_asgF, ex_aug, ex_ex, ex_ret, ex_iff, ex_for_, ex_whl, ex_pass, ex_stop, tst_loc, tst_glob, tst_int, tst_str, tst_bl, tst_non, tst_tup, tst_lst, tst_nbox, tst_dic, tst_bin, tst_neg, tst_cmp, tst_chn, tst_ix, tst_sl, tst_rev, tst_fld, tst_call, tst_callK, tst_bi, tst_isi, tst_sset, tst_lset, tst_lof, tst_meth, tst_lc, tst_lc2, tst_dc, tst_dc2, ec_tupled, ec_names_of, ec_above, ec_below_by, ec_products, ec_shapes, ec_greatest_by, ec_common, ec_fitting_by, ec_nearest_by, ec_torn_by, ec_shapes_of, ec_ups_of, ec_shape_of, ec_labels_of, ec_fitting, ec_nearest, ec_chosen, ec_torn, ec_greatest_torn, ec_meet, ec_cover, ec_is_under, ec_is_below, ec_shape_below, ec_law_box, ec_law_take, ec_law_cells, ec_law_of, ec_law_same, ec_law_shapes, ec_law_methods, ec_law_kinds, ec_law_up, ec_law_under, ec_law_calls, ec_law_right, ec_law_lists, ec_law_fits, ec_law_near, ec_law_chosen, ec_law_pairs, ec_law_generic, tr_bl, tr_int, tr_lst, tr_tup, tr_non, io_tup, io_lst, io_unlT, io_unlL, io_dK, bn_addI, bn_subI, bn_addT, bn_addL, bn_addS, or_lt, or_le, or_gt, or_ge, or_ltS, ix_lst, ix_tup, ix_dK, at_0, at_1, at_2, bi_allM, bi_anyM, bi_lenL, bi_lenT, bi_tupL, bi_tupT, bi_lstL, bi_lstT, bi_intI, bi_intB, cmp_in, cmp_notin, cmp_eq, cmp_ne, lf_bl, lf_int, lf_str, lf_non, lf_box, lf_lst, lf_dK, lf_tup, lf_lfS, lf_lfC, lf_lfN, sl_0, sl_1, sl_2, sl_3, sl_4, sl_5, sl_6, sl_7, sl_8, sl_9, sl_10, sl_11, sl_12, mt_pop, mt_app, mt_kpop, mt_kapp, mt_dapp, nm_list, nm_tuple, nm_int, nm_bool, nm_str, isi_tup, isi_lst])
theorem ec_law_bent (C : CallF) (n : Nat) (s : St) (es : List E) : ev C (n + 1) (.call (Str.ofString "_law_bent") es) s = (evL (ev C n) es s >>= fun p => args p.1 p.2 >>= fun q => C (Str.ofString "_law_bent") q.1 q.2.b >>= fun r => some (called p.1 q.2 r)) := by
  rw [ev_call, if_neg (by decide +kernel)]
theorem ec_law_by_hand (C : CallF) (n : Nat) (s : St) (es : List E) : ev C (n + 1) (.call (Str.ofString "_law_by_hand") es) s = (evL (ev C n) es s >>= fun p => args p.1 p.2 >>= fun q => C (Str.ofString "_law_by_hand") q.1 q.2.b >>= fun r => some (called p.1 q.2 r)) := by
  rw [ev_call, if_neg (by decide +kernel)]
theorem forL_id {step : D → St → Option (Fl × St)} {s0 : St} {o : Option (Fl × St)} {xs : List D} (hf : forL step xs s0 = o) (I : List D → St → Prop) (h0 : I [] s0)
    (hs : ∀ x rest done s, xs = done ++ x :: rest → I done s → Goes (step x s) (I (done ++ [x]))) : ∃ s', o = some (.nx, s') ∧ I xs s' := forL_go (f := fun d : D => d) (by rw [List.map_id']; exact hf) I h0 hs
/-! ### slices of tuples -/
theorem st_to (xs : List D) {j : Nat} (h : j ≤ xs.length) : slD (.tup xs) none (some (j : Int)) = some (.tup (xs.take j), false) := by
  show some (D.tup ((xs.drop 0).take (HT.sIx xs.length xs.length (some (j : Int)) - 0)), false) = _
  rw [HT.sIx_nat, Nat.min_eq_left h, List.drop_zero, Nat.sub_zero]
theorem st_from (xs : List D) (j : Nat) : slD (.tup xs) (some (j : Int)) none = some (.tup (xs.drop j), false) := by
  show some (D.tup ((xs.drop (HT.sIx xs.length 0 (some (j : Int)))).take (xs.length - HT.sIx xs.length 0 (some (j : Int)))), false) = _
  rw [HT.sIx_nat]
  have : (xs.drop (min j xs.length)).take (xs.length - min j xs.length) = xs.drop j := by
    rw [List.take_of_length_le (by rw [List.length_drop]; exact Nat.le_refl _)]
    rcases Nat.le_total j xs.length with h | h
    · rw [Nat.min_eq_left h]
    · rw [Nat.min_eq_right h, List.drop_length, List.drop_eq_nil_of_le h]
  rw [this]
theorem st_from1 (xs : List D) (j : Nat) : slD (.tup xs) (some ((j : Int) + 1)) none = some (.tup (xs.drop (j + 1)), false) := st_from xs (j + 1)
theorem st_init (ys : List D) (x : D) : slD (.tup (ys ++ [x])) none (some (-1)) = some (.tup ys, false) := by
  show some (D.tup (((ys ++ [x]).drop 0).take (((-1 : Int) + ((ys ++ [x]).length : Int)).toNat - 0)), false) = _
  have : ((-1 : Int) + ((ys ++ [x]).length : Int)).toNat - 0 = ys.length := by
    rw [List.length_append, List.length_singleton]; omega
  rw [this, List.drop_zero, List.take_left]
theorem st_last (ys : List D) (x : D) : slD (.tup (ys ++ [x])) (some (-1)) none = some (.tup [x], false) := by
  show some (D.tup (((ys ++ [x]).drop ((-1 : Int) + ((ys ++ [x]).length : Int)).toNat).take ((ys ++ [x]).length - ((-1 : Int) + ((ys ++ [x]).length : Int)).toNat)), false) = _
  have : ((-1 : Int) + ((ys ++ [x]).length : Int)).toNat = ys.length := by
    rw [List.length_append, List.length_singleton]; omega
  rw [this, List.drop_left, List.take_of_length_le (by rw [List.length_append, List.length_singleton]; simp)]
/-! ### the things that a part may become -/
def moreD : D := .tup [.str "a", .tup [], .bl false]
def odds : List D := [.int 0, .int 1, .int (-1), .non, .bl true, .bl false, .str "", .str "a", .str "b", .str "zzzzzzzz", .str "zzzzzzzzz", .str "A", .str "a1", .str "a\n", .tup [], .tup [.str "a"], moreD]
theorem odds_ok : ∀ d ∈ odds, Th 2 30 d := by
  have h : (odds.all fun d => thK d && decide (d.py.depth ≤ 2) && decide (d.py.bulk ≤ 30)) = true := by decide +kernel
  intro d hd
  have := List.all_eq_true.mp h d hd
  rw [Bool.and_eq_true, Bool.and_eq_true, decide_eq_true_eq, decide_eq_true_eq] at this
  exact ⟨this.1.1, this.1.2, this.2⟩
theorem bkL_take (xs : List D) (j : Nat) : bkL (xs.take j) ≤ bkL xs := by
  conv => rhs; rw [← List.take_append_drop j xs]
  rw [bkL_app]; omega
theorem bkL_drop (xs : List D) (j : Nat) : bkL (xs.drop j) ≤ bkL xs := by
  conv => rhs; rw [← List.take_append_drop j xs]
  rw [bkL_app]; omega
theorem ThL.take {k B : Nat} {xs : List D} (h : ThL k B xs) (j : Nat) : ThL k B (xs.take j) := ⟨fun x hx => h.th x (List.mem_of_mem_take hx), fun x hx => h.dp x (List.mem_of_mem_take hx), Nat.le_trans (bkL_take xs j) h.bk⟩
theorem ThL.drop {k B : Nat} {xs : List D} (h : ThL k B xs) (j : Nat) : ThL k B (xs.drop j) := ⟨fun x hx => h.th x (List.mem_of_mem_drop hx), fun x hx => h.dp x (List.mem_of_mem_drop hx), Nat.le_trans (bkL_drop xs j) h.bk⟩
theorem bkL_rev (xs : List D) : bkL xs.reverse = bkL xs := by
  unfold bkL
  rw [List.map_reverse, List.sum_reverse]
theorem ThL.rev {k B : Nat} {xs : List D} (h : ThL k B xs) : ThL k B xs.reverse := ⟨fun x hx => h.th x (List.mem_reverse.mp hx), fun x hx => h.dp x (List.mem_reverse.mp hx), by rw [bkL_rev]; exact h.bk⟩
theorem ThL.mono {k B k' B' : Nat} {xs : List D} (h : ThL k B xs) (hk : k ≤ k') (hB : B ≤ B') : ThL k' B' xs := ⟨h.th, fun x hx => Nat.le_trans (h.dp x hx) hk, Nat.le_trans h.bk hB⟩
theorem Th.one {k B : Nat} {d : D} (h : Th k B d) : ThL k (B + 1) [d] := ⟨fun x hx => by rw [List.mem_singleton.mp hx]; exact h.th, fun x hx => by rw [List.mem_singleton.mp hx]; exact h.dp, by
  have := h.bk
  show (List.map (fun x : D => x.py.bulk + 1) [d]).sum ≤ B + 1
  simp; exact this⟩
/-- what a tuple may become as a whole -/
def wholes (xs : List D) : List D := [.lst xs, .tup xs.dropLast, .tup (xs ++ xs.drop (xs.length - 1)), .tup xs.reverse, .tup [.tup xs]]
theorem wholes_ok {j B : Nat} {xs : List D} (h : ThL j B xs) : ∀ d ∈ wholes xs, Th (j + 2) (2 * B + 30) d := by
  intro d hd
  unfold wholes at hd
  simp only [List.mem_cons, List.not_mem_nil, or_false] at hd
  rcases hd with rfl | rfl | rfl | rfl | rfl
  · exact h.lst.mono (by omega) (by omega)
  · have : xs.dropLast = xs.take (xs.length - 1) := List.dropLast_eq_take
    rw [this]
    exact (h.take _).tup.mono (by omega) (by omega)
  · exact (h.app (h.drop _)).tup.mono (by omega) (by omega)
  · exact h.rev.tup.mono (by omega) (by omega)
  · exact h.tup.one.tup.mono (by omega) (by omega)
section
variable {T : Tbl} {n : Nat}
def bentIf : S := .iff (.and [.isi (.loc 1) ["tuple"] false, .cmp .NotEq (.loc 1) (.tup []), .cmp .Gt (.call "_law_take" [.loc 0, .int 5]) (.int 0)]) [.asg 3 (.call "_law_take" [.loc 0, .bi "len" [.loc 1]]), .ret (.bin .Add (.bin .Add (.sl (.loc 1) none (some (.loc 3))) (.tup [.call "_law_bent" [.loc 0, .ix (.loc 1) (.loc 3), .loc 2]])) (.sl (.loc 1) (some (.bin .Add (.loc 3) (.int 1))) none))] []
def bentRest : List S := [.asg 4 (.bin .Add (.lst [.int 0, .int 1, .neg (.int 1), .non, .bl true, .bl false, .str "", .str "a", .str "b", .str "zzzzzzzz", .str "zzzzzzzzz", .str "A", .str "a1", .str "a\n", .tup [], .tup [.str "a"]]) (.loc 2)), .iff (.isi (.loc 1) ["tuple"] false) [.asg 4 (.bin .Add (.loc 4) (.lst [.bi "list" [.loc 1], .sl (.loc 1) none (some (.neg (.int 1))), .bin .Add (.loc 1) (.sl (.loc 1) (some (.neg (.int 1))) none), .rev (.loc 1), .tup [.loc 1]]))] [], .ret (.call "_law_of" [.loc 0, .loc 4])]
def F_law_bent : FDef := ⟨.fn, 3, 5, bentIf :: bentRest⟩
theorem whole_sl (xs : List D) : slD (.tup xs) none (some (-1)) = some (.tup xs.dropLast, false) ∧ slD (.tup xs) (some (-1)) none = some (.tup (xs.drop (xs.length - 1)), false) := by
  rcases List.eq_nil_or_concat xs with rfl | ⟨ys, x, rfl⟩
  · exact ⟨rfl, rfl⟩
  · rw [List.concat_eq_append]
    refine ⟨?_, ?_⟩
    · rw [st_init, List.dropLast_concat]
    · rw [st_last, List.length_append, List.length_singleton, Nat.add_sub_cancel, List.drop_left]
theorem les_17 : (17 ≤ sizeLine) = True := by rw [sizeLine_eq]; simp
theorem les_22 : (22 ≤ sizeLine) = True := by rw [sizeLine_eq]; simp
theorem les_16 : (16 ≤ sizeLine) = True := by rw [sizeLine_eq]; simp
/-- one of the odd things, or the whole otherwise -/
theorem bent_tail (hK : T.lookup ("_law_take" : Str) = some F_law_take) (hO : T.lookup ("_law_of" : Str) = some F_law_of) {j B : Nat} {d : D} {i k : Nat} {b : List (List Int)} {μ : Int} (h : Th j B d) (hB : B ≤ 10000) (hk : 4 ≤ k) (hb : BX b i μ) (hμ : μ < 2 ^ 39) :
    ∃ d' s', runL (ex (callAt T (n + 20) k) (n + 20) (n + 20)) bentRest ⟨[some (.box i, false), some (d, false), some (.lst [moreD], false), none, none], b⟩ = some (.rt d' false, s') ∧ Th (j + 2) (2 * B + 30) d' ∧ BX s'.b i (μ + 1) := by
  have hi := isi_tupD h.th
  have hod : [D.int 0, .int 1, .int (-1), .non, .bl true, .bl false, .str "", .str "a", .str "b", .str "zzzzzzzz", .str "zzzzzzzzz", .str "A", .str "a1", .str "a\n", .tup [], .tup [.str "a"], moreD] = odds := rfl
  have ol : odds.length = 17 := rfl
  cases ht : isTupD d with
  | false =>
    rw [ht] at hi
    obtain ⟨d', b', c1, hd, hb'⟩ := lv_of (n := n) hK hO (xs := odds) (by decide) (by decide) (m := k) (by omega) hb (by omega)
    unfold bentRest
    (repeat (first | walk_at "ev" | simp only [les_16, les_17]))
    rw [hod]
    (repeat (first | walk_at "ev" | simp only [hi, c1]))
    exact ⟨_, _, rfl, (odds_ok d' hd).mono (by omega) (by omega), hb'⟩
  | true =>
    rw [ht] at hi
    cases d <;> first | (cases ht; done) | skip
    rename_i xs
    obtain ⟨j, rfl⟩ := h.pos
    have hp := h.parts
    have hxl : xs.length ≤ 10000 := by have := bkL_len xs; have := hp.bk; omega
    obtain ⟨w1, w2⟩ := whole_sl xs
    have hl2 : xs.length + (xs.length - (xs.length - 1)) ≤ sizeLine := by rw [sizeLine_eq]; omega
    have hwh : [D.lst xs, .tup xs.dropLast, .tup (xs ++ xs.drop (xs.length - 1)), .tup xs.reverse, .tup [.tup xs]] = wholes xs := rfl
    have wl : (wholes xs).length = 5 := rfl
    have hal : (odds ++ wholes xs).length < 100000 := by rw [List.length_append, ol, wl]; decide
    have hap : 0 < (odds ++ wholes xs).length := by rw [List.length_append, ol, wl]; decide
    obtain ⟨d', b', c1, hd, hb'⟩ := lv_of (n := n) hK hO (xs := odds ++ wholes xs) hap hal (m := k) (by omega) hb (by omega)
    unfold bentRest
    (repeat (first | walk_at "ev" | simp only [les_16, les_17]))
    rw [hod]
    (repeat (first | walk_at "ev" | simp only [hi, bi_listT, w1, w2, hl2, List.length_drop]))
    rw [hwh]
    (repeat (first | walk_at "ev" | simp only [ol, wl, les_22, c1]))
    refine ⟨_, _, rfl, ?_, hb'⟩
    rcases List.mem_append.mp hd with hd | hd
    · exact (odds_ok d' hd).mono (by omega) (by omega)
    · exact (wholes_ok hp d' hd).mono (by omega) (by omega)
theorem lv_bent (hK : T.lookup ("_law_take" : Str) = some F_law_take) (hO : T.lookup ("_law_of" : Str) = some F_law_of) (hT : T.lookup ("_law_bent" : Str) = some F_law_bent) : ∀ (j B : Nat) (d : D) {i : Nat} {m : Nat} {b : List (List Int)} {μ : Int}, Th j B d → j ≤ 50 → B ≤ 10000 → j + 6 ≤ m → BX b i μ → μ + 3 * j < 2 ^ 38 →
    ∃ d' b', callAt T (n + 20) m "_law_bent" [.box i, d, .lst [moreD]] b = some (d', false, b') ∧ Th (j + 3) (2 * B + 30) d' ∧ BX b' i (μ + 3 * j + 3) := by
  intro j
  induction j with
  | zero =>
    intro B d i m b μ h hj hB hm hb hμ
    obtain ⟨k, rfl⟩ : ∃ k, m = k + 1 := ⟨m - 1, by omega⟩
    rw [callAt_fn hT rfl]
    have ht : isTupD d = false := by
      cases d <;> first | rfl | skip
      obtain ⟨j, e⟩ := h.pos
      cases e
    have hi := isi_tupD h.th
    rw [ht] at hi
    obtain ⟨d', s', h1, h2, h3⟩ := bent_tail (n := n) hK hO (k := k) h hB (by omega) hb (by omega)
    have h0 : ex (callAt T (n + 20) k) (n + 20) (n + 20) bentIf ⟨[some (.box i, false), some (d, false), some (.lst [moreD], false), none, none], b⟩ = some (.nx, ⟨[some (.box i, false), some (d, false), some (.lst [moreD], false), none, none], b⟩) := by
      unfold bentIf
      (repeat (first | walk_at "ev" | simp only [hi]))
    refine ⟨d', s'.b, ?_, h2.mono (by omega) (by omega), h3.mono (by omega)⟩
    show ((ex (callAt T (n + 20) k) (n + 20) (n + 20) bentIf ⟨[some (.box i, false), some (d, false), some (.lst [moreD], false), none, none], b⟩ >>= fun p => _) >>= fun p => _) = _
    rw [h0]
    show (runL (ex (callAt T (n + 20) k) (n + 20) (n + 20)) bentRest ⟨[some (.box i, false), some (d, false), some (.lst [moreD], false), none, none], b⟩ >>= fun p => _) = _
    rw [h1]
    rfl
  | succ j ih =>
    intro B d i m b μ h hj hB hm hb hμ
    obtain ⟨k, rfl⟩ : ∃ k, m = k + 1 := ⟨m - 1, by omega⟩
    rw [callAt_fn hT rfl]
    have hi := isi_tupD h.th
    have plain : ∀ b1 : List (List Int), BX b1 i (μ + 1) → ex (callAt T (n + 20) k) (n + 20) (n + 20) bentIf ⟨[some (.box i, false), some (d, false), some (.lst [moreD], false), none, none], b⟩ = some (.nx, ⟨[some (.box i, false), some (d, false), some (.lst [moreD], false), none, none], b1⟩) →
        ∃ d' b', runF (callAt T (n + 20) k) (n + 20) F_law_bent [.box i, d, .lst [moreD]] b = some (d', false, b') ∧ Th (j + 1 + 3) (2 * B + 30) d' ∧ BX b' i (μ + 3 * ((j + 1 : Nat) : Int) + 3) := by
      intro b1 hb1 h0
      obtain ⟨d', s', h1, h2, h3⟩ := bent_tail (n := n) hK hO (k := k) h hB (by omega) hb1 (by omega)
      refine ⟨d', s'.b, ?_, h2.mono (by omega) (by omega), h3.mono (by omega)⟩
      show ((ex (callAt T (n + 20) k) (n + 20) (n + 20) bentIf ⟨[some (.box i, false), some (d, false), some (.lst [moreD], false), none, none], b⟩ >>= fun p => _) >>= fun p => _) = _
      rw [h0]
      show (runL (ex (callAt T (n + 20) k) (n + 20) (n + 20)) bentRest ⟨[some (.box i, false), some (d, false), some (.lst [moreD], false), none, none], b1⟩ >>= fun p => _) = _
      rw [h1]
      rfl
    cases ht : isTupD d with
    | false =>
      rw [ht] at hi
      refine plain b (hb.mono (by omega)) ?_
      unfold bentIf
      (repeat (first | walk_at "ev" | simp only [hi]))
    | true =>
      rw [ht] at hi
      cases d <;> first | (cases ht; done) | skip
      rename_i xs
      have hp := h.parts
      have hsh := h.sh (by omega)
      have e : eqD (.tup xs) (.tup []) = some (decide (xs = [])) := by
        unfold eqD
        rw [hsh]
        show (if (true && true) = true then some (PyData.eqv (.tuple (pyL xs)) (.tuple [])) else none) = _
        cases xs with
        | nil => rfl
        | cons x xs => rfl
      by_cases q : xs = []
      · rw [decide_eq_true q] at e
        refine plain b (hb.mono (by omega)) ?_
        unfold bentIf
        (repeat (first | walk_at "ev" | simp only [hi, e]))
      · rw [decide_eq_false q] at e
        have hxp : 0 < xs.length := List.length_pos_iff.mpr q
        have hxl : xs.length ≤ 10000 := by have := bkL_len xs; have := hp.bk; omega
        obtain ⟨v, b1, c1, v0, v1, hb1⟩ := lv_take (n := n) hK (w := 5) (by omega) (by omega) (m := k) (by omega) hb (by omega)
        by_cases qv : 0 < v
        · obtain ⟨v2, b2, c2, v20, v21, hb2⟩ := lv_take (n := n) hK (w := (xs.length : Int)) (by omega) (by omega) (m := k) (by omega) hb1 (by omega)
          obtain ⟨t, rfl⟩ : ∃ t : Nat, v2 = (t : Int) := ⟨v2.toNat, by omega⟩
          have htl : t < xs.length := by omega
          have hx : xs[t] ∈ xs := List.getElem_mem _
          have hxt := hp.mem hx
          have hix := at_nat xs htl
          have hsplit : bkL (xs.take t) + (xs[t].py.bulk + 1) + bkL (xs.drop (t + 1)) = bkL xs := by
            have : xs = xs.take t ++ xs[t] :: xs.drop (t + 1) := by rw [List.getElem_cons_drop, List.take_append_drop]
            conv => rhs; rw [this]
            rw [bkL_app]
            have : bkL (xs[t] :: xs.drop (t + 1)) = xs[t].py.bulk + 1 + bkL (xs.drop (t + 1)) := by unfold bkL; rw [List.map_cons, List.sum_cons]
            rw [this]; omega
          have hbk := hp.bk
          have hxt2 : Th j (xs[t].py.bulk) xs[t] := ⟨hxt.th, hxt.dp, Nat.le_refl _⟩
          obtain ⟨d', b3, c3, h3, hb3⟩ := ih (xs[t].py.bulk) xs[t] (m := k) hxt2 (by omega) (by omega) (by omega) hb2 (by omega)
          have s1 := st_to xs (j := t) (by omega)
          have s2 := st_from1 xs t
          have l1 : (xs.take t).length + 1 ≤ sizeLine := by rw [List.length_take, sizeLine_eq]; omega
          have l2 : (xs.take t ++ [d']).length + (xs.drop (t + 1)).length ≤ sizeLine := by
            rw [List.length_append, List.length_take, List.length_drop, List.length_singleton, sizeLine_eq]; omega
          have h0 : ex (callAt T (n + 20) k) (n + 20) (n + 20) bentIf ⟨[some (.box i, false), some (.tup xs, false), some (.lst [moreD], false), none, none], b⟩ = some (.rt (.tup ((xs.take t ++ [d']) ++ xs.drop (t + 1))) false, ⟨[some (.box i, false), some (.tup xs, false), some (.lst [moreD], false), some (.int t, false), none], b3⟩) := by
            unfold bentIf
            (repeat (first | walk_at "ev" | simp only [hi, e, c1, qv, c2, s1, hix, ec_law_bent, c3, l1, s2, l2]))
          refine ⟨.tup ((xs.take t ++ [d']) ++ xs.drop (t + 1)), b3, ?_, ?_, hb3.mono (by omega)⟩
          · show ((ex (callAt T (n + 20) k) (n + 20) (n + 20) bentIf ⟨[some (.box i, false), some (.tup xs, false), some (.lst [moreD], false), none, none], b⟩ >>= fun p => _) >>= fun p => _) = _
            rw [h0]
            rfl
          · have g1 : ThL (j + 3) (bkL (xs.take t)) (xs.take t) := ⟨(hp.take t).th, fun x hx => Nat.le_trans ((hp.take t).dp x hx) (by omega), Nat.le_refl _⟩
            have g2 : ThL (j + 3) (bkL (xs.drop (t + 1))) (xs.drop (t + 1)) := ⟨(hp.drop _).th, fun x hx => Nat.le_trans ((hp.drop _).dp x hx) (by omega), Nat.le_refl _⟩
            have := ((g1.app h3.one).app g2).tup
            exact this.mono (by omega) (by omega)
        · refine plain b1 hb1 ?_
          unfold bentIf
          (repeat (first | walk_at "ev" | simp only [hi, e, c1, qv]))
end
end Mp
set_option pp.maxSteps 300
/-! Mq, k10: the law, walked. -/
namespace Mp
open PySem L2
local macro_rules | `(tactic| walk_at "ev") => `(tactic| simp only [sb, nb, List.length_cons, List.length_nil, Nat.zero_add, Nat.reduceAdd, Nat.reduceSub, if_true, initSt, runL, evL, takes, take, dsOf, Tmp.d, List.map_cons, List.map_nil, List.cons_append, List.nil_append, List.replicate_succ, List.replicate_zero, st_get0, stepB, bindT, slotsT, bodyL, tests, St.wipe, St.back, List.foldr_cons, List.foldr_nil, List.foldl_cons, List.foldl_nil, List.zip_cons_cons, List.zip_nil_right, args, arg, called, asgs, setl, puts, St.frz, St.frzs, varsOf, optD, body2, bodyK, Option.isSome_some, Bool.true_eq_false, Bool.false_eq_true, if_false, Option.map_some, Bool.not_true, Bool.not_false, strsOf_map, strsOf_cons, sd_dK, sd_lst, andT, orT, andV, orV, gt1, gt2, gt3, gt4, gt5, gt6, gt7, gt8, gt9, gt10, gt11, gt12, pu0, pu1, pu2, pu3, pu4, pu5, pu6, pu7, pu8, pu9, pu10, pu11, pu12, se0, se1, se2, se3, se4, se5, se6, se7, se8, se9, se10, se11, se12, List.getD_cons_zero, List.getD_cons_succ, in_lst, in_tup, ite_self, Bool.and_self, Bool.true_and, Bool.and_true, Bool.false_and, Bool.and_false, decide_true, decide_false, ne_eq, not_true_eq_false, not_false_eq_true, eq_self, List.length_map, asg1, Nat.reduceEqDiff, srcX_fix, srcX_var, ev_loc, ev_lc, ev_lc2, ev_dc, ev_lofV, ev_int, ev_str, ev_bl, ev_non, ev_tup, ev_lst, ev_nbox, ev_dic, ev_bin, ev_neg, ev_cmp, ev_chn, ev_and, ev_or, ev_not, ev_ite, ev_ix, ev_sl, ev_rev, ev_fld, ev_bi, ev_isi, ev_sset, tst_and, tst_or, tst_not, tst_ite, itr_ex, itr_rng, itr_zip, itr_enum, itr_items, itr_vals, ex_asg, ex_asgT, ex_par, ex_asgI, ex_asgF, ex_aug, ex_ex, ex_ret, ex_iff, ex_for_, ex_whl, ex_pass, ex_stop, tst_loc, tst_glob, tst_int, tst_str, tst_bl, tst_non, tst_tup, tst_lst, tst_nbox, tst_dic, tst_bin, tst_neg, tst_cmp, tst_chn, tst_ix, tst_sl, tst_rev, tst_fld, tst_call, tst_callK, tst_bi, tst_isi, tst_sset, tst_lset, tst_lof, tst_meth, tst_lc, tst_lc2, tst_dc, tst_dc2, ec_tupled, ec_names_of, ec_above, ec_below_by, ec_products, ec_shapes, ec_greatest_by, ec_common, ec_fitting_by, ec_nearest_by, ec_torn_by, ec_shapes_of, ec_ups_of, ec_shape_of, ec_labels_of, ec_fitting, ec_nearest, ec_chosen, ec_torn, ec_greatest_torn, ec_meet, ec_cover, ec_is_under, ec_is_below, ec_shape_below, ec_law_box, ec_law_take, ec_law_cells, ec_law_of, ec_law_same, ec_law_shapes, ec_law_methods, ec_law_kinds, ec_law_up, ec_law_under, ec_law_calls, ec_law_right, ec_law_lists, ec_law_fits, ec_law_near, ec_law_chosen, ec_law_pairs, ec_law_generic, tr_bl, tr_int, tr_lst, tr_tup, tr_non, io_tup, io_lst, io_unlT, io_unlL, io_dK, bn_addI, bn_subI, bn_addT, bn_addL, bn_addS, or_lt, or_le, or_gt, or_ge, or_ltS, ix_lst, ix_tup, ix_dK, at_0, at_1, at_2, bi_allM, bi_anyM, bi_lenL, bi_lenT, bi_tupL, bi_tupT, bi_lstL, bi_lstT, bi_intI, bi_intB, cmp_in, cmp_notin, cmp_eq, cmp_ne, lf_bl, lf_int, lf_str, lf_non, lf_box, lf_lst, lf_dK, lf_tup, lf_lfS, lf_lfC, lf_lfN, sl_0, sl_1, sl_2, sl_3, sl_4, sl_5, sl_6, sl_7, sl_8, sl_9, sl_10, sl_11, sl_12, mt_pop, mt_app, mt_kpop, mt_kapp, mt_dapp, nm_list, nm_tuple, nm_int, nm_bool, nm_str, isi_tup, isi_lst])
theorem les_15 : (15 ≤ sizeLine) = True := by rw [sizeLine_eq]; simp
theorem les_20 : (20 ≤ sizeLine) = True := by rw [sizeLine_eq]; simp
theorem les_23 : (23 ≤ sizeLine) = True := by rw [sizeLine_eq]; simp
theorem lts_4 : (4 < sizeLine) = True := by rw [sizeLine_eq]; simp
def topD : D := .tup [.str "a", .tup [], .bl false]
def lowD : D := .tup [.str "b", .tup [.str "a"], .bl true]
def fineL : List D := [.tup [topD], .tup [topD, lowD], .tup [topD, lowD, .tup [.str "c", .tup [.str "a", .str "b"], .bl false]], .tup [.tup [.str "none", .tup [], .bl true]], .tup [.tup [.str "zzzzzzzz", .tup [], .bl false]]]
def badL : List D := [.tup [], .tup [lowD], .tup [lowD, topD], .tup [topD, topD], .tup [topD, .tup [.str "b", .tup [.str "b"], .bl false]], .tup [topD, lowD, .tup [.str "c", .tup [.str "b", .str "a"], .bl false]], .tup [topD, .tup [.str "b", .tup [.str "a", .str "a"], .bl false]], .tup [topD, .tup [.str "b", .str "a", .bl false]], .tup [topD, .tup [.str "b", .tup [.str "a"], .int 0]], topD, .lst [topD], .tup [topD, .tup [.str "b", .tup [.str "a"]]], .tup [topD, .tup [.str "a", .tup [.str "a"], .bl false]], .tup [.tup [.str "", .tup [], .bl false]], .tup [.tup [.str "a b", .tup [], .bl false]]]
def handL : List D := (fineL ++ badL) ++ [.str "a", .non]
theorem hand_ok : ∀ d ∈ handL, Th 5 100 d := by
  have h : (handL.all fun d => thK d && decide (d.py.depth ≤ 5) && decide (d.py.bulk ≤ 100)) = true := by decide +kernel
  intro d hd
  have := List.all_eq_true.mp h d hd
  rw [Bool.and_eq_true, Bool.and_eq_true, decide_eq_true_eq, decide_eq_true_eq] at this
  exact ⟨this.1.1, this.1.2, this.2⟩
theorem ThL_map {α : Type} (f : α → D) {k B : Nat} : ∀ {xs : List α}, (∀ x ∈ xs, Th k B (f x)) → ThL k ((B + 1) * xs.length) (xs.map f)
  | [], _ => ⟨(fun x hx => by cases hx), (fun x hx => by cases hx), Nat.zero_le _⟩
  | x :: xs, h => by
    have ih := ThL_map f (xs := xs) fun y hy => h y (List.mem_cons_of_mem _ hy)
    have := (h x List.mem_cons_self).one.app ih
    rw [List.length_cons, Nat.mul_succ, Nat.add_comm]
    exact this
theorem th_str {z : Str} (h : z ∈ words) : Th 0 9 (.str z) := ⟨decide_eq_true h, Nat.le_refl 0, words_len z h⟩
theorem th_bl (b : Bool) : Th 0 0 (.bl b) := ⟨rfl, Nat.le_refl 0, Nat.le_refl 0⟩
theorem eight_short : ∀ z ∈ eight, z.length ≤ 2 := by decide +kernel
theorem eight_words {z : Str} (h : z ∈ eight) : z ∈ words := List.mem_append_left _ h
theorem row_th {ks : List Row} (hd : KDr ks) {r : Row} (hr : r ∈ ks) : Th 2 41 (kRow r) ∧ Th 2 41 (kRowL r) := by
  have h := hd.ok
  have th8 : ∀ z ∈ eight, Th 0 2 (D.str z) := fun z hz => ⟨(th_str (eight_words hz)).th, Nat.le_refl 0, eight_short z hz⟩
  have hn : Th 0 2 (D.str r.1) := th8 _ (hd.nm _ (List.mem_map.mpr ⟨r, hr, rfl⟩))
  have hs : ∀ s ∈ r.2.1, Th 0 2 (D.str s) := fun s hs => th8 _ (hd.nm _ (sup_names h hr s hs))
  have hl : r.2.1.length ≤ 12 := by
    obtain ⟨a, c, e⟩ := List.append_of_mem hr
    exact (h.row a r c e).2.2.2
  have sl := ThL_map D.str hs
  have n1 : ThL 1 3 [D.str r.1] := hn.one.mono (by omega) (by omega)
  have c1 : ThL 1 1 [D.bl r.2.2] := (th_bl _).one.mono (by omega) (by omega)
  have t1 : ThL 1 37 [D.tup (r.2.1.map .str)] := sl.tup.one.mono (by omega) (by omega)
  have t2 : ThL 1 37 [D.lst (r.2.1.map .str)] := sl.lst.one.mono (by omega) (by omega)
  exact ⟨((n1.app t1).app c1).tup, ((n1.app t2).app c1).lst⟩
theorem kinds_th {ks : List Row} (hd : KDr ks) (h8 : ks.length ≤ 8) : ThL 2 340 (ks.map kRow) ∧ ThL 2 340 (ks.map kRowL) :=
  ⟨(ThL_map kRow fun r hr => (row_th hd hr).1).mono (Nat.le_refl _) (by omega), (ThL_map kRowL fun r hr => (row_th hd hr).2).mono (Nat.le_refl _) (by omega)⟩
section
variable {T : Tbl} {n : Nat}
def F_law_by_hand : FDef := ⟨.fn, 0, 4, [.par [0, 1] [.tup [.str "a", .tup [], .bl false], .tup [.str "b", .tup [.str "a"], .bl true]], .asg 2 (.lst [.tup [.loc 0], .tup [.loc 0, .loc 1], .tup [.loc 0, .loc 1, .tup [.str "c", .tup [.str "a", .str "b"], .bl false]], .tup [.tup [.str "none", .tup [], .bl true]]]), .ex (.meth (.loc 2) "append" [.tup [.tup [.str "zzzzzzzz", .tup [], .bl false]]]), .asg 3 (.lst [.tup [], .tup [.loc 1], .tup [.loc 1, .loc 0], .tup [.loc 0, .loc 0], .tup [.loc 0, .tup [.str "b", .tup [.str "b"], .bl false]], .tup [.loc 0, .loc 1, .tup [.str "c", .tup [.str "b", .str "a"], .bl false]]]), .asg 3 (.bin .Add (.loc 3) (.lst [.tup [.loc 0, .tup [.str "b", .tup [.str "a", .str "a"], .bl false]], .tup [.loc 0, .tup [.str "b", .str "a", .bl false]], .tup [.loc 0, .tup [.str "b", .tup [.str "a"], .int 0]], .loc 0, .lst [.loc 0]])), .asg 3 (.bin .Add (.loc 3) (.lst [.tup [.loc 0, .tup [.str "b", .tup [.str "a"]]], .tup [.loc 0, .tup [.str "a", .tup [.str "a"], .bl false]], .tup [.tup [.str "", .tup [], .bl false]], .tup [.tup [.str "a b", .tup [], .bl false]]])), .ret (.bin .Add (.bin .Add (.loc 2) (.loc 3)) (.lst [.str "a", .non]))]⟩
theorem lv_hand (hT : T.lookup ("_law_by_hand" : Str) = some F_law_by_hand) : Lv T (n + 20) 1 "_law_by_hand" [] (.lst handL) true := Lv.of hT rfl fun k b hk => by
  unfold runF F_law_by_hand
  (repeat (first | walk_at "ev" | simp only [les_15, les_20, les_22, lts_4]))
  rfl
def b10B : List S := [.asg 4 (.call "_law_bent" [.loc 0, .loc 4, .lst [.tup [.str "a", .tup [], .bl false]]]), .ex (.meth (.loc 3) "append" [.loc 4])]
def b10A : List S := [.asg 4 (.call "_law_kinds" [.loc 0, .bin .Add (.int 1) (.call "_law_take" [.loc 0, .int 8]), .int 3]), .asg 5 (.call "_law_take" [.loc 0, .bi "len" [.loc 4]]), .asg 3 (.bin .Add (.loc 3) (.lst [.loc 4, .call "_law_lists" [.loc 4], .bin .Add (.sl (.loc 4) none (some (.loc 5))) (.sl (.loc 4) (some (.bin .Add (.loc 5) (.int 1))) none), .bin .Add (.sl (.loc 4) (some (.loc 5)) none) (.sl (.loc 4) none (some (.loc 5)))])), .for_ (.nm 6) (.rng (.int 0) (.int 3)) b10B]
def b10Z : List S := [.par [7, 8] [.bi "repr" [.loc 4], .call "_law_is_kinds" [.loc 4]], .iff (.or [.not (.call "_law_same" [.lst [.call "is_kinds" [.loc 4], .callK "is_kinds" [.str "thing"] ["thing"] [.loc 4]], .lst [.loc 8, .loc 8]]), .cmp .NotEq (.bi "repr" [.loc 4]) (.loc 7)]) [.ret (.bl false)] []]
def F_law_right10 : FDef := ⟨.fn, 1, 9, [.asg 1 (.int 7), .for_ (.nm 2) (.rng (.int 0) (.int 12)) [.asg 1 (.tup [.loc 1])], .asg 3 (.bin .Add (.call "_law_by_hand" []) (.lst [.loc 1])), .for_ (.nm 2) (.rng (.int 0) (.int 6)) b10A, .for_ (.nm 4) (.ex (.loc 3)) b10Z, .ret (.bl true)]⟩
structure PR10 (T : Tbl) : Prop extends PF T where
  is_kinds : T.lookup ("is_kinds" : Str) = some F_is_kinds
  take : T.lookup ("_law_take" : Str) = some F_law_take
  lof : T.lookup ("_law_of" : Str) = some F_law_of
  lists : T.lookup ("_law_lists" : Str) = some F_law_lists
  same : T.lookup ("_law_same" : Str) = some F_law_same
  kinds : T.lookup ("_law_kinds" : Str) = some F_law_kinds
  bent : T.lookup ("_law_bent" : Str) = some F_law_bent
  is_word : T.lookup ("_law_is_word" : Str) = some F_law_is_word
  law_is_kinds : T.lookup ("_law_is_kinds" : Str) = some F_law_is_kinds
  by_hand : T.lookup ("_law_by_hand" : Str) = some F_law_by_hand
  right : T.lookup ("_law_right" : Str) = some F_law_right10
theorem bodyZ_ok (P : PR10 T) {k : Nat} (hk : 20 ≤ k) {d x0 x1 x3 : D} (h : Th 30 4000 d) {b : List (List Int)} (a2 a5 a6 a7 a8 : Option (D × Bool)) {f3 : Bool} :
    ∃ x7 x8, runL (ex (callAt T (n + 20) k) (n + 20) (n + 19)) b10Z ⟨[some (x0, false), some (x1, false), a2, some (x3, f3), some (d, false), a5, a6, a7, a8], b⟩ = some (.nx, ⟨[some (x0, false), some (x1, false), a2, some (x3, f3), some (d, false), a5, a6, x7, x8], b⟩) := by
  have hrep := h.repr (by omega) (by omega)
  have c1 := lv_law_is_kinds (n := n) P.is_word P.law_is_kinds h (by omega) (by omega) k b (by omega)
  have c2 := lv_is_kinds (n := n) P.toPF P.is_kinds h (by omega) k b (by omega)
  have hsame : callAt T (n + 20) k "_law_same" [.lst [.bl (kindsB d), .bl (kindsB d)], .lst [.bl (kindsB d), .bl (kindsB d)]] b = some (.bl true, false, b) := (same_lst P.same (l := 1) (by simp) (fun d hd => by
    simp only [List.mem_cons, List.not_mem_nil, or_false] at hd
    rcases hd with rfl | rfl <;> exact same_leaf P.same rfl) : SameAt T (n + 20) 2 _) k b (by omega)
  have he := h.same
  unfold b10Z
  (repeat (first | walk_at "ev" | simp only [hrep, ec_law_is_kinds, c1, ec_is_kinds, c2, ek_is_kinds, reoT, hsame, he]))
  exact ⟨_, _, rfl⟩
theorem bodyA_ok (P : PR10 T) {k : Nat} (hk : 28 ≤ k) {i : Nat} {x1 : D} {L : List D} (hL : ∀ d ∈ L, Th 30 4000 d) (hz : L.length ≤ 100) {b : List (List Int)} {μ : Int} (hb : BX b i μ) (hμ : μ < 2 ^ 37) (a2 a4 a5 a6 : Option (D × Bool)) :
    ∃ L' x4 x5 x6 b', runL (ex (callAt T (n + 20) k) (n + 20) (n + 19)) b10A ⟨[some (.box i, false), some (x1, false), a2, some (.lst L, true), a4, a5, a6, none, none], b⟩ = some (.nx, ⟨[some (.box i, false), some (x1, false), a2, some (.lst L', true), x4, x5, x6, none, none], b'⟩) ∧ (∀ d ∈ L', Th 30 4000 d) ∧ L'.length = L.length + 7 ∧ BX b' i (μ + 250) := by
  obtain ⟨v0, b0, c0, v00, v01, hb0⟩ := lv_take (n := n) P.take (w := 8) (by omega) (by omega) (m := k) (by omega) hb (by omega)
  obtain ⟨t, ht⟩ : ∃ t : Nat, 1 + v0 = (t : Int) := ⟨(1 + v0).toNat, by omega⟩
  obtain ⟨ks, b1, c1, hd, hkl, hb1⟩ := lv_kinds (n := n) P.take P.lof P.kinds (many := t) (bare := 3) (by omega) (m := k) (by omega) hb0 (by omega)
  have kl : 0 < ks.length := by omega
  obtain ⟨v2, b2, c2, v20, v21, hb2⟩ := lv_take (n := n) P.take (w := (ks.length : Int)) (by omega) (by omega) (m := k) (by omega) hb1 (by omega)
  obtain ⟨j, rfl⟩ : ∃ j : Nat, v2 = (j : Int) := ⟨v2.toNat, by omega⟩
  have hjl : j < ks.length := by omega
  have cl : callAt T (n + 20) k "_law_lists" [.tup (ks.map kRow)] b2 = some (.lst (ks.map kRowL), true, b2) := lv_lists_ks (n := n) P.lists hd.ok k b2 (by omega)
  obtain ⟨tk, tl⟩ := kinds_th hd (by omega)
  have s1 := st_to (ks.map kRow) (j := j) (by rw [List.length_map]; omega)
  have s2 := st_from1 (ks.map kRow) j
  have s3 := st_from (ks.map kRow) j
  have z1 : ((ks.map kRow).take j).length + ((ks.map kRow).drop (j + 1)).length ≤ sizeLine := by
    rw [List.length_take, List.length_drop, List.length_map, sizeLine_eq]; omega
  have z2 : ((ks.map kRow).drop j).length + ((ks.map kRow).take j).length ≤ sizeLine := by
    rw [List.length_take, List.length_drop, List.length_map, sizeLine_eq]; omega
  have z3 : L.length + 4 ≤ sizeLine := by rw [sizeLine_eq]; omega
  have hr1 := rng_ok (lo := 0) (hi := 3) (by omega) (by omega) (by omega) (by omega)
  obtain ⟨L1, hL1⟩ : ∃ L1, L1 = L ++ [D.tup (ks.map kRow), .lst (ks.map kRowL), .tup ((ks.map kRow).take j ++ (ks.map kRow).drop (j + 1)), .tup ((ks.map kRow).drop j ++ (ks.map kRow).take j)] := ⟨_, rfl⟩
  have hT1 : ∀ d ∈ L1, Th 30 4000 d := by
    intro d hdm
    rw [hL1] at hdm
    rcases List.mem_append.mp hdm with hdm | hdm
    · exact hL d hdm
    · simp only [List.mem_cons, List.not_mem_nil, or_false] at hdm
      rcases hdm with rfl | rfl | rfl | rfl
      · exact tk.tup.mono (by omega) (by omega)
      · exact tl.lst.mono (by omega) (by omega)
      · exact ((tk.take j).app (tk.drop (j + 1))).tup.mono (by omega) (by omega)
      · exact ((tk.drop j).app (tk.take j)).tup.mono (by omega) (by omega)
  have hl1 : L1.length = L.length + 4 := by rw [hL1, List.length_append]; rfl
  unfold b10A
  (repeat (first | walk_at "ev" | simp only [c0, ht, c1, c2, cl, s1, s2, s3, z1, z2, z3, hr1]))
  rw [← hL1]
  have hrng : rngD 0 ((3 : Int) - 0).toNat = (List.range' 0 3).map fun j => .int (j : Nat) := rngD_map0 3
  rw [hrng]
  generalize hf : forL _ _ _ = o
  refine Exists.elim (forL_go hf (fun done s => ∃ L' d a6 b', s = ⟨[some (.box i, false), some (x1, false), a2, some (.lst L', true), some (d, false), some (.int j, false), a6, none, none], b'⟩ ∧ (∀ d ∈ L', Th 30 4000 d) ∧ L'.length = L1.length + done.length ∧ Th (3 + 3 * done.length) (370 * 2 ^ done.length - 30) d ∧ BX b' i (μ + 110 + 40 * done.length)) ⟨L1, .tup (ks.map kRow), a6, b2, rfl, hT1, rfl, tk.tup.mono (by simp) (by simp), hb2.mono (by simp; omega)⟩ (fun x rest done s e hs => ?s)) ?e
  case s =>
    obtain ⟨L', d, a6, b3, rfl, hL', hl', hth, hb3⟩ := hs
    have hdn : done.length < 3 := by
      have := congrArg List.length e
      rw [List.length_range', List.length_append, List.length_cons] at this; omega
    have hn0 : ((done ++ [x]).length : Int) = done.length + 1 := by rw [List.length_append]; rfl
    have hn1 : (done ++ [x]).length = done.length + 1 := by rw [List.length_append]; rfl
    have hp : 2 ^ done.length ≤ 2 ^ 2 := Nat.pow_le_pow_right (by omega) (by omega)
    have hp1 : 1 ≤ 2 ^ done.length := Nat.one_le_two_pow
    obtain ⟨d', b4, c4, h4, hb4⟩ := lv_bent (n := n) P.take P.lof P.bent (3 + 3 * done.length) (370 * 2 ^ done.length - 30) d (m := k) hth (by omega) (by omega) (by omega) hb3 (by omega)
    have c4' : callAt T (n + 20) k "_law_bent" [.box i, d, .lst [.tup [.str "a", .tup [], .bl false]]] b3 = some (d', false, b4) := c4
    have hlt : L'.length < sizeLine := by rw [sizeLine_eq]; omega
    have h5 : Th (3 + 3 * (done.length + 1)) (370 * 2 ^ (done.length + 1) - 30) d' := h4.mono (by omega) (by rw [Nat.pow_succ]; omega)
    unfold forB b10B
    (repeat (first | walk_at "ev" | simp only [ec_law_bent, c4', hlt]))
    refine ⟨_, rfl, L' ++ [d'], d', _, b4, rfl, fun y hy => ?_, ?_, ?_, hb4.mono (by rw [hn0]; omega)⟩
    · rcases List.mem_append.mp hy with hy | hy
      · exact hL' y hy
      · rw [List.mem_singleton.mp hy]
        refine h5.mono (by omega) ?_
        have : 2 ^ (done.length + 1) ≤ 2 ^ 3 := Nat.pow_le_pow_right (by omega) (by omega)
        omega
    · rw [List.length_append, hl', hn1]; rfl
    · rw [hn1]; exact h5
  case e =>
    rintro s' ⟨rfl, L', d, a6, b3, rfl, hL', hl', hth, hb3⟩
    rw [List.length_range'] at hl' hb3
    walk_at "ev"
    exact ⟨L', _, _, _, _, rfl, hL', by omega, hb3.mono (by omega)⟩
def deep7 : Nat → D
  | 0 => .int 7
  | k + 1 => .tup [deep7 k]
theorem deep7_ok : Th 30 4000 (deep7 12) := by
  have h : (thK (deep7 12) && decide ((deep7 12).py.depth ≤ 30) && decide ((deep7 12).py.bulk ≤ 4000)) = true := by decide +kernel
  rw [Bool.and_eq_true, Bool.and_eq_true, decide_eq_true_eq, decide_eq_true_eq] at h
  exact ⟨h.1.1, h.1.2, h.2⟩
theorem lv_right10 (P : PR10 T) {i : Nat} {m : Nat} {b : List (List Int)} {μ : Int} (hm : 30 ≤ m) (hb : BX b i μ) (hμ : μ < 2 ^ 36) : ∃ b', callAt T (n + 20) m "_law_right" [.box i] b = some (.bl true, false, b') := by
  obtain ⟨k, rfl⟩ : ∃ k, m = k + 1 := ⟨m - 1, by omega⟩
  rw [callAt_fn P.right rfl]
  have hr1 := rng_ok (lo := 0) (hi := 12) (by omega) (by omega) (by omega) (by omega)
  have hr2 := rng_ok (lo := 0) (hi := 6) (by omega) (by omega) (by omega) (by omega)
  have hrng1 : rngD 0 ((12 : Int) - 0).toNat = (List.range' 0 12).map fun j => .int (j : Nat) := rngD_map0 12
  have hrng2 : rngD 0 ((6 : Int) - 0).toNat = (List.range' 0 6).map fun j => .int (j : Nat) := rngD_map0 6
  unfold runF F_law_right10
  (repeat (first | walk_at "ev" | simp only [hr1]))
  rw [hrng1]
  generalize hf : forL _ _ _ = o
  refine Exists.elim (forL_go hf (fun done s => ∃ a2, s = ⟨[some (.box i, false), some (deep7 done.length, false), a2, none, none, none, none, none, none], b⟩) ⟨none, rfl⟩ (fun x rest done s e hs => ?s)) ?e
  case s =>
    obtain ⟨a2, rfl⟩ := hs
    unfold forB
    walk_at "ev"
    have hd : (done ++ [x]).length = done.length + 1 := by simp
    rw [hd]
    exact ⟨_, rfl, _, rfl⟩
  case e =>
    rintro s' ⟨rfl, a2, rfl⟩
    rw [List.length_range']
    have ch := lv_hand (n := n) P.by_hand k b (by omega)
    have hhl : handL.length = 22 := rfl
    (repeat (first | walk_at "ev" | simp only [ec_law_by_hand, ch, hhl, les_23, hr2]))
    rw [hrng2]
    generalize hf2 : forL _ _ _ = o2
    refine Exists.elim (forL_go hf2 (fun done s => ∃ L a2 a4 a5 a6 b', s = ⟨[some (.box i, false), some (deep7 12, false), a2, some (.lst L, true), a4, a5, a6, none, none], b'⟩ ∧ (∀ d ∈ L, Th 30 4000 d) ∧ L.length = 23 + 7 * done.length ∧ BX b' i (μ + 250 * done.length)) ⟨handL ++ [deep7 12], a2, none, none, none, b, rfl, fun d hd => ?h0, rfl, hb.mono (by simp)⟩ (fun x rest done s e hs => ?s2)) ?e2
    case h0 =>
      rcases List.mem_append.mp hd with hd | hd
      · exact (hand_ok d hd).mono (by omega) (by omega)
      · rw [List.mem_singleton.mp hd]; exact deep7_ok
    case s2 =>
      obtain ⟨L, a2, a4, a5, a6, b1, rfl, hL, hl, hb1⟩ := hs
      have hdn : done.length < 6 := by
        have := congrArg List.length e
        rw [List.length_range', List.length_append, List.length_cons] at this; omega
      have hn0 : ((done ++ [x]).length : Int) = done.length + 1 := by rw [List.length_append]; rfl
      have hn1 : (done ++ [x]).length = done.length + 1 := by rw [List.length_append]; rfl
      obtain ⟨L', x4, x5, x6, b2, h1, h2, h3, hb2⟩ := bodyA_ok (n := n) P (k := k) (by omega) (x1 := deep7 12) hL (by omega) hb1 (by omega) (some (.int (x : Nat), false)) a4 a5 a6
      unfold forB
      (repeat (first | walk_at "ev" | simp only [h1]))
      exact ⟨_, rfl, L', _, _, _, _, b2, rfl, h2, by rw [hn1]; omega, hb2.mono (by rw [hn0]; omega)⟩
    case e2 =>
      rintro s' ⟨rfl, L, a2, a4, a5, a6, b1, rfl, hL, hl, hb1⟩
      walk_at "ev"
      generalize hf3 : forL _ _ _ = o3
      refine Exists.elim (forL_id hf3 (fun done s => ∃ a4 a7 a8, s = ⟨[some (.box i, false), some (deep7 12, false), a2, some (.lst L, false), a4, a5, a6, a7, a8], b1⟩) ⟨a4, none, none, rfl⟩ (fun x rest done s e hs => ?s3)) ?e3
      case s3 =>
        obtain ⟨a4, a7, a8, rfl⟩ := hs
        have hx : Th 30 4000 x := hL x (by rw [e]; simp)
        obtain ⟨x7, x8, h1⟩ := bodyZ_ok (n := n) P (k := k) (by omega) (x0 := .box i) (x1 := deep7 12) (x3 := .lst L) (f3 := false) hx (b := b1) a2 a5 a6 a7 a8
        unfold forB
        (repeat (first | walk_at "ev" | simp only [h1]))
        exact ⟨_, rfl, _, _, _, rfl⟩
      case e3 =>
        rintro s' ⟨rfl, a4, a7, a8, rfl⟩
        walk_at "ev"
        exact ⟨_, rfl⟩
end
theorem lv_law10 {T : Tbl} {n : Nat} (P : PR10 T) (hC : T.lookup ("_law_cells" : Str) = some F_law_cells) (hB : T.lookup ("_law_box" : Str) = some F_law_box) (hL : T.lookup ("law" : Str) = some (F_lawAll (3 : Nat))) {ns : List Int} (hn : ns.length ≤ 63) : ∃ fr b', callAt T (n + 20) 61 "law" [.scr ns] [] = some (.bl true, fr, b') :=
  lv_lawAll (fun hb => lv_right10 P (by omega) hb (by omega)) hC hB (by omega) (by omega) hL hn
end Mp
open L2
namespace R
open PySem Mp
def top (i : Nat) : Stmt := PySem.Challenge.pw_whichmethod_k10_kinds_or_none.main.body.getD i (.Pass ⟨0, 0, 0, 0⟩)
def sub (i j : Nat) : Stmt := match top i with
  | .ClassDef _ _ _ b _ _ _ _ _ _ _ => b.getD j (.Pass ⟨0, 0, 0, 0⟩)
  | _ => .Pass ⟨0, 0, 0, 0⟩
def F0 : FDef := ⟨.fn, 1, 2, [.iff (.or [.not (.isi (.loc 0) ["str"] false), .not (.chn .LtE .LtE (.int 1) (.bi "len" [.loc 0]) (.int 8))]) [.ret (.bl false)] [], .ret (.bi "all" [.lc (.cmp .In (.loc 1) (.str "abcdefghijklmnopqrstuvwxyz")) (.mk (.nm 1) (.ex (.loc 0)) []) [1]])]⟩
def F1 : FDef := ⟨.fn, 1, 3, [.ret (.bi "all" [.lc (.cmp .Lt (.loc 1) (.loc 2)) (.mk (.tp [1, 2]) (.zip (.loc 0) (.sl (.loc 0) (some (.int 1)) none)) []) [1, 2]])]⟩
def F2 : FDef := ⟨.fn, 2, 3, [.ret (.and [.isi (.loc 0) ["tuple"] false, .bi "all" [.lc (.and [.isi (.loc 2) ["str"] false, .cmp .In (.loc 2) (.loc 1)]) (.mk (.nm 2) (.ex (.loc 0)) []) [2]]])]⟩
def F3 : FDef := ⟨.fn, 2, 2, [.iff (.or [.not (.isi (.loc 0) ["tuple"] false), .cmp .NotEq (.bi "len" [.loc 0]) (.int 3), .not (.call "is_name" [.ix (.loc 0) (.int 0)]), .cmp .In (.ix (.loc 0) (.int 0)) (.loc 1)]) [.ret (.bl false)] [], .ret (.and [.call "are_names_of" [.ix (.loc 0) (.int 1), .loc 1], .call "ascends" [.ix (.loc 0) (.int 1)], .isi (.ix (.loc 0) (.int 2)) ["bool"] false])]⟩
def F4 : FDef := ⟨.fn, 1, 3, [.iff (.or [.not (.isi (.loc 0) ["tuple"] false), .cmp .Eq (.bi "len" [.loc 0]) (.int 0)]) [.ret (.bl false)] [], .asg 1 (.lst []), .for_ (.nm 2) (.ex (.loc 0)) [.iff (.not (.call "is_kind_row" [.loc 2, .loc 1])) [.ret (.bl false)] [], .ex (.meth (.loc 1) "append" [.ix (.loc 2) (.int 0)])], .ret (.bl true)]⟩
def F5 : FDef := ⟨.fn, 2, 3, [.asg 2 (.ite (.cmp .Lt (.loc 1) (.bi "len" [.loc 0])) (.ix (.loc 0) (.loc 1)) (.int 0)), .ret (.nbox [.bin .Mult (.bi "abs" [.loc 2]) (.bi "int" [.cmp .GtE (.bi "abs" [.loc 2]) (.bin .Pow (.int 10) (.int 18))]), .bin .Add (.bin .Add (.bin .Mod (.bi "int" [.loc 2]) (.int 2305843009213693951)) (.bin .Mult (.int 39373) (.loc 1))) (.int 103), .int 0])]⟩
def F6 : FDef := ⟨.fn, 2, 6, [.iff (.cmp .Gt (.ix (.loc 0) (.int 0)) (.int 0)) [.asg 2 (.bin .Mod (.bi "int" [.ix (.loc 0) (.int 0)]) (.loc 1)), .asgI (.loc 0) (.int 0) (.bin .FloorDiv (.ix (.loc 0) (.int 0)) (.loc 1)), .ret (.loc 2)] [], .asgI (.loc 0) (.int 2) (.bin .Add (.ix (.loc 0) (.int 2)) (.int 1)), .asg 3 (.bin .Mod (.bi "int" [.bin .Mult (.bin .Add (.ix (.loc 0) (.int 1)) (.bin .Mult (.int 48271) (.ix (.loc 0) (.int 2)))) (.bin .Add (.int 39373) (.ix (.loc 0) (.int 2)))]) (.int 2147483647)), .asg 4 (.bin .Add (.bin .Mod (.bi "int" [.loc 3]) (.int 40009)) (.int 7)), .asg 5 (.bin .Mod (.bi "int" [.bin .Mult (.bin .Add (.bin .Add (.loc 3) (.ix (.loc 0) (.int 2))) (.bin .FloorDiv (.ix (.loc 0) (.int 1)) (.int 1000003))) (.loc 4)]) (.int 2147483629)), .ret (.bin .Mod (.bi "int" [.bin .FloorDiv (.bin .Mod (.bi "int" [.bin .Add (.bin .Mult (.loc 5) (.int 48271)) (.loc 3)]) (.int 2147483587)) (.int 64)]) (.loc 1))]⟩
def F7 : FDef := ⟨.fn, 2, 6, [.asg 2 (.or [.bi "list" [.sl (.loc 0) none (some (.loc 1))], .lst [.int 0]]), .for_ (.tp [3, 4]) (.enum (.sl (.loc 0) (some (.loc 1)) (some (.int 63))) 0) [.asg 5 (.bin .Mod (.bi "int" [.loc 3]) (.loc 1)), .asgI (.loc 2) (.loc 5) (.bin .Add (.ix (.loc 2) (.loc 5)) (.bin .Mult (.loc 4) (.bin .Add (.loc 3) (.int 2))))], .ret (.loc 2)]⟩
def F8 : FDef := ⟨.fn, 2, 2, [.ret (.ix (.loc 1) (.call "_law_take" [.loc 0, .bi "len" [.loc 1]]))]⟩
def F9 : FDef := ⟨.fn, 1, 2, [.ret (.ite (.isi (.loc 0) ["list", "tuple"] true) (.lc (.call "_law_lists" [.loc 1]) (.mk (.nm 1) (.ex (.loc 0)) []) [1]) (.loc 0))]⟩
def F10 : FDef := ⟨.fn, 2, 4, [.iff (.isi (.loc 1) ["list", "tuple"] true) [.iff (.or [.cmp .NotEq (.isi (.loc 0) ["list"] false) (.isi (.loc 1) ["list"] false), .cmp .NotEq (.isi (.loc 0) ["tuple"] false) (.isi (.loc 1) ["tuple"] false)]) [.ret (.bl false)] [], .ret (.and [.cmp .Eq (.bi "len" [.loc 0]) (.bi "len" [.loc 1]), .bi "all" [.lc (.call "_law_same" [.loc 2, .loc 3]) (.mk (.tp [2, 3]) (.zip (.loc 0) (.loc 1)) []) [2, 3]]])] [], .iff (.or [.cmp .Is (.loc 1) (.non), .isi (.loc 1) ["bool", "str"] true]) [.ret (.and [.cmp .Eq (.loc 0) (.loc 1), .cmp .Eq (.isi (.loc 0) ["bool"] false) (.isi (.loc 1) ["bool"] false), .cmp .Eq (.cmp .Is (.loc 0) (.non)) (.cmp .Is (.loc 1) (.non))])] [], .ret (.and [.isi (.loc 0) ["int"] false, .not (.isi (.loc 0) ["bool"] false), .cmp .Eq (.loc 0) (.loc 1)])]⟩
def F11 : FDef := ⟨.fn, 3, 11, [.par [3, 4] [.lst [.str "a", .str "b", .str "c", .str "d", .str "e", .str "f", .str "ab", .str "z"], .lst []], .for_ (.nm 5) (.rng (.int 0) (.loc 1)) [.par [6, 7] [.meth (.loc 3) "pop" [.call "_law_take" [.loc 0, .bi "len" [.loc 3]]], .lc (.ix (.loc 9) (.int 0)) (.mk (.nm 9) (.ex (.loc 4)) []) [9]], .asg 8 (.sset (.lc (.call "_law_of" [.loc 0, .loc 7]) (.mk (.nm 10) (.rng (.int 0) (.call "_law_take" [.loc 0, .int 4])) [.cmp .NotEq (.loc 7) (.lst [])]) [10])), .ex (.meth (.loc 4) "append" [.tup [.loc 6, .bi "tuple" [.loc 8], .cmp .Lt (.call "_law_take" [.loc 0, .int 12]) (.loc 2)]])], .ret (.bi "tuple" [.loc 4])]⟩
def F12 : FDef := ⟨.fn, 3, 5, [.iff (.and [.isi (.loc 1) ["tuple"] false, .cmp .NotEq (.loc 1) (.tup []), .cmp .Gt (.call "_law_take" [.loc 0, .int 5]) (.int 0)]) [.asg 3 (.call "_law_take" [.loc 0, .bi "len" [.loc 1]]), .ret (.bin .Add (.bin .Add (.sl (.loc 1) none (some (.loc 3))) (.tup [.call "_law_bent" [.loc 0, .ix (.loc 1) (.loc 3), .loc 2]])) (.sl (.loc 1) (some (.bin .Add (.loc 3) (.int 1))) none))] [], .asg 4 (.bin .Add (.lst [.int 0, .int 1, .neg (.int 1), .non, .bl true, .bl false, .str "", .str "a", .str "b", .str "zzzzzzzz", .str "zzzzzzzzz", .str "A", .str "a1", .str "a\n", .tup [], .tup [.str "a"]]) (.loc 2)), .iff (.isi (.loc 1) ["tuple"] false) [.asg 4 (.bin .Add (.loc 4) (.lst [.bi "list" [.loc 1], .sl (.loc 1) none (some (.neg (.int 1))), .bin .Add (.loc 1) (.sl (.loc 1) (some (.neg (.int 1))) none), .rev (.loc 1), .tup [.loc 1]]))] [], .ret (.call "_law_of" [.loc 0, .loc 4])]⟩
def F13 : FDef := ⟨.fn, 1, 2, [.iff (.or [.not (.isi (.loc 0) ["str"] false), .cmp .Lt (.bi "len" [.loc 0]) (.int 1), .cmp .Gt (.bi "len" [.loc 0]) (.int 8)]) [.ret (.bl false)] [], .ret (.bi "all" [.lc (.cmp .In (.loc 1) (.str "abcdefghijklmnopqrstuvwxyz")) (.mk (.nm 1) (.ex (.loc 0)) []) [1]])]⟩
def F14 : FDef := ⟨.fn, 1, 4, [.iff (.or [.not (.isi (.loc 0) ["tuple"] false), .cmp .Eq (.loc 0) (.tup [])]) [.ret (.bl false)] [], .asg 1 (.lst []), .for_ (.nm 2) (.ex (.loc 0)) [.iff (.or [.not (.isi (.loc 2) ["tuple"] false), .cmp .NotEq (.bi "len" [.loc 2]) (.int 3), .not (.call "_law_is_word" [.ix (.loc 2) (.int 0)]), .cmp .In (.ix (.loc 2) (.int 0)) (.loc 1)]) [.ret (.bl false)] [], .iff (.or [.not (.isi (.ix (.loc 2) (.int 1)) ["tuple"] false), .not (.bi "all" [.lc (.isi (.loc 3) ["str"] false) (.mk (.nm 3) (.ex (.ix (.loc 2) (.int 1))) []) [3]])]) [.ret (.bl false)] [], .iff (.or [.cmp .NotEq (.bi "list" [.ix (.loc 2) (.int 1)]) (.sset (.ix (.loc 2) (.int 1))), .cmp .NotEq (.lc (.loc 3) (.mk (.nm 3) (.ex (.ix (.loc 2) (.int 1))) [.cmp .NotIn (.loc 3) (.loc 1)]) [3]) (.lst [])]) [.ret (.bl false)] [], .iff (.not (.isi (.ix (.loc 2) (.int 2)) ["bool"] false)) [.ret (.bl false)] [], .ex (.meth (.loc 1) "append" [.ix (.loc 2) (.int 0)])], .ret (.bl true)]⟩
def F15 : FDef := ⟨.fn, 0, 4, [.par [0, 1] [.tup [.str "a", .tup [], .bl false], .tup [.str "b", .tup [.str "a"], .bl true]], .asg 2 (.lst [.tup [.loc 0], .tup [.loc 0, .loc 1], .tup [.loc 0, .loc 1, .tup [.str "c", .tup [.str "a", .str "b"], .bl false]], .tup [.tup [.str "none", .tup [], .bl true]]]), .ex (.meth (.loc 2) "append" [.tup [.tup [.str "zzzzzzzz", .tup [], .bl false]]]), .asg 3 (.lst [.tup [], .tup [.loc 1], .tup [.loc 1, .loc 0], .tup [.loc 0, .loc 0], .tup [.loc 0, .tup [.str "b", .tup [.str "b"], .bl false]], .tup [.loc 0, .loc 1, .tup [.str "c", .tup [.str "b", .str "a"], .bl false]]]), .asg 3 (.bin .Add (.loc 3) (.lst [.tup [.loc 0, .tup [.str "b", .tup [.str "a", .str "a"], .bl false]], .tup [.loc 0, .tup [.str "b", .str "a", .bl false]], .tup [.loc 0, .tup [.str "b", .tup [.str "a"], .int 0]], .loc 0, .lst [.loc 0]])), .asg 3 (.bin .Add (.loc 3) (.lst [.tup [.loc 0, .tup [.str "b", .tup [.str "a"]]], .tup [.loc 0, .tup [.str "a", .tup [.str "a"], .bl false]], .tup [.tup [.str "", .tup [], .bl false]], .tup [.tup [.str "a b", .tup [], .bl false]]])), .ret (.bin .Add (.bin .Add (.loc 2) (.loc 3)) (.lst [.str "a", .non]))]⟩
def F16 : FDef := ⟨.fn, 1, 9, [.asg 1 (.int 7), .for_ (.nm 2) (.rng (.int 0) (.int 12)) [.asg 1 (.tup [.loc 1])], .asg 3 (.bin .Add (.call "_law_by_hand" []) (.lst [.loc 1])), .for_ (.nm 2) (.rng (.int 0) (.int 6)) [.asg 4 (.call "_law_kinds" [.loc 0, .bin .Add (.int 1) (.call "_law_take" [.loc 0, .int 8]), .int 3]), .asg 5 (.call "_law_take" [.loc 0, .bi "len" [.loc 4]]), .asg 3 (.bin .Add (.loc 3) (.lst [.loc 4, .call "_law_lists" [.loc 4], .bin .Add (.sl (.loc 4) none (some (.loc 5))) (.sl (.loc 4) (some (.bin .Add (.loc 5) (.int 1))) none), .bin .Add (.sl (.loc 4) (some (.loc 5)) none) (.sl (.loc 4) none (some (.loc 5)))])), .for_ (.nm 6) (.rng (.int 0) (.int 3)) [.asg 4 (.call "_law_bent" [.loc 0, .loc 4, .lst [.tup [.str "a", .tup [], .bl false]]]), .ex (.meth (.loc 3) "append" [.loc 4])]], .for_ (.nm 4) (.ex (.loc 3)) [.par [7, 8] [.bi "repr" [.loc 4], .call "_law_is_kinds" [.loc 4]], .iff (.or [.not (.call "_law_same" [.lst [.call "is_kinds" [.loc 4], .callK "is_kinds" [.str "thing"] ["thing"] [.loc 4]], .lst [.loc 8, .loc 8]]), .cmp .NotEq (.bi "repr" [.loc 4]) (.loc 7)]) [.ret (.bl false)] []], .ret (.bl true)]⟩
def F17 : FDef := ⟨.fn, 1, 3, [.asg 1 (.call "_law_cells" [.loc 0, .int 3]), .ret (.bi "all" [.lc (.call "_law_right" [.call "_law_box" [.loc 1, .loc 2]]) (.mk (.nm 2) (.rng (.int 0) (.bi "len" [.loc 1])) []) [2]])]⟩
def rows : List Rw := [
  ⟨"is_name", ("is_name", none), top 3, ["thing", "letter"], ["thing"], false, F0⟩,
  ⟨"ascends", ("ascends", none), top 4, ["parts", "one", "other"], ["parts"], false, F1⟩,
  ⟨"are_names_of", ("are_names_of", none), top 5, ["thing", "names", "part"], ["thing", "names"], false, F2⟩,
  ⟨"is_kind_row", ("is_kind_row", none), top 6, ["thing", "names"], ["thing", "names"], false, F3⟩,
  ⟨"is_kinds", ("is_kinds", none), top 7, ["thing", "names", "row"], ["thing"], false, F4⟩,
  ⟨"_law_box", ("_law_box", none), top 9, ["_law_script", "_law_k", "_law_cell"], ["_law_script", "_law_k"], true, F5⟩,
  ⟨"_law_take", ("_law_take", none), top 10, ["_law_box_here", "_law_below", "_law_drawn", "_law_once", "_law_far", "_law_twice"], ["_law_box_here", "_law_below"], false, F6⟩,
  ⟨"_law_cells", ("_law_cells", none), top 11, ["_law_script", "_law_most", "_law_cells_here", "_law_k", "_law_cell", "_law_at_so"], ["_law_script", "_law_most"], false, F7⟩,
  ⟨"_law_of", ("_law_of", none), top 12, ["_law_box_here", "_law_some"], ["_law_box_here", "_law_some"], false, F8⟩,
  ⟨"_law_lists", ("_law_lists", none), top 13, ["_law_matter", "_law_bit"], ["_law_matter"], false, F9⟩,
  ⟨"_law_same", ("_law_same", none), top 14, ["_law_found", "_law_due", "_law_mine", "_law_its"], ["_law_found", "_law_due"], false, F10⟩,
  ⟨"_law_kinds", ("_law_kinds", none), top 15, ["_law_box_here", "_law_many", "_law_bare", "_law_left", "_law_found", "_law_k", "_law_name", "_law_some", "_law_supers", "_law_row", "_law_turn"], ["_law_box_here", "_law_many", "_law_bare"], false, F11⟩,
  ⟨"_law_bent", ("_law_bent", none), top 16, ["_law_box_here", "_law_part", "_law_more", "_law_k", "_law_some"], ["_law_box_here", "_law_part", "_law_more"], false, F12⟩,
  ⟨"_law_is_word", ("_law_is_word", none), top 17, ["_law_matter", "_law_sign"], ["_law_matter"], false, F13⟩,
  ⟨"_law_is_kinds", ("_law_is_kinds", none), top 18, ["_law_matter", "_law_known", "_law_row", "_law_own"], ["_law_matter"], false, F14⟩,
  ⟨"_law_by_hand", ("_law_by_hand", none), top 19, ["_law_top", "_law_low", "_law_fine", "_law_bad"], [], false, F15⟩,
  ⟨"_law_right", ("_law_right", none), top 20, ["_law_box_here", "_law_deep", "_law_turn", "_law_some", "_law_part", "_law_k", "_law_again", "_law_was", "_law_due"], ["_law_box_here"], false, F16⟩,
  ⟨"law", ("law", none), top 21, ["_law_script", "_law_cells_here", "_law_k"], ["_law_script"], false, F17⟩]
def cls : List Str := []
def gs : List (Str × Mp.Key) := [("LETTERS", .inr "abcdefghijklmnopqrstuvwxyz"), ("MOST_LETTERS", .inl 8)]
def pm : List (Str × List Str) := [("is_kinds", ["thing"])]
theorem okp : pmOk rows pm = true := by kernel_rfl
theorem ok : rows.all (Rw.ok cls) = true := by kernel_rfl
theorem nodot : cls.all noDot = true := by kernel_rfl
theorem laid : (rows.map fun r => lay ⟨r.N, r.bx, gs, pm⟩ fuelE r.F.kd r.ps.length (defScope r.st) (defBody r.st)) = rows.map (fun r => some r.F) := by kernel_rfl
end R
namespace R
theorem pr : Mp.PR10 (Mp.tblOf rows) := ⟨⟨by rfl, by rfl, by rfl, by rfl⟩, by rfl, by rfl, by rfl, by rfl, by rfl, by rfl, by rfl, by rfl, by rfl, by rfl, by rfl⟩
theorem hall : ∀ ns : List Int, ns.length ≤ 63 → ∃ fr b', Mp.callAt (Mp.tblOf rows) 60 61 "law" [.scr ns] [] = some (.bl true, fr, b') := fun ns hn => Mp.lv_law10 (n := 40) pr (by rfl) (by rfl) (by rfl) hn
end R

namespace R
open PySem Mp
abbrev Rr : PySem.W.OpenRow := PySem.W.OpenLaw.row PySem.Challenge.rw_whichmethod_k10_kinds_or_none
def fa : List He.Fa := factsOf rows cls gs
def fn : List He.DefD := rows.map Rw.d
abbrev hk : PySem.W.Hook := He.hookD 6 fa fn
def ob (s : PySem.W.SharedT) : He.AlD := He.obsDG 6 fa fn (HandSHeadRun.getT s)
theorem ob_eq (s : PySem.W.SharedT) : ob s = hk.obs s.abs := He.obsDG_eq (HandSHeadRun.getT_eq s)
def names0 : List PySem.Str := ["LETTERS", "MOST_LETTERS", "is_name", "ascends", "are_names_of", "is_kind_row", "is_kinds", "_law_box", "_law_take", "_law_cells", "_law_of", "_law_lists", "_law_same", "_law_kinds", "_law_bent", "_law_is_word"]
def names1 : List PySem.Str := ["_law_is_kinds", "_law_by_hand", "_law_right"]
def names : List PySem.Str := names0 ++ names1
theorem run (w : World) : HandSHeadRun.RunEq Rr (PySem.W.view Rr.prog [21]) hk ob 3000 names w := by
  intro os
  kernel_rfl
theorem laid_all : ∀ r ∈ rows, r.laid gs pm := fun r hr => by
  obtain ⟨i, hi⟩ := List.getElem?_of_mem hr
  have h := congrArg (fun l => l[i]?) laid
  simp only [List.getElem?_map, hi, Option.map_some] at h
  exact Option.some.inj h
end R
open PySem PySem.W PySem.Calls PyProof.Rows
theorem PySem.Challenge.cw_whichmethod_k10_kinds_or_none_holds : PySem.Challenge.rw_whichmethod_k10_kinds_or_none.Holds := by
  w_on; o_law
  refine HandSHeadRun.head_any (r := R.Rr) (q := view R.Rr.prog [21]) (H := R.hk) (ob := R.ob) (M := 3000) (loose := R.names) (d := HandSHeadRun.topDef R.Rr.prog 21) (kwd := []) R.ob_eq
    (by kernel_rfl) (fun s => by kernel_rfl) R.run (by kernel_rfl) (by kernel_rfl) (by kernel_rfl) (by rfl) (by first | assumption | decide +kernel) (by decide +kernel) ⟨rfl, rfl, rfl, rfl, rfl, by decide +kernel⟩ ?hw ?hc
  case hw => w_witness2
  case hc =>
    refine Mp.walk_G (l := PySem.Challenge.rw_whichmethod_k10_kinds_or_none) (n := 63) (k := 122) (x := "_law_script") (CX := L2.CX0) rfl (by decide) (by kernel_rfl) ⟨rfl, by decide, by decide⟩ ?F (fun _ _ _ _ z => z)
    intro w mg fa h Y G hmg0
    obtain ⟨K, KX, c⟩ := Y
    have hmg : mg ("law" : PySem.Str) = some (.ref fa) := by
      have e : (HandSHeadRun.topDef R.Rr.prog 21).name = ("law" : PySem.Str) := by kernel_rfl
      rw [← e]
      exact hmg0
    obtain ⟨fd, sp, h1, h2, h3⟩ := Mp.law_F (P := (PySem.Challenge.rw_whichmethod_k10_kinds_or_none).prog) (w := w) (rows := R.rows) (cls := R.cls) (gs := R.gs) (pm := R.pm) (M := 60) (D0 := 60) (lk := "law") (x := "_law_script") (n := 63) KX G c R.ok R.nodot R.okp R.laid_all hmg ⟨_, List.mem_of_getElem? (i := 17) rfl, rfl, rfl, rfl, rfl⟩ R.hall
    exact ⟨K, fd, sp, KX, h1, h2, h3⟩
