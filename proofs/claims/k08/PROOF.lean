import PyProof.Rows.All
import Wide.All
import OpenK.AllK
import Wide.FinOn
import HandS.ForMost
import HandS.Defaults
import HandS.Wide
import HandS.Flow
import HandS.TupAny
import HandS.IsInst
import HandS.StrMore
import HandS.HeadWalk
import HandS.Small
import HandS.Style
import HandS.NoneIn
import HandS.More
import HandS.OwnEq
import KE.KCallOwn
import HandS.Set
import HandS.SetFor
import HandS.Strs
import PyProof.Rows.SortShellAny
import PyProof.Rows.StrCase
import PyProof.ListStr
import PyProof.StrLaws
import HandS.RaiseMore
import HandS.FStr
import KE.KFmtOwn
import HandS.MakeKw
import HandS.HeadHook1
import HandS.HeadHook2
import HandS.HeadEnd
import HandS.Head0
import HandS.Head1
import HandS.Head2
import KE.KStateDown
import PySem.Challenge.RW_unwritparts_k08_tellings_told
set_option Elab.async false
set_option linter.all false
set_option maxRecDepth 100000
set_option maxHeartbeats 0
/-! MINI: values, heap, syntax, evaluator -/
namespace Mi

/-- a text: its code points -/
abbrev Tx := List Nat
def S (s : String) : Tx := s.toList.map Char.toNat

/-- the greatest length of a list or a text -/
def LIM : Nat := 16777216
/-- the turns that a while may take -/
def FUEL : Nat := 10000000

inductive Vl where
  | non
  | bl (b : Bool)
  | int (i : Int)
  | str (s : Tx)
  | byt (b : List Nat)
  | ref (a : Nat)
  | tup (xs : List Vl)
  | fl (xs : List Vl)
  | fd (kvs : List (Tx × Vl))
  | ob (c : String) (fs : List (String × Vl))
  | fn (c f : String)
  | cl (c : String)
  | ty (t : String)
  | rng (lo : Int) (n : Nat)
  | enm (x : Vl)
  | zp (x y : Vl)
  /-- the law's script -/
  | scr (ns : List Int)

inductive Ob where
  | dead
  | lst (xs : List Vl)
  | dct (kvs : List (Tx × Vl))
  | inst (c : String) (fs : List (String × Vl))

abbrev Hm := List Ob

inductive Res (α : Type) where
  | ok (a : α) (h : Hm)
  | exc (c : String) (fs : List (String × Vl)) (h : Hm)
  | bad

@[simp] def Res.bind {α β : Type} : Res α → (α → Hm → Res β) → Res β
  | .ok a h, f => f a h
  | .exc c fs h, _ => .exc c fs h
  | .bad, _ => .bad

inductive Bop where
  | add | sub | mul | fdiv | mod | pow | addL | mulL
inductive Cop where
  | eq | ne | lt | le | gt | ge | isin | notin | is | isnot

/-- where a parameter's value comes from: the i-th written value (positional ones first, then the keywords'), or a default -/
inductive Src where
  | at (i : Nat)
  | dfl (v : Vl)

/-- a pattern of names -/
inductive Pt where
  | name (i : Nat)
  | tup (ps : List Pt)

inductive Ex where
  | var (i : Nat)
  | cst (v : Vl)
  | tupE (es : List Ex)
  | lstE (lv : Bool) (es : List Ex)
  | dctE (lv : Bool) (es : List Ex)
  | bin (op : Bop) (a b : Ex)
  | neg (a : Ex)
  | not (a : Ex)
  | cmp (op : Cop) (a b : Ex)
  | chain (o1 o2 : Cop) (a b c : Ex)
  | and (a b : Ex)
  | or (a b : Ex)
  | ite (c a b : Ex)
  | att (a : Ex) (f : String)
  | sub (a i : Ex)
  | slc (lv : Bool) (a lo hi : Ex)
  | slcR (a : Ex)
  | call (f : String) (es : List Ex) (pm : List Src)
  | callp (f : String) (es : List Ex) (pm : List Src)
  | mkp (c : String) (es : List Ex) (pm : List Src)
  | methp (o : Ex) (m : String) (es : List Ex) (pm : List Src)
  | mk (c : String) (es : List Ex) (pm : List Src) (fz : Bool)
  | meth (o : Ex) (m : String) (es : List Ex) (pm : List Src)
  | callv (f : Ex) (es : List Ex)
  | blt (f : String) (es : List Ex)
  | bm (o : Ex) (m : String) (es : List Ex)
  | lc (lv : Bool) (elt : Ex) (p : Pt) (it cond : Ex) (own : List Nat)
  | lc2 (elt : Ex) (p : Pt) (it cond : Ex) (p2 : Pt) (it2 cond2 : Ex) (own : List Nat)
  | fstr (es : List Ex)
  | fmt (e : Ex)
  | dc (k v : Ex) (p : Pt) (it cond : Ex) (own : List Nat)

inductive Tg where
  | name (i : Nat)
  | att (o : Ex) (f : String)
  | sub (o i : Ex)
  | tup (ts : List Tg)

inductive Sm where
  | expr (e : Ex)
  | asg (t : Tg) (e : Ex)
  | aug (i : Nat) (op : Bop) (e : Ex)
  | augF (o : Ex) (f : String) (op : Bop) (e : Ex)
  | augS (o i : Ex) (op : Bop) (e : Ex)
  | ret (e : Ex)
  | ite (c : Ex) (a b : List Sm)
  | whl (c : Ex) (b : List Sm)
  | for_ (p : Pt) (it : Ex) (b : List Sm)
  | brk
  | cont
  | pass
  | delS (o i : Ex)
  | delSl (o lo : Ex)
  | frz (i : Nat)
  | never

abbrev Rho := List (Option Vl)
inductive Flow where
  | nx (r : Rho)
  | rt (v : Vl)
  | bk (r : Rho)
  | ct (r : Rho)

structure Cs where
  fn : String → String → List Vl → Hm → Res Vl
  ini : String → String → List Vl → Hm → Res Vl
  in2 : String → String → List Vl → Hm → Res Vl

/-! ### small helpers -/
def getF (fs : List (String × Vl)) (f : String) : Option Vl := fs.lookup f
def putF (f : String) (v : Vl) : List (String × Vl) → List (String × Vl)
  | [] => [(f, v)]
  | (g, w) :: r => if f = g then (f, v) :: r else (g, w) :: putF f v r
def getK (kvs : List (Tx × Vl)) (k : Tx) : Option Vl := kvs.lookup k
def putK (k : Tx) (v : Vl) : List (Tx × Vl) → List (Tx × Vl)
  | [] => [(k, v)]
  | (g, w) :: r => if k = g then (g, v) :: r else (g, w) :: putK k v r
def delK (k : Tx) : List (Tx × Vl) → List (Tx × Vl)
  | [] => []
  | (g, w) :: r => if k = g then r else (g, w) :: delK k r

/-- the items of a list or a tuple -/
def seqOf (h : Hm) : Vl → Option (List Vl)
  | .tup xs => some xs
  | .fl xs => some xs
  | .scr ns => some (ns.map .int)
  | .ref a => match h[a]? with
    | some (.lst xs) => some xs
    | _ => none
  | _ => none
def lstOf (h : Hm) : Vl → Option (List Vl)
  | .fl xs => some xs
  | .ref a => match h[a]? with
    | some (.lst xs) => some xs
    | _ => none
  | _ => none
def dctOf (h : Hm) : Vl → Option (List (Tx × Vl))
  | .fd kvs => some kvs
  | .ref a => match h[a]? with
    | some (.dct kvs) => some kvs
    | _ => none
  | _ => none
def objOf (h : Hm) : Vl → Option (String × List (String × Vl))
  | .ob c fs => some (c, fs)
  | .ref a => match h[a]? with
    | some (.inst c fs) => some (c, fs)
    | _ => none
  | _ => none

def clsOf (h : Hm) (v : Vl) : Option String := (objOf h v).map (·.1)

def new (o : Ob) (h : Hm) : Res Vl := .ok (.ref h.length) (h ++ [o])

/-- a place in a sequence of n items -/
def ixN (n : Nat) (i : Int) : Option Nat := if 0 ≤ i then (if i < n then some i.toNat else none) else if -(n : Int) ≤ i then some (i + n).toNat else none
def atI {α : Type} (xs : List α) (i : Int) : Option α := (ixN xs.length i).bind fun j => xs[j]?
/-- a bound of a slice -/
def sIx (n dflt : Nat) : Option Int → Nat
  | none => dflt
  | some v => if v < 0 then (v + (n : Int)).toNat else min v.toNat n
def cut {α : Type} (xs : List α) (lo hi : Option Int) : List α := (xs.drop (sIx xs.length 0 lo)).take (sIx xs.length xs.length hi - sIx xs.length 0 lo)

/-! ### equality of data -/
def numOf : Vl → Option Int
  | .bl b => some (if b then 1 else 0)
  | .int i => some i
  | _ => none
/-- data: None, truths, ints, texts, tuples of data -/
def b2i (b : Bool) : Int := if b then 1 else 0

mutual
/-- plain data: None, truths, ints, texts, tuples of such -/
def pur : Vl → Bool
  | .non => true
  | .bl _ => true
  | .int _ => true
  | .str _ => true
  | .tup xs => purs xs
  | .fl xs => purs xs
  | _ => false
def purs : List Vl → Bool
  | [] => true
  | x :: xs => pur x && purs xs
end
mutual
def dep : Vl → Nat
  | .tup xs => deps xs + 1
  | .fl xs => deps xs + 1
  | _ => 0
def deps : List Vl → Nat
  | [] => 0
  | x :: xs => max (dep x) (deps xs)
end
mutual
def eqD : Vl → Vl → Bool
  | .non, .non => true
  | .bl a, .bl b => a == b
  | .bl a, .int j => b2i a == j
  | .int i, .bl b => i == b2i b
  | .int i, .int j => i == j
  | .str s, .str t => s == t
  | .tup xs, .tup ys => eqDs xs ys
  | .fl xs, .fl ys => eqDs xs ys
  | _, _ => false
def eqDs : List Vl → List Vl → Bool
  | [], [] => true
  | x :: xs, y :: ys => eqD x y && eqDs xs ys
  | _, _ => false
end
/-- a list that may be changed -/
def livOf (h : Hm) : Vl → Option (List Vl)
  | .ref a => match h[a]? with
    | some (.lst xs) => some xs
    | _ => none
  | _ => none
/-- a list that may be changed, as it is now -/
def topV (h : Hm) : Vl → Vl
  | .ref a => match h[a]? with
    | some (.lst xs) => .fl xs
    | _ => .ref a
  | v => v
/-- == -/
def eqV (h : Hm) (x y : Vl) : Option Bool :=
  if pur (topV h x) && pur (topV h y) && decide (dep (topV h x) ≤ 60) && decide (dep (topV h y) ≤ 60) then some (eqD (topV h x) (topV h y)) else none

mutual
/-- a value without anything that may be changed -/
def clo : Vl → Bool
  | .ref _ => false
  | .tup xs => clos xs
  | .fl xs => clos xs
  | .fd kvs => clok kvs
  | .ob _ fs => clof fs
  | _ => true
def clos : List Vl → Bool
  | [] => true
  | x :: xs => clo x && clos xs
def clok : List (Tx × Vl) → Bool
  | [] => true
  | (_, x) :: xs => clo x && clok xs
def clof : List (String × Vl) → Bool
  | [] => true
  | (_, x) :: xs => clo x && clof xs
end
/-- a list is laid down: one that may be changed, or not -/
def newL (lv : Bool) (xs : List Vl) (h : Hm) : Res Vl := if lv then new (.lst xs) h else .ok (.fl xs) h
def newD (lv : Bool) (kvs : List (Tx × Vl)) (h : Hm) : Res Vl := if lv then new (.dct kvs) h else .ok (.fd kvs) h
/-- what a run of its own leaves -/
def pureR (r : Res Vl) (h : Hm) : Res Vl := match r with
  | .ok v _ => if clo v then .ok v h else .bad
  | _ => .bad

/-! ### operators -/
def mulOk (i j : Int) : Bool := (decide (i.natAbs < 2 ^ 64) || decide (j.natAbs < 2 ^ 64)) || (decide (i.natAbs < 2 ^ 4000) && decide (j.natAbs < 2 ^ 4000))
def addV (lv : Bool) : Vl → Vl → Hm → Res Vl
  | .int i, .int j, h => .ok (.int (i + j)) h
  | .str s, .str t, h => if s.length + t.length ≤ LIM then .ok (.str (s ++ t)) h else .bad
  | .tup xs, .tup ys, h => if xs.length + ys.length ≤ LIM then .ok (.tup (xs ++ ys)) h else .bad
  | x, y, h => match lstOf h x, lstOf h y with
    | some xs, some ys => if xs.length + ys.length ≤ LIM then newL lv (xs ++ ys) h else .bad
    | _, _ => .bad
def minV : Vl → Vl → Hm → Res Vl
  | .int i, .int j, h => .ok (.int (i - j)) h
  | _, _, _ => .bad
def mulV (lv : Bool) : Vl → Vl → Hm → Res Vl
  | .int i, .int j, h => if mulOk i j then .ok (.int (i * j)) h else .bad
  | x, .int k, h => match livOf h x with
    | some xs => if -(2 ^ 63) ≤ k ∧ k < 2 ^ 63 ∧ xs.length * k.toNat ≤ LIM then newL lv (List.replicate k.toNat xs).flatten h else .bad
    | _ => .bad
  | _, _, _ => .bad
def fdvV : Vl → Vl → Hm → Res Vl
  | .int i, .int j, h => if 0 < j ∧ j < 1073741824 then .ok (.int (i / j)) h else .bad
  | _, _, _ => .bad
def modV : Vl → Vl → Hm → Res Vl
  | .int i, .int j, h => if 0 < j then .ok (.int (i % j)) h else .bad
  | _, _, _ => .bad
def powV : Vl → Vl → Hm → Res Vl
  | .int i, .int j, h => if 0 ≤ j ∧ j ≤ 64 ∧ i.natAbs < 2 ^ 4000 then .ok (.int (i ^ j.toNat)) h else .bad
  | _, _, _ => .bad
def binop : Bop → Vl → Vl → Hm → Res Vl
  | .add => addV false
  | .sub => minV
  | .mul => mulV false
  | .fdiv => fdvV
  | .mod => modV
  | .pow => powV
  | .addL => addV true
  | .mulL => mulV true

def flat : Vl → Bool
  | .non => true
  | .bl _ => true
  | .int _ => true
  | .str _ => true
  | _ => false

/-- x in y -/
def inV (h : Hm) (x y : Vl) : Option Bool :=
  match y with
  | .str t => match x with
    | .str [c] => some (decide (c ∈ t))
    | _ => none
  | _ => match seqOf h y with
    | some ys => if flat x && ys.all flat then some (ys.any fun z => eqD z x) else none
    | none => match dctOf h y with
      | some kvs => match x with
        | .str k => some (getK kvs k).isSome
        | _ => none
      | none => none

def bres (b : Option Bool) (h : Hm) : Res Vl := match b with
  | some b => .ok (.bl b) h
  | none => .bad
def ltV : Vl → Vl → Hm → Res Vl
  | .int i, .int j, h => .ok (.bl (decide (i < j))) h
  | .str i, .str j, h => .ok (.bl (decide (i < j))) h
  | _, _, _ => .bad
def leV : Vl → Vl → Hm → Res Vl
  | .int i, .int j, h => .ok (.bl (decide (i ≤ j))) h
  | .str i, .str j, h => .ok (.bl (!decide (j < i))) h
  | _, _, _ => .bad
def isNon : Vl → Bool
  | .non => true
  | _ => false
def isV : Vl → Vl → Hm → Res Vl
  | x, .non, h => .ok (.bl (isNon x)) h
  | _, _, _ => .bad
def isnotV : Vl → Vl → Hm → Res Vl
  | x, .non, h => .ok (.bl (!isNon x)) h
  | _, _, _ => .bad
def cmpop : Cop → Vl → Vl → Hm → Res Vl
  | .eq => fun x y h => bres (eqV h x y) h
  | .ne => fun x y h => bres ((eqV h x y).map (!·)) h
  | .lt => ltV
  | .le => leV
  | .gt => fun x y h => ltV y x h
  | .ge => fun x y h => leV y x h
  | .isin => fun x y h => bres (inV h x y) h
  | .notin => fun x y h => bres ((inV h x y).map (!·)) h
  | .is => isV
  | .isnot => isnotV

/-- a value's truth -/
def tru (h : Hm) : Vl → Option Bool
  | .non => some false
  | .bl b => some b
  | .int i => some (i != 0)
  | .str s => if s.length ≤ LIM then some (s.length != 0) else none
  | v => match seqOf h v with
    | some xs => some (!xs.isEmpty)
    | none => match dctOf h v with
      | some kvs => some (!kvs.isEmpty)
      | none => none

/-! ### subscripts -/
def subV (x i : Vl) (h : Hm) : Res Vl :=
  match x, i with
  | .str s, .int i => if s.length ≤ LIM then (match atI s i with
    | some c => .ok (.str [c]) h
    | none => .bad) else .bad
  | x, .int i => match seqOf h x with
    | some xs => (match atI xs i with
      | some v => .ok v h
      | none => .bad)
    | none => .bad
  | x, .str k => match dctOf h x with
    | some kvs => (match getK kvs k with
      | some v => .ok v h
      | none => .bad)
    | none => .bad
  | _, _ => .bad
def isAbs : Ex → Bool
  | .cst .non => true
  | _ => false
def slcV (lv : Bool) (x : Vl) (lo hi : Option Int) (h : Hm) : Res Vl :=
  match x with
  | .str s => if s.length ≤ LIM then .ok (.str (cut s lo hi)) h else .bad
  | .tup xs => .ok (.tup (cut xs lo hi)) h
  | x => match lstOf h x with
    | some xs => newL lv (cut xs lo hi) h
    | none => .bad
/-- x[:0:-1] -/
def slcRV (x : Vl) (h : Hm) : Res Vl := match x with
  | .tup xs => .ok (.tup (xs.drop 1).reverse) h
  | _ => .bad
def intR (r : Res Vl) : Res (Option Int) := r.bind fun v h => match v with
  | .int i => .ok (some i) h
  | _ => .bad
/-- o[i] = v -/
def setV (o i v : Vl) (h : Hm) : Res Unit :=
  match o with
  | .ref a => match h[a]?, i with
    | some (.lst xs), .int k => (match ixN xs.length k with
      | some j => .ok () (h.set a (.lst (xs.set j v)))
      | none => .bad)
    | some (.dct kvs), .str k => if kvs.length < LIM then .ok () (h.set a (.dct (putK k v kvs))) else .bad
    | _, _ => .bad
  | _ => .bad

/-! ### built-in functions -/
def lenV (h : Hm) : Vl → Option Nat
  | .str s => if s.length ≤ LIM then some s.length else none
  | v => match seqOf h v with
    | some xs => some xs.length
    | none => match dctOf h v with
      | some kvs => some kvs.length
      | none => none
/-- the name of a built-in thing's type -/
def tyNm (h : Hm) : Vl → Option String
  | .non => some "NoneType"
  | .bl _ => some "bool"
  | .int _ => some "int"
  | .str _ => some "str"
  | .tup _ => some "tuple"
  | .fl _ => some "list"
  | .fd _ => some "dict"
  | .ref a => match h[a]? with
    | some (.lst _) => some "list"
    | some (.dct _) => some "dict"
    | _ => none
  | _ => none
def subT (n t : String) : Option Bool := if ["str", "int", "bool", "tuple", "list", "dict"].contains t then some (n == t || (n == "bool" && t == "int")) else none
def isi (h : Hm) (v : Vl) (t : String) : Option Bool := match tyNm h v with
  | some n => subT n t
  | none => none
def digits (n : Nat) : Tx := (toString n).toList.map Char.toNat
def showI (i : Int) : Tx := (toString i).toList.map Char.toNat
def strsOf : List Vl → Option (List Tx)
  | [] => some []
  | .str s :: r => (strsOf r).map (s :: ·)
  | _ => none
def bolsOf : List Vl → Option (List Bool)
  | [] => some []
  | .bl b :: r => (bolsOf r).map (b :: ·)
  | _ => none
def intsOf : List Vl → Option (List Int)
  | [] => some []
  | .int b :: r => (intsOf r).map (b :: ·)
  | _ => none
def joinT (sep : Tx) : List Tx → Tx
  | [] => []
  | [s] => s
  | s :: r => s ++ sep ++ joinT sep r
def lowerC (c : Nat) : Nat := if 65 ≤ c ∧ c ≤ 90 then c + 32 else c

def bLen : List Vl → Hm → Res Vl
  | [v], h => (match lenV h v with
    | some n => .ok (.int n) h
    | none => .bad)
  | _, _ => .bad
def bAbs : List Vl → Hm → Res Vl
  | [.int i], h => .ok (.int (if i < 0 then -i else i)) h
  | _, _ => .bad
/-- the greatest, the least of ints -/
def topI : Int → List Int → Int
  | a, [] => a
  | a, b :: r => topI (if b > a then b else a) r
def botI : Int → List Int → Int
  | a, [] => a
  | a, b :: r => botI (if b < a then b else a) r
def bMax : List Vl → Hm → Res Vl
  | [.int i, .int j], h => .ok (.int (if j > i then j else i)) h
  | [v], h => (match (lstOf h v).bind intsOf with
    | some (a :: ns) => .ok (.int (topI a ns)) h
    | _ => .bad)
  | _, _ => .bad
def bMin : List Vl → Hm → Res Vl
  | [.int i, .int j], h => .ok (.int (if j < i then j else i)) h
  | [v], h => (match (lstOf h v).bind intsOf with
    | some (a :: ns) => .ok (.int (botI a ns)) h
    | _ => .bad)
  | _, _ => .bad
def bInt : List Vl → Hm → Res Vl
  | [.int i], h => .ok (.int i) h
  | [.bl b], h => .ok (.int (if b then 1 else 0)) h
  | _, _ => .bad
def bAll : List Vl → Hm → Res Vl
  | [v], h => (match (lstOf h v).bind bolsOf with
    | some bs => .ok (.bl (bs.all id)) h
    | none => .bad)
  | _, _ => .bad
def bAny : List Vl → Hm → Res Vl
  | [v], h => (match (lstOf h v).bind bolsOf with
    | some bs => .ok (.bl (bs.any id)) h
    | none => .bad)
  | _, _ => .bad
def bList (lv : Bool) : List Vl → Hm → Res Vl
  | [.str s], h => if s.length ≤ LIM then newL lv (s.map fun c => .str [c]) h else .bad
  | [v], h => (match seqOf h v with
    | some xs => newL lv xs h
    | none => .bad)
  | _, _ => .bad
/-- isinstance of an own class -/
def isc (h : Hm) (v : Vl) (c : String) : Option Bool := match objOf h v with
  | some (c', _) => some (decide (c' = c))
  | none => (tyNm h v).map fun _ => false
def bIsi : List Vl → Hm → Res Vl
  | [v, .ty t], h => bres (isi h v t) h
  | [v, .cl c], h => bres (isc h v c) h
  | _, _ => .bad
def bBool : List Vl → Hm → Res Vl
  | [.int i], h => .ok (.bl (i != 0)) h
  | [.bl b], h => .ok (.bl b) h
  | [v], h => (match lstOf h v with
    | some xs => .ok (.bl (!xs.isEmpty)) h
    | none => .bad)
  | _, _ => .bad
def bStr : List Vl → Hm → Res Vl
  | [.int i], h => if i.natAbs.log2 < 1920 then .ok (.str (showI i)) h else .bad
  | [.str s], h => .ok (.str s) h
  | _, _ => .bad
def bTup : List Vl → Hm → Res Vl
  | [.tup xs], h => .ok (.tup xs) h
  | [v], h => (match lstOf h v with
    | some xs => .ok (.tup xs) h
    | none => .bad)
  | _, _ => .bad
def bSum : List Vl → Hm → Res Vl
  | [v], h => (match (lstOf h v).bind intsOf with
    | some ns => .ok (.int ns.sum) h
    | none => .bad)
  | _, _ => .bad
/-- texts in order, each as often as it stands there; each once -/
def insS (x : Tx) : List Tx → List Tx
  | [] => [x]
  | y :: r => if y < x then y :: insS x r else x :: y :: r
def sortS : List Tx → List Tx
  | [] => []
  | x :: r => insS x (sortS r)
def insU (x : Tx) : List Tx → List Tx
  | [] => [x]
  | y :: r => if x = y then y :: r else if y < x then y :: insU x r else x :: y :: r
def sortU : List Tx → List Tx
  | [] => []
  | x :: r => insU x (sortU r)
def bSorted (lv : Bool) : List Vl → Hm → Res Vl
  | [v], h => (match (lstOf h v).bind strsOf with
    | some ss => newL lv ((sortS ss).map .str) h
    | none => match dctOf h v with
      | some kvs => if kvs.length < 64 then newL lv ((sortS (kvs.map (·.1))).map .str) h else .bad
      | none => .bad)
  | _, _ => .bad
def bSortedU (lv : Bool) : List Vl → Hm → Res Vl
  | [v], h => (match (lstOf h v).bind strsOf with
    | some ss => if ss.length < 4000 then newL lv ((sortU ss).map .str) h else .bad
    | none => .bad)
  | _, _ => .bad
def bltF (f : String) (vs : List Vl) (h : Hm) : Res Vl :=
  match f with
  | "bool" => bBool vs h
  | "str" => bStr vs h
  | "tuple" => bTup vs h
  | "sum" => bSum vs h
  | "len" => bLen vs h
  | "abs" => bAbs vs h
  | "max" => bMax vs h
  | "min" => bMin vs h
  | "int" => bInt vs h
  | "all" => bAll vs h
  | "any" => bAny vs h
  | "list" => bList false vs h
  | "listL" => bList true vs h
  | "sorted" => bSorted false vs h
  | "sortedL" => bSorted true vs h
  | "sortedset" => bSortedU false vs h
  | "sortedsetL" => bSortedU true vs h
  | "isinstance" => bIsi vs h
  | "range" => (match vs with
    | [.int j] => if -(2 ^ 62) ≤ j ∧ j < 2 ^ 62 then .ok (.rng 0 j.toNat) h else .bad
    | _ => .bad)
  | "enumerate" => (match vs with
    | [v] => .ok (.enm v) h
    | _ => .bad)
  | _ => .bad
/-- methods of built-in things -/
def mJoin (o : Vl) (vs : List Vl) (h : Hm) : Res Vl := match o, vs with
  | .str sep, [v] => (match (seqOf h v).bind strsOf with
    | some ss => if (ss.map (·.length)).sum + ss.length * sep.length ≤ LIM then .ok (.str (joinT sep ss)) h else .bad
    | none => .bad)
  | _, _ => .bad
def mLower (o : Vl) (vs : List Vl) (h : Hm) : Res Vl := match o, vs with
  | .str s, [] => if s.length ≤ 5592405 ∧ s.all (· < 128) then .ok (.str (s.map lowerC)) h else .bad
  | _, _ => .bad
def mAppend (o : Vl) (vs : List Vl) (h : Hm) : Res Vl := match o, vs with
  | .ref a, [v] => (match h[a]? with
    | some (.lst xs) => if xs.length < LIM then .ok .non (h.set a (.lst (xs ++ [v]))) else .bad
    | _ => .bad)
  | _, _ => .bad
def mExtend (o : Vl) (vs : List Vl) (h : Hm) : Res Vl := match o, vs with
  | .ref a, [v] => (match h[a]?, livOf h v with
    | some (.lst xs), some zs => if xs.length + zs.length ≤ LIM then .ok .non (h.set a (.lst (xs ++ zs))) else .bad
    | _, _ => .bad)
  | _, _ => .bad
def mPop (o : Vl) (vs : List Vl) (h : Hm) : Res Vl := match o, vs with
  | .ref a, [] => (match h[a]? with
    | some (.lst xs) => (match xs[xs.length - 1]? with
      | some y => .ok y (h.set a (.lst xs.dropLast))
      | none => .bad)
    | _ => .bad)
  | _, _ => .bad
def mReverse (o : Vl) (vs : List Vl) (h : Hm) : Res Vl := match o, vs with
  | .ref a, [] => (match h[a]? with
    | some (.lst xs) => .ok .non (h.set a (.lst xs.reverse))
    | _ => .bad)
  | _, _ => .bad
def mStarts (o : Vl) (vs : List Vl) (h : Hm) : Res Vl := match o, vs with
  | .str s, [.str t] => .ok (.bl (s.take t.length == t)) h
  | .str s, [.str t, .int i] => if 0 ≤ i then .ok (.bl (decide (i.toNat ≤ s.length) && (s.drop i.toNat).take t.length == t)) h else .bad
  | _, _ => .bad
/-- the pairs of a display -/
def pairsOf : List Vl → Option (List (Tx × Vl))
  | [] => some []
  | .str k :: v :: r => (pairsOf r).map ((k, v) :: ·)
  | _ => none
def mkD (kvs : List (Tx × Vl)) : List (Tx × Vl) := kvs.foldl (fun acc kv => putK kv.1 kv.2 acc) []
def mGet (o : Vl) (vs : List Vl) (h : Hm) : Res Vl := match dctOf h o, vs with
  | some kvs, [.str k] => .ok ((getK kvs k).getD .non) h
  | some kvs, [.str k, v] => .ok ((getK kvs k).getD v) h
  | _, _ => .bad
def bmF (m : String) (o : Vl) (vs : List Vl) (h : Hm) : Res Vl :=
  match m with
  | "extend" => mExtend o vs h
  | "pop" => mPop o vs h
  | "reverse" => mReverse o vs h
  | "startswith" => mStarts o vs h
  | "join" => mJoin o vs h
  | "lower" => mLower o vs h
  | "append" => mAppend o vs h
  | "get" => mGet o vs h
  | _ => .bad
/-- the type whose method it is, by the name and how many arguments there are -/
def bmTy : String → Nat → String
  | "join", _ => "str"
  | "lower", _ => "str"
  | "append", _ => "list"
  | "extend", _ => "list"
  | "pop", 0 => "list"
  | "reverse", _ => "list"
  | "startswith", _ => "str"
  | "get", _ => "dict"
  | _, _ => ""
def bmChk (t : String) (x : Vl) (h : Hm) : Bool := match t with
  | "str" => (match x with
    | .str _ => true
    | _ => false)
  | "list" => (lstOf h x).isSome
  | "dict" => (dctOf h x).isSome
  | _ => false

/-! ### parameters -/
def srcV (vs : List Vl) : Src → Option Vl
  | .at i => vs[i]?
  | .dfl v => some v
def srcs (vs : List Vl) : List Src → Option (List Vl)
  | [] => some []
  | s :: r => match srcV vs s, srcs vs r with
    | some v, some l => some (v :: l)
    | _, _ => none

/-! ### patterns -/
mutual
def bindP : Pt → Vl → Rho → Option Rho
  | .name i, v, r => some (r.set i (some v))
  | .tup ps, .tup vs, r => bindPs ps vs r
  | .tup _, _, _ => none
def bindPs : List Pt → List Vl → Rho → Option Rho
  | [], [], r => some r
  | p :: ps, v :: vs, r => match bindP p v r with
    | some r => bindPs ps vs r
    | none => none
  | _, _, _ => none
end

def wipe (r : Rho) : List Nat → Rho
  | [] => r
  | v :: vs => (wipe r vs).set v none

/-- an object that is never changed again -/
def frzV (h : Hm) (v : Vl) : Vl × Hm :=
  match v with
  | .ref b => match h[b]? with
    | some (.lst xs) => (.fl xs, h.set b .dead)
    | some (.dct kvs) => (.fd kvs, h.set b .dead)
    | _ => (v, h)
  | _ => (v, h)
def frzFs : List (String × Vl) → Hm → List (String × Vl) × Hm
  | [], h => ([], h)
  | (f, v) :: r, h => ((f, (frzV h v).1) :: (frzFs r (frzV h v).2).1, (frzFs r (frzV h v).2).2)

/-- what a loop goes over -/
inductive It where
  | vals (xs : List Vl)
  | live (a : Nat)
  | rng (lo : Int) (n : Nat)
  | enumL (a : Nat)
  | enumV (xs : List Vl)
/-- the item at a turn; none inside: it stops -/
def It.next : It → Nat → Hm → Option (Option Vl)
  | .vals xs, i, _ => some xs[i]?
  | .live a, i, h => match h[a]? with
    | some (.lst xs) => some xs[i]?
    | _ => none
  | .rng lo n, i, _ => some (if i < n then some (.int (lo + i)) else none)
  | .enumL a, i, h => match h[a]? with
    | some (.lst xs) => some (xs[i]?.map fun x => .tup [.int i, x])
    | _ => none
  | .enumV xs, i, _ => some (xs[i]?.map fun x => .tup [.int i, x])
def itOf (h : Hm) : Vl → Option It
  | .rng lo n => some (.rng lo n)
  | .enm (.ref a) => match h[a]? with
    | some (.lst _) => some (.enumL a)
    | _ => none
  | .enm (.fl xs) => some (.enumV xs)
  | .scr ns => some (.vals (ns.map .int))
  | .tup xs => some (.vals xs)
  | .fl xs => some (.vals xs)
  | .str s => some (.vals (s.map fun c => .str [c]))
  | .ref a => match h[a]? with
    | some (.lst _) => some (.live a)
    | _ => none
  | _ => none

/-- a for -/
def loopF (it : It) (body : Vl → Rho → Hm → Res Flow) : Nat → Nat → Rho → Hm → Res Flow
  | 0, _, _, _ => .bad
  | n + 1, i, r, h => match it.next i h with
    | none => .bad
    | some none => .ok (.nx r) h
    | some (some x) => match body x r h with
      | .ok (.nx r') h' => loopF it body n (i + 1) r' h'
      | .ok (.ct r') h' => loopF it body n (i + 1) r' h'
      | .ok (.bk r') h' => .ok (.nx r') h'
      | .ok (.rt v) h' => .ok (.rt v) h'
      | .exc c fs h' => .exc c fs h'
      | .bad => .bad
/-- a comprehension, its list at D: body gives the item that a turn lays down -/
def loopC (it : It) (D : Nat) (body : Vl → Hm → Res (Option Vl)) : Nat → Nat → Hm → Res Unit
  | 0, _, _ => .bad
  | n + 1, i, h => match it.next i h with
    | none => .bad
    | some none => .ok () h
    | some (some x) => (body x h).bind fun y h => match y with
      | none => loopC it D body n (i + 1) h
      | some y => match h[D]? with
        | some (.lst acc) => if acc.length < LIM then loopC it D body n (i + 1) (h.set D (.lst (acc ++ [y]))) else .bad
        | _ => .bad
/-- a comprehension whose list is never changed -/
def loopP (it : It) (body : Vl → Hm → Res (Option Vl)) : Nat → Nat → List Vl → Hm → Res (List Vl)
  | 0, _, _, _ => .bad
  | n + 1, i, acc, h => match it.next i h with
    | none => .bad
    | some none => .ok acc h
    | some (some x) => (body x h).bind fun y h => match y with
      | none => loopP it body n (i + 1) acc h
      | some y => if acc.length < LIM then loopP it body n (i + 1) (acc ++ [y]) h else .bad
/-- a while -/
def loopW (c : Rho → Hm → Res Vl) (body : Rho → Hm → Res Flow) : Nat → Rho → Hm → Res Flow
  | 0, _, _ => .bad
  | n + 1, r, h => (c r h).bind fun b h => match b with
    | .bl true => (match body r h with
      | .ok (.nx r') h' => loopW c body n r' h'
      | .ok (.ct r') h' => loopW c body n r' h'
      | .ok (.bk r') h' => .ok (.nx r') h'
      | .ok (.rt v) h' => .ok (.rt v) h'
      | .exc c fs h' => .exc c fs h'
      | .bad => .bad)
    | .bl false => .ok (.nx r) h
    | _ => .bad

/-- in a test the value's truth -/
def asT (m : Bool) (r : Res Vl) : Res Vl := if m then r.bind fun v h => (match tru h v with
  | some b => .ok (.bl b) h
  | none => .bad) else r

def attV (f : String) (x : Vl) (h : Hm) : Res Vl := match objOf h x with
  | some (_, fs) => (match getF fs f with
    | some v => .ok v h
    | none => .bad)
  | none => .bad
def setF (o : Vl) (f : String) (v : Vl) (h : Hm) : Res Unit := match o with
  | .ref a => match h[a]? with
    | some (.inst c fs) => if fs.length < 900 then .ok () (h.set a (.inst c (putF f v fs))) else .bad
    | _ => .bad
  | _ => .bad
/-- what len, str, repr, bool ask of an own object -/
def lenR (r : Res Vl) : Res Vl := r.bind fun v h => match v with
  | .int i => if 0 ≤ i ∧ i < 2 ^ 63 then .ok (.int i) h else .bad
  | _ => .bad
def strR (r : Res Vl) : Res Vl := r.bind fun v h => match v with
  | .str s => .ok (.str s) h
  | _ => .bad
def boolR (r : Res Vl) : Res Vl := r.bind fun v h => match v with
  | .bl b => .ok (.bl b) h
  | _ => .bad
def notR (r : Res Vl) : Res Vl := r.bind fun v h => match v with
  | .bl b => .ok (.bl (!b)) h
  | _ => .bad
def truR (r : Res Vl) : Res Vl := r.bind fun v h => match v with
  | .int i => if 0 ≤ i ∧ i < 2 ^ 63 then .ok (.bl (i != 0)) h else .bad
  | _ => .bad
def ownF (C : Cs) (f c : String) (v : Vl) (h : Hm) : Res Vl := match f with
  | "len" => lenR (C.ini c "__len__" [v] h)
  | "repr" => strR (C.ini c "__repr__" [v] h)
  | "str" => strR (C.in2 c "__str__" [v] h)
  | "bool" => truR (C.ini c "__len__" [v] h)
  | _ => .bad
/-- a built-in of own things, too -/
def bltC (C : Cs) (f : String) (vs : List Vl) (h : Hm) : Res Vl := match vs with
  | [v] => (match objOf h v with
    | some (c, _) => ownF C f c v h
    | none => bltF f [v] h)
  | vs => bltF f vs h
/-- {x} -/
def fmtV (C : Cs) (v : Vl) (h : Hm) : Res Vl := match v with
  | .str s => if s.length ≤ LIM then .ok (.str s) h else .bad
  | .int i => if i.natAbs.log2 < 1920 then .ok (.str (showI i)) h else .bad
  | v => match objOf h v with
    | some (c, _) => strR (C.ini c "__str__" [v] h)
    | none => .bad
/-- a thing of a known type -/
def typed (h : Hm) (v : Vl) : Bool := (objOf h v).isSome || (tyNm h v).isSome
/-- x in [..] of an own thing: None, then one that is equal -/
def inO (C : Cs) (x : Vl) (cx : String) : List Vl → Hm → Res Vl
  | [], h => .ok (.bl false) h
  | .non :: r, h => (pureR (C.ini cx "__eq__" [x, .non] []) h).bind fun b h => match b with
    | .bl false => inO C x cx r h
    | _ => .bad
  | y :: _, h => match objOf h y with
    | some (c, _) => (pureR (C.ini c "__eq__" [y, x] []) h).bind fun b h => (match b with
      | .bl true => .ok (.bl true) h
      | _ => .bad)
    | none => .bad
def inOwn (C : Cs) (x : Vl) (cx : String) (y : Vl) (h : Hm) : Res Vl := match y with
  | .fl ys => if clo x && clos ys then inO C x cx ys h else .bad
  | _ => .bad
/-- == and != of own things, too -/
def cmpC (C : Cs) (op : Cop) (x y : Vl) (h : Hm) : Res Vl := match op, objOf h x with
  | .eq, some (c, _) => if typed h y then boolR (C.fn c "__eq__" [x, y] h) else .bad
  | .ne, some (c, _) => if typed h y then notR (C.ini c "__eq__" [x, y] h) else .bad
  | .isin, some (c, _) => inOwn C x c y h
  | .notin, some (c, _) => notR (inOwn C x c y h)
  | op, _ => cmpop op x y h
/-- a new object is made -/
def mkV (C : Cs) (c : String) (fz : Bool) (vs : List Vl) (h : Hm) : Res Vl :=
  (C.ini c "__init__" vs (h ++ [.inst c []])).bind fun r h' => match r with
    | .non => if fz then (match h'[h.length]? with
      | some (.inst c fs) => .ok (.ob c (frzFs fs h').1) ((frzFs fs h').2.set h.length .dead)
      | _ => .bad) else .ok (.ref h.length) h'
    | _ => .bad
mutual
def evM (C : Cs) : Ex → Bool → Rho → Hm → Res Vl
  | .var i, m, r, h => asT m (match r[i]? with
    | some (some v) => .ok v h
    | _ => .bad)
  | .cst v, m, r, h => asT m (.ok v h)
  | .tupE es, m, r, h => asT m ((evs C es r h).bind fun vs h => if vs.length ≤ LIM then .ok (.tup vs) h else .bad)
  | .lstE lv es, m, r, h => asT m ((evs C es r h).bind fun vs h => if vs.length ≤ LIM then newL lv vs h else .bad)
  | .dctE lv es, m, r, h => asT m ((evs C es r h).bind fun vs h => match pairsOf vs with
    | some kvs => if kvs.length ≤ 15 then newD lv (mkD kvs) h else .bad
    | none => .bad)
  | .bin op a b, m, r, h => asT m ((evM C a false r h).bind fun x h => (evM C b false r h).bind fun y h => binop op x y h)
  | .neg a, m, r, h => asT m ((evM C a false r h).bind fun x h => match x with
    | .int i => .ok (.int (-i)) h
    | _ => .bad)
  | .not a, true, r, h => (evM C a true r h).bind fun x h => match x with
    | .bl b => .ok (.bl (!b)) h
    | _ => .bad
  | .not a, false, r, h => (evM C a false r h).bind fun x h => match tru h x with
    | some b => .ok (.bl (!b)) h
    | none => .bad
  | .cmp op a b, m, r, h => asT m ((evM C a false r h).bind fun x h => (evM C b false r h).bind fun y h => cmpC C op x y h)
  | .chain o1 o2 a b c, m, r, h => asT m ((evM C a false r h).bind fun x h => (evM C b false r h).bind fun y h => (cmpop o1 x y h).bind fun t h => match t with
    | .bl true => (evM C c false r h).bind fun z h => cmpop o2 y z h
    | .bl false => .ok (.bl false) h
    | _ => .bad)
  | .and a b, true, r, h => (evM C a true r h).bind fun x h => match x with
    | .bl true => evM C b true r h
    | .bl false => .ok (.bl false) h
    | _ => .bad
  | .and a b, false, r, h => (evM C a false r h).bind fun x h => match tru h x with
    | some true => evM C b false r h
    | some false => .ok x h
    | none => .bad
  | .or a b, true, r, h => (evM C a true r h).bind fun x h => match x with
    | .bl true => .ok (.bl true) h
    | .bl false => evM C b true r h
    | _ => .bad
  | .or a b, false, r, h => (evM C a false r h).bind fun x h => match tru h x with
    | some true => .ok x h
    | some false => evM C b false r h
    | none => .bad
  | .ite c a b, m, r, h => (evM C c true r h).bind fun x h => match x with
    | .bl true => evM C a m r h
    | .bl false => evM C b m r h
    | _ => .bad
  | .att a f, m, r, h => asT m ((evM C a false r h).bind fun x h => attV f x h)
  | .sub a i, m, r, h => asT m ((evM C a false r h).bind fun x h => (evM C i false r h).bind fun y h => subV x y h)
  | .slcR a, m, r, h => asT m ((evM C a false r h).bind fun x h => slcRV x h)
  | .slc lv a lo hi, m, r, h => asT m ((evM C a false r h).bind fun x h => (if isAbs lo then .ok none h else intR (evM C lo false r h)).bind fun y h => (if isAbs hi then .ok none h else intR (evM C hi false r h)).bind fun z h => slcV lv x y z h)
  | .call f es pm, m, r, h => asT m ((evs C es r h).bind fun vs h => match srcs vs pm with
    | some vs => C.fn "" f vs h
    | none => .bad)
  | .callp f es pm, m, r, h => asT m ((evs C es r h).bind fun vs h => if clos vs then (match srcs vs pm with
    | some vs => pureR (C.fn "" f vs []) h
    | none => .bad) else .bad)
  | .mkp c es pm, m, r, h => asT m ((evs C es r h).bind fun vs h => if clos vs then (match srcs (.ref 0 :: vs) pm with
    | some vs => pureR (mkV C c true vs []) h
    | none => .bad) else .bad)
  | .methp o f es pm, m, r, h => asT m ((evM C o false r h).bind fun x h => match objOf h x with
    | some (c, fs) => if (getF fs f).isNone then (evs C es r h).bind fun vs h => (if clos (x :: vs) then (match srcs (x :: vs) pm with
      | some vs => pureR (C.fn c f vs []) h
      | none => .bad) else .bad) else .bad
    | none => .bad)
  | .mk c es pm fz, m, r, h => asT m ((evs C es r h).bind fun vs h => match srcs (.ref h.length :: vs) pm with
    | some vs => mkV C c fz vs h
    | none => .bad)
  | .meth o f es pm, m, r, h => asT m ((evM C o false r h).bind fun x h => match objOf h x with
    | some (c, fs) => if (getF fs f).isNone then (evs C es r h).bind fun vs h => (match srcs (x :: vs) pm with
      | some vs => C.fn c f vs h
      | none => .bad) else .bad
    | none => .bad)
  | .callv f es, m, r, h => asT m ((evM C f false r h).bind fun x h => (evs C es r h).bind fun vs h => match x with
    | .fn c f => C.fn c f vs h
    | _ => .bad)
  | .blt f es, m, r, h => asT m ((evs C es r h).bind fun vs h => bltC C f vs h)
  | .bm o f es, m, r, h => asT m ((evM C o false r h).bind fun x h => if bmChk (bmTy f es.length) x h then (evs C es r h).bind fun vs h => bmF f x vs h else .bad)
  | .lc lv elt p it cond own, m, r, h => asT m ((evM C it false r h).bind fun v h => match itOf h v with
    | none => .bad
    | some J => if lv then (loopC J h.length (fun x h => match bindP p x (wipe r own) with
        | some r' => (evM C cond true r' h).bind fun b h => (match b with
          | .bl true => (evM C elt false r' h).bind fun y h => .ok (some y) h
          | .bl false => .ok none h
          | _ => .bad)
        | none => .bad) FUEL 0 (h ++ [.lst []])).bind fun _ h' => .ok (.ref h.length) h'
      else (loopP J (fun x h => match bindP p x (wipe r own) with
        | some r' => (evM C cond true r' h).bind fun b h => (match b with
          | .bl true => (evM C elt false r' h).bind fun y h => .ok (some y) h
          | .bl false => .ok none h
          | _ => .bad)
        | none => .bad) FUEL 0 [] h).bind fun acc h' => .ok (.fl acc) h')
  | .lc2 elt p it cond p2 it2 cond2 own, m, r, h => .bad
  | .fstr es, m, r, h => asT m ((evf C es [] r h).bind fun s h => .ok (.str s) h)
  | .fmt e, m, r, h => asT m ((evM C e false r h).bind fun v h => fmtV C v h)
  | .dc k v p it cond own, m, r, h => .bad
/-- the pieces of an f-text -/
def evf (C : Cs) : List Ex → Tx → Rho → Hm → Res Tx
  | [], acc, _, h => .ok acc h
  | e :: es, acc, r, h => (evM C e false r h).bind fun x h => match x with
    | .str s => if acc.length + s.length ≤ LIM then evf C es (acc ++ s) r h else .bad
    | _ => .bad
def evs (C : Cs) : List Ex → Rho → Hm → Res (List Vl)
  | [], _, h => .ok [] h
  | e :: es, r, h => (evM C e false r h).bind fun x h => (evs C es r h).bind fun xs h => .ok (x :: xs) h
end

/-- a op= b -/
def augop : Bop → Vl → Vl → Hm → Res Vl
  | .add, .int i, .int j, h => .ok (.int (i + j)) h
  | .sub, .int i, .int j, h => .ok (.int (i - j)) h
  | _, _, _, _ => .bad
/-! ### statements -/
mutual
/-- a value goes to a target -/
def asg (C : Cs) : Tg → Vl → Rho → Hm → Res Rho
  | .name i, v, r, h => .ok (r.set i (some v)) h
  | .att o f, v, r, h => (evM C o false r h).bind fun x h => (setF x f v h).bind fun _ h => .ok r h
  | .sub o i, v, r, h => (evM C o false r h).bind fun x h => (evM C i false r h).bind fun y h => (setV x y v h).bind fun _ h => .ok r h
  | .tup ts, v, r, h => match v with
    | .tup vs => asgs C ts vs r h
    | .fl vs => asgs C ts vs r h
    | _ => .bad
def asgs (C : Cs) : List Tg → List Vl → Rho → Hm → Res Rho
  | [], [], r, h => .ok r h
  | t :: ts, v :: vs, r, h => (asg C t v r h).bind fun r h => asgs C ts vs r h
  | _, _, _, _ => .bad
end
mutual
def ex (C : Cs) : Sm → Rho → Hm → Res Flow
  | .expr e, r, h => (evM C e false r h).bind fun _ h => .ok (.nx r) h
  | .asg t e, r, h => (evM C e false r h).bind fun v h => (asg C t v r h).bind fun r h => .ok (.nx r) h
  | .aug i op e, r, h => match r[i]? with
    | some (some x) => (evM C e false r h).bind fun y h => (augop op x y h).bind fun z h => .ok (.nx (r.set i (some z))) h
    | _ => .bad
  | .augF o f op e, r, h => (evM C o false r h).bind fun x h0 => (attV f x h0).bind fun a h => (evM C e false r h).bind fun y h => (augop op a y h).bind fun z h => if clsOf h x = clsOf h0 x then (setF x f z h).bind fun _ h => .ok (.nx r) h else .bad
  | .augS o i op e, r, h => (evM C o false r h).bind fun x h => (evM C i false r h).bind fun j h => (subV x j h).bind fun a h => (evM C e false r h).bind fun y h => (augop op a y h).bind fun z h => (setV x j z h).bind fun _ h => .ok (.nx r) h
  | .ret e, r, h => (evM C e false r h).bind fun v h => .ok (.rt v) h
  | .ite c a b, r, h => (evM C c true r h).bind fun x h => match x with
    | .bl true => exs C a r h
    | .bl false => exs C b r h
    | _ => .bad
  | .whl c b, r, h => loopW (fun r h => evM C c true r h) (fun r h => exs C b r h) FUEL r h
  | .for_ p it b, r, h => (evM C it false r h).bind fun v h => match itOf h v with
    | none => .bad
    | some J => loopF J (fun x r h => match bindP p x r with
      | some r => exs C b r h
      | none => .bad) FUEL 0 r h
  | .brk, r, h => .ok (.bk r) h
  | .cont, r, h => .ok (.ct r) h
  | .pass, r, h => .ok (.nx r) h
  | .delS o i, r, h => .bad
  | .delSl o lo, r, h => .bad
  | .frz i, r, h => match r[i]? with
    | some (some v) => .ok (.nx (r.set i (some (frzV h v).1))) (frzV h v).2
    | _ => .bad
  | .never, r, h => .bad
def exs (C : Cs) : List Sm → Rho → Hm → Res Flow
  | [], r, h => .ok (.nx r) h
  | s :: ss, r, h => match ex C s r h with
    | .ok (.nx r) h => exs C ss r h
    | .ok f h => .ok f h
    | .exc c fs h => .exc c fs h
    | .bad => .bad
end

/-! ### defs -/
structure Fn where
  ar : Nat
  n : Nat
  body : List Sm
abbrev Prg := List ((String × String) × Fn)
def start (n : Nat) (vs : List Vl) : Rho := vs.map some ++ List.replicate (n - vs.length) none
def runB (r : Res Flow) : Res Vl := r.bind fun f h => match f with
  | .nx _ => .ok .non h
  | .rt v => .ok v h
  | _ => .bad
def fnAt (P : Prg) (C : Cs) (c f : String) (vs : List Vl) (h : Hm) : Res Vl := match P.lookup (c, f) with
  | some g => if vs.length = g.ar then runB (exs C g.body (start g.n vs) h) else .bad
  | none => .bad
/-- the calls at a level -/
def csOf (P : Prg) : Nat → Cs
  | 0 => ⟨fun _ _ _ _ => .bad, fun _ _ _ _ => .bad, fun _ _ _ _ => .bad⟩
  | d + 1 => ⟨fnAt P (csOf P d), (csOf P d).fn, (csOf P d).ini⟩
def callP (P : Prg) (d : Nat) : String → String → List Vl → Hm → Res Vl := (csOf P d).fn
theorem callP_succ (P : Prg) (d : Nat) (c f : String) (vs : List Vl) (h : Hm) : callP P (d + 1) c f vs h = fnAt P (csOf P d) c f vs h := rfl
end Mi
/-! MINI: how its states stand for the model's -/
namespace Mi
open PySem PySem.Spec PyProof.Rows L2

/-- what a def's head tells: its parameters, its defaults -/
structure FnI where
  par : Arguments
  dfl : List Vl
  kwd : List (Str × Vl)
structure Gi where
  K : PySem.W.Frag
  cs : List String
  fl : List String
  ca : String → Addr
  fa : String → String → Addr
  fi : String → String → Option FnI
  /-- what stands by, untouched -/
  U : Hp

abbrev Mp := Nat → Option Addr
def ss (s : Tx) : Str := ⟨s.toArray⟩
def sOk (s : Tx) : Prop := ∀ c ∈ s, c < 0x110000

theorem ss_inj {s t : Tx} (h : ss s = ss t) : s = t := by
  have : s.toArray = t.toArray := congrArg Str.cps h
  simpa using this
theorem ss_list (s : Tx) : (ss s).cps.toList = s := by simp [ss]
theorem ss_len (s : Tx) : (ss s).length = s.length := by simp [ss, Str.length]
theorem ofS (s : String) : Str.ofString s = ss (S s) := Str.ofString_eq_toList s
theorem S_inj {a b : String} (h : S a = S b) : a = b := by
  unfold S at h
  have : a.toList = b.toList := by
    refine List.map_inj_right (fun x y e => ?_) |>.mp h
    exact Char.toNat_inj.mp e
  exact String.toList_inj.mp this
theorem of_inj {a b : String} (h : Str.ofString a = Str.ofString b) : a = b := by
  rw [ofS, ofS] at h
  exact S_inj (ss_inj h)

/-- a list, and its object has no slots -/
def SqX (K : PySem.W.Frag) (H : Hp) (a : Addr) (xs : List V) : Prop :=
  Rd H a (.lst xs) ∨ ∃ (its : Array Value) (n : Nat), K.lookup a = some ⟨.type "list", none, .seq its n, #[]⟩ ∧ its.size ≤ sizeLine ∧ Vals xs its.toList
theorem SqX.sq {K : PySem.W.Frag} {H : Hp} {a : Addr} {xs : List V} (h : SqX K H a xs) : SqL K H a xs := by
  rcases h with h | ⟨its, n, e, z, r⟩
  · exact .inl h
  · exact .inr ⟨_, its, n, e, rfl, rfl, rfl, z, r⟩
mutual
/-- a value stands for one of the model's; F: what is tracked and never changes; m: where the heap's objects stand -/
def R (G : Gi) (F : Hp) (m : Mp) : Vl → V → Prop
  | .non, x => x = .non
  | .bl b, x => x = .bl b
  | .int i, x => x = .int i
  | .str s, x => x = .str (ss s) ∧ sOk s
  | .byt b, x => False
  | .ref a, x => ∃ p, m a = some p ∧ x = .ref p
  | .tup xs, x => ∃ p ys, x = .ref p ∧ SqT G.K F p ys ∧ Rs G F m xs ys
  | .fl xs, x => ∃ p ys, x = .ref p ∧ SqX G.K F p ys ∧ Rs G F m xs ys
  | .fd kvs, x => ∃ p ys, x = .ref p ∧ F p = some (.dK ys) ∧ (kvs.map (·.1)).Nodup ∧ Rk G F m kvs ys
  | .ob c fs, x => ∃ p dx ys, x = .ref p ∧ F p = some (.ins (G.ca c) dx ys) ∧ c ∈ G.cs ∧ Rf G F m fs ys
  | .fn c f, x => x = .ref (G.fa c f)
  | .cl c, x => x = .ref (G.ca c) ∧ c ∈ G.cs
  | .ty t, x => x = .ty t
  | .rng _ _, _ => False
  | .enm _, _ => False
  | .zp _ _, _ => False
  | .scr ns, x => ∃ p, x = .ref p ∧ SqL G.K F p (ns.map V.int)
def Rs (G : Gi) (F : Hp) (m : Mp) : List Vl → List V → Prop
  | [], ys => ys = []
  | x :: xs, ys => ∃ y zs, ys = y :: zs ∧ R G F m x y ∧ Rs G F m xs zs
def Rk (G : Gi) (F : Hp) (m : Mp) : List (Tx × Vl) → List (Key × V) → Prop
  | [], ys => ys = []
  | (k, x) :: xs, ys => ∃ y zs, ys = (.inr (ss k), y) :: zs ∧ sOk k ∧ R G F m x y ∧ Rk G F m xs zs
def Rf (G : Gi) (F : Hp) (m : Mp) : List (String × Vl) → List (Str × V) → Prop
  | [], ys => ys = []
  | (k, x) :: xs, ys => ∃ y zs, ys = (Str.ofString k, y) :: zs ∧ R G F m x y ∧ Rf G F m xs zs
end

def Le (F F' : Hp) : Prop := ∀ b o, F b = some o → F' b = some o
def Lm (m m' : Mp) : Prop := ∀ a p, m a = some p → m' a = some p
theorem Le.refl (F : Hp) : Le F F := fun _ _ h => h
theorem Lm.refl (m : Mp) : Lm m m := fun _ _ h => h
theorem Le.trans {F F' F'' : Hp} (a : Le F F') (b : Le F' F'') : Le F F'' := fun c o h => b c o (a c o h)
theorem Lm.trans {m m' m'' : Mp} (a : Lm m m') (b : Lm m' m'') : Lm m m'' := fun c o h => b c o (a c o h)
theorem Le.tup {K : PySem.W.Frag} {F F' : Hp} (l : Le F F') {p : Addr} {ys : List V} (h : SqT K F p ys) : SqT K F' p ys := by
  rcases h with (h | ⟨o, h⟩) | h
  · exact .inl (.inl (l _ _ h))
  · exact .inl (.inr ⟨o, l _ _ h⟩)
  · exact .inr h
theorem Le.lst {K : PySem.W.Frag} {F F' : Hp} (l : Le F F') {p : Addr} {ys : List V} (h : SqX K F p ys) : SqX K F' p ys := by
  rcases h with (h | ⟨o, h⟩) | h
  · exact .inl (.inl (l _ _ h))
  · exact .inl (.inr ⟨o, l _ _ h⟩)
  · exact .inr h

theorem Le.lstL {K : PySem.W.Frag} {F F' : Hp} (l : Le F F') {p : Addr} {ys : List V} (h : SqL K F p ys) : SqL K F' p ys := by
  rcases h with (h | ⟨o, h⟩) | h
  · exact .inl (.inl (l _ _ h))
  · exact .inl (.inr ⟨o, l _ _ h⟩)
  · exact .inr h

section
variable {G : Gi} {F F' : Hp} {m m' : Mp}
mutual
theorem R.mono (l : Le F F') (lm : Lm m m') : ∀ (v : Vl) (x : V), R G F m v x → R G F' m' v x
  | .non, x, h => h
  | .bl _, x, h => h
  | .int _, x, h => h
  | .str _, x, h => h
  | .byt _, x, h => h
  | .ref a, x, ⟨p, e, q⟩ => ⟨p, lm _ _ e, q⟩
  | .tup xs, x, ⟨p, ys, e, q, r⟩ => ⟨p, ys, e, l.tup q, Rs.mono l lm xs ys r⟩
  | .fl xs, x, ⟨p, ys, e, q, r⟩ => ⟨p, ys, e, l.lst q, Rs.mono l lm xs ys r⟩
  | .fd kvs, x, ⟨p, ys, e, q, n, r⟩ => ⟨p, ys, e, l _ _ q, n, Rk.mono l lm kvs ys r⟩
  | .ob c fs, x, ⟨p, dx, ys, e, q, c1, r⟩ => ⟨p, dx, ys, e, l _ _ q, c1, Rf.mono l lm fs ys r⟩
  | .fn _ _, x, h => h
  | .cl _, x, h => h
  | .ty _, x, h => h
  | .rng _ _, _, h => h
  | .enm _, _, h => h
  | .zp _ _, _, h => h
  | .scr ns, x, ⟨p, e, q⟩ => ⟨p, e, l.lstL q⟩
theorem Rs.mono (l : Le F F') (lm : Lm m m') : ∀ (v : List Vl) (x : List V), Rs G F m v x → Rs G F' m' v x
  | [], x, h => h
  | v :: vs, x, ⟨y, zs, e, r, rs⟩ => ⟨y, zs, e, R.mono l lm v y r, Rs.mono l lm vs zs rs⟩
theorem Rk.mono (l : Le F F') (lm : Lm m m') : ∀ (v : List (Tx × Vl)) (x : List (Key × V)), Rk G F m v x → Rk G F' m' v x
  | [], x, h => h
  | (k, v) :: vs, x, ⟨y, zs, e, o, r, rs⟩ => ⟨y, zs, e, o, R.mono l lm v y r, Rk.mono l lm vs zs rs⟩
theorem Rf.mono (l : Le F F') (lm : Lm m m') : ∀ (v : List (String × Vl)) (x : List (Str × V)), Rf G F m v x → Rf G F' m' v x
  | [], x, h => h
  | (k, v) :: vs, x, ⟨y, zs, e, r, rs⟩ => ⟨y, zs, e, R.mono l lm v y r, Rf.mono l lm vs zs rs⟩
end
theorem Rs.length : ∀ {v : List Vl} {x : List V}, Rs G F m v x → x.length = v.length
  | [], x, h => by
    have e : x = [] := h
    subst e
    rfl
  | v :: vs, x, ⟨y, zs, e, r, rs⟩ => by
    subst e
    rw [List.length_cons, List.length_cons, Rs.length rs]
theorem Rk.length : ∀ {v : List (Tx × Vl)} {x : List (Key × V)}, Rk G F m v x → x.length = v.length
  | [], x, h => by
    have e : x = [] := h
    subst e
    rfl
  | (k, v) :: vs, x, ⟨y, zs, e, o, r, rs⟩ => by
    subst e
    rw [List.length_cons, List.length_cons, Rk.length rs]
theorem Rf.length : ∀ {v : List (String × Vl)} {x : List (Str × V)}, Rf G F m v x → x.length = v.length
  | [], x, h => by
    have e : x = [] := h
    subst e
    rfl
  | (k, v) :: vs, x, ⟨y, zs, e, r, rs⟩ => by
    subst e
    rw [List.length_cons, List.length_cons, Rf.length rs]
theorem Rs.get : ∀ {v : List Vl} {x : List V} {i : Nat} {a : Vl}, Rs G F m v x → v[i]? = some a → ∃ y, x[i]? = some y ∧ R G F m a y
  | [], x, i, a, h, e => by simp at e
  | v :: vs, x, 0, a, ⟨y, zs, e, r, rs⟩, q => by
    subst e
    have q' : v = a := by simpa using q
    subst q'
    exact ⟨y, rfl, r⟩
  | v :: vs, x, i + 1, a, ⟨y, zs, e, r, rs⟩, q => by
    subst e
    obtain ⟨y', e', r'⟩ := Rs.get (i := i) rs (by simpa using q)
    exact ⟨y', by simpa using e', r'⟩
theorem Rs.append : ∀ {v : List Vl} {x : List V} {v' : List Vl} {x' : List V}, Rs G F m v x → Rs G F m v' x' → Rs G F m (v ++ v') (x ++ x')
  | [], x, _, _, h, h' => by
    have e : x = [] := h
    subst e
    exact h'
  | v :: vs, x, _, _, ⟨y, zs, e, r, rs⟩, h' => by
    subst e
    exact ⟨y, _, rfl, r, Rs.append rs h'⟩
theorem Rs.drop : ∀ {v : List Vl} {x : List V} (n : Nat), Rs G F m v x → Rs G F m (v.drop n) (x.drop n)
  | _, _, 0, h => by simpa using h
  | [], x, n + 1, h => by
    have e : x = [] := h
    subst e
    rfl
  | v :: vs, x, n + 1, ⟨y, zs, e, r, rs⟩ => by
    subst e
    exact Rs.drop n rs
theorem Rs.take : ∀ {v : List Vl} {x : List V} (n : Nat), Rs G F m v x → Rs G F m (v.take n) (x.take n)
  | _, _, 0, h => by
    rw [List.take_zero, List.take_zero]
    rfl
  | [], x, n + 1, h => by
    have e : x = [] := h
    subst e
    rfl
  | v :: vs, x, n + 1, ⟨y, zs, e, r, rs⟩ => by
    subst e
    exact ⟨y, _, rfl, r, Rs.take n rs⟩
theorem Rs.set : ∀ {v : List Vl} {x : List V} (i : Nat) {a : Vl} {b : V}, R G F m a b → Rs G F m v x → Rs G F m (v.set i a) (x.set i b)
  | [], x, _, _, _, _, h => by
    have e : x = [] := h
    subst e
    rfl
  | v :: vs, x, 0, _, _, ra, ⟨y, zs, e, r, rs⟩ => by
    subst e
    exact ⟨_, _, rfl, ra, rs⟩
  | v :: vs, x, i + 1, _, _, ra, ⟨y, zs, e, r, rs⟩ => by
    subst e
    exact ⟨_, _, rfl, r, Rs.set i ra rs⟩
theorem Rs.ints : ∀ ns : List Int, Rs G F m (ns.map .int) (ns.map V.int)
  | [] => rfl
  | i :: ns => ⟨_, _, rfl, rfl, Rs.ints ns⟩
theorem Rs.one {v : Vl} {x : V} (r : R G F m v x) : Rs G F m [v] [x] := ⟨x, [], rfl, r, rfl⟩

/-- what stands at a place -/
def RO (G : Gi) (F : Hp) (m : Mp) : Ob → Option HO → Prop
  | .dead, _ => True
  | .lst xs, o => ∃ ys, o = some (.lst ys) ∧ Rs G F m xs ys
  | .dct kvs, o => ∃ ys, o = some (.dK ys) ∧ (kvs.map (·.1)).Nodup ∧ Rk G F m kvs ys
  | .inst c fs, o => ∃ dx ys, o = some (.ins (G.ca c) dx ys) ∧ c ∈ G.cs ∧ Rf G F m fs ys
theorem RO.mono (l : Le F F') (lm : Lm m m') : ∀ (v : Ob) (x : Option HO), RO G F m v x → RO G F' m' v x
  | .dead, _, _ => trivial
  | .lst xs, _, ⟨ys, e, r⟩ => ⟨ys, e, Rs.mono l lm _ _ r⟩
  | .dct xs, _, ⟨ys, e, n, r⟩ => ⟨ys, e, n, Rk.mono l lm _ _ r⟩
  | .inst c fs, _, ⟨dx, ys, e, c1, r⟩ => ⟨dx, ys, e, c1, Rf.mono l lm _ _ r⟩

structure Rel (G : Gi) (m : Mp) (F : Hp) (h : Hm) (H : Hp) : Prop where
  sub : Le F H
  dom : ∀ a, h.length ≤ a → m a = none
  obj : ∀ a o, h[a]? = some o → o ≠ .dead → ∃ p, m a = some p ∧ (F p = none ∧ G.U p = none) ∧ RO G F m o (H p)
  inj : ∀ a b o o' p, h[a]? = some o → o ≠ .dead → h[b]? = some o' → o' ≠ .dead → m a = some p → m b = some p → a = b
  fr : ∀ p o, G.U p = some o → H p = some o ∧ F p = none
end
end Mi
/-! MINI: steps of related states -/
namespace Mi
open PySem PySem.Spec L2
section
variable {G : Gi} {F F' : Hp} {m m' : Mp} {h h' : Hm} {H H' : Hp}

def Mp.add (m : Mp) (a : Nat) (p : Addr) : Mp := fun b => if b = a then some p else m b
theorem Mp.add_same (m : Mp) (a : Nat) (p : Addr) : m.add a p a = some p := if_pos rfl
theorem Mp.add_ne {m : Mp} {a b : Nat} {p : Addr} (h : b ≠ a) : m.add a p b = m b := if_neg h
theorem Lm.add {m : Mp} {a : Nat} {p : Addr} (h : m a = none) : Lm m (m.add a p) := fun b q e => by
  by_cases hb : b = a
  · subst hb
    rw [h] at e
    cases e
  · rw [Mp.add_ne hb]
    exact e
theorem Le.upd {F : Hp} {p : Addr} {o : HO} (h : F p = none) : Le F (upd F p o) := fun b q e => by
  rw [upd_ne (ne_of_none e h)]
  exact e
theorem Rel.free (r : Rel G m F h H) {p : Addr} (hp : H p = none) : F p = none := by
  cases e : F p with
  | none => rfl
  | some o =>
    rw [r.sub _ _ e] at hp
    cases hp
theorem RO.some_of : ∀ {o : Ob} {x : Option HO}, RO G F m o x → o ≠ .dead → x ≠ none
  | .dead, _, _, n => absurd rfl n
  | .lst _, _, ⟨_, e, _⟩, _ => by
    rw [e]
    exact fun z => nomatch z
  | .dct _, _, ⟨_, e, _⟩, _ => by
    rw [e]
    exact fun z => nomatch z
  | .inst _ _, _, ⟨_, _, e, _⟩, _ => by
    rw [e]
    exact fun z => nomatch z
theorem Rel.apart (r : Rel G m F h H) {p : Addr} (hp : H p = none) {a : Nat} {o : Ob} (e : h[a]? = some o) (n : o ≠ .dead) : m a ≠ some p := fun z => by
  obtain ⟨q, e1, _, e2⟩ := r.obj a o e n
  rw [z] at e1
  have e3 : p = q := Option.some.inj e1
  subst e3
  exact e2.some_of n hp
/-- the model's heap grows by what this one does not name -/
theorem Rel.grow (r : Rel G m F h H) {p : Addr} {u : HO} (hp : H p = none) : Rel G m F h (upd H p u) := by
  refine ⟨fun b o e => ?_, r.dom, fun a o e n => ?_, r.inj, fun b o e => ?_⟩
  · have z := r.sub b o e
    rw [upd_ne (ne_of_none z hp)]
    exact z
  · obtain ⟨q, e1, e2, e3⟩ := r.obj a o e n
    have hq : q ≠ p := fun z => r.apart hp e n (by rw [e1, z])
    exact ⟨q, e1, e2, by rw [upd_ne hq]; exact e3⟩
  · obtain ⟨z1, z2⟩ := r.fr b o e
    exact ⟨by rw [upd_ne (ne_of_none z1 hp)]; exact z1, z2⟩
/-- something that never changes is laid down -/
theorem Rel.lay (r : Rel G m F h H) {p : Addr} {u : HO} (hp : H p = none) : Rel G m (upd F p u) h (upd H p u) := by
  have hf := r.free hp
  refine ⟨fun b o e => ?_, r.dom, fun a o e n => ?_, r.inj, fun b o e => ?_⟩
  · by_cases hb : b = p
    · subst hb
      rw [upd_same] at e ⊢
      exact e
    · rw [upd_ne hb] at e ⊢
      exact r.sub b o e
  · obtain ⟨q, e1, e2, e3⟩ := r.obj a o e n
    have hq : q ≠ p := fun z => r.apart hp e n (by rw [e1, z])
    exact ⟨q, e1, ⟨by rw [upd_ne hq]; exact e2.1, e2.2⟩, by rw [upd_ne hq]; exact RO.mono (Le.upd hf) (Lm.refl m) _ _ e3⟩
  · obtain ⟨z1, z2⟩ := r.fr b o e
    have hb : b ≠ p := ne_of_none z1 hp
    exact ⟨by rw [upd_ne hb]; exact z1, by rw [upd_ne hb]; exact z2⟩
theorem Rel.freeU (r : Rel G m F h H) {p : Addr} (hp : H p = none) : G.U p = none := by
  cases e : G.U p with
  | none => rfl
  | some o =>
    rw [(r.fr _ _ e).1] at hp
    cases hp
theorem get_new {α : Type} {l : List α} {x y : α} {a : Nat} (e : (l ++ [x])[a]? = some y) : (a < l.length ∧ l[a]? = some y) ∨ (a = l.length ∧ y = x) := by
  by_cases ha : a < l.length
  · rw [List.getElem?_append_left ha] at e
    exact .inl ⟨ha, e⟩
  · rw [List.getElem?_append_right (by omega)] at e
    by_cases hz : a - l.length = 0
    · rw [hz] at e
      exact .inr ⟨by omega, (Option.some.inj e).symm⟩
    · rw [List.getElem?_eq_none (by simp; omega)] at e
      cases e
/-- a new object; what it holds is of the elder ones -/
theorem Rel.new (r : Rel G m F h H) {p : Addr} {o : Ob} {u : HO} (hp : H p = none) (ro : RO G F m o (some u)) : Rel G (m.add h.length p) F (h ++ [o]) (upd H p u) := by
  have hm : m h.length = none := r.dom _ (Nat.le_refl _)
  have g := r.grow (u := u) hp
  refine ⟨g.sub, fun a ha => ?_, fun a o' e n => ?_, fun a b oa ob q ea na eb nb ma mb => ?_, g.fr⟩
  · rw [List.length_append, List.length_singleton] at ha
    rw [Mp.add_ne (by omega)]
    exact r.dom a (by omega)
  · rcases get_new e with ⟨ha, e'⟩ | ⟨ha, e'⟩
    · obtain ⟨q, e1, e2, e3⟩ := g.obj a o' e' n
      exact ⟨q, by rw [Mp.add_ne (by omega)]; exact e1, e2, RO.mono (Le.refl F) (Lm.add hm) _ _ e3⟩
    · subst ha
      subst e'
      exact ⟨p, Mp.add_same _ _ _, ⟨r.free hp, r.freeU hp⟩, by rw [upd_same]; exact RO.mono (Le.refl F) (Lm.add hm) _ _ ro⟩
  · rcases get_new ea with ⟨la, ea⟩ | ⟨la, ea⟩
    · rw [Mp.add_ne (by omega)] at ma
      rcases get_new eb with ⟨lb, eb⟩ | ⟨lb, eb⟩
      · rw [Mp.add_ne (by omega)] at mb
        exact r.inj a b oa ob q ea na eb nb ma mb
      · subst lb
        rw [Mp.add_same] at mb
        have e : p = q := Option.some.inj mb
        subst e
        exact absurd ma (r.apart hp ea na)
    · subst la
      rw [Mp.add_same] at ma
      have e : p = q := Option.some.inj ma
      subst e
      rcases get_new eb with ⟨lb, eb⟩ | ⟨lb, eb⟩
      · rw [Mp.add_ne (by omega)] at mb
        exact absurd mb (r.apart hp eb nb)
      · exact lb.symm
theorem get_set {α : Type} {l : List α} {a b : Nat} {x y : α} (e : (l.set a x)[b]? = some y) : (b = a ∧ y = x ∧ a < l.length) ∨ (b ≠ a ∧ l[b]? = some y) := by
  by_cases hb : a = b
  · subst hb
    by_cases ha : a < l.length
    · rw [List.getElem?_set_self ha] at e
      exact .inl ⟨rfl, (Option.some.inj e).symm, ha⟩
    · rw [List.getElem?_eq_none (by simp; omega)] at e
      cases e
  · rw [List.getElem?_set_ne hb] at e
    exact .inr ⟨fun z => hb z.symm, e⟩
/-- an object is changed -/
theorem Rel.put (r : Rel G m F h H) {a : Nat} {p : Addr} {o o' : Ob} {u : HO} (e : h[a]? = some o) (n : o ≠ .dead) (ma : m a = some p) (ro : RO G F m o' (some u)) : Rel G m F (h.set a o') (upd H p u) := by
  obtain ⟨q, e1, e2, e3⟩ := r.obj a o e n
  have hq : p = q := Option.some.inj (ma.symm.trans e1)
  subst hq
  refine ⟨fun b x ex => ?_, fun b hb => r.dom b (by simpa using hb), fun b x ex nx => ?_, fun b c x y q eb nb ec nc mb mc => ?_, fun b o e => ?_⟩
  · have hb : b ≠ p := fun z => by
      subst z
      rw [e2.1] at ex
      cases ex
    rw [upd_ne hb]
    exact r.sub b x ex
  · rcases get_set ex with ⟨hb, ex', _⟩ | ⟨hb, ex⟩
    · subst hb
      subst ex'
      exact ⟨p, ma, e2, by rw [upd_same]; exact ro⟩
    · obtain ⟨q, z1, z2, z3⟩ := r.obj b x ex nx
      have hq : q ≠ p := fun z => hb (r.inj b a x o p ex nx e n (by rw [z1, z]) ma)
      exact ⟨q, z1, z2, by rw [upd_ne hq]; exact z3⟩
  · have eb' : ∃ x', h[b]? = some x' ∧ x' ≠ .dead := by
      rcases get_set eb with ⟨hb, _, _⟩ | ⟨_, eb⟩
      · exact ⟨o, by rw [hb]; exact e, n⟩
      · exact ⟨x, eb, nb⟩
    have ec' : ∃ x', h[c]? = some x' ∧ x' ≠ .dead := by
      rcases get_set ec with ⟨hb, _, _⟩ | ⟨_, ec⟩
      · exact ⟨o, by rw [hb]; exact e, n⟩
      · exact ⟨y, ec, nc⟩
    obtain ⟨x', eb', nb'⟩ := eb'
    obtain ⟨y', ec', nc'⟩ := ec'
    exact r.inj b c x' y' q eb' nb' ec' nc' mb mc
  · obtain ⟨z1, z2⟩ := r.fr b o e
    have hb : b ≠ p := fun z => by
      subst z
      rw [e2.2] at e
      cases e
    exact ⟨by rw [upd_ne hb]; exact z1, z2⟩
/-- an object will never change again: it is frozen -/
theorem Rel.freeze (r : Rel G m F h H) {a : Nat} {p : Addr} {o : Ob} {u : HO} (e : h[a]? = some o) (n : o ≠ .dead) (ma : m a = some p) (hu : H p = some u) : Rel G m (upd F p u) (h.set a .dead) H := by
  obtain ⟨q, e1, e2, e3⟩ := r.obj a o e n
  have hq : p = q := Option.some.inj (ma.symm.trans e1)
  subst hq
  refine ⟨fun b x ex => ?_, fun b hb => r.dom b (by simpa using hb), fun b x ex nx => ?_, fun b c x y q eb nb ec nc mb mc => ?_, fun b o e => ?_⟩
  · by_cases hb : b = p
    · subst hb
      rw [upd_same] at ex
      rw [hu]
      exact ex
    · rw [upd_ne hb] at ex
      exact r.sub b x ex
  · rcases get_set ex with ⟨hb, ex, _⟩ | ⟨hb, ex⟩
    · exact absurd ex nx
    · obtain ⟨q, z1, z2, z3⟩ := r.obj b x ex nx
      have hq : q ≠ p := fun z => hb (r.inj b a x o p ex nx e n (by rw [z1, z]) ma)
      exact ⟨q, z1, ⟨by rw [upd_ne hq]; exact z2.1, z2.2⟩, RO.mono (Le.upd e2.1) (Lm.refl m) _ _ z3⟩
  · rcases get_set eb with ⟨hb, z, _⟩ | ⟨_, eb⟩
    · exact absurd z nb
    · rcases get_set ec with ⟨hc, z, _⟩ | ⟨_, ec⟩
      · exact absurd z nc
      · exact r.inj b c x y q eb nb ec nc mb mc
  · obtain ⟨z1, z2⟩ := r.fr b o e
    have hb : b ≠ p := fun z => by
      subst z
      rw [e2.2] at e
      cases e
    exact ⟨z1, by rw [upd_ne hb]; exact z2⟩

/-! ### readings -/
/-- what is wanted of a result -/
def Wp {α β : Type} (G : Gi) (rel : Hp → Mp → α → β → Prop) (m : Mp) (F : Hp) (r : Res α) (Q : β → Hp → Prop) : Prop := match r with
  | .ok v h' => ∀ m' F' H' x, Lm m m' → Le F F' → Rel G m' F' h' H' → rel F' m' v x → Q x H'
  | _ => False
abbrev WpV (G : Gi) (m : Mp) (F : Hp) (r : Res Vl) (Q : VK) : Prop := Wp G (R G) m F r Q
abbrev WpL (G : Gi) (m : Mp) (F : Hp) (r : Res (List Vl)) (Q : List V → Hp → Prop) : Prop := Wp G (Rs G) m F r Q
theorem Wp.bind {α β γ : Type} {rel : Hp → Mp → α → β → Prop} {r : Res γ} {f : γ → Hm → Res α} {Q : β → Hp → Prop} (w : Wp G rel m F (r.bind f) Q) : ∃ a h, r = .ok a h ∧ Wp G rel m F (f a h) Q := by
  cases r with
  | ok a h => exact ⟨a, h, rfl, w⟩
  | exc c fs h => exact False.elim w
  | bad => exact False.elim w
theorem Wp.mono {α β : Type} {rel : Hp → Mp → α → β → Prop} {r : Res α} {Q : β → Hp → Prop} (w : Wp G rel m F r Q) (lm : Lm m m') (l : Le F F') : Wp G rel m' F' r Q := by
  cases r with
  | ok a h => exact fun m2 F2 H2 x a b => w m2 F2 H2 x (lm.trans a) (l.trans b)
  | exc c fs h => exact False.elim w
  | bad => exact False.elim w
theorem Wp.here {α β : Type} {rel : Hp → Mp → α → β → Prop} {v : α} {x : β} {Q : β → Hp → Prop} (w : Wp G rel m F (.ok v h) Q) (r : Rel G m F h H) (q : rel F m v x) : Q x H := w m F H x (Lm.refl m) (Le.refl F) r q
theorem Wp.imp {α β : Type} {rel : Hp → Mp → α → β → Prop} {r : Res α} {Q Q' : β → Hp → Prop} (w : Wp G rel m F r Q) (i : ∀ x H, Q x H → Q' x H) : Wp G rel m F r Q' := by
  cases r with
  | ok a h => exact fun m2 F2 H2 x a b c d => i _ _ (w m2 F2 H2 x a b c d)
  | exc c fs h => exact False.elim w
  | bad => exact False.elim w
/-- a new list, dict .. -/
theorem Wp.new {o : Ob} {u : HO} {p : Addr} {Q : VK} (w : WpV G m F (new o h) Q) (r : Rel G m F h H) (hp : H p = none) (ro : RO G F m o (some u)) : Q (.ref p) (upd H p u) :=
  w (m.add h.length p) F _ _ (Lm.add (r.dom _ (Nat.le_refl _))) (Le.refl F) (r.new hp ro) ⟨p, Mp.add_same _ _ _, rfl⟩
/-- a new list that won't be changed -/
theorem Wp.fl {xs : List Vl} {ys : List V} {p : Addr} {Q : VK} (w : WpV G m F (.ok (.fl xs) h) Q) (r : Rel G m F h H) (hp : H p = none) (rs : Rs G F m xs ys) : Q (.ref p) (upd H p (.lst ys)) :=
  w m (upd F p (.lst ys)) _ _ (Lm.refl m) (Le.upd (r.free hp)) (r.lay hp) ⟨p, ys, rfl, .inl (.inl upd_same), Rs.mono (Le.upd (r.free hp)) (Lm.refl m) _ _ rs⟩
theorem Wp.newL {lv : Bool} {xs : List Vl} {ys : List V} {p : Addr} {Q : VK} (w : WpV G m F (newL lv xs h) Q) (r : Rel G m F h H) (hp : H p = none) (rs : Rs G F m xs ys) : Q (.ref p) (upd H p (.lst ys)) := by
  unfold Mi.newL at w
  split at w
  · exact w.new r hp ⟨ys, rfl, rs⟩
  · exact w.fl r hp rs
/-- a new dict that won't be changed -/
theorem Wp.fd {xs : List (Tx × Vl)} {ys : List (Key × V)} {p : Addr} {Q : VK} (w : WpV G m F (.ok (.fd xs) h) Q) (r : Rel G m F h H) (hp : H p = none) (nd : (xs.map (·.1)).Nodup) (rs : Rk G F m xs ys) : Q (.ref p) (upd H p (.dK ys)) :=
  w m (upd F p (.dK ys)) _ _ (Lm.refl m) (Le.upd (r.free hp)) (r.lay hp) ⟨p, ys, rfl, upd_same, nd, Rk.mono (Le.upd (r.free hp)) (Lm.refl m) _ _ rs⟩
theorem Wp.newD {lv : Bool} {xs : List (Tx × Vl)} {ys : List (Key × V)} {p : Addr} {Q : VK} (w : WpV G m F (newD lv xs h) Q) (r : Rel G m F h H) (hp : H p = none) (nd : (xs.map (·.1)).Nodup) (rs : Rk G F m xs ys) : Q (.ref p) (upd H p (.dK ys)) := by
  unfold Mi.newD at w
  split at w
  · exact w.new r hp ⟨ys, rfl, nd, rs⟩
  · exact w.fd r hp nd rs
/-- a new tuple -/
theorem Wp.tup {xs : List Vl} {ys : List V} {p : Addr} {Q : VK} (w : WpV G m F (.ok (.tup xs) h) Q) (r : Rel G m F h H) (hp : H p = none) (rs : Rs G F m xs ys) : Q (.ref p) (upd H p (.tup ys)) :=
  w m (upd F p (.tup ys)) _ _ (Lm.refl m) (Le.upd (r.free hp)) (r.lay hp) ⟨p, ys, rfl, .inl (.inl upd_same), Rs.mono (Le.upd (r.free hp)) (Lm.refl m) _ _ rs⟩

/-- the names' values -/
def RE (G : Gi) (F : Hp) (m : Mp) : Rho → St → Prop
  | [], t => t = []
  | none :: r, t => ∃ y t', t = y :: t' ∧ RE G F m r t'
  | some v :: r, t => ∃ x t', t = some x :: t' ∧ R G F m v x ∧ RE G F m r t'
theorem RE.mono (l : Le F F') (lm : Lm m m') : ∀ (r : Rho) (t : St), RE G F m r t → RE G F' m' r t
  | [], t, h => h
  | none :: r, t, ⟨y, t', e, q⟩ => ⟨y, t', e, RE.mono l lm r t' q⟩
  | some v :: r, t, ⟨x, t', e, p, q⟩ => ⟨x, t', e, R.mono l lm _ _ p, RE.mono l lm r t' q⟩
theorem RE.get : ∀ {r : Rho} {t : St} {i : Nat} {v : Vl}, RE G F m r t → r[i]? = some (some v) → ∃ x, t[i]? = some (some x) ∧ R G F m v x
  | [], t, i, v, h, e => by simp at e
  | none :: r, t, 0, v, h, e => by simp at e
  | none :: r, t, i + 1, v, ⟨y, t', e1, q⟩, e => by
    subst e1
    obtain ⟨x, e2, q2⟩ := RE.get (i := i) q (by simpa using e)
    exact ⟨x, by simpa using e2, q2⟩
  | some w :: r, t, 0, v, ⟨x, t', e1, p, q⟩, e => by
    subst e1
    have e2 : w = v := by simpa using e
    subst e2
    exact ⟨x, rfl, p⟩
  | some w :: r, t, i + 1, v, ⟨x, t', e1, p, q⟩, e => by
    subst e1
    obtain ⟨x, e2, q2⟩ := RE.get (i := i) q (by simpa using e)
    exact ⟨x, by simpa using e2, q2⟩
theorem RE.set : ∀ {r : Rho} {t : St} (i : Nat) {v : Vl} {x : V}, RE G F m r t → R G F m v x → RE G F m (r.set i (some v)) (t.set i (some x))
  | [], t, i, v, x, h, q => by
    have e : t = [] := h
    subst e
    rfl
  | none :: r, t, 0, v, x, ⟨y, t', e1, q⟩, p => by
    subst e1
    exact ⟨x, t', rfl, p, q⟩
  | none :: r, t, i + 1, v, x, ⟨y, t', e1, q⟩, p => by
    subst e1
    exact ⟨y, _, rfl, RE.set i q p⟩
  | some w :: r, t, 0, v, x, ⟨y, t', e1, p', q⟩, p => by
    subst e1
    exact ⟨x, t', rfl, p, q⟩
  | some w :: r, t, i + 1, v, x, ⟨y, t', e1, p', q⟩, p => by
    subst e1
    exact ⟨y, _, rfl, p', RE.set i q p⟩
theorem RE.unset : ∀ {r : Rho} {t : St} (i : Nat), RE G F m r t → RE G F m (r.set i none) (t.set i none)
  | [], t, i, h => by
    have e : t = [] := h
    subst e
    rfl
  | none :: r, t, 0, ⟨y, t', e1, q⟩ => by
    subst e1
    exact ⟨_, t', rfl, q⟩
  | none :: r, t, i + 1, ⟨y, t', e1, q⟩ => by
    subst e1
    exact ⟨y, _, rfl, RE.unset i q⟩
  | some w :: r, t, 0, ⟨y, t', e1, p', q⟩ => by
    subst e1
    exact ⟨_, t', rfl, q⟩
  | some w :: r, t, i + 1, ⟨y, t', e1, p', q⟩ => by
    subst e1
    exact ⟨y, _, rfl, p', RE.unset i q⟩
theorem RE.wipe {r : Rho} {t : St} (h : RE G F m r t) : ∀ vs : List Nat, RE G F m (Mi.wipe r vs) (L2.wipe t vs)
  | [] => h
  | v :: vs => RE.unset v (RE.wipe h vs)
theorem RE.start {vs : List Vl} {xs : List V} (n : Nat) (N : List Str) (hn : N.length = n) (h : Rs G F m vs xs) : RE G F m (Mi.start n vs) (L2.start N xs) := by
  have hl := h.length
  unfold Mi.start L2.start
  rw [hn, hl]
  generalize n - vs.length = k
  clear hn hl
  induction vs generalizing xs with
  | nil =>
    have e : xs = [] := h
    subst e
    rw [List.map_nil, List.map_nil, List.nil_append, List.nil_append]
    induction k with
    | zero => rfl
    | succ k ih => exact ⟨Option.none, _, rfl, ih⟩
  | cons v vs ih =>
    obtain ⟨y, zs, e, r, rs⟩ := h
    subst e
    exact ⟨y, _, rfl, r, ih rs⟩

/-- the reading of an expression that MINI evaluates -/
def tM (G : Gi) (f : Rho → Hm → Res Vl) : TE := fun σ H Q => ∃ m F h r, Rel G m F h H ∧ RE G F m r σ ∧ WpV G m F (f r h) Q
def tMs (G : Gi) (f : Rho → Hm → Res (List Vl)) : TA := fun σ H Q => ∃ m F h r, Rel G m F h H ∧ RE G F m r σ ∧ WpL G m F (f r h) Q
/-- .. of a test: the value is a truth -/
def tMt (G : Gi) (f : Rho → Hm → Res Vl) : TT := fun σ H Q => ∃ m F h r, Rel G m F h H ∧ RE G F m r σ ∧ WpV G m F (f r h) fun x H' => ∃ b, x = .bl b ∧ Q b H'
/-- .. of an operation upon values -/
def rM2 (G : Gi) (f : Vl → Vl → Hm → Res Vl) : R2 := fun x y H Q => ∃ m F h v w, Rel G m F h H ∧ R G F m v x ∧ R G F m w y ∧ WpV G m F (f v w h) Q
def rM1 (G : Gi) (f : Vl → Hm → Res Vl) : V → Hp → VK → Prop := fun x H Q => ∃ m F h v, Rel G m F h H ∧ R G F m v x ∧ WpV G m F (f v h) Q
def rMs (G : Gi) (f : List Vl → Hm → Res Vl) : List V → Hp → VK → Prop := fun xs H Q => ∃ m F h vs, Rel G m F h H ∧ Rs G F m vs xs ∧ WpV G m F (f vs h) Q
end

section
variable {X : Cx} {G : Gi}
theorem PE.weak {e : Expr} {t t' : TE} (h : PE X e t) (i : ∀ σ H Q, t' σ H Q → t σ H Q) : PE X e t' := ⟨fun pins s σ H Q I q => h.run pins s σ H Q I (i σ H Q q)⟩
theorem PT.weak {e : Expr} {t t' : TT} (h : PT X e t) (i : ∀ σ H Q, t' σ H Q → t σ H Q) : PT X e t' := ⟨fun pins s σ H Q I q => h.run pins s σ H Q I (i σ H Q q)⟩
theorem PA.weak {e : List Expr} {t t' : TA} (h : PA X e t) (i : ∀ σ H Q, t' σ H Q → t σ H Q) : PA X e t' := ⟨fun p pins s σ H Q I q => h.run p pins s σ H Q I (i σ H Q q)⟩

/-- an expression, then what is done with its value -/
theorem tM_bind {f : Rho → Hm → Res Vl} {g : Rho → Vl → Hm → Res Vl} {σ : St} {H : Hp} {Q : VK} {k : V → Hp → Prop} (w : tM G (fun r h => (f r h).bind (g r)) σ H Q)
    (hk : ∀ m F h r v x H', Rel G m F h H' → RE G F m r σ → R G F m v x → WpV G m F (g r v h) Q → k x H') : tM G f σ H k := by
  obtain ⟨m, F, h, r, rl, re, w⟩ := w
  obtain ⟨v, h1, e, w⟩ := w.bind
  refine ⟨m, F, h, r, rl, re, ?_⟩
  rw [e]
  exact fun m' F' H' x lm l rl' rx => hk m' F' h1 r v x H' rl' (RE.mono l lm _ _ re) rx (w.mono lm l)
theorem tMs_bind {f : Rho → Hm → Res (List Vl)} {g : Rho → List Vl → Hm → Res Vl} {σ : St} {H : Hp} {Q : VK} {k : List V → Hp → Prop} (w : tM G (fun r h => (f r h).bind (g r)) σ H Q)
    (hk : ∀ m F h r vs xs H', Rel G m F h H' → RE G F m r σ → Rs G F m vs xs → WpV G m F (g r vs h) Q → k xs H') : tMs G f σ H k := by
  obtain ⟨m, F, h, r, rl, re, w⟩ := w
  obtain ⟨v, h1, e, w⟩ := w.bind
  refine ⟨m, F, h, r, rl, re, ?_⟩
  rw [e]
  exact fun m' F' H' x lm l rl' rx => hk m' F' h1 r v x H' rl' (RE.mono l lm _ _ re) rx (w.mono lm l)
end

/-! ### what stands by -/
/-- the same, with other things that stand by -/
def Gi.u (G : Gi) (U : Hp) : Gi := { G with U := U }
section
variable {G : Gi} {F F' : Hp} {m m' : Mp} {h h' : Hm} {H H' : Hp}
mutual
theorem R.u {U : Hp} : ∀ {v : Vl} {x : V}, R G F m v x → R (G.u U) F m v x
  | .non, x, h => h
  | .bl _, x, h => h
  | .int _, x, h => h
  | .str _, x, h => h
  | .byt _, x, h => h
  | .ref a, x, h => h
  | .tup xs, x, ⟨p, ys, e, q, r⟩ => ⟨p, ys, e, q, Rs.u r⟩
  | .fl xs, x, ⟨p, ys, e, q, r⟩ => ⟨p, ys, e, q, Rs.u r⟩
  | .fd kvs, x, ⟨p, ys, e, q, n, r⟩ => ⟨p, ys, e, q, n, Rk.u r⟩
  | .ob c fs, x, ⟨p, dx, ys, e, q, c1, r⟩ => ⟨p, dx, ys, e, q, c1, Rf.u r⟩
  | .fn _ _, x, h => h
  | .cl _, x, h => h
  | .ty _, x, h => h
  | .rng _ _, _, h => h
  | .enm _, _, h => h
  | .zp _ _, _, h => h
  | .scr _, _, h => h
theorem Rs.u {U : Hp} : ∀ {v : List Vl} {x : List V}, Rs G F m v x → Rs (G.u U) F m v x
  | [], x, h => h
  | v :: vs, x, ⟨y, zs, e, r, rs⟩ => ⟨y, zs, e, R.u r, Rs.u rs⟩
theorem Rk.u {U : Hp} : ∀ {v : List (Tx × Vl)} {x : List (Key × V)}, Rk G F m v x → Rk (G.u U) F m v x
  | [], x, h => h
  | (k, v) :: vs, x, ⟨y, zs, e, o, r, rs⟩ => ⟨y, zs, e, o, R.u r, Rk.u rs⟩
theorem Rf.u {U : Hp} : ∀ {v : List (String × Vl)} {x : List (Str × V)}, Rf G F m v x → Rf (G.u U) F m v x
  | [], x, h => h
  | (k, v) :: vs, x, ⟨y, zs, e, r, rs⟩ => ⟨y, zs, e, R.u r, Rf.u rs⟩
end
mutual
/-- what can't be changed hangs on no place -/
theorem R.clo : ∀ {v : Vl} {x : V}, Mi.clo v = true → R G F m v x → R G F m' v x
  | .non, x, _, h => h
  | .bl _, x, _, h => h
  | .int _, x, _, h => h
  | .str _, x, _, h => h
  | .byt _, x, _, h => h
  | .ref a, x, c, h => by cases c
  | .tup xs, x, c, ⟨p, ys, e, q, r⟩ => ⟨p, ys, e, q, Rs.clo (by simpa [Mi.clo] using c) r⟩
  | .fl xs, x, c, ⟨p, ys, e, q, r⟩ => ⟨p, ys, e, q, Rs.clo (by simpa [Mi.clo] using c) r⟩
  | .fd kvs, x, c, ⟨p, ys, e, q, n, r⟩ => ⟨p, ys, e, q, n, Rk.clo (by simpa [Mi.clo] using c) r⟩
  | .ob _ fs, x, c, ⟨p, dx, ys, e, q, c1, r⟩ => ⟨p, dx, ys, e, q, c1, Rf.clo (by simpa [Mi.clo] using c) r⟩
  | .fn _ _, x, _, h => h
  | .cl _, x, _, h => h
  | .ty _, x, _, h => h
  | .rng _ _, _, _, h => h
  | .enm _, _, _, h => h
  | .zp _ _, _, _, h => h
  | .scr _, _, _, h => h
theorem Rs.clo : ∀ {v : List Vl} {x : List V}, clos v = true → Rs G F m v x → Rs G F m' v x
  | [], x, _, h => h
  | v :: vs, x, c, ⟨y, zs, e, r, rs⟩ => by
    have c : Mi.clo v = true ∧ clos vs = true := by simpa [clos] using c
    exact ⟨y, zs, e, R.clo c.1 r, Rs.clo c.2 rs⟩
theorem Rk.clo : ∀ {v : List (Tx × Vl)} {x : List (Key × V)}, clok v = true → Rk G F m v x → Rk G F m' v x
  | [], x, _, h => h
  | (k, v) :: vs, x, c, ⟨y, zs, e, o, r, rs⟩ => by
    have c : Mi.clo v = true ∧ clok vs = true := by simpa [clok] using c
    exact ⟨y, zs, e, o, R.clo c.1 r, Rk.clo c.2 rs⟩
theorem Rf.clo : ∀ {v : List (String × Vl)} {x : List (Str × V)}, clof v = true → Rf G F m v x → Rf G F m' v x
  | [], x, _, h => h
  | (k, v) :: vs, x, c, ⟨y, zs, e, r, rs⟩ => by
    have c : Mi.clo v = true ∧ clof vs = true := by simpa [clof] using c
    exact ⟨y, zs, e, R.clo c.1 r, Rf.clo c.2 rs⟩
end
theorem RO.u {U : Hp} : ∀ {v : Ob} {x : Option HO}, RO G F m v x → RO (G.u U) F m v x
  | .dead, _, _ => trivial
  | .lst xs, _, ⟨ys, e, r⟩ => ⟨ys, e, r.u⟩
  | .dct xs, _, ⟨ys, e, n, r⟩ => ⟨ys, e, n, r.u⟩
  | .inst c fs, _, ⟨dx, ys, e, c1, r⟩ => ⟨dx, ys, e, c1, r.u⟩
theorem RE.u {U : Hp} : ∀ {r : Rho} {t : St}, RE G F m r t → RE (G.u U) F m r t
  | [], t, h => h
  | none :: r, t, ⟨y, t', e, q⟩ => ⟨y, t', e, RE.u q⟩
  | some v :: r, t, ⟨x, t', e, p, q⟩ => ⟨x, t', e, p.u, RE.u q⟩
/-- a place holds something live -/
def Liv (m : Mp) (h : Hm) (p : Addr) : Prop := ∃ a o, h[a]? = some o ∧ o ≠ .dead ∧ m a = some p
/-- something is put by -/
theorem Rel.by (r : Rel G m F h H) {p : Addr} {u : HO} (hp : H p = some u) (hF : F p = none) (hU : G.U p = none) (hl : ¬ Liv m h p) : Rel (G.u (upd G.U p u)) m F h H := by
  refine ⟨r.sub, r.dom, fun a o e n => ?_, r.inj, fun b o e => ?_⟩
  · obtain ⟨q, e1, e2, e3⟩ := r.obj a o e n
    have hq : q ≠ p := fun z => hl ⟨a, o, e, n, by rw [e1, z]⟩
    exact ⟨q, e1, ⟨e2.1, by show upd G.U p u q = none; rw [upd_ne hq]; exact e2.2⟩, e3.u⟩
  · have e : upd G.U p u b = some o := e
    by_cases hb : b = p
    · subst hb
      rw [upd_same] at e
      cases e
      exact ⟨hp, hF⟩
    · rw [upd_ne hb] at e
      exact r.fr b o e
theorem Rel.unby {p : Addr} {u : HO} (hU : G.U p = none) (r : Rel (G.u (upd G.U p u)) m F h H) : Rel G m F h H ∧ H p = some u ∧ F p = none ∧ ¬ Liv m h p := by
  have hp : (G.u (upd G.U p u)).U p = some u := upd_same
  refine ⟨⟨r.sub, r.dom, fun a o e n => ?_, r.inj, fun b o e => ?_⟩, (r.fr p u hp).1, (r.fr p u hp).2, ?_⟩
  · obtain ⟨q, e1, e2, e3⟩ := r.obj a o e n
    have hq : q ≠ p := fun z => by
      subst z
      rw [hp] at e2
      cases e2.2
    have e22 : upd G.U p u q = none := e2.2
    rw [upd_ne hq] at e22
    exact ⟨q, e1, ⟨e2.1, e22⟩, RO.u (G := G.u (upd G.U p u)) (U := G.U) e3⟩
  · have hb : b ≠ p := fun z => by
      subst z
      rw [hU] at e
      cases e
    exact r.fr b o (by show upd G.U p u b = some o; rw [upd_ne hb]; exact e)
  · rintro ⟨a, o, e, n, ma⟩
    obtain ⟨q, e1, e2, e3⟩ := r.obj a o e n
    rw [ma] at e1
    cases e1
    rw [hp] at e2
    cases e2.2
/-- what nobody else has is ours, and won't be changed -/
theorem Rel.own (r : Rel G m F h H) {p : Addr} {u : HO} (hp : H p = some u) (hF : F p = none) (hU : G.U p = none) (hl : ¬ Liv m h p) : Rel G m (upd F p u) h H := by
  refine ⟨fun b o e => ?_, r.dom, fun a o e n => ?_, r.inj, fun b o e => ?_⟩
  · by_cases hb : b = p
    · subst hb
      rw [upd_same] at e
      cases e
      exact hp
    · rw [upd_ne hb] at e
      exact r.sub b o e
  · obtain ⟨q, e1, e2, e3⟩ := r.obj a o e n
    have hq : q ≠ p := fun z => hl ⟨a, o, e, n, by rw [e1, z]⟩
    exact ⟨q, e1, ⟨by rw [upd_ne hq]; exact e2.1, e2.2⟩, RO.mono (Le.upd hF) (Lm.refl m) _ _ e3⟩
  · have hb : b ≠ p := fun z => by
      subst z
      rw [hU] at e
      cases e
    obtain ⟨z1, z2⟩ := r.fr b o e
    exact ⟨z1, by rw [upd_ne hb]; exact z2⟩
/-- what nobody else has is changed, and put by -/
theorem Rel.rest (r : Rel G m F h H) {p : Addr} {u u' : HO} (hp : H p = some u) (hF : F p = none) (hU : G.U p = none) (hl : ¬ Liv m h p) : Rel (G.u (upd G.U p u')) m F h (upd H p u') := by
  refine Rel.by ⟨fun b o e => ?_, r.dom, fun a o e n => ?_, r.inj, fun b o e => ?_⟩ upd_same hF hU hl
  · have hb : b ≠ p := fun z => by
      subst z
      rw [hF] at e
      cases e
    rw [upd_ne hb]
    exact r.sub b o e
  · obtain ⟨q, e1, e2, e3⟩ := r.obj a o e n
    have hq : q ≠ p := fun z => hl ⟨a, o, e, n, by rw [e1, z]⟩
    exact ⟨q, e1, e2, by rw [upd_ne hq]; exact e3⟩
  · have hb : b ≠ p := fun z => by
      subst z
      rw [hU] at e
      cases e
    obtain ⟨z1, z2⟩ := r.fr b o e
    exact ⟨by rw [upd_ne hb]; exact z1, z2⟩
/-- what nobody else has is a new object -/
theorem Rel.live (r : Rel G m F h H) {p : Addr} {o : Ob} {u : HO} (hp : H p = some u) (hF : F p = none) (hU : G.U p = none) (hl : ¬ Liv m h p) (ro : RO G F m o (some u)) : Rel G (m.add h.length p) F (h ++ [o]) H := by
  have hm : m h.length = none := r.dom _ (Nat.le_refl _)
  refine ⟨r.sub, fun a ha => ?_, fun a o' e n => ?_, fun a b oa ob q ea na eb nb ma mb => ?_, r.fr⟩
  · rw [List.length_append, List.length_singleton] at ha
    rw [Mp.add_ne (by omega)]
    exact r.dom a (by omega)
  · rcases get_new e with ⟨ha, e'⟩ | ⟨ha, e'⟩
    · obtain ⟨q, e1, e2, e3⟩ := r.obj a o' e' n
      exact ⟨q, by rw [Mp.add_ne (by omega)]; exact e1, e2, RO.mono (Le.refl F) (Lm.add hm) _ _ e3⟩
    · subst ha
      subst e'
      exact ⟨p, Mp.add_same _ _ _, ⟨hF, hU⟩, by rw [hp]; exact RO.mono (Le.refl F) (Lm.add hm) _ _ ro⟩
  · rcases get_new ea with ⟨la, ea⟩ | ⟨la, ea⟩
    · rw [Mp.add_ne (by omega)] at ma
      rcases get_new eb with ⟨lb, eb⟩ | ⟨lb, eb⟩
      · rw [Mp.add_ne (by omega)] at mb
        exact r.inj a b oa ob q ea na eb nb ma mb
      · subst lb
        rw [Mp.add_same] at mb
        cases mb
        exact absurd ⟨a, oa, ea, na, ma⟩ hl
    · subst la
      rw [Mp.add_same] at ma
      cases ma
      rcases get_new eb with ⟨lb, eb⟩ | ⟨lb, eb⟩
      · rw [Mp.add_ne (by omega)] at mb
        exact absurd ⟨b, ob, eb, nb, mb⟩ hl
      · exact lb.symm
open Classical in
/-- all that is live stands by -/
noncomputable def allBy (G : Gi) (m : Mp) (h : Hm) (H : Hp) : Hp := fun p => match G.U p with
  | some o => some o
  | none => if Liv m h p then H p else none
theorem Rel.alone (r : Rel G m F h H) : Rel (G.u (allBy G m h H)) (fun _ => none) F [] H where
  sub := r.sub
  dom := fun _ _ => rfl
  obj := fun a o e => by simp at e
  inj := fun a b o o' p e => by simp at e
  fr := fun p o e => by
    have e : allBy G m h H p = some o := e
    unfold allBy at e
    split at e
    · rename_i q
      cases e
      exact r.fr p _ q
    · split at e
      · rename_i hl
        obtain ⟨a, o', e1, n, ma⟩ := hl
        obtain ⟨q, e1, e2, e3⟩ := r.obj a o' e1 n
        rw [ma] at e1
        cases e1
        exact ⟨e, e2.1⟩
      · cases e
theorem Rel.back (r : Rel G m F h H) (l : Le F F') (r' : Rel (G.u (allBy G m h H)) m' F' h' H') : Rel G m F' h H' where
  sub := r'.sub
  dom := r.dom
  obj := fun a o e n => by
    obtain ⟨q, e1, e2, e3⟩ := r.obj a o e n
    have hl : Liv m h q := ⟨a, o, e, n, e1⟩
    cases eu : H q with
    | none => exact absurd eu (e3.some_of n)
    | some u =>
      have hb : allBy G m h H q = some u := by
        unfold allBy
        rw [e2.2]
        dsimp only
        rw [if_pos hl]
        exact eu
      obtain ⟨z1, z2⟩ := r'.fr q u hb
      rw [eu] at e3
      exact ⟨q, e1, ⟨z2, e2.2⟩, by rw [z1]; exact RO.mono l (Lm.refl m) _ _ e3⟩
  inj := r.inj
  fr := fun p o e => r'.fr p o (by show allBy G m h H p = some o; unfold allBy; rw [e])
theorem Wp.alone {v : Res Vl} {Q : VK} (rl : Rel G m F h H) (w : WpV G m F (pureR v h) Q) : WpV (G.u (allBy G m h H)) (fun _ => none) F v Q := by
  unfold pureR at w
  split at w
  · rename_i v h'
    split at w
    · rename_i hc
      exact fun m' F' H' x lm l rl' rx => w m F' H' x (Lm.refl m) l (rl.back l rl') (R.clo hc (R.u (G := G.u (allBy G m h H)) (U := G.U) rx))
    · exact False.elim w
  · exact False.elim w
end
end Mi
/-! MINI: operators -/
namespace Mi
open PySem PySem.Spec L2
section
variable {G : Gi} {F : Hp} {m : Mp} {h : Hm} {H : Hp} {v : Vl} {x : V}
theorem liv_ok (r : Rel G m F h H) (q : R G F m v x) {xs : List Vl} (e : livOf h v = some xs) : ∃ a p ys, v = .ref a ∧ x = .ref p ∧ m a = some p ∧ h[a]? = some (.lst xs) ∧ H p = some (.lst ys) ∧ Rs G F m xs ys := by
  unfold livOf at e
  split at e
  · rename_i a
    obtain ⟨p, e1, e2⟩ := q
    split at e
    · rename_i ys e3
      have e4 : ys = xs := Option.some.inj e
      subst e4
      obtain ⟨p', z1, z2, ys', z3, z4⟩ := r.obj a _ e3 (fun z => nomatch z)
      have e5 : p = p' := Option.some.inj (e1.symm.trans z1)
      subst e5
      exact ⟨a, p, ys', rfl, e2, e1, e3, z3, z4⟩
    · cases e
  · cases e
theorem lstX_ok (r : Rel G m F h H) (q : R G F m v x) {xs : List Vl} (e : lstOf h v = some xs) : ∃ p ys, x = .ref p ∧ SqX G.K H p ys ∧ Rs G F m xs ys := by
  unfold lstOf at e
  split at e
  · obtain ⟨p, ys, e1, e2, e3⟩ := q
    have e4 := Option.some.inj e
    subst e4
    exact ⟨p, ys, e1, r.sub.lst e2, e3⟩
  · obtain ⟨a, p, ys, _, e2, _, _, e3, e4⟩ := liv_ok (xs := xs) r q e
    exact ⟨p, ys, e2, .inl (.inl e3), e4⟩
  · cases e
theorem lst_ok (r : Rel G m F h H) (q : R G F m v x) {xs : List Vl} (e : lstOf h v = some xs) : ∃ p ys, x = .ref p ∧ SqL G.K H p ys ∧ Rs G F m xs ys := by
  obtain ⟨p, ys, e1, e2, e3⟩ := lstX_ok r q e
  exact ⟨p, ys, e1, e2.sq, e3⟩
theorem seq_ok (r : Rel G m F h H) (q : R G F m v x) {xs : List Vl} (e : seqOf h v = some xs) : ∃ p ys, x = .ref p ∧ (SqL G.K H p ys ∨ SqT G.K H p ys) ∧ Rs G F m xs ys := by
  unfold seqOf at e
  split at e
  · obtain ⟨p, ys, e1, e2, e3⟩ := q
    have e4 := Option.some.inj e
    subst e4
    exact ⟨p, ys, e1, .inr (r.sub.tup e2), e3⟩
  · obtain ⟨p, ys, e1, e2, e3⟩ := q
    have e4 := Option.some.inj e
    subst e4
    exact ⟨p, ys, e1, .inl (r.sub.lst e2).sq, e3⟩
  · obtain ⟨p, e1, e2⟩ := q
    have e4 := Option.some.inj e
    subst e4
    exact ⟨p, _, e1, .inl (r.sub.lstL e2), Rs.ints _⟩
  · obtain ⟨a, p, ys, _, e2, _, _, e3, e4⟩ := liv_ok (xs := xs) r q e
    exact ⟨p, ys, e2, .inl (.inl (.inl e3)), e4⟩
  · cases e
theorem dct_ok (r : Rel G m F h H) (q : R G F m v x) {kvs : List (Tx × Vl)} (e : dctOf h v = some kvs) : ∃ p ys, x = .ref p ∧ H p = some (.dK ys) ∧ Rk G F m kvs ys := by
  unfold dctOf at e
  split at e
  · obtain ⟨p, ys, e1, e2, _, e3⟩ := q
    have e4 := Option.some.inj e
    subst e4
    exact ⟨p, ys, e1, r.sub _ _ e2, e3⟩
  · rename_i a
    obtain ⟨p, e1, e2⟩ := q
    split at e
    · rename_i ys e3
      have e4 := Option.some.inj e
      subst e4
      obtain ⟨p', z1, z2, ys', z3, _, z4⟩ := r.obj a _ e3 (fun z => nomatch z)
      have e5 : p = p' := Option.some.inj (e1.symm.trans z1)
      subst e5
      exact ⟨p, ys', e2, z3, z4⟩
    · cases e
  · cases e
theorem obj_ok (r : Rel G m F h H) (q : R G F m v x) {c : String} {fs : List (String × Vl)} (e : objOf h v = some (c, fs)) : ∃ p dx ys, x = .ref p ∧ H p = some (.ins (G.ca c) dx ys) ∧ c ∈ G.cs ∧ Rf G F m fs ys := by
  unfold objOf at e
  split at e
  · obtain ⟨p, dx, ys, e1, e2, e0, e3⟩ := q
    have e4 := Option.some.inj e
    cases e4
    exact ⟨p, dx, ys, e1, r.sub _ _ e2, e0, e3⟩
  · rename_i a
    obtain ⟨p, e1, e2⟩ := q
    split at e
    · rename_i c' fs' e3
      have e4 := Option.some.inj e
      cases e4
      obtain ⟨p', z1, z2, dx, ys', z3, z0, z4⟩ := r.obj a _ e3 (fun z => nomatch z)
      have e5 : p = p' := Option.some.inj (e1.symm.trans z1)
      subst e5
      exact ⟨p, dx, ys', e2, z3, z0, z4⟩
    · cases e
  · cases e

/-! ### truth -/
theorem tru_M (r : Rel G m F h H) (q : R G F m v x) {b : Bool} (e : tru h v = some b) : TruV G.K x H b := by
  unfold tru at e
  split at e
  · have q : x = .non := q
    subst q
    exact (Option.some.inj e).symm
  · have q : x = .bl _ := q
    subst q
    exact (Option.some.inj e).symm
  · have q : x = .int _ := q
    subst q
    exact (Option.some.inj e).symm
  · rename_i s
    obtain ⟨q, _⟩ := q
    subst q
    split at e
    · rename_i hl
      have e := Option.some.inj e
      subst e
      refine ⟨by rw [ss_len]; exact hl, ?_⟩
      rw [ss_len]
      cases s with
      | nil => rfl
      | cons a s =>
        simp only [List.length_cons]
        symm
        simp
        omega
    · cases e
  · split at e
    · rename_i xs e1
      have e := Option.some.inj e
      subst e
      obtain ⟨p, ys, rfl, e2, e3⟩ := seq_ok r q e1
      have e4 : ys.isEmpty = xs.isEmpty := by
        have := e3.length
        cases ys <;> cases xs <;> first | rfl | (simp at this)
      rcases e2 with e2 | e2
      · exact .inl ⟨ys, e2, by rw [e4]⟩
      · exact .inr (.inl ⟨ys, e2, by rw [e4]⟩)
    · split at e
      · rename_i kvs e1
        have e := Option.some.inj e
        subst e
        obtain ⟨p, ys, rfl, e2, e3⟩ := dct_ok r q e1
        have e4 : ys.isEmpty = kvs.isEmpty := by
          have := e3.length
          cases ys <;> cases kvs <;> first | rfl | (simp at this)
        exact .inr (.inr ⟨ys, e2, by rw [e4]⟩)
      · cases e

/-! ### data -/
mutual
def dt : Vl → PyData
  | .non => .none
  | .bl b => .bool b
  | .int i => .int i
  | .str s => .str (ss s)
  | .tup xs => .tuple (dts xs)
  | .fl xs => .list (dts xs)
  | _ => .none
def dts : List Vl → List PyData
  | [] => []
  | x :: xs => dt x :: dts xs
end
mutual
theorem dt_ok (r : Rel G m F h H) : ∀ (v : Vl) (x : V), pur v = true → R G F m v x → Dp G.K H x (dt v)
  | .non, x, _, q => by
    have q : x = .non := q
    subst q
    exact .non
  | .bl b, x, _, q => by
    have q : x = .bl _ := q
    subst q
    exact .bl b
  | .int i, x, _, q => by
    have q : x = .int _ := q
    subst q
    exact .int i
  | .str s, x, _, q => by
    obtain ⟨q, _⟩ := q
    subst q
    exact .str _
  | .tup xs, x, hp, ⟨p, ys, e, q, rs⟩ => by
    subst e
    exact .tup (r.sub.tup q) (dts_ok r xs ys (by simpa [pur] using hp) rs)
  | .fl xs, x, hp, ⟨p, ys, e, q, rs⟩ => by
    subst e
    exact .lst (r.sub.lst q).sq (dts_ok r xs ys (by simpa [pur] using hp) rs)
  | .byt _, _, hp, _ => by simp [pur] at hp
  | .ref _, _, hp, _ => by simp [pur] at hp
  | .fd _, _, hp, _ => by simp [pur] at hp
  | .ob _ _, _, hp, _ => by simp [pur] at hp
  | .fn _ _, _, hp, _ => by simp [pur] at hp
  | .cl _, _, hp, _ => by simp [pur] at hp
  | .ty _, _, hp, _ => by simp [pur] at hp
  | .rng _ _, _, hp, _ => by simp [pur] at hp
  | .enm _, _, hp, _ => by simp [pur] at hp
  | .zp _ _, _, hp, _ => by simp [pur] at hp
  | .scr _, _, hp, _ => by simp [pur] at hp
theorem dts_ok (r : Rel G m F h H) : ∀ (vs : List Vl) (xs : List V), purs vs = true → Rs G F m vs xs → DpAll G.K H xs (dts vs)
  | [], xs, _, q => by
    have q : xs = [] := q
    subst q
    exact .nil
  | v :: vs, xs, hp, ⟨y, zs, e, rv, rs⟩ => by
    subst e
    have hp' : pur v = true ∧ purs vs = true := by simpa [purs] using hp
    exact .cons (dt_ok r v y hp'.1 rv) (dts_ok r vs zs hp'.2 rs)
end
mutual
theorem lay_ok : ∀ (v : Vl) (x : V), R G F m v x → (dt v).canLay0 = true
  | .non, _, _ => rfl
  | .bl b, _, _ => rfl
  | .int i, _, _ => rfl
  | .str s, _, ⟨_, q⟩ => by
    unfold dt PyData.canLay0
    show (ss s).cps.all (· < 0x110000) = true
    unfold ss
    rw [List.all_toArray, List.all_eq_true]
    exact fun c hc => decide_eq_true (q c hc)
  | .tup xs, _, ⟨_, ys, _, _, rs⟩ => by
    unfold dt PyData.canLay0
    exact lays_ok xs ys rs
  | .fl xs, _, ⟨_, ys, _, _, rs⟩ => by
    unfold dt PyData.canLay0
    exact lays_ok xs ys rs
  | .byt _, _, _ => rfl
  | .ref _, _, _ => rfl
  | .fd _, _, _ => rfl
  | .ob _ _, _, _ => rfl
  | .fn _ _, _, _ => rfl
  | .cl _, _, _ => rfl
  | .ty _, _, _ => rfl
  | .rng _ _, _, _ => rfl
  | .enm _, _, _ => rfl
  | .zp _ _, _, _ => rfl
  | .scr _, _, _ => rfl
theorem lays_ok : ∀ (vs : List Vl) (xs : List V), Rs G F m vs xs → PyData.canLayAll0 (dts vs) = true
  | [], _, _ => rfl
  | v :: vs, _, ⟨y, zs, _, rv, rs⟩ => by
    unfold dts PyData.canLayAll0
    rw [lay_ok v y rv, lays_ok vs zs rs]
    rfl
end
mutual
theorem dep_ok : ∀ v : Vl, (dt v).depth = dep v
  | .non => rfl
  | .bl b => rfl
  | .int i => rfl
  | .str s => rfl
  | .tup xs => by
    unfold dt PyData.depth dep
    rw [deps_ok xs]
  | .fl xs => by
    unfold dt PyData.depth dep
    rw [deps_ok xs]
  | .byt _ => rfl
  | .ref _ => rfl
  | .fd _ => rfl
  | .ob _ _ => rfl
  | .fn _ _ => rfl
  | .cl _ => rfl
  | .ty _ => rfl
  | .rng _ _ => rfl
  | .enm _ => rfl
  | .zp _ _ => rfl
  | .scr _ => rfl
theorem deps_ok : ∀ vs : List Vl, PyData.depthAll (dts vs) = deps vs
  | [] => rfl
  | v :: vs => by
    unfold dts PyData.depthAll deps
    rw [dep_ok v, deps_ok vs]
end
theorem ss_beq (s t : Tx) : (ss s == ss t) = (s == t) := by
  by_cases e : s = t
  · subst e
    simp
  · have e2 : ss s ≠ ss t := fun z => e (ss_inj z)
    rw [beq_eq_false_iff_ne.mpr e2, beq_eq_false_iff_ne.mpr e]
mutual
theorem eqD_ok : ∀ v w : Vl, pur v = true → pur w = true → PyData.eqv (dt v) (dt w) = eqD v w
  | .non, w, _, hw => by cases w <;> first | rfl | (simp [pur] at hw)
  | .bl a, w, _, hw => by cases w <;> first | rfl | (simp [pur] at hw)
  | .int i, w, _, hw => by cases w <;> first | rfl | (simp [pur] at hw)
  | .str s, w, _, hw => by
    cases w <;> first | rfl | (simp [pur] at hw; done) | skip
    rename_i t
    show (ss s == ss t) = (s == t)
    exact ss_beq s t
  | .tup xs, w, hv, hw => by
    cases w <;> first | rfl | (simp [pur] at hw; done) | skip
    rename_i ys
    exact eqDs_ok xs ys (by simpa [pur] using hv) (by simpa [pur] using hw)
  | .fl xs, w, hv, hw => by
    cases w <;> first | rfl | (simp [pur] at hw; done) | skip
    rename_i ys
    exact eqDs_ok xs ys (by simpa [pur] using hv) (by simpa [pur] using hw)
  | .byt _, _, hp, _ => by simp [pur] at hp
  | .ref _, _, hp, _ => by simp [pur] at hp
  | .fd _, _, hp, _ => by simp [pur] at hp
  | .ob _ _, _, hp, _ => by simp [pur] at hp
  | .fn _ _, _, hp, _ => by simp [pur] at hp
  | .cl _, _, hp, _ => by simp [pur] at hp
  | .ty _, _, hp, _ => by simp [pur] at hp
  | .rng _ _, _, hp, _ => by simp [pur] at hp
  | .enm _, _, hp, _ => by simp [pur] at hp
  | .zp _ _, _, hp, _ => by simp [pur] at hp
  | .scr _, _, hp, _ => by simp [pur] at hp
theorem eqDs_ok : ∀ vs ws : List Vl, purs vs = true → purs ws = true → PyData.eqvAll (dts vs) (dts ws) = eqDs vs ws
  | [], [], _, _ => rfl
  | [], _ :: _, _, _ => rfl
  | _ :: _, [], _, _ => rfl
  | v :: vs, w :: ws, hv, hw => by
    have hv' : pur v = true ∧ purs vs = true := by simpa [purs] using hv
    have hw' : pur w = true ∧ purs ws = true := by simpa [purs] using hw
    unfold dts PyData.eqvAll eqDs
    rw [eqD_ok v w hv'.1 hw'.1, eqDs_ok vs ws hv'.2 hw'.2]
end
theorem top_or (h : Hm) (v : Vl) : (∃ a xs, v = .ref a ∧ h[a]? = some (.lst xs) ∧ topV h v = .fl xs) ∨ topV h v = v := by
  unfold topV
  split
  · rename_i a
    split
    · rename_i xs e
      exact .inl ⟨a, xs, rfl, e, rfl⟩
    · exact .inr rfl
  · exact .inr rfl
/-- a thing as it is now, as data -/
theorem top_ok (r : Rel G m F h H) (q : R G F m v x) (hp : pur (topV h v) = true) (hd : dep (topV h v) ≤ 60) : Dp G.K H x (dt (topV h v)) ∧ SeqAt.shaped (dt (topV h v)) = true := by
  have sv : ∀ (v : Vl) (x : V), R G F m v x → dep v ≤ 60 → SeqAt.shaped (dt v) = true := fun v x q d => by
    unfold SeqAt.shaped
    rw [lay_ok v x q, dep_ok, Bool.true_and]
    exact decide_eq_true (by omega)
  rcases top_or h v with ⟨a, xs, rfl, e, et⟩ | et
  · rw [et] at hp hd ⊢
    obtain ⟨p, ys, rfl, e1, e2⟩ := lst_ok (xs := xs) r q (by unfold lstOf; dsimp only; rw [e])
    have hp : purs xs = true := by simpa [pur] using hp
    refine ⟨.lst e1 (dts_ok r _ _ hp e2), ?_⟩
    unfold SeqAt.shaped dt PyData.canLay0
    rw [lays_ok _ _ e2, Bool.true_and]
    refine decide_eq_true ?_
    unfold PyData.depth
    rw [deps_ok]
    unfold dep at hd
    omega
  · rw [et] at hp hd ⊢
    exact ⟨dt_ok r v x hp q, sv v x q hd⟩
/-- what == looks at -/
theorem eqV_ok (r : Rel G m F h H) {w : Vl} {y : V} (qv : R G F m v x) (qw : R G F m w y) {b : Bool} (e : eqV h v w = some b) :
    ∃ d d', Dp G.K H x d ∧ Dp G.K H y d' ∧ SeqAt.shaped d = true ∧ SeqAt.shaped d' = true ∧ PyData.eqv d d' = b := by
  unfold eqV at e
  split at e
  · rename_i hc
    simp only [Bool.and_eq_true, decide_eq_true_eq] at hc
    obtain ⟨⟨⟨h1, h2⟩, h3⟩, h4⟩ := hc
    obtain ⟨a1, a2⟩ := top_ok r qv h1 h3
    obtain ⟨b1, b2⟩ := top_ok r qw h2 h4
    exact ⟨_, _, a1, b1, a2, b2, by rw [eqD_ok _ _ h1 h2]; exact Option.some.inj e⟩
  · cases e
end

/-! ### operators -/
section
variable {X : Cx} {G : Gi}
theorem lim_eq : sizeLine = LIM := rfl
theorem ss_append (s t : Tx) : ss s ++ ss t = ss (s ++ t) := by
  show Str.append _ _ = _
  unfold Str.append ss
  simp
theorem sOk.append {s t : Tx} (a : sOk s) (b : sOk t) : sOk (s ++ t) := fun c hc => (List.mem_append.mp hc).elim (a c) (b c)
theorem lst_at {pins : List (Addr × Obj)} {σ : St} {H : Hp} {s : Shared} {p : Addr} {xs : List V} (I : Inv X pins σ H s) (h : SqX X.K H p xs) : xs.length ≤ sizeLine ∧ ∃ (its : List Value) (n : Nat), Vals xs its ∧ xs.length = its.length ∧ s.heap.get? p = some { cls := .type "list", data := .seq its.toArray n } := by
  rcases h with h | ⟨its, n, e, z, r⟩
  · obtain ⟨z, its, n, r, e⟩ := h.ok I.hok
    exact ⟨z, its, n, r, r.length, e⟩
  · have hl : xs.length = its.size := by simpa using r.length
    refine ⟨by omega, its.toList, n, r, r.length, ?_⟩
    have := I.kIn _ _ e
    simpa using this
theorem op_catX : OpR X (binaryOp .Add) (fun x y H Q => ∃ l b xs zs, x = .ref l ∧ y = .ref b ∧ SqX X.K H l xs ∧ SqX X.K H b zs ∧ xs.length + zs.length ≤ sizeLine ∧ ∀ p, H p = none → Q (.ref p) (upd H p (.lst (xs ++ zs)))) := by
  intro pins s σ H x y v u Q I rx ry h
  obtain ⟨l, b, xs, zs, rfl, rfl, hH, hB, hz, q⟩ := h
  cases rx
  cases ry
  obtain ⟨z, its, n, r, hl, e⟩ := lst_at I hH
  obtain ⟨z2, its2, n2, r2, hl2, e2⟩ := lst_at I hB
  refine PySem.P.add_list e e2 ?_ (by rw [List.size_toArray, List.size_toArray]; omega)
  have ea : its.toArray ++ its2.toArray = (its ++ its2).toArray := by simp
  rw [ea]
  exact ⟨.ref _, _, I.lnew (t' := s.toks) (r.append r2) (by rw [List.length_append]; omega), rfl, q _ I.fresh⟩
theorem bin_add (hK : X.K = G.K) (lv : Bool) : OpR X (binaryOp .Add) (rM2 G (addV lv)) := by
  intro pins s σ H x y v u Q I rx ry hq
  obtain ⟨m, F, hh, a, b, rl, ra, rb, w⟩ := hq
  unfold addV at w
  split at w
  · exact op_add pins s σ H x y v u Q I rx ry ⟨_, _, ra, rb, w.here rl rfl⟩
  · split at w
    · rename_i s1 t1 hl
      obtain ⟨ra, oa⟩ := ra
      obtain ⟨rb, ob⟩ := rb
      refine op_add_str pins s σ H x y v u Q I rx ry ⟨_, _, ra, rb, by rw [ss_len, ss_len]; exact hl, ?_⟩
      rw [ss_append]
      exact w.here rl ⟨rfl, oa.append ob⟩
    · exact False.elim w
  · split at w
    · rename_i xs ys hl
      obtain ⟨p, zs, rfl, q, r1⟩ := ra
      obtain ⟨p', zs', rfl, q', r2⟩ := rb
      refine op_catA pins s σ H _ _ v u Q I rx ry ⟨p, p', zs, zs', rfl, rfl, by rw [hK]; exact rl.sub.tup q, by rw [hK]; exact rl.sub.tup q', by rw [r1.length, r2.length]; exact hl, ?_, ?_, ?_⟩
      · intro e
        subst e
        have e1 : xs = [] := by
          have := r1.length
          cases xs with
          | nil => rfl
          | cons a l => simp at this
        subst e1
        exact w.here rl ⟨p', zs', rfl, q', r2⟩
      · intro _ e
        subst e
        have e1 : ys = [] := by
          have := r2.length
          cases ys with
          | nil => rfl
          | cons a l => simp at this
        subst e1
        rw [List.append_nil] at w
        exact w.here rl ⟨p, zs, rfl, q, r1⟩
      · intro _ _ l nl
        exact w.tup rl nl (r1.append r2)
    · exact False.elim w
  · split at w
    · rename_i xs ys e1 e2
      split at w
      · rename_i hl
        obtain ⟨p, zs, rfl, hp, r1⟩ := lstX_ok rl ra e1
        obtain ⟨p', zs', rfl, hp', r2⟩ := lstX_ok rl rb e2
        exact op_catX pins s σ H _ _ v u Q I rx ry ⟨p, p', zs, zs', rfl, rfl, by rw [hK]; exact hp, by rw [hK]; exact hp', by rw [r1.length, r2.length]; exact hl, fun l nl => w.newL rl nl (r1.append r2)⟩
      · exact False.elim w
    · exact False.elim w
theorem bin_sub : OpR X (binaryOp .Sub) (rM2 G minV) := by
  intro pins s σ H x y v u Q I rx ry hq
  obtain ⟨m, F, hh, a, b, rl, ra, rb, w⟩ := hq
  unfold minV at w
  split at w
  · exact op_sub pins s σ H x y v u Q I rx ry ⟨_, _, ra, rb, w.here rl rfl⟩
  · exact False.elim w
theorem mulOk_of {i j : Int} (h : mulOk i j = true) : PySem.IntMulOk i j := by
  unfold mulOk at h
  simp only [Bool.or_eq_true, Bool.and_eq_true, decide_eq_true_eq] at h
  rcases h with (h | h) | ⟨h1, h2⟩
  · exact CMul.ok (.inl (by omega))
  · exact CMul.ok (.inr (by omega))
  · exact CMulW.ok (wide_mul h1 h2 (by decide) (by decide) (by decide))
theorem bin_mul (lv : Bool) : OpR X (binaryOp .Mult) (rM2 G (mulV lv)) := by
  intro pins s σ H x y v u Q I rx ry hq
  obtain ⟨m, F, hh, a, b, rl, ra, rb, w⟩ := hq
  unfold mulV at w
  split at w
  · split at w
    · rename_i i j hm
      exact opI (C := fun i j => PySem.IntMulOk i j) (g := fun i j => i * j) (fun _ _ _ _ _ _ _ hc q => PyProof.Rows.mul_int q hc) pins s σ H x y v u Q I rx ry ⟨_, _, ra, rb, mulOk_of hm, w.here rl rfl⟩
    · exact False.elim w
  · split at w
    · rename_i k hne _ xs e1
      split at w
      · rename_i hl
        obtain ⟨_, p, zs, _, rfl, _, _, hp, r1⟩ := liv_ok rl ra e1
        have rr : ∀ n : Nat, Rs G F m (List.replicate n xs).flatten (List.replicate n zs).flatten := fun n => by
          induction n with
          | zero => rfl
          | succ n ih =>
            rw [List.replicate_succ, List.replicate_succ, List.flatten_cons, List.flatten_cons]
            exact r1.append ih
        exact op_rep pins s σ H _ _ v u Q I rx ry ⟨p, k, zs, rfl, rb, hp, hl.1, hl.2.1, by rw [r1.length]; exact hl.2.2, fun l nl => w.newL rl nl (rr _)⟩
      · exact False.elim w
    · exact False.elim w
  · exact False.elim w
theorem bin_fdiv : OpR X (binaryOp .FloorDiv) (rM2 G fdvV) := by
  intro pins s σ H x y v u Q I rx ry hq
  obtain ⟨m, F, hh, a, b, rl, ra, rb, w⟩ := hq
  unfold fdvV at w
  split at w
  · split at w
    · rename_i hl
      exact op_fdiv pins s σ H x y v u Q I rx ry ⟨_, _, ra, rb, hl, w.here rl rfl⟩
    · exact False.elim w
  · exact False.elim w
theorem bin_mod : OpR X (binaryOp .Mod) (rM2 G modV) := by
  intro pins s σ H x y v u Q I rx ry hq
  obtain ⟨m, F, hh, a, b, rl, ra, rb, w⟩ := hq
  unfold modV at w
  split at w
  · split at w
    · rename_i hl
      exact op_mod pins s σ H x y v u Q I rx ry ⟨_, _, ra, rb, hl, w.here rl rfl⟩
    · exact False.elim w
  · exact False.elim w
theorem powBits {i : Int} (h : i.natAbs < 2 ^ 4000) : Builtin.Int.intBits i ≤ 4000 := by
  have := PySem.Flt.log2_lt_of (by decide) h
  unfold Builtin.Int.intBits
  split <;> omega
theorem bin_pow : OpR X (binaryOp .Pow) (rM2 G powV) := by
  intro pins s σ H x y v u Q I rx ry hq
  obtain ⟨m, F, hh, a, b, rl, ra, rb, w⟩ := hq
  unfold powV at w
  split at w
  · split at w
    · rename_i i j hl
      refine opI (C := fun i j => 0 ≤ j ∧ (Builtin.Int.intBits i : Int) * j ≤ 2 ^ 27) (g := fun i j => i ^ j.toNat) (fun _ _ _ _ _ _ _ hc q => PyProof.Rows.pow_int hc.1 hc.2 q) pins s σ H x y v u Q I rx ry ⟨_, _, ra, rb, ⟨hl.1, ?_⟩, w.here rl rfl⟩
      have h1 := powBits hl.2.2
      have h2 := hl.1
      have h3 := hl.2.1
      have h4 : (Builtin.Int.intBits i : Int) * j ≤ 4000 * 64 := Int.mul_le_mul (by omega) h3 h2 (by decide)
      exact Int.le_trans h4 (by decide)
    · exact False.elim w
  · exact False.elim w
/-- the model's operator of ours -/
def opB : Bop → Operator
  | .add => .Add
  | .sub => .Sub
  | .mul => .Mult
  | .fdiv => .FloorDiv
  | .mod => .Mod
  | .pow => .Pow
  | .addL => .Add
  | .mulL => .Mult
theorem bin_ok (hK : X.K = G.K) : ∀ op : Bop, OpR X (binaryOp (opB op)) (rM2 G (binop op))
  | .add => bin_add hK false
  | .sub => bin_sub
  | .mul => bin_mul false
  | .fdiv => bin_fdiv
  | .mod => bin_mod
  | .pow => bin_pow
  | .addL => bin_add hK true
  | .mulL => bin_mul true

/-! ### comparisons -/
theorem bres_ok {o : Option Bool} {h h' : Hm} {v : Vl} (e : bres o h = .ok v h') : ∃ b, o = some b ∧ v = .bl b ∧ h' = h := by
  unfold bres at e
  split at e
  · cases e
    exact ⟨_, rfl, rfl, rfl⟩
  · cases e
theorem bres_wp {o : Option Bool} {h : Hm} {m : Mp} {F H : Hp} {Q : VK} (w : WpV G m F (bres o h) Q) (rl : Rel G m F h H) : ∃ b, o = some b ∧ Q (.bl b) H := by
  unfold bres at w
  split at w
  · exact ⟨_, rfl, w.here rl rfl⟩
  · exact False.elim w
theorem cmp_eq (hK : X.K = G.K) (hu : X.A.units + 64 < cLine) : OpR X (compareOp .Eq) (rM2 G (cmpop .eq)) := by
  intro pins s σ H x y v u Q I rx ry hq
  obtain ⟨m, F, hh, a, b, rl, ra, rb, w⟩ := hq
  obtain ⟨k, e, q⟩ := bres_wp w rl
  obtain ⟨d, d', h1, h2, h3, h4, h5⟩ := eqV_ok rl ra rb e
  exact op_eqD hu pins s σ H x y v u Q I rx ry ⟨d, d', by rw [hK]; exact h1, by rw [hK]; exact h2, h3, h4, by rw [h5]; exact q⟩
theorem cmp_ne (hK : X.K = G.K) (hu : X.A.units + 64 < cLine) : OpR X (compareOp .NotEq) (rM2 G (cmpop .ne)) := by
  intro pins s σ H x y v u Q I rx ry hq
  obtain ⟨m, F, hh, a, b, rl, ra, rb, w⟩ := hq
  obtain ⟨k, e, q⟩ := bres_wp w rl
  obtain ⟨k', e', rfl⟩ := Option.map_eq_some_iff.mp e
  obtain ⟨d, d', h1, h2, h3, h4, h5⟩ := eqV_ok rl ra rb e'
  exact op_neD hu pins s σ H x y v u Q I rx ry ⟨d, d', by rw [hK]; exact h1, by rw [hK]; exact h2, h3, h4, by rw [h5]; exact q⟩
theorem cmp_lt : OpR X (compareOp .Lt) (rM2 G (cmpop .lt)) := by
  intro pins s σ H x y v u Q I rx ry hq
  obtain ⟨m, F, hh, a, b, rl, ra, rb, w⟩ := hq
  have w : WpV G m F (ltV a b hh) Q := w
  unfold ltV at w
  split at w
  · exact op_lt pins s σ H x y v u Q I rx ry ⟨_, _, ra, rb, w.here rl rfl⟩
  · exact op_lt_str pins s σ H x y v u Q I rx ry ⟨_, _, ra.1, rb.1, by rw [ss_list, ss_list]; exact w.here rl rfl⟩
  · exact False.elim w
theorem cmp_le : OpR X (compareOp .LtE) (rM2 G (cmpop .le)) := by
  intro pins s σ H x y v u Q I rx ry hq
  obtain ⟨m, F, hh, a, b, rl, ra, rb, w⟩ := hq
  have w : WpV G m F (leV a b hh) Q := w
  unfold leV at w
  split at w
  · exact op_le pins s σ H x y v u Q I rx ry ⟨_, _, ra, rb, w.here rl rfl⟩
  · exact op_le_str pins s σ H x y v u Q I rx ry ⟨_, _, ra.1, rb.1, by rw [ss_list, ss_list]; exact w.here rl rfl⟩
  · exact False.elim w
theorem cmp_gt : OpR X (compareOp .Gt) (rM2 G (cmpop .gt)) := by
  intro pins s σ H x y v u Q I rx ry hq
  obtain ⟨m, F, hh, a, b, rl, ra, rb, w⟩ := hq
  have w : WpV G m F (ltV b a hh) Q := w
  unfold ltV at w
  split at w
  · exact op_gt pins s σ H x y v u Q I rx ry ⟨_, _, ra, rb, w.here rl rfl⟩
  · exact op_gt_str pins s σ H x y v u Q I rx ry ⟨_, _, ra.1, rb.1, by rw [ss_list, ss_list]; exact w.here rl rfl⟩
  · exact False.elim w
theorem cmp_ge : OpR X (compareOp .GtE) (rM2 G (cmpop .ge)) := by
  intro pins s σ H x y v u Q I rx ry hq
  obtain ⟨m, F, hh, a, b, rl, ra, rb, w⟩ := hq
  have w : WpV G m F (leV b a hh) Q := w
  unfold leV at w
  split at w
  · exact op_ge pins s σ H x y v u Q I rx ry ⟨_, _, ra, rb, w.here rl rfl⟩
  · exact op_ge_str pins s σ H x y v u Q I rx ry ⟨_, _, ra.1, rb.1, by rw [ss_list, ss_list]; exact w.here rl rfl⟩
  · exact False.elim w
theorem R.isN {F : Hp} {m : Mp} {a : Vl} {x : V} (r : R G F m a x) : decide (x = .non) = isNon a := by
  cases a with
  | non =>
    have e : x = .non := r
    subst e
    rfl
  | bl b =>
    have e : x = .bl b := r
    subst e
    rfl
  | int b =>
    have e : x = .int b := r
    subst e
    rfl
  | str b =>
    obtain ⟨e, _⟩ := r
    subst e
    rfl
  | byt b => exact False.elim r
  | ref b =>
    obtain ⟨p, _, e⟩ := r
    subst e
    rfl
  | tup b =>
    obtain ⟨p, _, e, _⟩ := r
    subst e
    rfl
  | fl b =>
    obtain ⟨p, _, e, _⟩ := r
    subst e
    rfl
  | fd b =>
    obtain ⟨p, _, e, _⟩ := r
    subst e
    rfl
  | ob c b =>
    obtain ⟨p, _, _, e, _⟩ := r
    subst e
    rfl
  | fn c b =>
    have e : x = .ref _ := r
    subst e
    rfl
  | cl c =>
    obtain ⟨e, _⟩ := r
    subst e
    rfl
  | ty c =>
    have e : x = .ty _ := r
    subst e
    rfl
  | rng b c => exact False.elim r
  | enm b => exact False.elim r
  | zp b c => exact False.elim r
  | scr b =>
    obtain ⟨p, rfl, _⟩ := r
    rfl
theorem cmp_is : OpR X (compareOp .Is) (rM2 G (cmpop .is)) := by
  intro pins s σ H x y v u Q I rx ry hq
  obtain ⟨m, F, hh, a, b, rl, ra, rb, w⟩ := hq
  have w : WpV G m F (isV a b hh) Q := w
  unfold isV at w
  split at w
  · exact op_isN pins s σ H x y v u Q I rx ry ⟨rb, by rw [ra.isN]; exact w.here rl rfl⟩
  · exact False.elim w
theorem cmp_isnot : OpR X (compareOp .IsNot) (rM2 G (cmpop .isnot)) := by
  intro pins s σ H x y v u Q I rx ry hq
  obtain ⟨m, F, hh, a, b, rl, ra, rb, w⟩ := hq
  have w : WpV G m F (isnotV a b hh) Q := w
  unfold isnotV at w
  split at w
  · exact op_notN pins s σ H x y v u Q I rx ry ⟨rb, by rw [ra.isN]; exact w.here rl rfl⟩
  · exact False.elim w
theorem flat_ok {F : Hp} {m : Mp} {v : Vl} {x : V} (r : R G F m v x) (h : flat v = true) : flatV x = true := by
  cases v with
  | non =>
    have e : x = .non := r
    subst e
    rfl
  | bl _ =>
    have e : x = .bl _ := r
    subst e
    rfl
  | int _ =>
    have e : x = .int _ := r
    subst e
    rfl
  | str _ =>
    obtain ⟨e, _⟩ := r
    subst e
    rfl
  | _ => cases h
theorem flats_ok {F : Hp} {m : Mp} : ∀ {vs : List Vl} {xs : List V}, Rs G F m vs xs → vs.all flat = true → xs.all flatV = true
  | [], xs, r, _ => by
    have e : xs = [] := r
    subst e
    rfl
  | v :: vs, xs, ⟨y, zs, e, r, rs⟩, h => by
    subst e
    rw [List.all_cons, Bool.and_eq_true] at h
    rw [List.all_cons, flat_ok r h.1, flats_ok rs h.2]
    rfl
theorem eqF_ok {F : Hp} {m : Mp} {v w : Vl} {x y : V} (r : R G F m v x) (q : R G F m w y) (hv : flat v = true) (hw : flat w = true) : L2.eqV x y = eqD v w := by
  cases v <;> simp [flat] at hv <;> cases w <;> simp [flat] at hw
  all_goals first
    | (obtain ⟨r1, _⟩ := r; obtain ⟨q1, _⟩ := q; subst r1; subst q1; first | rfl | exact ss_beq _ _)
    | (obtain ⟨r1, _⟩ := r; have q1 := (show y = _ from q); subst r1; subst q1; rfl)
    | (have r1 := (show x = _ from r); obtain ⟨q1, _⟩ := q; subst r1; subst q1; rfl)
    | (have r1 := (show x = _ from r); have q1 := (show y = _ from q); subst r1; subst q1; rfl)
theorem anyF_ok {F : Hp} {m : Mp} {w : Vl} {y : V} (q : R G F m w y) (hw : flat w = true) : ∀ {vs : List Vl} {xs : List V}, Rs G F m vs xs → vs.all flat = true → L2.inV y xs = vs.any fun z => eqD z w
  | [], xs, r, _ => by
    have e : xs = [] := r
    subst e
    rfl
  | v :: vs, xs, ⟨x, zs, e, r, rs⟩, h => by
    subst e
    rw [List.all_cons, Bool.and_eq_true] at h
    have ih := anyF_ok q hw rs h.2
    unfold L2.inV at ih ⊢
    rw [List.any_cons, List.any_cons, ih, eqF_ok r q h.1 hw]
theorem getK_ok {F : Hp} {m : Mp} (k : Tx) : ∀ {kvs : List (Tx × Vl)} {ys : List (Key × V)}, Rk G F m kvs ys → match getK kvs k with
    | some v => ∃ x, valV ys (Sum.inr (ss k)) = some x ∧ R G F m v x
    | none => valV ys (Sum.inr (ss k)) = none
  | [], ys, r => by
    have e : ys = [] := r
    subst e
    rfl
  | (k', v) :: kvs, ys, ⟨x, zs, e, o, r, rs⟩ => by
    subst e
    have ih := getK_ok k rs
    unfold getK at ih ⊢
    rw [List.lookup_cons]
    unfold valV at ih ⊢
    rw [List.find?_cons]
    have e1 : decide ((Sum.inr (ss k') : Key) = Sum.inr (ss k)) = (k == k') := by
      by_cases e : k = k'
      · subst e
        simp
      · have e2 : (Sum.inr (ss k') : Key) ≠ Sum.inr (ss k) := fun z => e (ss_inj (Sum.inr.inj z)).symm
        rw [decide_eq_false e2, beq_eq_false_iff_ne.mpr e]
    show match (match k == k' with | true => some v | false => List.lookup k kvs) with
      | some v => ∃ x_1, Option.map (fun x => x.snd) (match decide ((Sum.inr (ss k') : Key) = Sum.inr (ss k)) with | true => some (Sum.inr (ss k'), x) | false => List.find? (fun kv => decide (kv.fst = Sum.inr (ss k))) zs) = some x_1 ∧ R G F m v x_1
      | none => Option.map (fun x => x.snd) (match decide ((Sum.inr (ss k') : Key) = Sum.inr (ss k)) with | true => some (Sum.inr (ss k'), x) | false => List.find? (fun kv => decide (kv.fst = Sum.inr (ss k))) zs) = none
    rw [e1]
    cases k == k' with
    | true => exact ⟨x, rfl, r⟩
    | false => exact ih
theorem inV_in (hK : X.K = G.K) (hu : X.A.units + 64 < cLine) (neg : Bool) {op : CmpOp} (hop : op = if neg then .NotIn else .In) : OpR X (compareOp op) (rM2 G fun x y h => bres ((inV h x y).map fun b => if neg then !b else b) h) := by
  intro pins s σ H x y v u Q I rx ry hq
  obtain ⟨m, F, hh, a, b, rl, ra, rb, w⟩ := hq
  obtain ⟨k, e, q⟩ := bres_wp w rl
  obtain ⟨k', e', rfl⟩ := Option.map_eq_some_iff.mp e
  unfold inV at e'
  split at e'
  · split at e'
    · rename_i t _ c
      have e' := Option.some.inj e'
      subst e'
      obtain ⟨ra, _⟩ := ra
      obtain ⟨rb, _⟩ := rb
      cases neg with
      | true =>
        subst hop
        exact op_notIn_sign pins s σ H x y v u Q I rx ry ⟨c, ss t, ra, rb, by rw [ss_list]; exact q⟩
      | false =>
        subst hop
        exact op_in_sign pins s σ H x y v u Q I rx ry ⟨c, ss t, ra, rb, by rw [ss_list]; exact q⟩
    · cases e'
  · split at e'
    · rename_i ys e1
      split at e'
      · rename_i hc
        simp only [Bool.and_eq_true] at hc
        have e' := Option.some.inj e'
        subst e'
        obtain ⟨p, zs, rfl, z1, z2⟩ := seq_ok rl rb e1
        have e2 := anyF_ok ra hc.1 z2 hc.2
        cases neg with
        | true =>
          subst hop
          exact op_notIn_seq pins s σ H x _ v u Q I rx ry ⟨p, zs, rfl, by rw [hK]; exact z1, flat_ok ra hc.1, flats_ok z2 hc.2, by rw [e2]; exact q⟩
        | false =>
          subst hop
          exact op_in_seq pins s σ H x _ v u Q I rx ry ⟨p, zs, rfl, by rw [hK]; exact z1, flat_ok ra hc.1, flats_ok z2 hc.2, by rw [e2]; exact q⟩
      · cases e'
    · split at e'
      · rename_i kvs e1
        split at e'
        · rename_i kk
          have e' := Option.some.inj e'
          subst e'
          obtain ⟨ra, _⟩ := ra
          subst ra
          obtain ⟨p, zs, rfl, z1, z2⟩ := dct_ok rl rb e1
          have g := getK_ok kk z2
          have es : (valV zs (Sum.inr (ss kk))).isSome = (getK kvs kk).isSome := by
            cases hg : getK kvs kk with
            | none =>
              rw [hg] at g
              rw [g]
              rfl
            | some v0 =>
              rw [hg] at g
              obtain ⟨x0, g, _⟩ := g
              rw [g]
              rfl
          obtain rfl : u = Value.ref p := ry
          have dg : DGet H p (.str (ss kk)) (valV zs (Sum.inr (ss kk))) := DGet.k (k := Sum.inr (ss kk)) z1
          cases neg with
          | true =>
            subst hop
            exact d_notIn (by omega) I dg rx fun s3 I3 => ⟨.bl _, H, I3, rfl, by rw [es]; exact q⟩
          | false =>
            subst hop
            exact d_in (by omega) I dg rx fun s3 I3 => ⟨.bl _, H, I3, rfl, by rw [es]; exact q⟩
        · cases e'
      · cases e'
theorem map_id' {o : Option Bool} : (o.map fun b => if false then !b else b) = o := by cases o <;> rfl
theorem cmp_in (hK : X.K = G.K) (hu : X.A.units + 64 < cLine) : OpR X (compareOp .In) (rM2 G (cmpop .isin)) := by
  have h := inV_in (X := X) (G := G) hK hu false rfl
  have e : (fun (x y : Vl) (h : Hm) => bres ((inV h x y).map fun b => if false = true then !b else b) h) = cmpop .isin := by
    funext x y h
    show bres _ h = bres _ h
    cases inV h x y <;> rfl
  rw [e] at h
  exact h
theorem cmp_notin (hK : X.K = G.K) (hu : X.A.units + 64 < cLine) : OpR X (compareOp .NotIn) (rM2 G (cmpop .notin)) := inV_in (X := X) (G := G) hK hu true rfl
def opC : Cop → CmpOp
  | .eq => .Eq
  | .ne => .NotEq
  | .lt => .Lt
  | .le => .LtE
  | .gt => .Gt
  | .ge => .GtE
  | .isin => .In
  | .notin => .NotIn
  | .is => .Is
  | .isnot => .IsNot
theorem cmp_ok (hK : X.K = G.K) (hu : X.A.units + 64 < cLine) : ∀ op : Cop, OpR X (compareOp (opC op)) (rM2 G (cmpop op))
  | .eq => cmp_eq hK hu
  | .ne => cmp_ne hK hu
  | .lt => cmp_lt
  | .le => cmp_le
  | .gt => cmp_gt
  | .ge => cmp_ge
  | .isin => cmp_in hK hu
  | .notin => cmp_notin hK hu
  | .is => cmp_is
  | .isnot => cmp_isnot
theorem cmp_bl {op : Cop} {x y v : Vl} {h h' : Hm} (e : cmpop op x y h = .ok v h') : ∃ b, v = .bl b ∧ h' = h := by
  have hb : ∀ o : Option Bool, bres o h = .ok v h' → ∃ b, v = .bl b ∧ h' = h := fun o e => by
    obtain ⟨b, _, e1, e2⟩ := bres_ok e
    exact ⟨b, e1, e2⟩
  have hl : ∀ x y, ltV x y h = .ok v h' → ∃ b, v = .bl b ∧ h' = h := fun x y e => by
    unfold ltV at e
    split at e <;> cases e <;> exact ⟨_, rfl, rfl⟩
  have hle : ∀ x y, leV x y h = .ok v h' → ∃ b, v = .bl b ∧ h' = h := fun x y e => by
    unfold leV at e
    split at e <;> cases e <;> exact ⟨_, rfl, rfl⟩
  cases op with
  | eq => exact hb _ e
  | ne => exact hb _ e
  | lt => exact hl _ _ e
  | le => exact hle _ _ e
  | gt => exact hl _ _ e
  | ge => exact hle _ _ e
  | isin => exact hb _ e
  | notin => exact hb _ e
  | is =>
    have e : isV x y h = .ok v h' := e
    unfold isV at e
    split at e <;> cases e <;> exact ⟨_, rfl, rfl⟩
  | isnot =>
    have e : isnotV x y h = .ok v h' := e
    unfold isnotV at e
    split at e <;> cases e <;> exact ⟨_, rfl, rfl⟩
end
end Mi
/-! MINI: expressions -/
namespace Mi
open PySem PySem.Spec L2

/-- an expression, as a value and as a test -/
structure SE (X : Cx) (G : Gi) (C : Cs) (e : Expr) (x : Ex) : Prop where
  v : PE X e (tM G fun r h => evM C x false r h)
  t : PT X e (tMt G fun r h => evM C x true r h)
/-- a test that is its value's truth -/
def plainT (e : Expr) : Prop := ∀ (env : PySem.Env) (whole : Sem Value), PySem.isTrue e env whole = (do let v ← whole; standAt e.pos; holding [v] (truthy v))
def plainB : Expr → Bool
  | .UnaryOp .Not _ _ => false
  | .BoolOp .. => false
  | .IfExp .. => false
  | .Compare .. => false
  | _ => true
theorem plainT_of {e : Expr} (h : plainB e = true) : plainT e := fun env whole => by
  cases e <;> first | rfl | (cases h; done) | skip
  rename_i op a pos
  cases op <;> first | rfl | cases h

section
variable {X : Cx} {G : Gi} {C : Cs} {e a b c : Expr} {x y z : Ex} {pos : Pos}
theorem tMt_bind {f : Rho → Hm → Res Vl} {g : Rho → Vl → Hm → Res Vl} {σ : L2.St} {H : Hp} {Q : Bool → Hp → Prop} {k : V → Hp → Prop} (w : tMt G (fun r h => (f r h).bind (g r)) σ H Q)
    (hk : ∀ m F h r v x H', Rel G m F h H' → RE G F m r σ → R G F m v x → (WpV G m F (g r v h) fun x H' => ∃ b, x = .bl b ∧ Q b H') → k x H') : tM G f σ H k := tM_bind w hk
/-- a test's own parts -/
theorem tMt_test {f : Rho → Hm → Res Vl} {g : Rho → Vl → Hm → Res Vl} {σ : L2.St} {H : Hp} {Q : VK} {k : Bool → Hp → Prop} (w : tM G (fun r h => (f r h).bind (g r)) σ H Q)
    (hb : ∀ r v h, g r v h ≠ .bad → ∃ b, v = .bl b)
    (hk : ∀ m F h r b H', Rel G m F h H' → RE G F m r σ → WpV G m F (g r (.bl b) h) Q → k b H') : tMt G f σ H k := by
  obtain ⟨m, F, h, r, rl, re, w⟩ := w
  obtain ⟨v, h1, e, w⟩ := w.bind
  obtain ⟨b, rfl⟩ := hb r v h1 (fun z => by
    rw [z] at w
    exact w)
  refine ⟨m, F, h, r, rl, re, ?_⟩
  rw [e]
  refine fun m' F' H' x lm l rl' rx => ⟨b, rx, ?_⟩
  exact hk m' F' h1 r b H' rl' (RE.mono l lm _ _ re) (w.mono lm l)
theorem pt_of {f : Rho → Hm → Res Vl} (hK : X.K = G.K) (he : plainT e) (p : PE X e (tM G f)) : PT X e (tMt G fun r h => asT true (f r h)) := by
  refine PT.weak (pt_truth p (he _)) fun σ H Q w => ?_
  refine tMt_bind (g := fun r v h => match tru h v with
    | some b => .ok (.bl b) h
    | none => .bad) w fun m F h r v x H' rl re rx w => ?_
  split at w
  · rename_i b e1
    obtain ⟨b', e2, q⟩ := w.here rl (show R G F m (.bl b) (.bl b) from rfl)
    cases e2
    exact ⟨b, by rw [hK]; exact tru_M rl rx e1, q⟩
  · exact False.elim w
theorem SE.of {f : Rho → Hm → Res Vl} (hK : X.K = G.K) (he : plainT e) (hx : ∀ m r h, evM C x m r h = asT m (f r h)) (p : PE X e (tM G f)) : SE X G C e x := by
  refine ⟨?_, ?_⟩
  · have e1 : (fun r h => evM C x false r h) = f := by
      funext r h
      rw [hx]
      rfl
    rw [e1]
    exact p
  · have e1 : (fun r h => evM C x true r h) = fun r h => asT true (f r h) := by
      funext r h
      exact hx true r h
    rw [e1]
    exact pt_of hK he p
/-- .. of one whose value is a truth: in a test it is looked at as it is -/
theorem SE.ofB {f : Rho → Hm → Res Vl} (hx : ∀ m r h, evM C x m r h = asT m (f r h)) (hb : ∀ r h v h', f r h = .ok v h' → ∃ b, v = .bl b) (p : PE X e (tM G f)) (q : PT X e (tMt G f)) : SE X G C e x := by
  refine ⟨?_, ?_⟩
  · have e1 : (fun r h => evM C x false r h) = f := by
      funext r h
      rw [hx]
      rfl
    rw [e1]
    exact p
  · have e1 : (fun r h => evM C x true r h) = f := by
      funext r h
      rw [hx]
      unfold asT
      rw [if_pos rfl]
      cases ef : f r h with
      | ok v h' =>
        obtain ⟨b, rfl⟩ := hb r h v h' ef
        rfl
      | exc c fs h' => rfl
      | bad => rfl
    rw [e1]
    exact q

/-! ### names, constants -/
theorem se_var (hK : X.K = G.K) {i : Nat} {n : Str} (hN : X.N[i]? = some n) (hv : Vis X.env.scope n) (hd : (n == ("__debug__" : Str)) = false) (hcd : (n == ("__classdict__" : Str)) = false) : SE X G C (.Name n pos) (.var i) := by
  refine SE.of hK (plainT_of rfl) (fun m r h => by rw [evM]) (PE.weak (pe_var hN hv hd hcd) fun σ H Q w => ?_)
  obtain ⟨m, F, h, r, rl, re, w⟩ := w
  dsimp only at w
  split at w
  · rename_i v e
    obtain ⟨x, e1, rx⟩ := re.get e
    exact ⟨x, e1, w.here rl rx⟩
  · exact False.elim w
def m0 : Mp := fun _ => none
def F0 : Hp := fun _ => none
/-- a value that stands for itself at every heap -/
theorem se_cst (hK : X.K = G.K) {v : Vl} {x : V} (he : plainT e) (p : PE X e (tC x)) (r : R G F0 m0 v x) : SE X G C e (.cst v) := by
  refine SE.of hK he (fun m r h => by rw [evM]) (PE.weak p fun σ H Q w => ?_)
  obtain ⟨m, F, h, _, rl, re, w⟩ := w
  exact w.here rl (R.mono (fun _ _ e => by cases e) (fun _ _ e => by cases e) _ _ r)

/-! ### argument lists -/
def SA (X : Cx) (G : Gi) (C : Cs) (es : List Expr) (xs : List Ex) : Prop := PA X es (tMs G fun r h => evs C xs r h)
def noStar : Expr → Bool
  | .Starred .. => false
  | _ => true
theorem star_of {e : Expr} {es : List Expr} {env : PySem.Env} (h : noStar e = true) : starEach (e :: es) env = (false, eval e env) :: starEach es env := by
  cases e <;> first | rfl | cases h
theorem sa_nil : SA X G C [] [] := PA.weak pa_nil fun σ H Q w => by
  obtain ⟨m, F, h, r, rl, re, w⟩ := w
  dsimp only at w
  rw [evs] at w
  exact w.here rl rfl
theorem sa_cons {es : List Expr} {xs : List Ex} (h : SE X G C e x) (hs : noStar e = true) (hr : SA X G C es xs) : SA X G C (e :: es) (x :: xs) := by
  refine PA.weak (pa_cons h.v hr (star_of hs)) fun σ H Q w => ?_
  obtain ⟨m, F, hh, r, rl, re, w⟩ := w
  dsimp only at w
  rw [evs] at w
  obtain ⟨v, h1, e1, w⟩ := w.bind
  refine ⟨m, F, hh, r, rl, re, ?_⟩
  dsimp only
  rw [e1]
  intro m' F' H' y lm l rl' ry
  obtain ⟨vs, h2, e2, w⟩ := Wp.bind (w.mono lm l)
  refine ⟨m', F', h1, r, rl', RE.mono l lm _ _ re, ?_⟩
  dsimp only
  rw [e2]
  exact fun m2 F2 H2 ys lm2 l2 rl2 rys => w m2 F2 H2 _ lm2 l2 rl2 ⟨y, ys, rfl, R.mono l2 lm2 _ _ ry, rys⟩
theorem tMs_use {xs : List Ex} {g : List Vl → Hm → Res Vl} {σ : L2.St} {H : Hp} {Q : VK} {k : List V → Hp → Prop} (w : tM G (fun r h => (evs C xs r h).bind g) σ H Q)
    (hk : ∀ m F h vs ys H', Rel G m F h H' → Rs G F m vs ys → WpV G m F (g vs h) Q → k ys H') : tMs G (fun r h => evs C xs r h) σ H k := tMs_bind w fun m F h r vs ys H' rl _ rs w => hk m F h vs ys H' rl rs w

/-! ### displays -/
theorem se_tup (hK : X.K = G.K) {es : List Expr} {xs : List Ex} {k : Nat} (hs : SA X G C es xs) : SE X G C (.Tuple es k pos) (.tupE xs) := by
  refine SE.of hK (plainT_of rfl) (fun m r h => by rw [evM]) (PE.weak (pe_tup hs) fun σ H Q w => ?_)
  refine tMs_use w fun m F h vs ys H' rl rs w => ?_
  split at w
  · rename_i hl
    exact ⟨by rw [rs.length]; exact hl, fun p hp => w.tup rl hp rs⟩
  · exact False.elim w
theorem se_lst (hK : X.K = G.K) {es : List Expr} {xs : List Ex} (lv : Bool) (hs : SA X G C es xs) : SE X G C (.List es pos) (.lstE lv xs) := by
  refine SE.of hK (plainT_of rfl) (fun m r h => by rw [evM]) (PE.weak (pe_lst hs) fun σ H Q w => ?_)
  refine tMs_use w fun m F h vs ys H' rl rs w => ?_
  split at w
  · rename_i hl
    exact ⟨by rw [rs.length]; exact hl, fun p hp => w.newL rl hp rs⟩
  · exact False.elim w

/-! ### operators -/
theorem tM_two {f g : Rho → Hm → Res Vl} {k : Vl → Vl → Hm → Res Vl} {r2 : R2} {σ : L2.St} {H : Hp} {Q : VK} (hr : r2 = rM2 G k) (w : tM G (fun r h => (f r h).bind fun x h => (g r h).bind fun y h => k x y h) σ H Q) : tOp r2 (tM G f) (tM G g) σ H Q := by
  subst hr
  refine tM_bind (g := fun r x h => (g r h).bind fun y h => k x y h) w fun m F h r v x H' rl re rx w => ?_
  obtain ⟨u, h1, e1, w⟩ := w.bind
  refine ⟨m, F, h, r, rl, re, ?_⟩
  rw [e1]
  exact fun m' F' H2 y lm l rl' ry => ⟨m', F', h1, v, u, rl', R.mono l lm _ _ rx, ry, w.mono lm l⟩
theorem se_bin (hK : X.K = G.K) (op : Bop) (ha : SE X G C a x) (hb : SE X G C b y) : SE X G C (.BinOp a (opB op) b pos) (.bin op x y) := by
  refine SE.of hK (plainT_of rfl) (fun m r h => by rw [evM]) (PE.weak (pe_op (bin_ok hK op) ha.v hb.v) fun σ H Q w => ?_)
  exact tM_two rfl w
theorem se_neg (hK : X.K = G.K) (ha : SE X G C a x) : SE X G C (.UnaryOp .USub a pos) (.neg x) := by
  refine SE.of hK (plainT_of rfl) (fun m r h => by rw [evM]) (PE.weak (pe_un un_neg ha.v) fun σ H Q w => ?_)
  refine tM_bind w fun m F h r v x H' rl re rx w => ?_
  split at w
  · exact ⟨_, rx, w.here rl rfl⟩
  · exact False.elim w
def noSet : Expr → Bool
  | .Set .. => false
  | _ => true
theorem marks_of {op : CmpOp} {b : Expr} (h : noSet b = true) : behindInMarks op b = false := by
  cases b <;> first | rfl | cases h
theorem tM_chain {f g k : Rho → Hm → Res Vl} {o1 o2 : Cop} {σ : L2.St} {H : Hp} {Q : VK} (w : tM G (fun r h => (f r h).bind fun x h => (g r h).bind fun y h => (cmpop o1 x y h).bind fun t h => match t with
    | .bl true => (k r h).bind fun z h => cmpop o2 y z h
    | .bl false => .ok (.bl false) h
    | _ => .bad) σ H Q) : tChain (rM2 G (cmpop o1)) (rM2 G (cmpop o2)) (tM G f) (tM G g) (tM G k) σ H Q := by
  refine tM_bind (g := fun r x h => (g r h).bind fun y h => (cmpop o1 x y h).bind fun t h => match t with
    | .bl true => (k r h).bind fun z h => cmpop o2 y z h
    | .bl false => .ok (.bl false) h
    | _ => .bad) w fun m F h r v x H' rl re rx w => ?_
  obtain ⟨u, h1, e1, w⟩ := w.bind
  refine ⟨m, F, h, r, rl, re, ?_⟩
  rw [e1]
  intro m' F' H2 y lm l rl' ry
  have w1 := w.mono lm l
  have re := RE.mono l lm _ _ re
  obtain ⟨t, h2, e2, w2⟩ := w1.bind
  obtain ⟨bb, rfl, rfl⟩ := cmp_bl e2
  refine ⟨m', F', h2, v, u, rl', R.mono l lm _ _ rx, ry, ?_⟩
  rw [e2]
  intro m3 F3 H3 t3 lm3 l3 rl3 rt
  have w3 := Wp.mono w2 lm3 l3
  refine ⟨bb, rt, ?_⟩
  cases bb with
  | true =>
    rw [if_pos rfl]
    obtain ⟨u3, h3, e3, w⟩ := Wp.bind (show WpV G m3 F3 ((k r h2).bind fun z h => cmpop o2 u z h) Q from w3)
    refine ⟨m3, F3, h2, r, rl3, RE.mono l3 lm3 _ _ re, ?_⟩
    rw [e3]
    exact fun m4 F4 H4 z lm4 l4 rl4 rz => ⟨m4, F4, h3, u, u3, rl4, R.mono (l3.trans l4) (lm3.trans lm4) _ _ ry, rz, w.mono lm4 l4⟩
  | false =>
    rw [if_neg Bool.false_ne_true]
    exact w3.here rl3 rfl
theorem chain_marks {o1 o2 : CmpOp} {b c : Expr} (h : noSet c = true) : lastMarks [o1, o2] [b, c] = false := marks_of h
theorem se_chain (hK : X.K = G.K) (hu : X.A.units + 64 < cLine) (o1 o2 : Cop) (ha : SE X G C a x) (hb : SE X G C b y) (hc : SE X G C c z) (hs : noSet c = true) : SE X G C (.Compare a [opC o1, opC o2] [b, c] pos) (.chain o1 o2 x y z) := by
  refine SE.ofB (f := fun r h => (evM C x false r h).bind fun u h => (evM C y false r h).bind fun v h => (cmpop o1 u v h).bind fun t h => match t with
    | .bl true => (evM C z false r h).bind fun w h => cmpop o2 v w h
    | .bl false => .ok (.bl false) h
    | _ => .bad) (fun m r h => by first | (rw [evM]; done) | (rw [evM]; rfl)) (fun r h v h' e => ?_) (PE.weak (pe_chain (cmp_ok hK hu o1) (cmp_ok hK hu o2) ha.v hb.v hc.v (chain_marks hs)) fun σ H Q w => tM_chain w)
    (PT.weak (pt_chain (cmp_ok hK hu o1) (cmp_ok hK hu o2) ha.v hb.v hc.v (chain_marks hs)) fun σ H Q w => tM_chain w)
  have bd : ∀ {α β : Type} {r : Res α} {f : α → Hm → Res β} {v : β} {h : Hm}, r.bind f = .ok v h → ∃ a h1, r = .ok a h1 ∧ f a h1 = .ok v h := fun {α β r f v h} e => by
    cases r with
    | ok a h1 => exact ⟨a, h1, rfl, e⟩
    | exc c fs h' => cases e
    | bad => cases e
  obtain ⟨_, _, _, e⟩ := bd e
  obtain ⟨_, _, _, e⟩ := bd e
  obtain ⟨t, _, e1, e⟩ := bd e
  obtain ⟨bb, rfl, _⟩ := cmp_bl e1
  cases bb with
  | true =>
    obtain ⟨_, _, _, e⟩ := bd (show ((evM C z false _ _).bind fun w h => cmpop o2 _ w h) = .ok v h' from e)
    obtain ⟨b, e3, _⟩ := cmp_bl e
    exact ⟨b, e3⟩
  | false =>
    cases e
    exact ⟨false, rfl⟩

/-! ### not, and, or, if -/
theorem se_not (hK : X.K = G.K) (ha : SE X G C a x) : SE X G C (.UnaryOp .Not a pos) (.not x) := by
  refine ⟨PE.weak (pe_notT ha.v) fun σ H Q w => ?_, PT.weak (pt_not ha.t) fun σ H Q w => ?_⟩
  · have w : tM G (fun r h => (evM C x false r h).bind fun x h => match tru h x with
      | some b => .ok (.bl (!b)) h
      | none => .bad) σ H Q := by
      obtain ⟨m, F, h, r, rl, re, w⟩ := w
      dsimp only at w
      rw [evM] at w
      exact ⟨m, F, h, r, rl, re, w⟩
    refine tM_bind w fun m F h r v x H' rl re rx w => ?_
    split at w
    · rename_i b e1
      exact ⟨b, by rw [hK]; exact tru_M rl rx e1, w.here rl rfl⟩
    · exact False.elim w
  · have w : tM G (fun r h => (evM C x true r h).bind fun x h => match x with
      | .bl b => .ok (.bl (!b)) h
      | _ => .bad) σ H (fun x H' => ∃ b, x = .bl b ∧ Q b H') := by
      obtain ⟨m, F, h, r, rl, re, w⟩ := w
      dsimp only at w
      rw [evM] at w
      exact ⟨m, F, h, r, rl, re, w⟩
    refine tMt_test w (fun r v h n => ?_) fun m F h r b H' rl re w => ?_
    · cases v <;> first | exact ⟨_, rfl⟩ | exact absurd rfl n
    · obtain ⟨b', e, q⟩ := w.here rl (show R G F m (.bl (!b)) (.bl (!b)) from rfl)
      cases e
      exact q
/-- and, or: whatever their 'whole' is -/
structure SB (X : Cx) (G : Gi) (C : Cs) (op : BoolOp) (es : List Expr) (pos : Pos) (x : Ex) : Prop where
  v : PE X (.BoolOp op es pos) (tM G fun r h => evM C x false r h)
  t : PW X (.BoolOp op es pos) (tMt G fun r h => evM C x true r h)
theorem SB.se {op : BoolOp} {es : List Expr} (h : SB X G C op es pos x) : SE X G C (.BoolOp op es pos) x := ⟨h.v, h.t.pt⟩
theorem PW.weak {t t' : TT} (h : PW X e t) (i : ∀ σ H Q, t' σ H Q → t σ H Q) : PW X e t' := ⟨fun wh pins s σ H Q I q => h.run wh pins s σ H Q I (i σ H Q q)⟩
theorem sb_one {op : BoolOp} (ha : SE X G C a x) : SB X G C op [a] pos x := by
  refine ⟨pe_one ha.v, ?_⟩
  cases op with
  | And => exact pw_and1 ha.t
  | Or => exact pw_or1 ha.t
theorem sb_and (hK : X.K = G.K) {rest : List Expr} (ha : SE X G C a x) (hb : SB X G C .And (b :: rest) pos y) : SB X G C .And (a :: b :: rest) pos (.and x y) := by
  refine ⟨PE.weak (pe_andT ha.v hb.v) fun σ H Q w => ?_, PW.weak (pw_and ha.t hb.t) fun σ H Q w => ?_⟩
  · have w : tM G (fun r h => (evM C x false r h).bind fun x h => match tru h x with
      | some true => evM C y false r h
      | some false => .ok x h
      | none => .bad) σ H Q := by
      obtain ⟨m, F, h, r, rl, re, w⟩ := w
      dsimp only at w
      rw [evM] at w
      exact ⟨m, F, h, r, rl, re, w⟩
    refine tM_bind (g := fun r x h => match tru h x with
      | some true => evM C y false r h
      | some false => .ok x h
      | none => .bad) w fun m F h r v x H' rl re rx w => ?_
    split at w
    · rename_i e1
      exact ⟨true, by rw [hK]; exact tru_M rl rx e1, by rw [if_pos rfl]; exact ⟨m, F, h, r, rl, re, w⟩⟩
    · rename_i e1
      exact ⟨false, by rw [hK]; exact tru_M rl rx e1, by rw [if_neg Bool.false_ne_true]; exact w.here rl rx⟩
    · exact False.elim w
  · have w : tM G (fun r h => (evM C x true r h).bind fun x h => match x with
      | .bl true => evM C y true r h
      | .bl false => .ok (.bl false) h
      | _ => .bad) σ H (fun x H' => ∃ b, x = .bl b ∧ Q b H') := by
      obtain ⟨m, F, h, r, rl, re, w⟩ := w
      dsimp only at w
      rw [evM] at w
      exact ⟨m, F, h, r, rl, re, w⟩
    refine tMt_test (g := fun r x h => match x with
      | .bl true => evM C y true r h
      | .bl false => .ok (.bl false) h
      | _ => .bad) w (fun r v h n => ?_) fun m F h r b H' rl re w => ?_
    · cases v <;> first | exact ⟨_, rfl⟩ | exact absurd rfl n
    · cases b with
      | true =>
        rw [if_pos rfl]
        exact ⟨m, F, h, r, rl, re, w⟩
      | false =>
        rw [if_neg Bool.false_ne_true]
        obtain ⟨b', e, q⟩ := w.here rl (show R G F m (.bl false) (.bl false) from rfl)
        cases e
        exact q
theorem sb_or (hK : X.K = G.K) {rest : List Expr} (ha : SE X G C a x) (hb : SB X G C .Or (b :: rest) pos y) : SB X G C .Or (a :: b :: rest) pos (.or x y) := by
  refine ⟨PE.weak (pe_orT ha.v hb.v) fun σ H Q w => ?_, PW.weak (pw_or ha.t hb.t) fun σ H Q w => ?_⟩
  · have w : tM G (fun r h => (evM C x false r h).bind fun x h => match tru h x with
      | some true => .ok x h
      | some false => evM C y false r h
      | none => .bad) σ H Q := by
      obtain ⟨m, F, h, r, rl, re, w⟩ := w
      dsimp only at w
      rw [evM] at w
      exact ⟨m, F, h, r, rl, re, w⟩
    refine tM_bind (g := fun r x h => match tru h x with
      | some true => .ok x h
      | some false => evM C y false r h
      | none => .bad) w fun m F h r v x H' rl re rx w => ?_
    split at w
    · rename_i e1
      exact ⟨true, by rw [hK]; exact tru_M rl rx e1, by rw [if_pos rfl]; exact w.here rl rx⟩
    · rename_i e1
      exact ⟨false, by rw [hK]; exact tru_M rl rx e1, by rw [if_neg Bool.false_ne_true]; exact ⟨m, F, h, r, rl, re, w⟩⟩
    · exact False.elim w
  · have w : tM G (fun r h => (evM C x true r h).bind fun x h => match x with
      | .bl true => .ok (.bl true) h
      | .bl false => evM C y true r h
      | _ => .bad) σ H (fun x H' => ∃ b, x = .bl b ∧ Q b H') := by
      obtain ⟨m, F, h, r, rl, re, w⟩ := w
      dsimp only at w
      rw [evM] at w
      exact ⟨m, F, h, r, rl, re, w⟩
    refine tMt_test (g := fun r x h => match x with
      | .bl true => .ok (.bl true) h
      | .bl false => evM C y true r h
      | _ => .bad) w (fun r v h n => ?_) fun m F h r b H' rl re w => ?_
    · cases v <;> first | exact ⟨_, rfl⟩ | exact absurd rfl n
    · cases b with
      | true =>
        rw [if_pos rfl]
        obtain ⟨b', e, q⟩ := w.here rl (show R G F m (.bl true) (.bl true) from rfl)
        cases e
        exact q
      | false =>
        rw [if_neg Bool.false_ne_true]
        exact ⟨m, F, h, r, rl, re, w⟩
theorem pt_ifExp {tc ta tb : TT} (hc : PT X c tc) (ha : PT X a ta) (hb : PT X b tb) : PT X (.IfExp c a b pos) (fun σ H Q => tc σ H fun k H1 => if k = true then ta σ H1 Q else tb σ H1 Q) := by
  refine ⟨fun pins s σ H Q I h => ?_⟩
  show wpAny _ _ (do if ← PySem.isTrue c X.env (eval c X.env) then PySem.isTrue a X.env (eval a X.env) else PySem.isTrue b X.env (eval b X.env)) _ _ s
  refine wpAny_bind (thn (hc.run pins s σ H _ I h) fun k s1 ⟨H1, I1, q1⟩ => ?_)
  cases k with
  | true => exact ha.run pins s1 σ H1 Q I1 q1
  | false => exact hb.run pins s1 σ H1 Q I1 q1
theorem se_ite (hc : SE X G C c z) (ha : SE X G C a x) (hb : SE X G C b y) : SE X G C (.IfExp c a b pos) (.ite z x y) := by
  refine ⟨PE.weak (pe_ifExp hc.t ha.v hb.v) fun σ H Q w => ?_, PT.weak (pt_ifExp hc.t ha.t hb.t) fun σ H Q w => ?_⟩
  · have w : tM G (fun r h => (evM C z true r h).bind fun v h => match v with
      | .bl true => evM C x false r h
      | .bl false => evM C y false r h
      | _ => .bad) σ H Q := by
      obtain ⟨m, F, h, r, rl, re, w⟩ := w
      dsimp only at w
      rw [evM] at w
      exact ⟨m, F, h, r, rl, re, w⟩
    refine tMt_test (g := fun r v h => match v with
      | .bl true => evM C x false r h
      | .bl false => evM C y false r h
      | _ => .bad) w (fun r v h n => ?_) fun m F h r b H' rl re w => ?_
    · cases v <;> first | exact ⟨_, rfl⟩ | exact absurd rfl n
    · cases b with
      | true => exact ⟨m, F, h, r, rl, re, w⟩
      | false => exact ⟨m, F, h, r, rl, re, w⟩
  · have w : tM G (fun r h => (evM C z true r h).bind fun v h => match v with
      | .bl true => evM C x true r h
      | .bl false => evM C y true r h
      | _ => .bad) σ H (fun x H' => ∃ b, x = .bl b ∧ Q b H') := by
      obtain ⟨m, F, h, r, rl, re, w⟩ := w
      dsimp only at w
      rw [evM] at w
      exact ⟨m, F, h, r, rl, re, w⟩
    refine tMt_test (g := fun r v h => match v with
      | .bl true => evM C x true r h
      | .bl false => evM C y true r h
      | _ => .bad) w (fun r v h n => ?_) fun m F h r b H' rl re w => ?_
    · cases v <;> first | exact ⟨_, rfl⟩ | exact absurd rfl n
    · cases b with
      | true => exact ⟨m, F, h, r, rl, re, w⟩
      | false => exact ⟨m, F, h, r, rl, re, w⟩
end
end Mi
/-! how arguments come to parameters -/
namespace Mi
open PySem PySem.Spec L2

section
variable {α β : Type}
/-- the keywords, one by one -/
def addKw (A Kw : List Str) : List (Str × α) → List (Str × α) → Option (List (Str × α))
  | sl, [] => some sl
  | sl, (k, v) :: r => if (A.contains k || Kw.contains k) && (sl.lookup k).isNone then addKw A Kw (sl ++ [(k, v)]) r else none
/-- the defaults -/
def fillD : List (Str × α) → List (Str × α) → List (Str × α)
  | sl, [] => sl
  | sl, (n, d) :: r => fillD (if (sl.lookup n).isNone then sl ++ [(n, d)] else sl) r
/-- the keyword-only ones -/
def fillK (kd : List (Str × α)) : List (Str × α) → List Str → Option (List (Str × α))
  | sl, [] => some sl
  | sl, n :: r => if (sl.lookup n).isNone then (match kd.lookup n with
    | some v => fillK kd (sl ++ [(n, v)]) r
    | none => none) else fillK kd sl r
def pickL (sl : List (Str × α)) (ns : List Str) : List (Str × α) := ns.filterMap fun n => (sl.lookup n).map fun v => (n, v)
def bindI (A Kw : List Str) (us : List α) (kw : List (Str × α)) (ds : List α) (kd : List (Str × α)) : Option (List (Str × α)) :=
  if us.length ≤ A.length ∧ ds.length ≤ A.length then (match addKw A Kw (A.zip us) kw with
    | none => none
    | some sl1 => if (A.take (A.length - ds.length)).all (fun n => (sl1.lookup n).isSome) then (match fillK kd (fillD sl1 ((A.drop (A.length - ds.length)).zip ds)) Kw with
      | none => none
      | some sl3 => some (pickL sl3 (A ++ Kw))) else none) else none
/-! ### values are handed through -/
def mp (φ : α → β) (l : List (Str × α)) : List (Str × β) := l.map fun p => (p.1, φ p.2)
theorem lookup_mp (φ : α → β) (n : Str) : ∀ l : List (Str × α), (mp φ l).lookup n = (l.lookup n).map φ
  | [] => rfl
  | (k, v) :: r => by
    show ((k, φ v) :: mp φ r).lookup n = _
    rw [List.lookup_cons, List.lookup_cons]
    cases n == k with
    | true => rfl
    | false => exact lookup_mp φ n r
theorem mp_append (φ : α → β) (a b : List (Str × α)) : mp φ (a ++ b) = mp φ a ++ mp φ b := List.map_append
theorem mp_zip (φ : α → β) : ∀ (ns : List Str) (us : List α), ns.zip (us.map φ) = mp φ (ns.zip us)
  | [], _ => rfl
  | _ :: _, [] => rfl
  | n :: ns, u :: us => by
    show (n, φ u) :: ns.zip (us.map φ) = (n, φ u) :: mp φ (ns.zip us)
    rw [mp_zip φ ns us]
theorem addKw_mp (φ : α → β) (A Kw : List Str) : ∀ (kw sl : List (Str × α)), addKw A Kw (mp φ sl) (mp φ kw) = (addKw A Kw sl kw).map (mp φ)
  | [], sl => rfl
  | (k, v) :: r, sl => by
    show addKw A Kw (mp φ sl) ((k, φ v) :: mp φ r) = _
    unfold addKw
    rw [lookup_mp]
    have e : ((sl.lookup k).map φ).isNone = (sl.lookup k).isNone := by cases sl.lookup k <;> rfl
    rw [e]
    split
    · have h := addKw_mp φ A Kw r (sl ++ [(k, v)])
      rw [mp_append] at h
      exact h
    · rfl
theorem fillD_mp (φ : α → β) : ∀ (ds sl : List (Str × α)), fillD (mp φ sl) (mp φ ds) = mp φ (fillD sl ds)
  | [], sl => rfl
  | (k, v) :: r, sl => by
    show fillD (mp φ sl) ((k, φ v) :: mp φ r) = _
    unfold fillD
    rw [lookup_mp]
    have e : ((sl.lookup k).map φ).isNone = (sl.lookup k).isNone := by cases sl.lookup k <;> rfl
    rw [e]
    split
    · have h := fillD_mp φ r (sl ++ [(k, v)])
      rw [mp_append] at h
      exact h
    · exact fillD_mp φ r sl
theorem fillK_mp (φ : α → β) (kd : List (Str × α)) : ∀ (ns : List Str) (sl : List (Str × α)), fillK (mp φ kd) (mp φ sl) ns = (fillK kd sl ns).map (mp φ)
  | [], sl => rfl
  | n :: r, sl => by
    unfold fillK
    rw [lookup_mp, lookup_mp]
    have e : ((sl.lookup n).map φ).isNone = (sl.lookup n).isNone := by cases sl.lookup n <;> rfl
    rw [e]
    split
    · cases kd.lookup n with
      | none => rfl
      | some v =>
        have h := fillK_mp φ kd r (sl ++ [(n, v)])
        rw [mp_append] at h
        exact h
    · exact fillK_mp φ kd r sl
theorem pickL_mp (φ : α → β) (sl : List (Str × α)) : ∀ ns : List Str, pickL (mp φ sl) ns = mp φ (pickL sl ns)
  | [] => rfl
  | n :: ns => by
    have ih := pickL_mp φ sl ns
    unfold pickL at ih ⊢
    rw [List.filterMap_cons, List.filterMap_cons, lookup_mp]
    cases sl.lookup n with
    | none => exact ih
    | some v =>
      show (n, φ v) :: _ = (n, φ v) :: _
      rw [ih]
      rfl
theorem bindI_mp (φ : α → β) (A Kw : List Str) (us : List α) (kw : List (Str × α)) (ds : List α) (kd : List (Str × α)) : bindI A Kw (us.map φ) (mp φ kw) (ds.map φ) (mp φ kd) = (bindI A Kw us kw ds kd).map (mp φ) := by
  unfold bindI
  rw [List.length_map, List.length_map, mp_zip, addKw_mp]
  split
  · cases addKw A Kw (A.zip us) kw with
    | none => rfl
    | some sl1 =>
      show (if (A.take (A.length - ds.length)).all (fun n => ((mp φ sl1).lookup n).isSome) then (match fillK (mp φ kd) (fillD (mp φ sl1) ((A.drop (A.length - ds.length)).zip (ds.map φ))) Kw with
        | none => none
        | some sl3 => some (pickL sl3 (A ++ Kw))) else none) = Option.map (mp φ) (if (A.take (A.length - ds.length)).all (fun n => (sl1.lookup n).isSome) then (match fillK kd (fillD sl1 ((A.drop (A.length - ds.length)).zip ds)) Kw with
        | none => none
        | some sl3 => some (pickL sl3 (A ++ Kw))) else none)
      have e : (fun n => ((mp φ sl1).lookup n).isSome) = fun n => (sl1.lookup n).isSome := by
        funext n
        rw [lookup_mp]
        cases sl1.lookup n <;> rfl
      rw [e, mp_zip, fillD_mp, fillK_mp]
      split
      · cases fillK kd (fillD sl1 ((A.drop (A.length - ds.length)).zip ds)) Kw with
        | none => rfl
        | some sl3 =>
          show some (pickL (mp φ sl3) (A ++ Kw)) = some (mp φ (pickL sl3 (A ++ Kw)))
          rw [pickL_mp]
      · rfl
  · rfl
end

/-! ### the model's own binding -/
section
variable {M : Model} {h : Heap}
theorem kw_loop {A Kw : List Str} {ex : List (Str × Value)} {f : Str × Value → List (Str × Value) × List (Str × Value) → Sem (ForInStep (List (Str × Value) × List (Str × Value)))}
    (hf : ∀ k v sl, (A.contains k || Kw.contains k) = true → (sl.lookup k).isNone = true → f (k, v) (sl, ex) = pure (.yield (sl ++ [(k, v)], ex))) :
    ∀ (kw sl sl' : List (Str × Value)), addKw A Kw sl kw = some sl' → forIn kw (sl, ex) f = pure (sl', ex)
  | [], sl, sl', e => by
    have e : sl = sl' := Option.some.inj e
    subst e
    rfl
  | (k, v) :: r, sl, sl', e => by
    unfold addKw at e
    split at e
    · rename_i hc
      rw [Bool.and_eq_true] at hc
      rw [List.forIn_cons, hf k v sl hc.1 hc.2]
      exact kw_loop hf r (sl ++ [(k, v)]) sl' e
    · cases e
theorem dfl_loop {f : Str × Value → List (Str × Value) → Sem (ForInStep (List (Str × Value)))}
    (hf : ∀ k v sl, f (k, v) sl = if (sl.lookup k).isNone = true then pure (.yield (sl ++ [(k, v)])) else pure (.yield sl)) :
    ∀ (ds sl : List (Str × Value)), forIn ds sl f = pure (fillD sl ds)
  | [], sl => rfl
  | (k, v) :: r, sl => by
    rw [List.forIn_cons, hf]
    unfold fillD
    split
    · exact dfl_loop hf r (sl ++ [(k, v)])
    · exact dfl_loop hf r sl
theorem kwo_loop {kd : List (Str × Value)} {kV : Value} {f : Str → List (Str × Value) × List Str → Sem (ForInStep (List (Str × Value) × List Str))}
    (hf : ∀ n sl, f n (sl, []) = if (sl.lookup n).isNone = true then (do
      let dflt ← (match kV with
        | .ref d => nsGet d n
        | _ => pure none)
      match dflt with
      | some v => pure (.yield (sl ++ [(n, v)], []))
      | none => pure (.yield (sl, [] ++ [n]))) else pure (.yield (sl, [])))
    (hk : ∀ n v, kd.lookup n = some v → ∃ D, kV = .ref D ∧ PySem.W.Looks M h (nsGet D n) (some v)) :
    ∀ (ns : List Str) (sl sl' : List (Str × Value)), fillK kd sl ns = some sl' → PySem.W.Looks M h (forIn ns (sl, []) f) (sl', [])
  | [], sl, sl', e => by
    have e : sl = sl' := Option.some.inj e
    subst e
    exact .of_pure rfl
  | n :: r, sl, sl', e => by
    unfold fillK at e
    rw [List.forIn_cons, hf]
    split at e
    · rename_i hn
      rw [if_pos hn]
      cases ek : kd.lookup n with
      | none =>
        rw [ek] at e
        cases e
      | some v =>
        rw [ek] at e
        obtain ⟨D, rfl, lk⟩ := hk n v ek
        refine PySem.W.Looks.andThen (a := ForInStep.yield (sl ++ [(n, v)], [])) (PySem.W.Looks.andThen lk (.of_pure rfl)) ?_
        exact kwo_loop hf hk r (sl ++ [(n, v)]) sl' e
    · rename_i hn
      rw [if_neg hn]
      refine PySem.W.Looks.andThen (a := ForInStep.yield (sl, [])) (.of_pure rfl) ?_
      exact kwo_loop hf hk r sl sl' e

def argNames (l : List Arg) : List Str := l.map (·.arg)
/-- a def without stars and without positional-only parameters -/
def plainArgs (p : Arguments) : Bool := p.posonlyargs.isEmpty && p.vararg.isNone && p.kwarg.isNone

theorem binds_looks {fd : FuncData} {us : List Value} {kw : List (Str × Value)} {ds : List Value} {kd : List (Str × Value)} {binds : List (Str × Value)} {oi : Option (Array Value)}
    (hp : plainArgs fd.params = true) (hD : PySem.W.Looks M h (seqItems? fd.defaults) oi) (hds : (oi.getD #[]).toList = ds)
    (hk : ∀ n v, kd.lookup n = some v → ∃ D, fd.kwdefaults = .ref D ∧ PySem.W.Looks M h (nsGet D n) (some v))
    (hb : bindI (argNames fd.params.args) (argNames fd.params.kwonlyargs) us kw ds kd = some binds) : PySem.W.Looks M h (bindArgs fd ⟨us, kw⟩) binds := by
  unfold plainArgs at hp
  simp only [Bool.and_eq_true, List.isEmpty_iff, Option.isNone_iff_eq_none] at hp
  obtain ⟨⟨h1, h2⟩, h3⟩ := hp
  unfold bindI at hb
  split at hb
  · rename_i hl
    cases e1 : addKw (argNames fd.params.args) (argNames fd.params.kwonlyargs) ((argNames fd.params.args).zip us) kw with
    | none =>
      rw [e1] at hb
      cases hb
    | some sl1 =>
      rw [e1] at hb
      dsimp only at hb
      split at hb
      · rename_i ha
        cases e2 : fillK kd (fillD sl1 (((argNames fd.params.args).drop ((argNames fd.params.args).length - ds.length)).zip ds)) (argNames fd.params.kwonlyargs) with
        | none =>
          rw [e2] at hb
          cases hb
        | some sl3 =>
          rw [e2] at hb
          have hb := Option.some.inj hb
          subst hb
          unfold bindArgs
          simp only [h1, h2, h3, List.map_nil, List.nil_append]
          refine PySem.W.Looks.andThen (a := (sl1, [])) (.of_pure (kw_loop (A := argNames fd.params.args) (Kw := argNames fd.params.kwonlyargs) (fun k v sl hc hn => ?_) kw _ sl1 e1)) ?_
          · have hn' : ¬ (sl.lookup k).isSome = true := by
              cases e : sl.lookup k with
              | none => simp
              | some v =>
                rw [e] at hn
                cases hn
            show (if ((argNames fd.params.args).contains k || (argNames fd.params.kwonlyargs).contains k) = true then (if (sl.lookup k).isSome = true then _ else _) else _) = _
            rw [if_pos hc, if_neg hn']
          · refine PySem.W.Looks.andThen hD ?_
            dsimp only
            rw [hds]
            have hn : ¬ (decide (us.length > (List.map (fun x => x.arg) fd.params.args).length) && (none : Option Arg).isNone) = true := by
              have := hl.1
              unfold argNames at this
              simp at this ⊢
              omega
            rw [if_neg hn]
            have hd0 : ds.drop (ds.length - (List.map (fun x => x.arg) fd.params.args).length) = ds := by
              have e : ds.length - (List.map (fun x => x.arg) fd.params.args).length = 0 := by
                have := hl.2
                unfold argNames at this
                omega
              rw [e, List.drop_zero]
            rw [hd0]
            have hm : ¬ (!(List.filter (fun n => (sl1.lookup n).isNone) (List.take ((List.map (fun x => x.arg) fd.params.args).length - ds.length) (List.map (fun x => x.arg) fd.params.args))).isEmpty) = true := by
              have e : List.filter (fun n => (sl1.lookup n).isNone) (List.take ((List.map (fun x => x.arg) fd.params.args).length - ds.length) (List.map (fun x => x.arg) fd.params.args)) = [] := by
                rw [List.filter_eq_nil_iff]
                intro n hn
                have z := List.all_eq_true.mp ha n hn
                cases e : sl1.lookup n with
                | none =>
                  rw [e] at z
                  cases z
                | some v => simp
              rw [e]
              simp
            rw [if_neg hm]
            refine PySem.W.Looks.andThen (a := fillD sl1 (((argNames fd.params.args).drop ((argNames fd.params.args).length - ds.length)).zip ds)) (.of_pure (dfl_loop (fun k v sl => rfl) _ _)) ?_
            refine PySem.W.Looks.andThen (a := (sl3, [])) (kwo_loop (kd := kd) (kV := fd.kwdefaults) (fun n sl => ?_) hk _ _ sl3 e2) ?_
            · generalize fd.kwdefaults = kv
              cases kv <;> rfl
            · exact .of_pure rfl
      · cases hb
  · cases hb
end
end Mi
/-! MINI: calls of defs -/
namespace Mi
open PySem PySem.Spec L2

def names (f : FnI) : List Str := argNames f.par.args ++ argNames f.par.kwonlyargs
/-- what is known of a def, at a level -/
structure Held (prog : Program) (w : World) (mg : Str → Option Value) (base : Heap) (G : Gi) (d : Nat) (c f : String) (fi : FnI) (sem : List Vl → Hm → Res Vl) (fd : FuncData) : Prop where
  par : fd.params = fi.par
  plain : plainArgs fi.par = true
  dfl : ∃ (dvs : List V) (its : List Value) (oi : Option (Array Value)), Rs G F0 m0 fi.dfl dvs ∧ Vals dvs its ∧ (oi.getD #[]).toList = its ∧ ∀ M h, G.K.In h → PySem.W.Looks M h (seqItems? fd.defaults) oi
  kwd : ∃ kvs : List (V × Value), kvs.length = fi.kwd.length ∧ Rs G F0 m0 (fi.kwd.map (·.2)) (kvs.map (·.1)) ∧ Vals (kvs.map (·.1)) (kvs.map (·.2)) ∧
    ∀ n v, ((fi.kwd.map (·.1)).zip (kvs.map (·.2))).lookup n = some v → ∃ D, fd.kwdefaults = .ref D ∧ ∀ M h, G.K.In h → PySem.W.Looks M h (nsGet D n) (some v)
  keep : PySem.W.keepIn G.K (.ref (G.fa c f)) = true
  ok : FnOk prog w G.K mg base CX0 d (G.fa c f) fd (names fi) (fun vs H Q _ => rMs G sem vs H Q)
  lk : ∃ oc od osl, G.K.lookup (G.fa c f) = some ⟨oc, od, .func fd, osl⟩
/-- all defs -/
def AllHeld (prog : Program) (w : World) (mg : Str → Option Value) (base : Heap) (G : Gi) (d : Nat) (sem : String → String → List Vl → Hm → Res Vl) : Prop :=
  ∀ c f fi, G.fi c f = some fi → ∃ fd, Held prog w mg base G d c f fi (sem c f) fd

/-! ### the parameters' order -/
def permI (fi : FnI) (n : Nat) (ks : List Str) : Option (List Nat) :=
  match bindI (argNames fi.par.args) (argNames fi.par.kwonlyargs) (List.range n) (ks.zip (List.range' n ks.length)) (List.range' (n + ks.length) fi.dfl.length) ((fi.kwd.map (·.1)).zip (List.range' (n + ks.length + fi.dfl.length) fi.kwd.length)) with
  | some bs => if bs.map (·.1) = names fi then some (bs.map (·.2)) else none
  | none => none
def srcI (fi : FnI) (k : Nat) (i : Nat) : Src := if i < k then .at i else match (fi.dfl ++ fi.kwd.map (·.2))[i - k]? with
  | some v => .dfl v
  | none => .at i
def srcsI (fi : FnI) (n : Nat) (ks : List Str) : Option (List Src) := (permI fi n ks).map fun is => is.map (srcI fi (n + ks.length))
section
variable {G : Gi} {F : Hp} {m : Mp}
theorem zip_self (bs : List (Str × Nat)) : (bs.map (·.1)).zip (bs.map (·.2)) = bs := by
  induction bs with
  | nil => rfl
  | cons b bs ih =>
    rw [List.map_cons, List.map_cons, List.zip_cons_cons, ih]
theorem range_map {α : Type} (l : List α) (z : α) : (List.range l.length).map (fun i => l.getD i z) = l := by
  refine List.ext_getElem? fun i => ?_
  rw [List.getElem?_map]
  by_cases h : i < l.length
  · rw [List.getElem?_range h, List.getElem?_eq_getElem h]
    simp [List.getD, h]
  · rw [List.getElem?_eq_none (by simpa using h), List.getElem?_eq_none (by simpa using h)]
    rfl
theorem range'_map {α : Type} (a l b : List α) (z : α) (n : Nat) (hn : n = a.length) : (List.range' n l.length).map (fun i => (a ++ l ++ b).getD i z) = l := by
  subst hn
  refine List.ext_getElem? fun i => ?_
  rw [List.getElem?_map]
  by_cases h : i < l.length
  · rw [List.getElem?_range' h, List.getElem?_eq_getElem h]
    simp [List.getD, h, List.getElem?_append, show ¬ (a.length + i < a.length) by omega]
  · rw [List.getElem?_eq_none (by simpa using h), List.getElem?_eq_none (by simpa using h)]
    rfl
/-- the values by places, and how they bind -/
theorem perm_binds {fi : FnI} {us ws ds kv : List Value} {ks : List Str} {is : List Nat} (hk : ws.length = ks.length) (hd : ds.length = fi.dfl.length) (hv : kv.length = fi.kwd.length) (e : permI fi us.length ks = some is) :
    bindI (argNames fi.par.args) (argNames fi.par.kwonlyargs) us (ks.zip ws) ds ((fi.kwd.map (·.1)).zip kv) = some ((names fi).zip (is.map fun i => (us ++ ws ++ ds ++ kv).getD i .none)) := by
  unfold permI at e
  split at e
  · rename_i bs eb
    split at e
    · rename_i hn
      have e := Option.some.inj e
      subst e
      have h := bindI_mp (fun i => (us ++ ws ++ ds ++ kv).getD i Value.none) (argNames fi.par.args) (argNames fi.par.kwonlyargs) (List.range us.length) (ks.zip (List.range' us.length ks.length)) (List.range' (us.length + ks.length) fi.dfl.length) ((fi.kwd.map (·.1)).zip (List.range' (us.length + ks.length + fi.dfl.length) fi.kwd.length))
      rw [eb] at h
      have e1 : (List.range us.length).map (fun i => (us ++ ws ++ ds ++ kv).getD i Value.none) = us := by
        have := range'_map [] us (ws ++ ds ++ kv) Value.none 0 rfl
        rw [List.nil_append, ← List.append_assoc, ← List.append_assoc, ← List.range_eq_range'] at this
        exact this
      have e2 : (List.range' us.length ks.length).map (fun i => (us ++ ws ++ ds ++ kv).getD i Value.none) = ws := by
        have := range'_map us ws (ds ++ kv) Value.none us.length rfl
        rw [← List.append_assoc, hk] at this
        exact this
      have e3 : (List.range' (us.length + ks.length) fi.dfl.length).map (fun i => (us ++ ws ++ ds ++ kv).getD i Value.none) = ds := by
        have := range'_map (us ++ ws) ds kv Value.none (us.length + ks.length) (by rw [List.length_append, hk])
        rw [hd] at this
        exact this
      have e4 : (List.range' (us.length + ks.length + fi.dfl.length) fi.kwd.length).map (fun i => (us ++ ws ++ ds ++ kv).getD i Value.none) = kv := by
        have := range'_map (us ++ ws ++ ds) kv [] Value.none (us.length + ks.length + fi.dfl.length) (by rw [List.length_append, List.length_append, hk, hd])
        rw [hv, List.append_nil] at this
        exact this
      rw [e1, e3, ← mp_zip, ← mp_zip, e2, e4] at h
      rw [h]
      show some (mp _ bs) = _
      rw [← hn]
      congr 1
      unfold mp
      clear h eb hn e
      induction bs with
      | nil => rfl
      | cons b bs ih =>
        rw [List.map_cons, List.map_cons, List.map_cons, List.map_cons, List.zip_cons_cons, ih]
    · cases e
  · cases e
/-- .. and what MINI hands over stands for it -/
theorem srcs_rel {fi : FnI} {vs : List Vl} {xs dv kv : List V} {k : Nat} (hk : vs.length = k) (rs : Rs G F m vs xs) (rd : Rs G F m fi.dfl dv) (rk : Rs G F m (fi.kwd.map (·.2)) kv) :
    ∀ {is : List Nat} {as : List Vl}, srcs vs (is.map (srcI fi k)) = some as → Rs G F m as (is.map fun i => (xs ++ dv ++ kv).getD i .non)
  | [], as, e => by
    have e : [] = as := Option.some.inj e
    subst e
    rfl
  | i :: is, as, e => by
    rw [List.map_cons] at e
    unfold srcs at e
    split at e
    · rename_i v l e1 e2
      have e := Option.some.inj e
      subst e
      refine ⟨_, _, rfl, ?_, srcs_rel hk rs rd rk e2⟩
      have rall := (rs.append rd).append rk
      unfold srcI at e1
      split at e1
      · rename_i hi
        have e1 : vs[i]? = some v := e1
        have e3 : (vs ++ fi.dfl ++ fi.kwd.map (·.2))[i]? = some v := by
          rw [List.append_assoc, List.getElem?_append_left (by omega)]
          exact e1
        obtain ⟨y, e4, ry⟩ := rall.get e3
        dsimp only; rw [List.getD_eq_getElem?_getD, e4]
        exact ry
      · rename_i hi
        split at e1
        · rename_i v' e5
          have e1 : v' = v := Option.some.inj e1
          subst e1
          have e3 : (vs ++ fi.dfl ++ fi.kwd.map (·.2))[i]? = some v' := by
            rw [List.append_assoc, List.getElem?_append_right (by omega), hk]
            exact e5
          obtain ⟨y, e4, ry⟩ := rall.get e3
          dsimp only; rw [List.getD_eq_getElem?_getD, e4]
          exact ry
        · rename_i e5
          have e1 : vs[i]? = some v := e1
          rw [List.getElem?_eq_none (by omega)] at e1
          cases e1
    · cases e
end

section
variable {X : Cx} {G : Gi} {C : Cs} {e a b : Expr} {x y : Ex} {pos : Pos} {sem : List Vl → Hm → Res Vl}
theorem paired_map {α β : Type} {r : α → β → Prop} {f : Nat → α} {g : Nat → β} (h : ∀ i, r (f i) (g i)) : ∀ is : List Nat, Paired r (is.map f) (is.map g)
  | [] => .nil
  | i :: is => .cons (h i) (paired_map h is)
theorem Vals.getD {xs : List V} {us : List Value} (r : Vals xs us) (i : Nat) : RelV (xs.getD i .non) (us.getD i .none) := by
  cases e : xs[i]? with
  | none =>
    have e2 := Vals.none_of r e
    simp only [List.getD, e, e2]
    rfl
  | some x =>
    obtain ⟨u, e2, ru⟩ := Vals.get r e
    simp only [List.getD, e, e2]
    exact ru
/-- the callee runs -/
theorem run_heldA {A : Around} (hfr : A.frames = X.A.frames) {c f : String} {fi : FnI} {fd : FuncData} {d : Nat} (hf : Held X.prog X.w X.mg X.base G d c f fi sem fd) (hK : X.K = G.K) (hr : Room d A) {pins : List (Addr × Obj)} {σ : L2.St} {H : Hp} {s : Shared} {Q : VK}
    {us ws : List Value} {vs zs : List V} {ks : List Str} {ps : List Src} {ls as : List Vl} {m : Mp} {F : Hp} {h : Hm} (I : Inv X pins σ H s) (rv : Vals vs us) (rz : Vals zs ws) (lk : ws.length = ks.length)
    (ep : srcsI fi us.length ks = some ps) (rl : Rel G m F h H) (rs : Rs G F m ls (vs ++ zs)) (es : srcs ls ps = some as) (w : WpV G m F (sem as h) Q) :
    wpAny (model X.prog X.w) A (call (.ref (G.fa c f)) us (ks.zip ws)) (EP X pins σ Q) X.xe s := by
  obtain ⟨dvs, its, oi, rd, rdv, eoi, ld⟩ := hf.dfl
  obtain ⟨kvs, lkv, rk, rkv, lkw⟩ := hf.kwd
  unfold srcsI at ep
  obtain ⟨is, ei, rfl⟩ := Option.map_eq_some_iff.mp ep
  have ld1 : its.length = fi.dfl.length := by rw [← rdv.length, rd.length]
  have lk1 : (kvs.map (·.2)).length = fi.kwd.length := by rw [List.length_map, lkv]
  have hb := perm_binds (us := us) (ws := ws) (ds := its) (kv := kvs.map (·.2)) lk ld1 lk1 ei
  have ll : ls.length = us.length + ks.length := by
    rw [← rs.length, List.length_append, rv.length, rz.length, lk]
  have up : ∀ {a : List Vl} {b : List V}, Rs G F0 m0 a b → Rs G F m a b := fun r => Rs.mono (fun _ _ e => by cases e) (fun _ _ e => by cases e) _ _ r
  have ra := srcs_rel ll rs (up rd) (up rk) es
  have hK' : G.K.In s.heap := by rw [← hK]; exact I.kIn
  have bt : BindsTo s fd ⟨us, ks.zip ws⟩ ((names fi).zip (is.map fun i => (us ++ ws ++ its ++ kvs.map (·.2)).getD i .none)) := by
    refine BindsTo.of_looks fun M => binds_looks (oi := oi) (ds := its) (kd := (fi.kwd.map (·.1)).zip (kvs.map (·.2))) (by rw [hf.par]; exact hf.plain) (ld M s.heap hK') eoi (fun n v e => ?_) (by rw [hf.par]; exact hb)
    obtain ⟨D, e1, e2⟩ := lkw n v e
    exact ⟨D, e1, e2 M s.heap hK'⟩
  have rvv : Vals (is.map fun i => ((vs ++ zs) ++ dvs ++ kvs.map (·.1)).getD i .non) (is.map fun i => (us ++ ws ++ its ++ kvs.map (·.2)).getD i .none) :=
    paired_map (fun i => Vals.getD (((rv.append rz).append rdv).append rkv) i) is
  have hk2 : X.K = G.K := hK
  have e0 : Env0 X.prog X.w G.K X.mg X.base A X.stack s H := by
    rw [← hK]
    have e := I.env0
    exact ⟨by rw [hfr]; exact e.frames, e.mod, e.bs, e.bsz, e.funs, e.frf, e.hok, e.bare⟩
  refine wpAny_call (codeAny_mono (hf.ok.run A X.stack s H ⟨us, ks.zip ws⟩ _ _ Q E0 hr e0 bt rvv ⟨m, F, h, as, rl, ra, w⟩) fun r s' hq => ?_)
  cases r with
  | error e => exact False.elim hq
  | ok fl =>
    cases fl with
    | ret u => exact I.after hq
    | next => exact False.elim hq
    | brk => exact False.elim hq
    | cont => exact False.elim hq

theorem run_held {c f : String} {fi : FnI} {fd : FuncData} {d : Nat} (hf : Held X.prog X.w X.mg X.base G d c f fi sem fd) (hK : X.K = G.K) (hr : Room d X.A) {pins : List (Addr × Obj)} {σ : L2.St} {H : Hp} {s : Shared} {Q : VK}
    {us ws : List Value} {vs zs : List V} {ks : List Str} {ps : List Src} {ls as : List Vl} {m : Mp} {F : Hp} {h : Hm} (I : Inv X pins σ H s) (rv : Vals vs us) (rz : Vals zs ws) (lk : ws.length = ks.length)
    (ep : srcsI fi us.length ks = some ps) (rl : Rel G m F h H) (rs : Rs G F m ls (vs ++ zs)) (es : srcs ls ps = some as) (w : WpV G m F (sem as h) Q) :
    wpAny (model X.prog X.w) X.A (call (.ref (G.fa c f)) us (ks.zip ws)) (EP X pins σ Q) X.xe s := run_heldA rfl hf hK hr I rv rz lk ep rl rs es w

/-! ### arguments with keywords -/
def SK (X : Cx) (G : Gi) (C : Cs) (kws : List Keyword) (xs : List Ex) : Prop := PK X kws (tMs G fun r h => evs C xs r h)
theorem PK.weak {kws : List Keyword} {t t' : TA} (h : PK X kws t) (i : ∀ σ H Q, t' σ H Q → t σ H Q) : PK X kws t' := ⟨fun p pins s σ H Q I q => h.run p pins s σ H Q I (i σ H Q q)⟩
theorem sk_nil : SK X G C [] [] := PK.weak pk_nil fun σ H Q w => by
  obtain ⟨m, F, h, r, rl, re, w⟩ := w
  dsimp only at w
  rw [evs] at w
  exact w.here rl rfl
theorem sk_cons {kws : List Keyword} {xs : List Ex} {nm : Option Str} {kp : Pos} (h : SE X G C e x) (hr : SK X G C kws xs) : SK X G C (⟨nm, e, kp⟩ :: kws) (x :: xs) := by
  refine PK.weak (pk_cons h.v hr) fun σ H Q w => ?_
  obtain ⟨m, F, hh, r, rl, re, w⟩ := w
  dsimp only at w
  rw [evs] at w
  obtain ⟨v, h1, e1, w⟩ := w.bind
  refine ⟨m, F, hh, r, rl, re, ?_⟩
  dsimp only
  rw [e1]
  intro m' F' H' y lm l rl' ry
  obtain ⟨vs, h2, e2, w⟩ := Wp.bind (w.mono lm l)
  refine ⟨m', F', h1, r, rl', RE.mono l lm _ _ re, ?_⟩
  dsimp only
  rw [e2]
  exact fun m2 F2 H2 ys lm2 l2 rl2 rys => w m2 F2 H2 _ lm2 l2 rl2 ⟨y, ys, rfl, R.mono l2 lm2 _ _ ry, rys⟩
theorem bind_assoc' {α β γ : Type} (r : Res α) (f : α → Hm → Res β) (g : β → Hm → Res γ) : (r.bind f).bind g = r.bind fun a h => (f a h).bind g := by cases r <;> rfl
theorem evs_append (C : Cs) : ∀ (xs ys : List Ex) (r : Rho) (h : Hm), evs C (xs ++ ys) r h = (evs C xs r h).bind fun vs h => (evs C ys r h).bind fun zs h => .ok (vs ++ zs) h
  | [], ys, r, h => by
    rw [List.nil_append, evs]
    show _ = (evs C ys r h).bind fun zs h => .ok zs h
    cases evs C ys r h <;> rfl
  | x :: xs, ys, r, h => by
    rw [List.cons_append, evs, evs]
    rw [bind_assoc']
    congr 1
    funext v h1
    rw [evs_append C xs ys r h1, bind_assoc', bind_assoc']
    congr 1
    funext vs h2
    show _ = (evs C ys r h2).bind fun zs h => .ok (v :: vs ++ zs) h
    rw [bind_assoc']
    rfl
theorem noStar_any {es : List Expr} {env : PySem.Env} (h : es.all noStar = true) : (backTo pos (starEach es env)).any (·.1) = false := by
  induction es with
  | nil => rfl
  | cons e es ih =>
    rw [List.all_cons, Bool.and_eq_true] at h
    rw [star_of h.1]
    exact ih h.2
def kwOk (kws : List Keyword) : Bool := kws.all fun k => k.arg.isSome
theorem kw_all {kws : List Keyword} {env : PySem.Env} (h : kwOk kws = true) : (backToKw pos (keywordEach kws env)).all (·.1.isSome) = true := by
  induction kws with
  | nil => rfl
  | cons k kws ih =>
    obtain ⟨n, v, p⟩ := k
    unfold kwOk at h ih
    rw [List.all_cons, Bool.and_eq_true] at h
    show (n.isSome && (backToKw pos (keywordEach kws env)).all (·.1.isSome)) = true
    rw [Bool.and_eq_true]
    exact ⟨h.1, ih h.2⟩
theorem kw_any {kws : List Keyword} {env : PySem.Env} (h : kwOk kws = true) : (backToKw pos (keywordEach kws env)).any (·.1.isNone) = false := by
  induction kws with
  | nil => rfl
  | cons k kws ih =>
    obtain ⟨n, v, p⟩ := k
    unfold kwOk at h ih
    rw [List.all_cons, Bool.and_eq_true] at h
    show (n.isNone || (backToKw pos (keywordEach kws env)).any (·.1.isNone)) = false
    rw [ih h.2, Bool.or_false]
    cases n with
    | none => cases h.1
    | some n => rfl
def kwNames (kws : List Keyword) : List Str := kws.filterMap (·.arg)
theorem kw_names {kws : List Keyword} {env : PySem.Env} : (backToKw pos (keywordEach kws env)).filterMap (·.1) = kwNames kws := by
  induction kws with
  | nil => rfl
  | cons k kws ih =>
    obtain ⟨n, v, p⟩ := k
    show ((n, _) :: backToKw pos (keywordEach kws env)).filterMap (·.1) = (⟨n, v, p⟩ :: kws).filterMap (·.arg)
    cases n with
    | none =>
      rw [List.filterMap_cons_none rfl, List.filterMap_cons_none rfl]
      exact ih
    | some n =>
      show n :: (backToKw pos (keywordEach kws env)).filterMap (·.1) = n :: kwNames kws
      rw [ih]
theorem kwNames_len {kws : List Keyword} (h : kwOk kws = true) : (kwNames kws).length = kws.length := by
  induction kws with
  | nil => rfl
  | cons k kws ih =>
    obtain ⟨n, v, p⟩ := k
    unfold kwOk at h ih
    rw [List.all_cons, Bool.and_eq_true] at h
    cases n with
    | none => cases h.1
    | some n =>
      show (n :: kwNames kws).length = _
      rw [List.length_cons, List.length_cons, ih h.2]
theorem evs_len {C : Cs} : ∀ {xs : List Ex} {r : Rho} {h h' : Hm} {vs : List Vl}, evs C xs r h = .ok vs h' → vs.length = xs.length
  | [], r, h, h', vs, e => by
    rw [evs] at e
    cases e
    rfl
  | x :: xs, r, h, h', vs, e => by
    rw [evs] at e
    cases e1 : evM C x false r h with
    | ok v h1 =>
      rw [e1] at e
      have e : ((evs C xs r h1).bind fun vs h => .ok (v :: vs) h) = .ok vs h' := e
      cases e2 : evs C xs r h1 with
      | ok vs' h2 =>
        rw [e2] at e
        cases e
        rw [List.length_cons, List.length_cons, evs_len e2]
      | exc c fs h' =>
        rw [e2] at e
        cases e
      | bad =>
        rw [e2] at e
        cases e
    | exc c fs h' =>
      rw [e1] at e
      cases e
    | bad =>
      rw [e1] at e
      cases e
/-- all that is written behind a callee, then the call -/
theorem call_args {es : List Expr} {kws : List Keyword} {xs ys : List Ex} {f : Value} {first : List Value} {Qr : Value → Shared → Prop} (hk : PySem.W.keepIn X.K f = true) (hs : es.all noStar = true) (hkw : kwOk kws = true) (ha : SA X G C es xs) (hb : SK X G C kws ys)
    {pins : List (Addr × Obj)} {σ : L2.St} {H : Hp} {s : Shared} {m : Mp} {F : Hp} {h : Hm} {r : Rho} {g : List Vl → Hm → Res Vl} {Q : VK} (I : Inv X pins σ H s) (rl : Rel G m F h H) (re : RE G F m r σ) (hl : es.length = xs.length) (hl2 : kws.length = ys.length)
    (w : WpV G m F ((evs C (xs ++ ys) r h).bind g) Q)
    (k : ∀ (us ws : List Value) (vs zs : List V) (ls : List Vl) (m' : Mp) (F' H' : Hp) (h' : Hm) (s' : Shared), Inv X pins σ H' s' → Vals vs us → Vals zs ws → us.length = es.length → ws.length = kws.length → Lm m m' → Le F F' → Rel G m' F' h' H' → Rs G F' m' ls (vs ++ zs) → WpV G m' F' (g ls h') Q →
      wpAny (model X.prog X.w) X.A (call f (first ++ us) ((kwNames kws).zip ws)) Qr X.xe s') :
    wpAny (model X.prog X.w) X.A (callWith pos f first (backTo pos (starEach es X.env)) (backToKw pos (keywordEach kws X.env))) Qr X.xe s := by
  obtain ⟨ls, h2, e1, w⟩ := w.bind
  rw [evs_append] at e1
  cases ex : evs C xs r h with
  | exc c fs h' =>
    rw [ex] at e1
    cases e1
  | bad =>
    rw [ex] at e1
    cases e1
  | ok v1 h1 =>
    rw [ex] at e1
    have e1 : ((evs C ys r h1).bind fun zs h => .ok (v1 ++ zs) h) = .ok ls h2 := e1
    cases ey : evs C ys r h1 with
    | exc c fs h' =>
      rw [ey] at e1
      cases e1
    | bad =>
      rw [ey] at e1
      cases e1
    | ok v2 h3 =>
      rw [ey] at e1
      cases e1
      have run2 : ∀ (us : List Value) (vs : List V) (H1 : Hp) (m1 : Mp) (F1 : Hp) (s1 : Shared), Inv X pins σ H1 s1 → Vals vs us → us.length = es.length → Lm m m1 → Le F F1 → Rel G m1 F1 h1 H1 → Rs G F1 m1 v1 vs →
          wpAny (model X.prog X.w) X.A (evalAll ((backToKw pos (keywordEach kws X.env)).map (·.2))) (fun ws s2 => X.K.In s2.heap ∧ wpAny (model X.prog X.w) X.A (call f (first ++ us) (((backToKw pos (keywordEach kws X.env)).filterMap (·.1)).zip ws)) Qr X.xe s2) X.xe s1 := by
        intro us vs H1 m1 F1 s1 I1 r1 l1 lm1 lf1 rl1 rs1
        refine thn (hb.run pos pins s1 σ H1 (fun zs H2 => ∃ m2 F2, Lm m m2 ∧ Le F F2 ∧ Rel G m2 F2 h2 H2 ∧ Rs G F2 m2 (v1 ++ v2) (vs ++ zs) ∧ zs.length = kws.length) I1 ⟨m1, F1, h1, r, rl1, RE.mono lf1 lm1 _ _ re, ?_⟩) fun ws s2 ⟨zs, H2, I2, r2, m2, F2, lm2, lf2, rl2, rs2, lz⟩ => ⟨I2.kIn, ?_⟩
        · dsimp only
          rw [ey]
          intro m2 F2 H2 zs lm2 lf2 rl2 rs2
          refine ⟨m2, F2, lm1.trans lm2, lf1.trans lf2, rl2, (Rs.mono lf2 lm2 _ _ rs1).append rs2, ?_⟩
          rw [rs2.length, evs_len ey, hl2]
        · rw [kw_names]
          exact k us ws vs zs _ m2 F2 H2 h2 s2 I2 r1 r2 l1 (by rw [← r2.length, lz]) lm2 lf2 rl2 rs2 (w.mono lm2 lf2)
      cases es with
      | nil =>
        have hx : xs = [] := by
          cases xs with
          | nil => rfl
          | cons x xs => cases hl
        subst hx
        rw [evs] at ex
        cases ex
        have q := run2 [] [] H m F s I .nil rfl (Lm.refl m) (Le.refl F) rl rfl
        exact PySem.W.callWith_KW0 (h₀ := X.base) I.ok.mod.kin hk (kw_all hkw) q (by rw [kw_any hkw]; rfl)
      | cons e es =>
        have hs' : noStar e = true := by
          rw [List.all_cons, Bool.and_eq_true] at hs
          exact hs.1
        refine PySem.W.callWith_KW (h₀ := X.base) I.ok.mod.kin hk (kw_all hkw) (thn (ha.run pos pins s σ H (fun vs H1 => ∃ m1 F1, Lm m m1 ∧ Le F F1 ∧ Rel G m1 F1 h1 H1 ∧ Rs G F1 m1 v1 vs ∧ vs.length = (e :: es).length) I ⟨m, F, h, r, rl, re, ?_⟩) fun us s1 ⟨vs, H1, I1, r1, m1, F1, lm1, lf1, rl1, rs1, lv⟩ => ?_) ?_ (star_of hs')
        · dsimp only
          rw [ex]
          exact fun m1 F1 H1 vs lm1 lf1 rl1 rs1 => ⟨m1, F1, lm1, lf1, rl1, rs1, by rw [rs1.length, evs_len ex, hl]⟩
        · exact run2 us vs H1 m1 F1 s1 I1 r1 (by rw [← r1.length, lv]) lm1 lf1 rl1 rs1
        · rw [noStar_any hs, kw_any hkw]
          rfl
end
end Mi
/-! MINI: attributes, subscripts, calls -/
namespace Mi
open PySem PySem.Spec L2

/-- built-in types that a thing may have -/
def tyAll : List String := ["NoneType", "bool", "int", "str", "tuple", "list", "dict"]
def tyAsk : List String := ["str", "int", "bool", "tuple", "list", "dict"]
/-- what is known of an own class -/
structure Own (K : PySem.W.Frag) (ca : String → Addr) (cs : List String) (c : String) : Prop where
  ha : PySem.W.findIn K (.ref (ca c)) "__class__" = some (some (.builtin "object.__class__"))
  hn : PySem.W.specialIn K (.builtin "object.__class__") "__get__" = some (some (.builtin "getset_descriptor.__get__"))
  htk : PySem.W.takesIn K (.builtin "object.__class__") = some true
  hm : PySem.W.mroIn K (ca c) (.type "object") = some true
  nb : PySem.W.findIn K (.ref (ca c)) "__bool__" = some none
  ne : PySem.W.findIn K (.ref (ca c)) "__ne__" = some (some (.builtin "object.__ne__"))
  fm : PySem.W.findIn K (.ref (ca c)) "__format__" = some (some (.builtin "object.__format__"))
  sn : PySem.W.subIn K (.ref (ca c)) (.type "NoneType") = some false
  subc : ∀ c' ∈ cs, PySem.W.notFirst K (ca c) (.ref (ca c')) = true
  isc : ∀ c' ∈ cs, PySem.W.kitOne K (.ref (ca c)) (.ref (ca c')) = some (decide (c = c'))
  isb : ∀ n ∈ tyAll, PySem.W.kitOne K (.type n) (.ref (ca c)) = some false
  ist : ∀ t ∈ tyAsk, PySem.W.kitOne K (.ref (ca c)) (.type t) = some false
/-- the specials that take the object alone -/
def sp1 : List String := ["__len__", "__str__", "__repr__"]
/-- what holds in a def's body (or a comprehension's block) at a level -/
structure Fx (X : Cx) (G : Gi) (C : Cs) (d : Nat) : Prop where
  K : X.K = G.K
  calm : X.calm = true
  nd : X.N.Nodup
  room : Room d X.A
  cls : ∀ c ∈ G.cs, Cls G.K (G.ca c)
  noat : ∀ c ∈ G.cs, ∀ f ∈ G.fl, NoAttr G.K (G.ca c) (Str.ofString f)
  fn : ∀ U, AllHeld X.prog X.w X.mg X.base (G.u U) d C.fn
  ini : d = 0 ∨ ∃ d', d = d' + 1 ∧ ∀ U, AllHeld X.prog X.w X.mg X.base (G.u U) d' C.ini
  ini0 : d = 0 → ∀ c f vs h, C.ini c f vs h = .bad
  meth : ∀ c m fi, c ∈ G.cs → G.fi c m = some fi → Meth G.K (G.ca c) (Str.ofString m) (G.fa c m)
  mkr : ∀ c fi, c ∈ G.cs → G.fi c "__init__" = some fi → Mk G.K (G.ca c) (G.fa c "__init__")
  glf : ∀ f fi, G.fi "" f = some fi → X.mg (Str.ofString f) = some (.ref (G.fa "" f))
  glc : ∀ c ∈ G.cs, X.mg (Str.ofString c) = some (.ref (G.ca c))
  in2 : d = 0 ∨ d = 1 ∨ ∃ d', d = d' + 2 ∧ ∀ U, AllHeld X.prog X.w X.mg X.base (G.u U) d' C.in2
  in20 : d = 0 ∨ d = 1 → ∀ c f vs h, C.in2 c f vs h = .bad
  badF : ∀ c f vs h, G.fi c f = none → C.fn c f vs h = .bad
  badI : ∀ c f vs h, G.fi c f = none → C.ini c f vs h = .bad
  badJ : ∀ c f vs h, G.fi c f = none → C.in2 c f vs h = .bad
  own : ∀ c ∈ G.cs, Own G.K G.ca G.cs c
  ar1 : ∀ c ∈ G.cs, ∀ m ∈ sp1, ∀ fi, G.fi c m = some fi → srcsI fi 1 [] = some [.at 0]
  ar2 : ∀ c ∈ G.cs, ∀ fi, G.fi c "__eq__" = some fi → srcsI fi 2 [] = some [.at 0, .at 1]

section
variable {X : Cx} {G : Gi} {C : Cs} {d : Nat} {e a b c : Expr} {x y z : Ex} {pos : Pos}
theorem Fx.u (f : Fx X G C d) (U : Hp) : Fx X (G.u U) C d := ⟨f.K, f.calm, f.nd, f.room, f.cls, f.noat, fun V => f.fn V, f.ini, f.ini0, f.meth, f.mkr, f.glf, f.glc, f.in2, f.in20, f.badF, f.badI, f.badJ, f.own, f.ar1, f.ar2⟩
theorem Fx.hu (f : Fx X G C d) : X.A.units + 64 < cLine := f.room.units

/-! ### attributes -/
def baseOk : Expr → Bool
  | .Call (.Name id _) [] [] _ => id != ("super" : Str)
  | _ => true
theorem base_of {o : Expr} {n : Str} {env : PySem.Env} {w : Sem Value} (h : baseOk o = true) : attributeBase o n env w = w := by
  unfold attributeBase
  split
  · rename_i id p pos
    have h : (id != ("super" : Str)) = true := h
    rw [h, Bool.true_or, Bool.true_or, Bool.true_or, if_pos rfl]
  · rfl
theorem getF_ok {F : Hp} {m : Mp} (f : String) : ∀ {fs : List (String × Vl)} {ys : List (Str × V)}, Rf G F m fs ys → match getF fs f with
    | some v => ∃ x, ys.lookup (Str.ofString f) = some x ∧ R G F m v x
    | none => ys.lookup (Str.ofString f) = none
  | [], ys, r => by
    have e : ys = [] := r
    subst e
    rfl
  | (k', v) :: kvs, ys, ⟨x, zs, e, r, rs⟩ => by
    subst e
    have ih := getF_ok f rs
    unfold getF at ih ⊢
    rw [List.lookup_cons, List.lookup_cons]
    have e1 : (Str.ofString f == Str.ofString k') = (f == k') := by
      by_cases e : f = k'
      · subst e
        simp
      · have e2 : Str.ofString f ≠ Str.ofString k' := fun z => e (of_inj z)
        rw [beq_eq_false_iff_ne.mpr e2, beq_eq_false_iff_ne.mpr e]
    rw [e1]
    cases f == k' with
    | true => exact ⟨x, rfl, r⟩
    | false => exact ih
theorem se_att (fx : Fx X G C d) (ha : SE X G C a x) (f : String) (hf : f ∈ G.fl) (hb : baseOk a = true) : SE X G C (.Attribute a (Str.ofString f) pos) (.att x f) := by
  refine SE.of fx.K (plainT_of rfl) (fun m r h => by rw [evM]) (PE.weak (pe_fld ha.v (base_of hb)) fun σ H Q w => ?_)
  refine tM_bind w fun m F h r v x H' rl re rx w => ?_
  unfold attV at w
  split at w
  · rename_i cc fs e1
    obtain ⟨p, dx, ys, rfl, hp, hc, rf⟩ := obj_ok rl rx e1
    have g := getF_ok f rf
    split at w
    · rename_i v0 e2
      rw [e2] at g
      obtain ⟨x0, e3, r0⟩ := g
      exact ⟨p, _, dx, ys, x0, rfl, hp, by rw [fx.K]; exact fx.cls _ hc, by rw [fx.K]; exact fx.noat _ hc f hf, e3, w.here rl r0⟩
    · exact False.elim w
  · exact False.elim w

/-! ### subscripts -/
theorem ixN_eq (n : Nat) (i : Int) : L2.ixN n i = Mi.ixN n i := rfl
theorem atI_R {F : Hp} {m : Mp} {xs : List Vl} {ys : List V} {i : Int} {v : Vl} (rs : Rs G F m xs ys) (e : Mi.atI xs i = some v) : ∃ y, L2.atI ys i = some y ∧ R G F m v y := by
  unfold Mi.atI at e
  obtain ⟨j, e1, e2⟩ := Option.bind_eq_some_iff.mp e
  obtain ⟨y, e3, r⟩ := rs.get e2
  refine ⟨y, ?_, r⟩
  unfold L2.atI
  rw [rs.length, ixN_eq, e1]
  exact e3
/-- d[k], by values -/
theorem ix_dict (hu : X.A.units + 1 < cLine) : IxR X (fun x y H Q => ∃ p v, x = .ref p ∧ DGet H p y (some v) ∧ Q v H) := by
  intro value slice pins s σ H x y v u Q I rx ry h hs
  obtain ⟨p, v0, rfl, g, q⟩ := h
  obtain rfl : v = Value.ref p := rx
  have hT := dict_typeIs I g
  unfold PyProof.Rows.subscriptTail
  refine wpAny_bind ?_
  rw [getitemInPython_of_ne hT.not_modules]
  refine wpAny_bind (wpAny_specialOf hT PySem.F.slot_dict_getitem.lookup ?_)
  have fin : wpAny (model X.prog X.w) X.A (subscripted slice false (.ref p) u) (fun r s₃ => wpAny (model X.prog X.w) X.A (letTemporaryGo value (.ref p) r >>= fun _ => pure r) (EP X pins σ Q) X.xe s₃) X.xe s := by
    rw [hs]
    exact wpAny_operating (wpAny_mono (d_getItem hu I g ry fun w' s3 I3 rw' => (show EP X pins σ Q w' s3 from ⟨v0, H, I3, rw', q⟩)) (fun r s₃ h₃ => wpAny_bind (wpAny_letTemporaryGo (wpAny_pure h₃))) fun _ _ x => x)
  first
    | exact wpAny_pure (wpAny_bind fin)
    | exact wpAny_bind (wpAny_pure (wpAny_bind fin))
    | exact wpAny_bind fin
theorem sub_ix (fx : Fx X G C d) : IxR X (rM2 G subV) := by
  intro value slice pins s σ H x y v u Q I rx ry q hs
  obtain ⟨m, F, hh, a, b, rl, ra, rb, w⟩ := q
  unfold subV at w
  split at w
  · rename_i s1 i
    split at w
    · rename_i hl
      split at w
      · rename_i c0 e1
        obtain ⟨ra, oa⟩ := ra
        refine ix_str value slice pins s σ H x y v u Q I rx ry ⟨ss s1, i, c0, ra, rb, by rw [ss_len]; exact hl, by rw [ss_list]; exact e1, ?_⟩ hs
        refine w.here rl ⟨rfl, fun c hc => ?_⟩
        have hc : c = c0 := by simpa using hc
        subst hc
        unfold Mi.atI at e1
        obtain ⟨j, _, e2⟩ := Option.bind_eq_some_iff.mp e1
        exact oa c (List.mem_of_getElem? e2)
      · exact False.elim w
    · exact False.elim w
  · split at w
    · rename_i i hne _ xs e1
      split at w
      · rename_i v0 e2
        obtain ⟨p, ys, rfl, hq, rs⟩ := seq_ok rl ra e1
        obtain ⟨y0, e3, r0⟩ := atI_R rs e2
        rcases hq with hq | hq
        · exact ix_list value slice pins s σ H _ y v u Q I rx ry ⟨p, ys, i, y0, rfl, rb, by rw [fx.K]; exact hq, e3, w.here rl r0⟩ hs
        · exact ix_tup value slice pins s σ H _ y v u Q I rx ry ⟨p, ys, i, y0, rfl, rb, by rw [fx.K]; exact hq, e3, w.here rl r0⟩ hs
      · exact False.elim w
    · exact False.elim w
  · split at w
    · rename_i k _ kvs e1
      split at w
      · rename_i v0 e2
        obtain ⟨p, ys, rfl, hq, rs⟩ := dct_ok rl ra e1
        have g := getK_ok k rs
        rw [e2] at g
        obtain ⟨x0, e3, r0⟩ := g
        obtain ⟨rb, _⟩ := rb
        subst rb
        obtain rfl : v = Value.ref p := rx
        have dg : DGet H p (.str (ss k)) (some x0) := by
          have := DGet.k (k := Sum.inr (ss k)) hq
          rw [e3] at this
          exact this
        exact ix_dict (by have := fx.hu; omega) value slice pins s σ H (.ref p) _ _ u Q I rfl ry ⟨p, x0, rfl, dg, w.here rl r0⟩ hs
      · exact False.elim w
    · exact False.elim w
  · exact False.elim w
def noSlice : Expr → Bool
  | .Slice .. => false
  | _ => true
theorem plainIx_of {b : Expr} (h : noSlice b = true) : PlainIx b := fun o i => by
  cases b <;> first | rfl | cases h
theorem se_sub (fx : Fx X G C d) (ha : SE X G C a x) (hb : SE X G C b y) (hs : noSlice b = true) : SE X G C (.Subscript a b pos) (.sub x y) := by
  refine SE.of fx.K (plainT_of rfl) (fun m r h => by rw [evM]) (PE.weak (pe_ix (sub_ix fx) ha.v hb.v (plainIx_of hs)) fun σ H Q w => ?_)
  exact tM_two rfl w

/-! ### calls -/
theorem Rs.cons {F : Hp} {m : Mp} {v : Vl} {x : V} {vs : List Vl} {xs : List V} (r : R G F m v x) (rs : Rs G F m vs xs) : Rs G F m (v :: vs) (x :: xs) := ⟨x, xs, rfl, r, rs⟩
theorem se_call (fx : Fx X G C d) {es : List Expr} {kws : List Keyword} {xs ys : List Ex} {f : String} {fi : FnI} {ps : List Src} {p : Pos} (hfi : G.fi "" f = some fi) (hg : Gl X (Str.ofString f)) (hdb : (Str.ofString f == ("__debug__" : Str)) = false)
    (hs : es.all noStar = true) (hkw : kwOk kws = true) (ha : SA X G C es xs) (hb : SK X G C kws ys) (hl : es.length = xs.length) (hl2 : kws.length = ys.length) (hp : srcsI fi es.length (kwNames kws) = some ps) :
    SE X G C (.Call (.Name (Str.ofString f) p) es kws pos) (.call f (xs ++ ys) ps) := by
  refine SE.of fx.K (plainT_of rfl) (fun m r h => by rw [evM]) ⟨fun pins s σ H Q I w => ?_⟩
  obtain ⟨m, F, h, r, rl, re, w⟩ := w
  obtain ⟨fd, hf⟩ := fx.fn G.U "" f fi hfi
  refine wpAny_Call_Name_kw (ld_glob I hg (fx.glf f fi hfi) ?_ hdb)
  refine call_args (g := fun vs h => match srcs vs ps with
    | some vs => C.fn "" f vs h
    | none => .bad) (by rw [fx.K]; exact hf.keep) hs hkw ha hb I rl re hl hl2 w fun us ws vs zs ls m' F' H' h' s' I' rv rz lu lw lm lf rl' rs w => ?_
  split at w
  · rename_i as e1
    exact run_held (us := us) hf fx.K fx.room I' rv rz (by rw [lw, kwNames_len hkw]) (by rw [lu]; exact hp) rl' rs e1 w
  · exact False.elim w
/-- a call that changes nothing -/
theorem se_callp (fx : Fx X G C d) {es : List Expr} {kws : List Keyword} {xs ys : List Ex} {f : String} {fi : FnI} {ps : List Src} {p : Pos} (hfi : G.fi "" f = some fi) (hg : Gl X (Str.ofString f)) (hdb : (Str.ofString f == ("__debug__" : Str)) = false)
    (hs : es.all noStar = true) (hkw : kwOk kws = true) (ha : SA X G C es xs) (hb : SK X G C kws ys) (hl : es.length = xs.length) (hl2 : kws.length = ys.length) (hp : srcsI fi es.length (kwNames kws) = some ps) :
    SE X G C (.Call (.Name (Str.ofString f) p) es kws pos) (.callp f (xs ++ ys) ps) := by
  refine SE.of fx.K (plainT_of rfl) (fun m r h => by rw [evM]) ⟨fun pins s σ H Q I w => ?_⟩
  obtain ⟨m, F, h, r, rl, re, w⟩ := w
  obtain ⟨fd0, hf0⟩ := fx.fn G.U "" f fi hfi
  refine wpAny_Call_Name_kw (ld_glob I hg (fx.glf f fi hfi) ?_ hdb)
  refine call_args (g := fun vs h => if clos vs then (match srcs vs ps with
    | some vs => pureR (C.fn "" f vs []) h
    | none => .bad) else .bad) (by rw [fx.K]; exact hf0.keep) hs hkw ha hb I rl re hl hl2 w fun us ws vs zs ls m' F' H' h' s' I' rv rz lu lw lm lf rl' rs w => ?_
  split at w
  · rename_i hc
    split at w
    · rename_i as e1
      obtain ⟨fd, hf⟩ := fx.fn (allBy G m' h' H') "" f fi hfi
      exact run_held (us := us) hf fx.K fx.room I' rv rz (by rw [lw, kwNames_len hkw]) (by rw [lu]; exact hp) rl'.alone (Rs.clo hc rs.u) e1 (Wp.alone rl' w)
    · exact False.elim w
  · exact False.elim w
def fewOk (n k : Nat) : Bool := decide (n + k + 1 < 30)
theorem form_of {es : List Expr} {kws : List Keyword} {env : PySem.Env} (hs : es.all noStar = true) (hk : kwOk kws = true) (hf : fewOk es.length kws.length = true) :
    methodCallForm (es.length + kws.length) (backTo pos (starEach es env)) (backToKw pos (keywordEach kws env)) = true := by
  have h1 : (backTo pos (starEach es env)).all (fun x => !x.1) = true := by
    have := noStar_any (pos := pos) (env := env) hs
    rw [List.all_eq_true]
    intro z hz
    cases hb : z.1 with
    | false => rfl
    | true =>
      have : (backTo pos (starEach es env)).any (·.1) = true := List.any_eq_true.mpr ⟨z, hz, hb⟩
      rw [noStar_any hs] at this
      cases this
  unfold methodCallForm
  rw [h1, kw_all hk, Bool.true_and, Bool.true_and]
  unfold fewOk at hf
  have hf := of_decide_eq_true hf
  refine decide_eq_true ?_
  split <;> omega
theorem eval_meth {o : Expr} {n : Str} {apos : Pos} {es : List Expr} {kws : List Keyword} {env : PySem.Env} (hb : baseOk o = true) (hs : es.all noStar = true) (hk : kwOk kws = true) (hf : fewOk es.length kws.length = true) (hl : (apos.endLine == pos.line) = true) :
    eval (.Call (.Attribute o n apos) es kws pos) env = (do
      let ov ← eval o env
      standAt apos.atName
      let (f, first) ← holding [ov] (getMethod ov n (plainOf o env))
      callWith pos f first (backTo pos (starEach es env)) (backToKw pos (keywordEach kws env))) := by
  show (do
    let ov ← attributeBase o n env (eval o env)
    standAt apos.atName
    methodCall o n apos pos env ov (es.length + kws.length) (backTo pos (starEach es env)) (backToKw pos (keywordEach kws env))) = _
  rw [base_of hb]
  congr 1
  funext ov
  congr 1
  funext _
  exact mcall_line (form_of hs hk hf) hl
theorem se_meth (fx : Fx X G C d) {es : List Expr} {kws : List Keyword} {xs ys : List Ex} {f : String} {ps : List Src} {apos : Pos} (hall : ∀ cc ∈ G.cs, ∀ fi, G.fi cc f = some fi → srcsI fi (es.length + 1) (kwNames kws) = some ps) (hc : ∀ cc ∈ G.cs, ∀ vs h, G.fi cc f = none → C.fn cc f vs h = .bad)
    (ho : SE X G C a x) (hb0 : baseOk a = true) (hs : es.all noStar = true) (hkw : kwOk kws = true) (hf : fewOk es.length kws.length = true) (hln : (apos.endLine == pos.line) = true) (ha : SA X G C es xs) (hb : SK X G C kws ys) (hl : es.length = xs.length) (hl2 : kws.length = ys.length) :
    SE X G C (.Call (.Attribute a (Str.ofString f) apos) es kws pos) (.meth x f (xs ++ ys) ps) := by
  refine SE.of fx.K (plainT_of rfl) (fun m r h => by rw [evM]) ⟨fun pins s σ H Q I w => ?_⟩
  refine PySem.W.methodCall_KW (pl := plainOf a X.env) ?_ (eval_meth hb0 hs hkw hf hln)
  refine thn (ho.v.run pins s σ H (fun x H1 => ∃ m F h r v, Rel G m F h H1 ∧ RE G F m r σ ∧ R G F m v x ∧ WpV G m F (match objOf h v with
    | some (c, fs) => if (getF fs f).isNone then (evs C (xs ++ ys) r h).bind fun vs h => (match srcs (v :: vs) ps with
      | some vs => C.fn c f vs h
      | none => .bad) else .bad
    | none => .bad) Q) I (tM_bind w fun m F h r v x H' rl re rx w => ⟨m, F, h, r, v, rl, re, rx, w⟩)) fun u s1 ⟨x1, H1, I1, ru, m, F, h, r, v, rl, re, rx, w⟩ => ?_
  split at w
  · rename_i cc fs e1
    split at w
    · rename_i hn
      obtain ⟨p, dx, zs, rfl, hp, hcc, rf⟩ := obj_ok rl rx e1
      have g := getF_ok f rf
      have hg : getF fs f = none := by simpa using hn
      rw [hg] at g
      obtain rfl : u = Value.ref p := ru
      cases efi : G.fi cc f with
      | none =>
        obtain ⟨vs, h2, e2, w⟩ := w.bind
        split at w
        · rename_i as e3
          rw [hc cc hcc as h2 efi] at w
          exact False.elim w
        · exact False.elim w
      | some fi =>
        obtain ⟨fd, hf⟩ := fx.fn G.U cc f fi efi
        refine getmeth_ok I1 hp (by rw [fx.K]; exact fx.cls cc hcc) (by rw [fx.K]; exact fx.meth cc f fi hcc efi) g ?_
        dsimp only
        refine call_args (g := fun vs h => match srcs (v :: vs) ps with
          | some vs => C.fn cc f vs h
          | none => .bad) (by rw [fx.K]; exact hf.keep) hs hkw ha hb I1 rl re hl hl2 w fun us ws vs zs ls m' F' H' h' s' I' rv rz lu lw lm lf rl' rs w => ?_
        split at w
        · rename_i as e2
          exact run_held (us := .ref p :: us) (vs := .ref p :: vs) (ls := v :: ls) hf fx.K fx.room I' (.cons rfl rv) rz (by rw [lw, kwNames_len hkw]) (by rw [List.length_cons, lu]; exact hall cc hcc fi efi) rl' (Rs.cons (R.mono lf lm _ _ rx) rs) e2 w
        · exact False.elim w
    · exact False.elim w
  · exact False.elim w
theorem se_methp (fx : Fx X G C d) {es : List Expr} {kws : List Keyword} {xs ys : List Ex} {f : String} {ps : List Src} {apos : Pos} (hall : ∀ cc ∈ G.cs, ∀ fi, G.fi cc f = some fi → srcsI fi (es.length + 1) (kwNames kws) = some ps) (hc : ∀ cc ∈ G.cs, ∀ vs h, G.fi cc f = none → C.fn cc f vs h = .bad)
    (ho : SE X G C a x) (hb0 : baseOk a = true) (hs : es.all noStar = true) (hkw : kwOk kws = true) (hf : fewOk es.length kws.length = true) (hln : (apos.endLine == pos.line) = true) (ha : SA X G C es xs) (hb : SK X G C kws ys) (hl : es.length = xs.length) (hl2 : kws.length = ys.length) :
    SE X G C (.Call (.Attribute a (Str.ofString f) apos) es kws pos) (.methp x f (xs ++ ys) ps) := by
  refine SE.of fx.K (plainT_of rfl) (fun m r h => by rw [evM]) ⟨fun pins s σ H Q I w => ?_⟩
  refine PySem.W.methodCall_KW (pl := plainOf a X.env) ?_ (eval_meth hb0 hs hkw hf hln)
  refine thn (ho.v.run pins s σ H (fun x H1 => ∃ m F h r v, Rel G m F h H1 ∧ RE G F m r σ ∧ R G F m v x ∧ WpV G m F (match objOf h v with
    | some (c, fs) => if (getF fs f).isNone then (evs C (xs ++ ys) r h).bind fun vs h => (if clos (v :: vs) then (match srcs (v :: vs) ps with
      | some vs => pureR (C.fn c f vs []) h
      | none => .bad) else .bad) else .bad
    | none => .bad) Q) I (tM_bind w fun m F h r v x H' rl re rx w => ⟨m, F, h, r, v, rl, re, rx, w⟩)) fun u s1 ⟨x1, H1, I1, ru, m, F, h, r, v, rl, re, rx, w⟩ => ?_
  split at w
  · rename_i cc fs e1
    split at w
    · rename_i hn
      obtain ⟨p, dx, zs, rfl, hp, hcc, rf⟩ := obj_ok rl rx e1
      have g := getF_ok f rf
      have hg : getF fs f = none := by simpa using hn
      rw [hg] at g
      obtain rfl : u = Value.ref p := ru
      cases efi : G.fi cc f with
      | none =>
        obtain ⟨vs, h2, e2, w⟩ := w.bind
        split at w
        · split at w
          · rename_i as e3
            rw [hc cc hcc as [] efi] at w
            exact False.elim w
          · exact False.elim w
        · exact False.elim w
      | some fi =>
        obtain ⟨fd, hf⟩ := fx.fn G.U cc f fi efi
        refine getmeth_ok I1 hp (by rw [fx.K]; exact fx.cls cc hcc) (by rw [fx.K]; exact fx.meth cc f fi hcc efi) g ?_
        dsimp only
        refine call_args (g := fun vs h => if clos (v :: vs) then (match srcs (v :: vs) ps with
          | some vs => pureR (C.fn cc f vs []) h
          | none => .bad) else .bad) (by rw [fx.K]; exact hf.keep) hs hkw ha hb I1 rl re hl hl2 w fun us ws vs zs ls m' F' H' h' s' I' rv rz lu lw lm lf rl' rs w => ?_
        split at w
        · rename_i hcl
          split at w
          · rename_i as e2
            obtain ⟨fd, hf⟩ := fx.fn (allBy G m' h' H') cc f fi efi
            exact run_held (us := .ref p :: us) (vs := .ref p :: vs) (ls := v :: ls) hf fx.K fx.room I' (.cons rfl rv) rz (by rw [lw, kwNames_len hkw]) (by rw [List.length_cons, lu]; exact hall cc hcc fi efi) rl'.alone (Rs.clo hcl (Rs.u (Rs.cons (R.mono lf lm _ _ rx) rs))) e2 (Wp.alone rl' w)
          · exact False.elim w
        · exact False.elim w
    · exact False.elim w
  · exact False.elim w
end
end Mi
/-! MINI: own things: len, str, repr, ==, !=, isinstance -/
namespace Mi
open PySem PySem.Spec L2
section
variable {X : Cx} {G : Gi} {C : Cs} {d : Nat} {e a b c : Expr} {x y z : Ex} {pos : Pos}
/-- a special of an own thing is called -/
theorem run_own {A : Around} (hfr : A.frames = X.A.frames) {k : Nat} {sem : String → String → List Vl → Hm → Res Vl} {cc m : String} {fi : FnI} {fd : FuncData} (hf : Held X.prog X.w X.mg X.base G k cc m fi (sem cc m) fd) (hK : X.K = G.K) (hr : Room k A) {pins : List (Addr × Obj)} {σ : L2.St} {H : Hp} {s : Shared} {Q : VK}
    {us : List Value} {xs : List V} {ls : List Vl} {ps : List Src} {mm : Mp} {F : Hp} {h : Hm} (I : Inv X pins σ H s) (rv : Vals xs us) (hp : srcsI fi us.length [] = some ps) (hs : srcs ls ps = some ls) (rl : Rel G mm F h H) (rs : Rs G F mm ls xs) (w : WpV G mm F (sem cc m ls h) Q) :
    wpAny (model X.prog X.w) A (call (.ref (G.fa cc m)) us) (EP X pins σ Q) X.xe s := by
  have := run_heldA (A := A) (ws := []) (zs := []) (ks := []) hfr hf hK hr I rv .nil rfl hp rl (by rw [List.append_nil]; exact rs) hs w
  exact this
theorem R.int_of {F : Hp} {m : Mp} {i : Int} {x : V} {u : Value} (r : R G F m (.int i) x) (ru : RelV x u) : ∃ t, u = .int i t := by
  have e : x = .int i := r
  subst e
  exact ru
theorem R.str_of {F : Hp} {m : Mp} {i : Tx} {x : V} {u : Value} (r : R G F m (.str i) x) (ru : RelV x u) : ∃ t, u = .str (ss i) t := by
  obtain ⟨e, _⟩ := r
  subst e
  exact ru
theorem R.bl_of {F : Hp} {m : Mp} {i : Bool} {x : V} {u : Value} (r : R G F m (.bl i) x) (ru : RelV x u) : u = .bool i := by
  have e : x = .bl i := r
  subst e
  exact ru
/-- where an own thing stands -/
theorem own_at (fx : Fx X G C d) {pins : List (Addr × Obj)} {σ : L2.St} {H F : Hp} {s : Shared} {m : Mp} {h : Hm} {v : Vl} {x : V} {cc : String} {fs : List (String × Vl)} (I : Inv X pins σ H s) (rl : Rel G m F h H) (r : R G F m v x) (e : objOf h v = some (cc, fs)) :
    ∃ p, x = .ref p ∧ cc ∈ G.cs ∧ ∃ ox od, PySem.W.InstAt s.heap p ox (G.ca cc) od := by
  obtain ⟨p, dx, ys, rfl, hp, hc, rf⟩ := obj_ok rl r e
  obtain ⟨mA, J, _⟩ := ins_get I.hok hp
  obtain ⟨od, J, _⟩ := J.look
  exact ⟨p, rfl, hc, _, od, J⟩
/-- bool(x) by x's len -/
theorem bool_own {prog : Program} {w : World} {A : Around} {E : Value → Shared → Prop} {s : Shared} {K : PySem.W.Frag} {x Cl f : Addr} {ox : Obj} {od : Option Obj} {Q : Value → Shared → Prop} (K1 : K.In s.heap) (I : PySem.W.InstAt s.heap x ox Cl od)
    (hb : PySem.W.findIn K (.ref Cl) "__bool__" = some none) (hs : PySem.W.findIn K (.ref Cl) "__len__" = some (some (.ref f))) (hf : PySem.W.isFn K (.ref f) = true)
    (h : wpAny (model prog w) A.in1.in1.in1 (call (.ref f) [.ref x]) (fun v s' => ∃ i t, v = .int i t ∧ (0 ≤ i ∧ i < 2 ^ 63) ∧ Q (.bool (i != 0)) { s' with toks := s'.toks + 1 }) E s) : wpAny (model prog w) A (call (.type "bool") [.ref x]) Q E s := by
  have tru : wpAny (model prog w) A.in1.in1 (truthy (.ref x)) (fun b s' => Q (.bool b) s') E s := by
    unfold truthy
    refine wpAny_bind (m := callSpecial? (.ref x) (Str.ofString "__bool__")) (wpAny_bind (wpAny_bind (I.type.here ((PySem.W.looks_findIn K1 hb).here (wpAny_pure ?_)))))
    refine wpAny_bind (wpAny_bind (I.type.here ((PySem.W.looks_findIn K1 hs).here ?_)))
    refine wpAny_bind (wpAny_runValue (codeAny_builtin PySem.entry_len ?_))
    rw [Around.under_plainId (by decide +kernel) _]
    unfold Builtin.«len»
    refine wpAny_bind (m := oneArg "len" _) (wpAny_pure ?_)
    refine wpAny_bind (m := callSpecial? (.ref x) (Str.ofString "__len__")) (PySem.W.special_fn K1 I hs (beq_iff_eq.mp hf) (wpAny_mono h (fun r s' hr => ?_) fun _ _ y => y))
    obtain ⟨n, t, rfl, ⟨h0, h1⟩, hq⟩ := hr
    refine wpAny_bind (wpAny_holding (wpAny_pure ?_))
    refine wpAny_bind (wpAny_letGo ?_)
    show wpAny _ _ (if n < 0 then _ else _) _ _ _
    rw [if_neg (by omega)]
    show wpAny _ _ (if n ≥ 2 ^ 63 then _ else _) _ _ _
    rw [if_neg (by omega)]
    exact wpAny_bind (wpAny_mkInt (wpAny_pure (wpAny_pure hq)))
  refine PySem.callType_codes (T := "bool") (Bi := Builtin.«object.__init__») (Q₁ := fun r s₁ => ∃ b, r = .bool b ∧ Q r s₁) PySem.F.called_bool (PySem.F.typeCall_bool_1 _) PySem.F.entry_object_init ?_ ?_
  · refine codeAny_of_tree ?_
    show wpAny _ A.in1.in1 (do checkBuiltinCall "bool.__new__" ⟨[.type "bool", .ref x], []⟩; again (.builtin "bool.__new__" ⟨[.type "bool", .ref x], []⟩)) _ _ s
    refine wpAny_bind (wpAny_of_eq (PySem.F.newCall_bool_1 _) (wpAny_pure ⟨plainId_quiet (by decide +kernel) _, codeAny_builtin PySem.F.entry_bool_new ?_⟩))
    rw [Around.under_plainId (by decide +kernel) _]
    have f1 := PySem.F.conv_sub_bool
    unfold Builtin.«bool.__new__»
    repeat (any_goals (first | assumption | with_reducible exact wpAny_mono tru (fun b s' q => wpAny_pure ⟨b, rfl, q⟩) (fun _ _ z => z) | wp_step))
  · rintro obj s₁ ⟨b, rfl, hq⟩
    exact ⟨typeIs_bool _ _, PySem.F.args_object_init_2 _ _, object_init_meets PySem.F.called_bool.init.lookup PySem.F.called_bool.made (by decide) prog w A.in1 _ s₁ ⟨typeIs_bool _ _, rfl, hq⟩⟩
/-- len, repr, str of an own thing -/
theorem own_call (fx : Fx X G C d) {f : String} {B : Value} {pins : List (Addr × Obj)} {σ : L2.St} {H F : Hp} {s : Shared} {m : Mp} {h : Hm} {v : Vl} {x : V} {u : Value} {cc : String} {fs : List (String × Vl)} {Q : VK} (hB : (f = "len" ∧ B = .builtin "len") ∨ (f = "repr" ∧ B = .builtin "repr") ∨ (f = "str" ∧ B = .type "str") ∨ (f = "bool" ∧ B = .type "bool"))
    (I : Inv X pins σ H s) (rl : Rel G m F h H) (r : R G F m v x) (ru : RelV x u) (e : objOf h v = some (cc, fs)) (w : WpV G m F (ownF C f cc v h) Q) : wpAny (model X.prog X.w) X.A (call B [u]) (EP X pins σ Q) X.xe s := by
  obtain ⟨p, rfl, hc, ox, od, J⟩ := own_at fx I rl r e
  obtain rfl : u = Value.ref p := ru
  obtain ⟨mm, hF⟩ := I.fr
  have kin := I.ok.mod.kin
  have K1 : X.K.In s.heap := I.kIn
  rcases hB with ⟨rfl, rfl⟩ | ⟨rfl, rfl⟩ | ⟨rfl, rfl⟩ | ⟨rfl, rfl⟩
  · have w : WpV G m F (lenR (C.ini cc "__len__" [v] h)) Q := w
    unfold lenR at w
    obtain ⟨r0, h1, e2, w⟩ := w.bind
    cases efi : G.fi cc "__len__" with
    | none =>
      rw [fx.badI _ _ _ _ efi] at e2
      cases e2
    | some fi =>
      have M := fx.meth cc _ fi hc efi
      rcases fx.ini with h0 | ⟨d', rfl, hi⟩
      · rw [fx.ini0 h0] at e2
        cases e2
      · obtain ⟨fd, hf⟩ := hi G.U cc "__len__" fi efi
        refine PySem.W.len_K (K := X.K) (C := G.ca cc) (f := G.fa cc "__len__") hF kin J (by rw [fx.K]; exact M.at_) (by rw [fx.K]; exact M.fn) ?_
        refine wpAny_mono (run_own (A := X.A.in1) (sem := C.ini) (us := [.ref p]) (xs := [.ref p]) (ls := [v]) (Q := fun y H' => ∃ i : Int, y = .int i ∧ (0 ≤ i ∧ i < 2 ^ 63) ∧ Q (.int i) H') rfl hf fx.K fx.room.in1 I (.cons rfl .nil) (fx.ar1 cc hc _ (by decide) fi efi) rfl rl (Rs.one r) ?_) (fun u2 s2 z => ?_) fun _ _ z => z
        · rw [e2]
          intro m2 F2 H2 y lm l rl2 ry
          split at w
          · split at w
            · rename_i i hi2
              exact ⟨i, ry, hi2, w m2 F2 H2 _ lm l rl2 rfl⟩
            · exact False.elim w
          · exact False.elim w
        · obtain ⟨y, H2, I2, ry, i, rfl, hi2, q⟩ := z
          obtain ⟨t, rfl⟩ := (show ∃ t, u2 = Value.int i t from ry)
          exact ⟨hi2, .int i, H2, I2.tok _, ⟨_, rfl⟩, q⟩
  · have w : WpV G m F (strR (C.ini cc "__repr__" [v] h)) Q := w
    unfold strR at w
    obtain ⟨r0, h1, e2, w⟩ := w.bind
    cases efi : G.fi cc "__repr__" with
    | none =>
      rw [fx.badI _ _ _ _ efi] at e2
      cases e2
    | some fi =>
      have M := fx.meth cc _ fi hc efi
      rcases fx.ini with h0 | ⟨d', rfl, hi⟩
      · rw [fx.ini0 h0] at e2
        cases e2
      · obtain ⟨fd, hf⟩ := hi G.U cc "__repr__" fi efi
        refine PySem.W.repr_K (K := X.K) (C := G.ca cc) (f := G.fa cc "__repr__") fx.room.in1.units0 hF kin J (by rw [fx.K]; exact M.at_) (by rw [fx.K]; exact M.fn) ?_
        refine wpAny_mono (run_own (A := X.A.in1) (sem := C.ini) (us := [.ref p]) (xs := [.ref p]) (ls := [v]) (Q := fun y H' => ∃ i : Str, y = .str i ∧ Q (.str i) H') rfl hf fx.K fx.room.in1 I (.cons rfl .nil) (fx.ar1 cc hc _ (by decide) fi efi) rfl rl (Rs.one r) ?_) (fun u2 s2 z => ?_) fun _ _ z => z
        · rw [e2]
          intro m2 F2 H2 y lm l rl2 ry
          split at w
          · rename_i i
            obtain ⟨ry, o⟩ := ry
            exact ⟨ss i, ry, w m2 F2 H2 _ lm l rl2 ⟨rfl, o⟩⟩
          · exact False.elim w
        · obtain ⟨y, H2, I2, ry, i, rfl, q⟩ := z
          obtain ⟨t, rfl⟩ := (show ∃ t, u2 = Value.str i t from ry)
          exact ⟨.str i, H2, I2, ⟨_, rfl⟩, q⟩
  · have w : WpV G m F (strR (C.in2 cc "__str__" [v] h)) Q := w
    unfold strR at w
    obtain ⟨r0, h1, e2, w⟩ := w.bind
    cases efi : G.fi cc "__str__" with
    | none =>
      rw [fx.badJ _ _ _ _ efi] at e2
      cases e2
    | some fi =>
      have M := fx.meth cc _ fi hc efi
      rcases fx.in2 with h0 | h0 | ⟨d', rfl, hi⟩
      · rw [fx.in20 (.inl h0)] at e2
        cases e2
      · rw [fx.in20 (.inr h0)] at e2
        cases e2
      · obtain ⟨fd, hf⟩ := hi G.U cc "__str__" fi efi
        have hr : Room d' X.A.in1.in1 := fx.room.in1.in1
        refine PySem.W.kso_call (K := X.K) (C := G.ca cc) (f := G.fa cc "__str__") hr.units0 K1 J (by rw [fx.K]; exact M.at_) (by rw [fx.K]; exact M.fn) ?_
        refine wpAny_mono (run_own (A := X.A.in1.in1) (sem := C.in2) (us := [.ref p]) (xs := [.ref p]) (ls := [v]) (Q := fun y H' => ∃ i : Str, y = .str i ∧ Q (.str i) H') rfl hf fx.K hr I (.cons rfl .nil) (fx.ar1 cc hc _ (by decide) fi efi) rfl rl (Rs.one r) ?_) (fun u2 s2 z => ?_) fun _ _ z => z
        · rw [e2]
          intro m2 F2 H2 y lm l rl2 ry
          split at w
          · rename_i i
            obtain ⟨ry, o⟩ := ry
            exact ⟨ss i, ry, w m2 F2 H2 _ lm l rl2 ⟨rfl, o⟩⟩
          · exact False.elim w
        · obtain ⟨y, H2, I2, ry, i, rfl, q⟩ := z
          obtain ⟨t, rfl⟩ := (show ∃ t, u2 = Value.str i t from ry)
          exact ⟨.str i, H2, I2, ⟨_, rfl⟩, q⟩
  · have w : WpV G m F (truR (C.ini cc "__len__" [v] h)) Q := w
    unfold truR at w
    obtain ⟨r0, h1, e2, w⟩ := w.bind
    cases efi : G.fi cc "__len__" with
    | none =>
      rw [fx.badI _ _ _ _ efi] at e2
      cases e2
    | some fi =>
      have M := fx.meth cc _ fi hc efi
      rcases fx.ini with h0 | ⟨d', rfl, hi⟩
      · rw [fx.ini0 h0] at e2
        cases e2
      · obtain ⟨fd, hf⟩ := hi G.U cc "__len__" fi efi
        have hr : Room d' X.A.in1.in1.in1 := ⟨fx.room.hd, by have := fx.room.dp; show X.A.depth + 3 * d' + 5 < _; omega, by have := fx.room.un; show X.A.units + 1 + 1 + 1 + 16 * d' + 200 < _; omega⟩
        refine bool_own (K := X.K) (Cl := G.ca cc) (f := G.fa cc "__len__") K1 J (by rw [fx.K]; exact (fx.own cc hc).nb) (by rw [fx.K]; exact M.at_) (by rw [fx.K]; exact M.fn) ?_
        refine wpAny_mono (run_own (A := X.A.in1.in1.in1) (sem := C.ini) (us := [.ref p]) (xs := [.ref p]) (ls := [v]) (Q := fun y H' => ∃ i : Int, y = .int i ∧ (0 ≤ i ∧ i < 2 ^ 63) ∧ Q (.bl (i != 0)) H') rfl hf fx.K hr I (.cons rfl .nil) (fx.ar1 cc hc _ (by decide) fi efi) rfl rl (Rs.one r) ?_) (fun u2 s2 z => ?_) fun _ _ z => z
        · rw [e2]
          intro m2 F2 H2 y lm l rl2 ry
          split at w
          · split at w
            · rename_i i hi2
              exact ⟨i, ry, hi2, w m2 F2 H2 _ lm l rl2 rfl⟩
            · exact False.elim w
          · exact False.elim w
        · obtain ⟨y, H2, I2, ry, i, rfl, hi2, q⟩ := z
          obtain ⟨t, rfl⟩ := (show ∃ t, u2 = Value.int i t from ry)
          exact ⟨i, t, rfl, hi2, .bl (i != 0), H2, I2.tok _, rfl, q⟩
end
end Mi
/-! MINI: sorted(set(texts)) -/
namespace Mi
open PySem PySem.Spec PyProof.Rows L2
/-- the text of an entry -/
def kS (e : Int × Value) : Str := match e.2 with
  | .str k _ => k
  | _ => Str.empty
def GoodS (P : Program) (w : World) (e : Int × Value) : Prop := ∃ k tk, e.2 = Value.str k tk ∧ e.1 = (strKind P w).hash k
/-- a set of texts: L its members, in some order -/
def SetS (P : Program) (w : World) (h : Heap) (a : Addr) (L : List Str) : Prop :=
  ∃ o es ep t, h.get? a = some o ∧ o.ExactSet ∧ o.data = .set es ep t ∧ (∀ e ∈ es.toList, GoodS P w e) ∧ (es.toList.map kS).Perm L ∧ L.Nodup ∧
    es.size < scanBound ∧ t.fits es.size = true ∧ Ris t.place.toList ∧ (w.params.followText "set-order" = true ∨ t.led = true)
section
variable {P : Program} {w : World} {h h' : Heap} {a : Addr} {L : List Str}
theorem SetS.at (R : SetS P w h a L) (k : ∀ o, h.get? a = some o → h'.get? a = some o) : SetS P w h' a L := by
  obtain ⟨o, es, ep, t, ho, r⟩ := R
  exact ⟨o, es, ep, t, k o ho, r⟩
theorem goodS_is {e : Int × Value} (g : GoodS P w e) (k : Str) : (strKind P w).is k e.2 = true ↔ kS e = k := by
  obtain ⟨k0, tk, h1, _⟩ := g
  unfold kS
  rw [h1]
  show (Value.isStrOf k (.str k0 tk) = true) ↔ k0 = k
  simp [Value.isStrOf]
theorem goodS_elems {l : List (Int × Value)} (g : ∀ e ∈ l, GoodS P w e) : ElemsOf (strKind P w) l := fun e he => by
  obtain ⟨k, tk, h1, h2⟩ := g e he
  exact ⟨⟨k, by rw [h1]; exact strKind_is P w k tk, h2⟩, by rw [h1] <;> rfl⟩
theorem goodS_mem {l : List (Int × Value)} (g : ∀ e ∈ l, GoodS P w e) (k : Str) : k ∈ l.map kS ↔ ∃ e ∈ l, (strKind P w).is k e.2 = true := by
  rw [List.mem_map]
  exact ⟨fun ⟨e, he, q⟩ => ⟨e, he, (goodS_is (g e he) k).2 q⟩, fun ⟨e, he, q⟩ => ⟨e, he, (goodS_is (g e he) k).1 q⟩⟩
theorem SetS.len (R : SetS P w h a L) : L.length < scanBound := by
  obtain ⟨o, es, ep, t, ho, hx, hd, g, pm, nd, hb, r⟩ := R
  have := pm.length_eq
  rw [List.length_map, Array.length_toList] at this
  omega
end
section
variable {P : Program} {w : World} {A : Around} {E : Value → Shared → Prop} {s : Shared} {a : Addr} {L : List Str}
theorem setS_tail {g : Bool → Sem Unit} (hg : ∀ (b : Bool) (s₁ : Shared) (Q' : Unit → Shared → Prop), Q' () s₁ → wpAny (model P w) A (g b) Q' E s₁)
    {o : Obj} {es : Array (Int × Value)} {ep : Nat} {t : SetTable} (ho : s.heap.get? a = some o) (hex : o.ExactSet) (hd : o.data = .set es ep t)
    {es1 : Array (Int × Value)} {t2 : SetTable} {L' : List Str} (g1 : ∀ e ∈ es1.toList, GoodS P w e) (p1 : (es1.toList.map kS).Perm L') (nd1 : L'.Nodup)
    (hb1 : es1.size < scanBound) (hf2 : t2.fits es1.size = true) (hr : Ris t2.place.toList) (hl : w.params.followText "set-order" = true ∨ t2.led = true) {wasDummy : Bool} {R : Option Bool → Shared → Prop}
    (hR : ∀ h', Heap.SameBut a s.heap h' → SetS P w h' a L' → R (some true) { s with heap := h' }) :
    wpAny (model P w) A (do
        storeSet a es1 t2
        if (!wasDummy && t2.tooFull) = true then do
            g (relayAll t2 es1 (SetTable.grown es1.size)).2.2
            storeSet a (relayAll t2 es1 (SetTable.grown es1.size)).1 (relayAll t2 es1 (SetTable.grown es1.size)).2.1
            pure (some true)
          else pure (some true)) R E s := by
  have same := Heap.SameBut.update s.heap a (Obj.putSet es1 t2)
  have at1 := store_at (es' := es1) (t' := t2) ho hd
  refine wpAny_bind (wpAny_storeSet_of ho hd ?_ (fits_of_scanBound hb1))
  by_cases hc : (!wasDummy && t2.tooFull) = true
  · rw [if_pos hc]
    have q1 := relayAll_perm t2 es1 (SetTable.grown es1.size)
    have q2 := relayAll_fits t2 es1 (SetTable.grown es1.size)
    have q3 := relayAll_ris t2 es1 (SetTable.grown es1.size)
    have q4 := relayAll_led t2 es1 (SetTable.grown es1.size)
    generalize relayAll t2 es1 (SetTable.grown es1.size) = Z at q1 q2 q3 q4 ⊢
    obtain ⟨es2, t3, gave⟩ := Z
    dsimp only at q1 q2 q3 q4 ⊢
    have sz : es2.size = es1.size := by
      have := q1.length_eq
      rw [Array.length_toList, Array.length_toList] at this
      exact this
    refine wpAny_bind (hg _ _ _ (wpAny_bind (wpAny_storeSet_of at1 rfl ?_ (fits_of_scanBound (by rw [sz]; exact hb1)))))
    refine wpAny_pure (hR _ (same.trans (Heap.SameBut.update _ a _)) ⟨_, es2, _, t3, store_at (es' := es2) (t' := t3) at1 rfl, hex, rfl, fun e he => g1 e (q1.mem_iff.mp he), (q1.map kS).trans p1, nd1, by rw [sz]; exact hb1, q2, q3, ?_⟩)
    exact hl.imp id fun z => by rw [q4]; exact z
  · rw [if_neg hc]
    exact wpAny_pure (hR _ same ⟨_, es1, _, t2, at1, hex, rfl, g1, p1, nd1, hb1, hf2, hr, hl⟩)
theorem setS_add {k : Str} {tk : Tok} {Q : Bool → Shared → Prop} (R : SetS P w s.heap a L) (room : L.length + 1 < scanBound)
    (hQ : ∀ h' b, Heap.SameBut a s.heap h' → SetS P w h' a (if k ∈ L then L else k :: L) → Q b { s with heap := h' }) :
    wpAny (model P w) A (setAddHashed a (.str k tk) ((strKind P w).hash k)) Q E s := by
  obtain ⟨o, es, ep, t, ho, hex, hd, g, pm, nd, hb, hf, hr, hl⟩ := R
  have hkey : (strKind P w).is k (.str k tk) = true := strKind_is P w k tk
  have hsc : (Value.str k tk).scannable = true := rfl
  have hel : ElemsOf (strKind P w) es.toList := goodS_elems g
  have hin : k ∈ L ↔ ∃ e ∈ es.toList, (strKind P w).is k e.2 = true := by
    rw [← pm.mem_iff]
    exact goodS_mem g k
  unfold setAddHashed setAddHashedIn
  refine wpAny_holding (wpAny_bind (wpAny_setState_of ho hd hf ?_))
  dsimp only
  rw [byScan_of hsc hb hel]
  simp only [↓reduceIte]
  unfold setAddByScan
  refine wpAny_bind (wpAny_bind (wpAny_rule (wpAny_bind (wpAny_setScan_of hkey ho hd hf hel ?_))))
  cases hfi : List.findIdx? (fun e => (strKind P w).is k e.2) es.toList with
  | some j =>
    dsimp only
    obtain ⟨hj, pj, _⟩ := List.findIdx?_eq_some_iff_getElem.mp hfi
    have hk : k ∈ L := hin.mpr ⟨es.toList[j], List.getElem_mem hj, pj⟩
    exact wpAny_pure (wpAny_pure (hQ s.heap _ (Heap.SameBut.refl a s.heap) (by rw [if_pos hk]; exact ⟨o, es, ep, t, ho, hex, hd, g, pm, nd, hb, hf, hr, hl⟩)))
  | none =>
    dsimp only
    have hk : k ∉ L := fun z => by
      obtain ⟨e, he, q⟩ := hin.mp z
      have c := List.findIdx?_eq_none_iff.mp hfi e he
      rw [q] at c
      cases c
    have hgw : ∀ (b : Bool) {s₁ : Shared} {Q' : Unit → Shared → Prop}, Q' () s₁ → wpAny (model P w) A (match b with
        | true => rule "set.scan.the-table-gave-way"
        | false => pure ()) Q' E s₁ := fun b s₁ Q' q => by
      cases b
      · exact wpAny_pure q
      · exact wpAny_rule q
    have z1 := layNew_perm t es ((strKind P w).hash k) (.str k tk)
    have z2 := layNew_fits t es ((strKind P w).hash k) (.str k tk)
    have z3 := layNew_ris t es ((strKind P w).hash k) (.str k tk) hr
    have z4 := layNew_led t es ((strKind P w).hash k) (.str k tk)
    generalize layNew t es ((strKind P w).hash k) (.str k tk) = Z at z1 z2 z3 z4 ⊢
    obtain ⟨es1, t1, wasDummy, gave⟩ := Z
    dsimp only at z1 z2 z3 z4 ⊢
    rw [Array.toList_push] at z1
    have pc : es1.toList.Perm (((strKind P w).hash k, Value.str k tk) :: es.toList) := z1.trans (List.perm_append_singleton _ _)
    have pk : (es1.toList.map kS).Perm (k :: L) := (pc.map kS).trans (List.Perm.cons k pm)
    have g1 : ∀ e ∈ es1.toList, GoodS P w e := fun e he => by
      rcases List.mem_cons.mp (pc.mem_iff.mp he) with z | z
      · exact ⟨k, tk, by rw [z], by rw [z]⟩
      · exact g e z
    have nd1 : (k :: L).Nodup := List.nodup_cons.mpr ⟨hk, nd⟩
    have hb1 : es1.size < scanBound := by
      have := pk.length_eq
      rw [List.length_map, Array.length_toList, List.length_cons] at this
      omega
    have hled : w.params.followText "set-order" = true ∨ t1.led = true := hl.imp id fun z => by rw [z4]; exact z
    have fin : ∀ b h', Heap.SameBut a s.heap h' → SetS P w h' a (k :: L) → Q b { s with heap := h' } := fun b h' sb r => hQ h' b sb (by rw [if_neg hk]; exact r)
    have tl : ∀ (b : Bool) (s₁ : Shared) (Q' : Unit → Shared → Prop), Q' () s₁ → wpAny (model P w) A (match b with
        | true => rule "set.resize.the-table-gave-way"
        | false => pure ()) Q' E s₁ := fun b s₁ Q' q => by
      cases b
      · exact wpAny_pure q
      · exact wpAny_rule q
    refine wpAny_bind (hgw _ ?_)
    split
    · refine wpAny_bind ?_
      rw [hashByValue_scannable 8 hsc]
      refine wpAny_pure ?_
      refine setS_tail ?_ ho hex hd g1 pk nd1 hb1 ?_ ?_ ?_ ?_
      · intro b s₁ Q' q
        cases b <;> first | exact wpAny_pure q | exact wpAny_rule q
      · first | (split <;> first | exact z2 | exact SetTable.fits_plain_off z2) | exact z2
      · first | (split <;> exact z3) | exact z3
      · first | (split <;> exact hled) | exact hled
      · intro h' sb r
        dsimp only
        exact wpAny_pure (fin _ h' sb r)
    · refine wpAny_bind (wpAny_pure ?_)
      simp only [↓reduceIte]
      refine setS_tail ?_ ho hex hd g1 pk nd1 hb1 z2 z3 hled ?_
      · intro b s₁ Q' q
        cases b <;> first | exact wpAny_pure q | exact wpAny_rule q
      · intro h' sb r
        dsimp only
        exact wpAny_pure (fin _ h' sb r)
end
/-- the members, each once -/
def uniq : List Str → List Str → List Str
  | acc, [] => acc
  | acc, k :: r => uniq (if k ∈ acc then acc else k :: acc) r
theorem uniq_mem : ∀ (l acc : List Str) (k : Str), k ∈ uniq acc l ↔ k ∈ acc ∨ k ∈ l
  | [], acc, k => by simp [uniq]
  | x :: l, acc, k => by
    unfold uniq
    rw [uniq_mem l]
    by_cases h : x ∈ acc
    · rw [if_pos h, List.mem_cons]
      constructor
      · rintro (z | z)
        · exact .inl z
        · exact .inr (.inr z)
      · rintro (z | rfl | z)
        · exact .inl z
        · exact .inl h
        · exact .inr z
    · rw [if_neg h, List.mem_cons, List.mem_cons]
      constructor
      · rintro ((z | z) | z)
        · exact .inr (.inl z)
        · exact .inl z
        · exact .inr (.inr z)
      · rintro (z | z | z)
        · exact .inl (.inr z)
        · exact .inl (.inl z)
        · exact .inr z
/-- a new set -/
abbrev setO (w : World) : Obj := { cls := .type "set", dict := none, data := .set #[] 0 (.fresh 0 0 (!w.params.followText "set-order")) }
theorem setS_new {P : Program} {w : World} {h : Heap} {a : Addr} (ho : h.get? a = some (setO w)) : SetS P w h a [] :=
  ⟨_, #[], 0, _, ho, ⟨rfl, rfl, rfl⟩, rfl, (fun e he => by simp at he), (by simp), List.nodup_nil, (by decide), (by rfl), List.Pairwise.nil, by
    show _ ∨ (!w.params.followText "set-order") = true
    cases w.params.followText "set-order"
    · exact .inr rfl
    · exact .inl rfl⟩
section
variable {P : Program} {w : World} {A : Around} {E : Value → Shared → Prop} {s : Shared}
theorem setS_loop {I : Addr} {fp wr : List Addr} {G : Array GenState → Array GenState → Prop} {n : Nat} {Pv : Nat → Value → Prop} {St : Nat → Shared → Prop} {R : Result → Shared → Prop}
    (W : WalksS P w A.in1 I fp wr G n Pv St) (D : Addr) (hD : D ∉ fp) (zs : List Str) (hn : n = zs.length) (hb : zs.length + 1 < scanBound) (hval : ∀ i v, Pv i v → ∃ k t, zs[i]? = some k ∧ v = .str k t) :
    ∀ (k i : Nat) (L : List Str) (s : Shared), n - i = k → i ≤ n → St i s → L.length ≤ i → SetS P w s.heap D L →
      (∀ s', Moved (D :: wr) G s s' → SetS P w s'.heap D (uniq L (zs.drop i)) → R (.ok (.ret .none)) s') →
      codeAny (model P w) A (.builtin "set.update.loop" ⟨[.ref D, .ref I], []⟩) R s := by
  have hw : D ∉ wr := fun h => hD (W.sub _ h)
  have sub : ∀ b ∈ wr, b ∈ D :: wr := fun b hb => List.mem_cons_of_mem _ hb
  intro k
  induction k with
  | zero =>
    intro i L s hk hi hst hL hS hR
    refine codeAny_builtin F.entry_set_update_loop ?_
    rw [Around.under_plainId F.plain_set_update_loop _]
    show wpAny _ A.in1 (pyNext (.ref I) >>= _) _ _ s
    have hin : i = n := by omega
    subst hin
    refine wpAny_bind (W.done s _ _ hst fun s' hm => ?_)
    show wpAny _ A.in1 (ret Value.none) _ _ s'
    have ed : zs.drop i = [] := List.drop_of_length_le (by omega)
    refine wpAny_pure (hR s' (hm.mono sub) ?_)
    rw [ed]
    exact hS.at fun o e => hm.heap D o hw e
  | succ k ih =>
    intro i L s hk hi hst hL hS hR
    have hlt : i < n := by omega
    refine codeAny_builtin F.entry_set_update_loop ?_
    rw [Around.under_plainId F.plain_set_update_loop _]
    show wpAny _ A.in1 (pyNext (.ref I) >>= _) _ _ s
    refine wpAny_bind (W.item i s _ _ hlt hst fun v s' hP hst' hm => ?_)
    obtain ⟨z, t, hz, rfl⟩ := hval i v hP
    have ed : zs.drop i = z :: zs.drop (i + 1) := by
      have hiz : i < zs.length := by omega
      rw [List.drop_eq_getElem_cons hiz]
      rw [List.getElem?_eq_getElem hiz] at hz
      cases hz
      rfl
    have hS' : SetS P w s'.heap D L := hS.at fun o e => hm.heap D o hw e
    show wpAny _ A.in1 (holding [Value.str z t] (setAdd D (.str z t)) >>= _) _ _ s'
    refine wpAny_bind (wpAny_holding ?_)
    unfold setAdd
    refine wpAny_holding (wpAny_bind ((PySem.strKind P w).pyHash (k := z) (strKind_is _ _ _ _) ?_))
    refine setS_add (s := { s' with toks := s'.toks + 1 }) hS' (by omega) fun h' b hsb hS2 => ?_
    refine wpAny_pure ⟨plainId_quiet F.plain_set_update_loop _, ih (i + 1) (if z ∈ L then L else z :: L) _ (by omega) hlt (W.frame _ s' _ _ hst' (Nat.le_succ _) fun b hb o e => ?_) ?_ hS2 fun s'' hm'' hS'' => ?_⟩
    · rw [hsb.2 b (fun h : b = D => hD (by rw [← h]; exact hb))]
      exact e
    · split
      · omega
      · rw [List.length_cons]
        omega
    · refine hR s'' (Moved.trans W.gtrans ((hm.mono sub).then_heap (Nat.le_succ _) fun b o hb e => ?_) hm'') ?_
      · rw [hsb.2 b (fun h : b = D => hb (by rw [h]; exact List.mem_cons_self))]
        exact e
      · rw [ed]
        exact hS''
/-- set(xs) of texts -/
theorem call_setS {l : Addr} {items : Array Value} (zs : List Str) {Q : Value → Shared → Prop} (hh : A.handled = none) (hl : s.heap.IsList l items) (hit : StrsAre items.toList zs) (hb : zs.length + 1 < scanBound)
    (h : ∀ (h' : Heap) (tk : Nat), SetS P w h' s.heap.objs.size (uniq [] zs) → (∀ b o, s.heap.get? b = some o → h'.get? b = some o) → Q (.ref s.heap.objs.size) { s with heap := h', toks := tk }) :
    wpAny (model P w) A (call (.type "set") [.ref l]) Q E s := by
  have hisz : items.size = zs.length := by rw [← StrsAre.len_eq hit, Array.length_toList]
  obtain ⟨c, tl, hmro⟩ := F.called_set.mro
  have hmade := F.called_set.made
  have hsub := F.called_set.sub
  refine wpAny_call (codeAny_of_tree ?_)
  show wpAny _ _ (callAny (.type "set") _) _ _ _
  refine wpAny_pure ⟨Code.quiet_builtin _ (by decide +kernel), codeAny_builtin F.entry_type_call ?_⟩
  rw [Around.under_plain (weight_type_call_type "set" [.ref l] []) rfl]
  have h1 := F.called_set.notType
  have h2 := F.called_set.canCreate
  have hct := F.typeCall_set_1 (.ref l)
  repeat (any_goals (first | assumption | wp_step))
  refine codeAny_mono (code_set_led1 (.ref l) (E := E) (Q₁ := fun obj s₁ => obj = .ref s.heap.objs.size ∧ s₁ = { s with heap := s.heap.push (setO w) }) ⟨rfl, rfl⟩) fun r s₁ hr => ?_
  cases r with
  | error e => exact hr
  | ok fl =>
    cases fl with
    | ret obj =>
      obtain ⟨rfl, rfl⟩ := hr
      have hS : (s.heap.push (setO w)).get? s.heap.objs.size = some (setO w) := Heap.get?_push_size _ rfl
      have hT : Shared.TypeIs { s with heap := s.heap.push (setO w) } (.ref s.heap.objs.size) "set" := ⟨_, hS, rfl⟩
      have hli := F.called_set.init.lookup
      have hbi := F.called_set.init.bind (.ref s.heap.objs.size)
      repeat (any_goals (first | assumption | wp_step))
      refine codeAny_mono (codeAny_call_builtin (R := wants (fun r s₂ => r = .none ∧ ∃ h' tk, s₂ = { s with heap := h', toks := tk } ∧ SetS P w h' s.heap.objs.size (uniq [] zs) ∧
          (∀ b o, s.heap.get? b = some o → h'.get? b = some o)) E) F.called_set.init.plain F.entry_set_init (check_set_init_1 hT ?_)) fun r₂ s₂ hr₂ => ?_
      · obtain ⟨ol, hol, hcl, nl, hdl⟩ := hl
        obtain ⟨ocls, odict, odata, oslots⟩ := ol
        simp only at hcl hdl
        subst hcl
        subst hdl
        have hol' : (s.heap.push (setO w)).get? l = some { cls := .type "list", dict := odict, data := .seq items nl, slots := oslots } := Heap.get?_push_of_some _ hol
        have hsls := F.sub_list_set
        have hslf := F.sub_list_frozenset
        have hne : (Value.type "list" == Value.type "dict") = false := by decide
        have hl1 : (s.heap.push (setO w)).IsList l items := ⟨_, hol', rfl, nl, rfl⟩
        unfold Builtin.«set.__init__» noKeywords Builtin.Frozenset.updateFrom
        generalize hPI : pyIter = PI
        wp_walk
        subst hPI
        refine wpAny_pyIter_list hl1 (wpAny_bind (wpAny_runValue ?_))
        have hlS : l < s.heap.objs.size := Heap.lt_size hol
        have hh3 : A.in1.in1.in1.handled = none := by simp [hh]
        have hneI : l ≠ (s.heap.push (setO w)).objs.size := by
          rw [Heap.size_push]
          exact Nat.ne_of_lt (Nat.lt_succ_of_lt hlS)
        have hSf : s.heap.objs.size ∉ [(s.heap.push (setO w)).objs.size, l] := by
          rw [Heap.size_push]
          simp only [List.mem_cons, List.not_mem_nil, or_false, not_or]
          exact ⟨Nat.ne_of_lt (Nat.lt_succ_self _), Nat.ne_of_gt hlS⟩
        have hval : ∀ (i : Nat) (v : Value), items[i]? = some v → ∃ k t, zs[i]? = some k ∧ v = .str k t := fun i v hv => by
          have hi : i < zs.length := by rw [← hisz]; exact (Array.getElem?_eq_some_iff.mp hv).1
          obtain ⟨t, e⟩ := SS.strs_at hit i v (by rw [Array.getElem?_toList]; exact hv)
          refine ⟨zs[i], t, List.getElem?_eq_getElem hi, ?_⟩
          rw [e, List.getD_eq_getElem?_getD, List.getElem?_eq_getElem hi] <;> rfl
        refine setS_loop ((Walks.list hh3 _ l hneI items).toS) s.heap.objs.size hSf zs hisz hb hval (items.size - 0) 0 [] _ (by omega) (Nat.zero_le _)
          ⟨⟨_, Heap.get?_push_size _ rfl, rfl, rfl⟩, (hl1.push _)⟩ (Nat.le_refl _) ?hS0 ?hR
        case hS0 => exact setS_new (Heap.get?_push_of_some _ hS)
        case hR =>
          intro s' hm hS'
          obtain ⟨h', g2, d', tk', os'⟩ := s'
          have eg : g2 = s.gens := hm.gens
          have ed : d' = s.drawn := hm.drawn
          have eo : os' = s.os := hm.os
          subst eg
          subst ed
          subst eo
          show wpAny _ _ _ _ _ _
          refine wpAny_pure ?_
          show wpAny _ _ (ret Value.none) _ _ _
          refine wpAny_pure ⟨rfl, h', tk', rfl, hS', fun b o e => ?_⟩
          have hb0 : b < s.heap.objs.size := Heap.lt_size e
          refine hm.heap b o ?_ (Heap.get?_push_of_some _ (Heap.get?_push_of_some _ e))
          rw [Heap.size_push]
          simp only [List.mem_cons, List.not_mem_nil, or_false, not_or]
          exact ⟨Nat.ne_of_lt hb0, Nat.ne_of_lt (Nat.lt_succ_of_lt hb0)⟩
      · cases r₂ with
        | error e => exact hr₂
        | ok fl₂ =>
          cases fl₂ with
          | ret r =>
            obtain ⟨rfl, h', tk, rfl, hS', hk'⟩ := hr₂
            repeat (any_goals (first | assumption | wp_step))
            exact h _ _ hS' hk'
          | _ => exact hr₂.elim
    | _ => exact hr.elim
theorem strs_perm {vs us : List Value} (p : vs.Perm us) {ss : List Str} (h : StrsAre us ss) : ∃ zs, StrsAre vs zs ∧ zs.Perm ss := by
  have hv : ∀ v, v ∈ vs → ∃ x t, v = Value.str x t := fun v hv => h.all v (p.mem_iff.mp hv)
  refine ⟨vs.map strOf, strsAre_map vs hv, ?_⟩
  rw [← h.strs]
  exact p.map strOf
/-- sorted(found) -/
theorem sorted_setS {a : Addr} {L : List Str} {Q : Value → Shared → Prop} (R : SetS P w s.heap a L) (hh : A.handled = none)
    (hQ : ∀ s' p (out : Array Value) (c : Nat) (ys : List Str), (∀ b o, s.heap.get? b = some o → s'.heap.get? b = some o) → s'.gens = s.gens → s'.os = s.os → s.heap.objs.size ≤ p →
      s'.heap.get? p = some (seqObj "list" out c) → StrsAre out.toList ys → sortedS ys = true → ys.Perm L → Q (.ref p) s') :
    wpAny (model P w) A (call (.builtin "sorted") [.ref a]) Q E s := by
  have hlen := R.len
  obtain ⟨o, es, ep, t, ho, hex, hd, g, pm, nd, hb, hf, hr, hl⟩ := R
  refine Calls.call_function_entry kind_sorted plain_sorted entry_sorted (args_sorted1 _) ?_
  unfold Builtin.«sorted»
  refine wpAny_bind (m := checkCount "sorted" 1 1 _) (wpAny_pure ?_)
  refine wpAny_bind (collect_set (A := A.in1) hh ⟨o, ho, hex.1, hd⟩ hf hb hr hl fun s1 vs k1 hz g1 o1 pv => ?_)
  have hE : StrsAre (es.toList.map (·.2)) (es.toList.map kS) := by
    clear pv pm ho hd hf hb
    generalize es.toList = l at g
    induction l with
    | nil => exact .nil
    | cons e l ih =>
      obtain ⟨k, tk, q1, q2⟩ := g e List.mem_cons_self
      rw [List.map_cons, List.map_cons]
      have : kS e = k := by
        unfold kS
        rw [q1]
      rw [this, q1]
      exact .cons k tk (ih fun u hu => g u (List.mem_cons_of_mem _ hu))
  obtain ⟨zs, hzs, pz⟩ := strs_perm pv hE
  have pL := pz.trans pm
  have hvl : vs.length ≤ sizeLine := by
    have e1 := hzs.len_eq
    have e2 := pL.length_eq
    have e3 : scanBound ≤ sizeLine := by decide
    omega
  refine wpAny_bind (wpAny_newList ?_ hvl)
  have hoL : (s1.heap.push (seqObj "list" vs.toArray 0)).get? s1.heap.objs.size = some (seqObj "list" vs.toArray 0) := Heap.get?_push_size _ rfl
  refine wpAny_bind (wpAny_holding (wpAny_call_entry slot_list_sort ⟨_, hoL, rfl⟩ entry_list_sort (list_sort_treeKAny strKind_oneLt hoL hzs.keysOf (fun v₁ v₂ rest e => keyKind_strs (by rw [← e]; exact hzs)) hvl fun st' hp hs => ⟨_, rfl, ?_⟩) (args_list_sort _)))
  obtain ⟨ys, y1, y2, y3⟩ := sorted_out_str hzs hp hs
  obtain ⟨c, hc⟩ := sortedHeap_at (vs := vs) (out := (arrOf st').map (·.2)) hoL
  refine wpAny_pure ⟨_, rfl, hQ _ s1.heap.objs.size _ c ys (fun b u e => ?_) g1 o1 hz hc y1 y3 (y2.trans pL)⟩
  have q := k1 b u e
  have hlt := Heap.lt_size q
  show (sortedHeap (s1.heap.push (seqObj "list" vs.toArray 0)) s1.heap.objs.size vs _).get? b = some u
  rw [sortedHeap_old (Nat.ne_of_lt hlt) (by rw [size_push']; exact Nat.lt_succ_of_lt hlt)]
  exact Heap.get?_push_of_some _ q
end
/-! ### the order of texts -/
theorem insS_mem {x y : Tx} : ∀ {l : List Tx}, y ∈ insS x l ↔ y = x ∨ y ∈ l
  | [] => by simp [insS]
  | z :: l => by
    unfold insS
    split
    · rw [List.mem_cons, insS_mem (l := l), List.mem_cons]
      constructor
      · rintro (h | h | h)
        · exact .inr (.inl h)
        · exact .inl h
        · exact .inr (.inr h)
      · rintro (h | h | h)
        · exact .inr (.inl h)
        · exact .inl h
        · exact .inr (.inr h)
    · rw [List.mem_cons]
theorem insS_perm (x : Tx) : ∀ l : List Tx, (insS x l).Perm (x :: l)
  | [] => List.Perm.refl _
  | z :: l => by
    unfold insS
    split
    · exact (List.Perm.cons z (insS_perm x l)).trans (List.Perm.swap _ _ _)
    · exact List.Perm.refl _
theorem sortS_perm : ∀ l : List Tx, (sortS l).Perm l
  | [] => List.Perm.refl _
  | x :: l => (insS_perm x _).trans (List.Perm.cons x (sortS_perm l))
def leT (a b : Tx) : Prop := ¬ b < a
theorem leT_trans {a b c : Tx} (h1 : leT a b) (h2 : leT b c) : leT a c := by
  unfold leT at *
  rw [List.not_lt] at *
  exact List.le_trans h1 h2
theorem leT_of_lt {a b : Tx} (h : a < b) : leT a b := List.lt_asymm h
theorem insS_sorted (x : Tx) : ∀ {l : List Tx}, l.Pairwise leT → (insS x l).Pairwise leT
  | [], _ => List.pairwise_singleton _ _
  | z :: l, h => by
    obtain ⟨h1, h2⟩ := List.pairwise_cons.mp h
    unfold insS
    split
    · rename_i hz
      refine List.pairwise_cons.mpr ⟨fun y hy => ?_, insS_sorted x h2⟩
      rcases insS_mem.mp hy with rfl | hy
      · exact leT_of_lt hz
      · exact h1 y hy
    · rename_i hz
      refine List.pairwise_cons.mpr ⟨fun y hy => ?_, h⟩
      rcases List.mem_cons.mp hy with rfl | hy
      · exact hz
      · exact leT_trans hz (h1 y hy)
theorem sortS_sorted : ∀ l : List Tx, (sortS l).Pairwise leT
  | [] => List.Pairwise.nil
  | x :: l => insS_sorted x (sortS_sorted l)
theorem sorted_uniq {l m : List Tx} (hl : l.Pairwise leT) (hm : m.Pairwise leT) (p : l.Perm m) : l = m :=
  List.Perm.eq_of_pairwise (fun a b _ _ h1 h2 => List.le_antisymm (List.not_lt.mp h1) (List.not_lt.mp h2)) hl hm p
theorem insU_mem {x y : Tx} : ∀ {l : List Tx}, y ∈ insU x l ↔ y = x ∨ y ∈ l
  | [] => by simp [insU]
  | z :: l => by
    unfold insU
    split
    · rename_i e
      subst e
      rw [List.mem_cons]
      exact ⟨fun h => .inr h, fun h => h.elim .inl id⟩
    · split
      · rw [List.mem_cons, insU_mem (l := l), List.mem_cons]
        constructor
        · rintro (h | h | h)
          · exact .inr (.inl h)
          · exact .inl h
          · exact .inr (.inr h)
        · rintro (h | h | h)
          · exact .inr (.inl h)
          · exact .inl h
          · exact .inr (.inr h)
      · rw [List.mem_cons]
theorem insU_sorted (x : Tx) : ∀ {l : List Tx}, l.Pairwise (· < ·) → (insU x l).Pairwise (· < ·)
  | [], _ => List.pairwise_singleton _ _
  | z :: l, h => by
    obtain ⟨h1, h2⟩ := List.pairwise_cons.mp h
    unfold insU
    split
    · exact h
    · rename_i hn
      split
      · rename_i hz
        refine List.pairwise_cons.mpr ⟨fun y hy => ?_, insU_sorted x h2⟩
        rcases insU_mem.mp hy with rfl | hy
        · exact hz
        · exact h1 y hy
      · rename_i hz
        have hlt : x < z := by
          by_cases hx : x < z
          · exact hx
          · exact absurd (List.le_antisymm (List.not_lt.mp hz) (List.not_lt.mp hx)) hn
        refine List.pairwise_cons.mpr ⟨fun y hy => ?_, h⟩
        rcases List.mem_cons.mp hy with rfl | hy
        · exact hlt
        · exact List.lt_trans hlt (h1 y hy)
theorem sortU_sorted : ∀ l : List Tx, (sortU l).Pairwise (· < ·)
  | [] => List.Pairwise.nil
  | x :: l => insU_sorted x (sortU_sorted l)
theorem sortU_mem {y : Tx} : ∀ {l : List Tx}, y ∈ sortU l ↔ y ∈ l
  | [] => Iff.rfl
  | x :: l => by
    unfold sortU
    rw [insU_mem, sortU_mem (l := l), List.mem_cons]
theorem sortU_nodup (l : List Tx) : (sortU l).Nodup := (sortU_sorted l).imp fun h e => by
  subst e
  exact List.lt_irrefl _ h
theorem sortU_le (l : List Tx) : (sortU l).Pairwise leT := (sortU_sorted l).imp fun h => leT_of_lt h
/-- sorted texts of the model -/
theorem risingS_pw : ∀ (p : Str) (l : List Str), risingS p l = true → (p :: l).Pairwise fun a b => leT a.cps.toList b.cps.toList
  | p, [], _ => List.pairwise_singleton _ _
  | p, x :: l, h => by
    unfold risingS at h
    rw [Bool.and_eq_true] at h
    have ih := risingS_pw x l h.2
    have hp : leT p.cps.toList x.cps.toList := by
      have h1 := h.1
      rw [ltCps_eq] at h1
      unfold leT
      simpa using h1
    refine List.pairwise_cons.mpr ⟨fun y hy => ?_, ih⟩
    rcases List.mem_cons.mp hy with rfl | hy
    · exact hp
    · exact leT_trans hp ((List.pairwise_cons.mp ih).1 y hy)
theorem sortedS_pw {l : List Str} (h : sortedS l = true) : (l.map fun z => z.cps.toList).Pairwise leT := by
  cases l with
  | nil => exact List.Pairwise.nil
  | cons x l => exact List.pairwise_map.mpr (risingS_pw x l h)
theorem ss_map (l : List Tx) : (l.map ss).map (fun z : Str => z.cps.toList) = l := by
  rw [List.map_map]
  exact (List.map_congr_left fun z _ => ss_list z).trans (List.map_id l)
theorem ss_bk (s : Str) : ss s.cps.toList = s := by
  cases s
  simp [ss]
theorem map_ss_back (l : List Str) : (l.map fun z => z.cps.toList).map ss = l := by
  rw [List.map_map]
  exact (List.map_congr_left fun z _ => ss_bk z).trans (List.map_id l)
/-- what sorted gives is ours -/
theorem sorted_ours {xs : List Tx} {ys : List Str} (p : ys.Perm (xs.map ss)) (h : sortedS ys = true) : ys = (sortS xs).map ss := by
  have p2 := p.map fun z : Str => z.cps.toList
  rw [ss_map] at p2
  have e := sorted_uniq (sortedS_pw h) (sortS_sorted xs) (p2.trans (sortS_perm xs).symm)
  rw [← e, map_ss_back]
theorem sortedU_ours {xs : List Tx} {ys : List Str} (p : ys.Perm (uniq [] (xs.map ss))) (nd : (uniq [] (xs.map ss)).Nodup) (h : sortedS ys = true) : ys = (sortU xs).map ss := by
  have p2 := p.map fun z : Str => z.cps.toList
  have inj : ∀ a b : Str, a.cps.toList = b.cps.toList → a = b := fun a b e => by
    cases a
    cases b
    simpa using e
  have nd2 : ((uniq [] (xs.map ss)).map fun z : Str => z.cps.toList).Nodup := List.pairwise_map.mpr (nd.imp fun hne e => hne (inj _ _ e))
  have p3 : ((uniq [] (xs.map ss)).map fun z : Str => z.cps.toList).Perm (sortU xs) := (List.perm_ext_iff_of_nodup nd2 (sortU_nodup xs)).mpr fun z => by
    rw [sortU_mem, List.mem_map]
    constructor
    · rintro ⟨k, hk, rfl⟩
      rcases (uniq_mem _ _ _).mp hk with hk | hk
      · exact absurd hk (List.not_mem_nil)
      · obtain ⟨t, ht, rfl⟩ := List.mem_map.mp hk
        rw [ss_list]
        exact ht
    · intro hz
      exact ⟨ss z, (uniq_mem _ _ _).mpr (.inr (List.mem_map.mpr ⟨z, hz, rfl⟩)), ss_list z⟩
  have e := sorted_uniq (sortedS_pw h) (sortU_le xs) (p2.trans p3)
  rw [← e, map_ss_back]
/-! ### the rules -/
/-- a set of texts, as the layer tracks it -/
def SetSO (P : Program) (w : World) (a : Addr) (L : List Str) : HO := .ext fun h => SetS P w h a L
section
variable {X : Cx} {G : Gi} {C : Cs} {d : Nat} {e a b c : Expr} {x y z : Ex} {pos : Pos}
theorem setSO_new {P : Program} {w : World} {H : Hp} {h : Heap} {a : Addr} {L : List Str} (R : SetS P w h a L) : ObjOk P w H h a (SetSO P w a L) := by
  have ⟨o, _, _, _, ho, _⟩ := R
  exact ⟨R, ⟨o, ho⟩, fun h1 h2 p k => p.at k⟩
theorem SetS.nd {P : Program} {w : World} {h : Heap} {a : Addr} {L : List Str} (R : SetS P w h a L) : L.Nodup := by
  obtain ⟨o, es, ep, t, ho, hx, hd, g, pm, nd, r⟩ := R
  exact nd
/-- set(xs) of texts -/
theorem cr_setT (hc : X.calm = true) : CallR X (.type "set") (fun xs H Q => ∃ (a : Addr) (zs : List Str), xs = [.ref a] ∧ SqL X.K H a (zs.map V.str) ∧ zs.length < 4000 ∧ ∀ p, H p = none → (uniq [] zs).Nodup → Q (.ref p) (upd H p (SetSO X.prog X.w p (uniq [] zs)))) := by
  intro pins s σ H xs us Q I r h
  obtain ⟨a, zs, rfl, hs, hl, q⟩ := h
  obtain ⟨its, rv, hl2, _⟩ := I.list hs
  rw [Vals.ref1 r]
  refine call_setS zs (I.ok.hd hc) hl2.isList (by simpa using rv.strs) (by unfold scanBound; omega) fun h' tk R k => ?_
  exact ⟨.ref _, upd H s.heap.objs.size (SetSO X.prog X.w s.heap.objs.size (uniq [] zs)), I.laid (t' := tk) k (Nat.le_refl _) (setSO_new R), rfl, q _ (I.hok.fresh (Nat.le_refl _)) R.nd⟩
/-- sorted(found) of texts -/
theorem cr_sortedU (hc : X.calm = true) : CallR X (.builtin "sorted") (fun xs H Q => ∃ (a : Addr) (L : List Str), xs = [.ref a] ∧ H a = some (SetSO X.prog X.w a L) ∧ ∀ (ys : List Str) p, sortedS ys = true → ys.Perm L → H p = none → Q (.ref p) (upd H p (.lst (ys.map V.str)))) := by
  intro pins s σ H xs us Q I r h
  obtain ⟨a, L, rfl, ha, q⟩ := h
  have R : SetS X.prog X.w s.heap a L := (I.hok a _ ha).1
  rw [Vals.ref1 r]
  refine sorted_setS R (I.ok.hd hc) fun s' p out c ys k g o hp hg hi hs pm => ?_
  have hlen : (ys.map V.str).length ≤ sizeLine := by
    have e1 := pm.length_eq
    have e2 := R.len
    have e3 : scanBound ≤ sizeLine := by decide
    rw [List.length_map]
    omega
  have hn : H p = none := I.hok.fresh hp
  have J : Inv X pins σ (upd H p (.lst (ys.map V.str))) { s with heap := s'.heap, gens := s'.gens, drawn := s'.drawn, toks := s'.toks } :=
    I.call (ch := []) (Un.laid k hp hn) (I.hok.laid k hp ⟨hlen, out.toList, c, vals_of_strs hi, hg⟩) (by rw [g]; exact I.bare) (fun _ z => nomatch z)
  have e : s' = { s with heap := s'.heap, gens := s'.gens, drawn := s'.drawn, toks := s'.toks } := by
    cases s'
    cases s
    cases o
    rfl
  rw [e]
  exact ⟨.ref p, _, J, rfl, q ys p hs pm hn⟩
end
end Mi
/-! MINI: slices, built-ins -/
namespace Mi
open PySem PySem.Spec L2
section
variable {X : Cx} {G : Gi} {C : Cs} {d : Nat} {e a b c : Expr} {x y z : Ex} {pos : Pos}
/-! ### slices -/
theorem cut_R {F : Hp} {m : Mp} {xs : List Vl} {ys : List V} (rs : Rs G F m xs ys) (lo hi : Option Int) : Rs G F m (cut xs lo hi) (cutV ys lo hi) := by
  unfold cut cutV
  rw [rs.length]
  exact (rs.drop _).take _
theorem sOk.sub {s t : Tx} (h : sOk s) (i : ∀ c ∈ t, c ∈ s) : sOk t := fun c hc => h c (i c hc)
theorem cut_sub {α : Type} (s : List α) (lo hi : Option Int) : ∀ c ∈ cut s lo hi, c ∈ s := fun c hc => List.mem_of_mem_drop (List.mem_of_mem_take hc)
def rSlM (G : Gi) (lv : Bool) : V → Option Int → Option Int → Hp → VK → Prop := fun x lo hi H Q => ∃ m F h v, Rel G m F h H ∧ R G F m v x ∧ WpV G m F (slcV lv v lo hi h) Q
theorem slc_ok (hK : X.K = G.K) (lv : Bool) : SlR X (rSlM G lv) := by
  intro pins s σ H x v vl vu lo hi sl Q I rx hs pl pu q
  obtain ⟨m, F, hh, a, rl, ra, w⟩ := q
  unfold slcV at w
  split at w
  · rename_i s1
    split at w
    · rename_i hl
      obtain ⟨ra, oa⟩ := ra
      refine sl_str pins s σ H x v vl vu lo hi sl Q I rx hs pl pu ⟨ss s1, ra, by rw [ss_len]; exact hl, ?_⟩
      have e : cutS (ss s1) lo hi = ss (cut s1 lo hi) := by
        unfold cutS cut
        rw [ss_list, ss_len]
        rfl
      rw [e]
      exact w.here rl ⟨rfl, oa.sub (cut_sub _ _ _)⟩
    · exact False.elim w
  · rename_i xs
    obtain ⟨p, ys, rfl, q, rs⟩ := ra
    refine sl_tupA pins s σ H _ v vl vu lo hi sl Q I rx hs pl pu ⟨p, ys, rfl, by rw [hK]; exact rl.sub.tup q, fun hw => ?_, fun _ l nl => w.tup rl nl (cut_R rs lo hi)⟩
    have e : cutV ys lo hi = ys := by
      unfold cutV
      rw [hw.1, hw.2, List.drop_zero, Nat.sub_zero, List.take_length]
    have rc := cut_R rs lo hi
    rw [e] at rc
    exact w.here rl ⟨p, ys, rfl, q, rc⟩
  · split at w
    · rename_i xs e1
      obtain ⟨p, ys, rfl, q, rs⟩ := lst_ok rl ra e1
      exact sl_list pins s σ H _ v vl vu lo hi sl Q I rx hs pl pu ⟨p, ys, rfl, by rw [hK]; exact q, fun l nl => w.newL rl nl (cut_R rs lo hi)⟩
    · exact False.elim w
/-- a bound of a slice -/
def SO (X : Cx) (G : Gi) (C : Cs) (e : Option Expr) (x : Ex) : Prop := PO X e (fun σ H Q => ∃ m F h r, Rel G m F h H ∧ RE G F m r σ ∧ Wp G (fun _ _ (a b : Option Int) => b = a) m F (if isAbs x then .ok none h else intR (evM C x false r h)) Q)
theorem PO.weak {e : Option Expr} {t t' : TO} (h : PO X e t) (i : ∀ σ H Q, t' σ H Q → t σ H Q) : PO X e t' := ⟨fun pins s σ H Q I q => h.run pins s σ H Q I (i σ H Q q)⟩
theorem so_none : SO X G C none (.cst .non) := PO.weak po_none fun σ H Q w => by
  obtain ⟨m, F, h, r, rl, re, w⟩ := w
  exact Wp.here (show Wp G (fun _ _ (a b : Option Int) => b = a) m F (.ok none h) Q from w) rl rfl
theorem so_some (h : SE X G C e x) (hx : isAbs x = false) : SO X G C (some e) x := PO.weak (po_some h.v) fun σ H Q w => by
  obtain ⟨m, F, hh, r, rl, re, w⟩ := w
  rw [hx] at w
  have w : Wp G (fun _ _ (a b : Option Int) => b = a) m F (intR (evM C x false r hh)) Q := w
  unfold intR at w
  obtain ⟨v, h1, e1, w⟩ := w.bind
  refine ⟨m, F, hh, r, rl, re, ?_⟩
  dsimp only
  rw [e1]
  intro m' F' H' x' lm l rl' rx
  split at w
  · exact ⟨_, rx, w m' F' H' _ lm l rl' rfl⟩
  · exact False.elim w
theorem se_slc (fx : Fx X G C d) (lv : Bool) {lo hi : Option Expr} {p2 : Pos} (ha : SE X G C a x) (hl : SO X G C lo y) (hh : SO X G C hi z) : SE X G C (.Subscript a (.Slice lo hi none p2) pos) (.slc lv x y z) := by
  refine SE.of fx.K (plainT_of rfl) (fun m r h => by rw [evM]) (PE.weak (pe_slice (slc_ok fx.K lv) ha.v hl hh) fun σ H Q w => ?_)
  refine tM_bind (g := fun r x h => (if isAbs y then .ok none h else intR (evM C y false r h)).bind fun y h => (if isAbs z then .ok none h else intR (evM C z false r h)).bind fun z h => slcV lv x y z h) w fun m F h r v x H' rl re rx w => ?_
  obtain ⟨u, h1, e1, w⟩ := w.bind
  refine ⟨m, F, h, r, rl, re, ?_⟩
  rw [e1]
  intro m' F' H2 lo' lm l rl' e2
  subst e2
  obtain ⟨u2, h2, e2, w2⟩ := Wp.bind (w.mono lm l)
  refine ⟨m', F', h1, r, rl', RE.mono l lm _ _ re, ?_⟩
  rw [e2]
  intro m3 F3 H3 hi' lm3 l3 rl3 e3
  subst e3
  exact ⟨m3, F3, h2, v, rl3, R.mono (l.trans l3) (lm.trans lm3) _ _ rx, w2.mono lm3 l3⟩

/-! ### built-in functions -/
theorem bols_ok {F : Hp} {m : Mp} : ∀ {vs : List Vl} {xs : List V} {bs : List Bool}, Rs G F m vs xs → bolsOf vs = some bs → xs = bs.map V.bl
  | [], xs, bs, r, e => by
    have r : xs = [] := r
    have e : [] = bs := Option.some.inj e
    subst r e
    rfl
  | v :: vs, xs, bs, ⟨y, zs, e1, r, rs⟩, e => by
    subst e1
    cases v with
    | bl b =>
      unfold bolsOf at e
      obtain ⟨bs', e2, rfl⟩ := Option.map_eq_some_iff.mp e
      have r : y = .bl b := r
      subst r
      rw [bols_ok rs e2]
      rfl
    | _ => cases e
theorem ints_ok {F : Hp} {m : Mp} : ∀ {vs : List Vl} {xs : List V} {bs : List Int}, Rs G F m vs xs → intsOf vs = some bs → xs = bs.map V.int
  | [], xs, bs, r, e => by
    have r : xs = [] := r
    have e : [] = bs := Option.some.inj e
    subst r e
    rfl
  | v :: vs, xs, bs, ⟨y, zs, e1, r, rs⟩, e => by
    subst e1
    cases v with
    | int b =>
      unfold intsOf at e
      obtain ⟨bs', e2, rfl⟩ := Option.map_eq_some_iff.mp e
      have r : y = .int b := r
      subst r
      rw [ints_ok rs e2]
      rfl
    | _ => cases e
theorem strs_ok {F : Hp} {m : Mp} : ∀ {vs : List Vl} {xs : List V} {bs : List Tx}, Rs G F m vs xs → strsOf vs = some bs → xs = (bs.map ss).map V.str ∧ ∀ s ∈ bs, sOk s
  | [], xs, bs, r, e => by
    have r : xs = [] := r
    have e : [] = bs := Option.some.inj e
    subst r e
    exact ⟨rfl, fun _ h => nomatch h⟩
  | v :: vs, xs, bs, ⟨y, zs, e1, r, rs⟩, e => by
    subst e1
    cases v with
    | str b =>
      unfold strsOf at e
      obtain ⟨bs', e2, rfl⟩ := Option.map_eq_some_iff.mp e
      obtain ⟨r, o⟩ := r
      subst r
      obtain ⟨h1, h2⟩ := strs_ok rs e2
      subst h1
      refine ⟨rfl, fun s hs => ?_⟩
      rcases List.mem_cons.mp hs with rfl | hs
      · exact o
      · exact h2 s hs
    | _ => cases e
theorem one_R {F : Hp} {m : Mp} {v : Vl} {xs : List V} (r : Rs G F m [v] xs) : ∃ x, xs = [x] ∧ R G F m v x := by
  obtain ⟨y, zs, e, r, rs⟩ := r
  have rs : zs = [] := rs
  subst rs
  exact ⟨y, e, r⟩
theorem two_R {F : Hp} {m : Mp} {v u : Vl} {xs : List V} (r : Rs G F m [v, u] xs) : ∃ x y, xs = [x, y] ∧ R G F m v x ∧ R G F m u y := by
  obtain ⟨y, zs, e, r, rs⟩ := r
  obtain ⟨z, rfl, r2⟩ := one_R rs
  exact ⟨y, z, e, r, r2⟩
theorem c_len (fx : Fx X G C d) : CallR X (.builtin "len") (rMs G bLen) := by
  intro pins s σ H xs us Q I r h
  obtain ⟨m, F, hh, vs, rl, rs, w⟩ := h
  unfold bLen at w
  split at w
  · rename_i v
    obtain ⟨x, rfl, rx⟩ := one_R rs
    split at w
    · rename_i n e1
      unfold lenV at e1
      split at e1
      · rename_i s1
        split at e1
        · rename_i hl
          have e1 := Option.some.inj e1
          subst e1
          obtain ⟨rx, _⟩ := rx
          exact call_len pins s σ H _ us Q I r ⟨x, s1.length, rfl, by rw [rx]; exact ⟨by rw [ss_len]; exact hl, by rw [ss_len]⟩, w.here rl rfl⟩
        · cases e1
      · split at e1
        · rename_i zs e2
          have e1 := Option.some.inj e1
          subst e1
          obtain ⟨p, ys, rfl, q, rz⟩ := seq_ok rl rx e2
          refine call_len pins s σ H _ us Q I r ⟨.ref p, zs.length, rfl, ?_, w.here rl rfl⟩
          rcases q with q | q
          · exact .inl ⟨ys, by rw [fx.K]; exact q, by rw [rz.length]⟩
          · exact .inr ⟨ys, by rw [fx.K]; exact q, by rw [rz.length]⟩
        · split at e1
          · rename_i kvs e2
            have e1 := Option.some.inj e1
            subst e1
            obtain ⟨p, ys, rfl, q, rz⟩ := dct_ok rl rx e2
            exact call_lenD pins s σ H _ us Q I r ⟨p, ys, rfl, q, by rw [rz.length]; exact w.here rl rfl⟩
          · cases e1
    · exact False.elim w
  · exact False.elim w
theorem c_abs : CallR X (.builtin "abs") (rMs G bAbs) := by
  intro pins s σ H xs us Q I r h
  obtain ⟨m, F, hh, vs, rl, rs, w⟩ := h
  unfold bAbs at w
  split at w
  · obtain ⟨x, rfl, rx⟩ := one_R rs
    exact call_abs pins s σ H _ us Q I r ⟨_, by rw [show x = _ from rx], w.here rl rfl⟩
  · exact False.elim w
theorem topI_mem : ∀ (ns : List Int) (a : Int), topI a ns ∈ a :: ns
  | [], a => List.mem_cons_self
  | b :: ns, a => by
    unfold topI
    have := topI_mem ns (if b > a then b else a)
    rcases List.mem_cons.mp this with h | h
    · rw [h]
      split
      · exact List.mem_cons_of_mem _ List.mem_cons_self
      · exact List.mem_cons_self
    · exact List.mem_cons_of_mem _ (List.mem_cons_of_mem _ h)
theorem topI_bd : ∀ (ns : List Int) (a : Int), ∀ y ∈ a :: ns, y ≤ topI a ns
  | [], a, y, h => by
    have : y = a := by simpa using h
    subst this
    exact Int.le_refl _
  | b :: ns, a, y, h => by
    unfold topI
    have ih := topI_bd ns (if b > a then b else a)
    have i0 := ih _ List.mem_cons_self
    rcases List.mem_cons.mp h with rfl | h
    · split at i0 <;> split <;> omega
    · rcases List.mem_cons.mp h with rfl | h
      · split at i0 <;> split <;> omega
      · exact ih y (List.mem_cons_of_mem _ h)
theorem c_max (fx : Fx X G C d) : CallR X (.builtin "max") (rMs G bMax) := by
  intro pins s σ H xs us Q I r h
  obtain ⟨m, F, hh, vs, rl, rs, w⟩ := h
  unfold bMax at w
  split at w
  · obtain ⟨x, y, rfl, rx, ry⟩ := two_R rs
    exact call_max2 fx.calm pins s σ H _ us Q I r ⟨_, _, by rw [show x = _ from rx, show y = _ from ry], w.here rl rfl⟩
  · obtain ⟨x, rfl, rx⟩ := one_R rs
    split at w
    · rename_i a0 bs e1
      obtain ⟨ls, e2, e3⟩ := Option.bind_eq_some_iff.mp e1
      obtain ⟨p, ys, rfl, q, rz⟩ := lst_ok rl rx e2
      have e4 := ints_ok rz e3
      subst e4
      refine cr_max fx.calm pins s σ H _ us Q I r ⟨p, a0 :: bs, rfl, by rw [fx.K]; exact q, Nat.succ_pos _, fun m hm hb => ?_⟩
      have em : m = topI a0 bs := by
        have h1 := hb _ (topI_mem bs a0)
        have h2 := topI_bd bs a0 m hm
        omega
      rw [em]
      exact w.here rl rfl
    · exact False.elim w
  · exact False.elim w
theorem botI_mem : ∀ (ns : List Int) (a : Int), botI a ns ∈ a :: ns
  | [], a => List.mem_cons_self
  | b :: ns, a => by
    unfold botI
    have := botI_mem ns (if b < a then b else a)
    rcases List.mem_cons.mp this with h | h
    · rw [h]
      split
      · exact List.mem_cons_of_mem _ List.mem_cons_self
      · exact List.mem_cons_self
    · exact List.mem_cons_of_mem _ (List.mem_cons_of_mem _ h)
theorem botI_bd : ∀ (ns : List Int) (a : Int), ∀ y ∈ a :: ns, botI a ns ≤ y
  | [], a, y, h => by
    have : y = a := by simpa using h
    subst this
    exact Int.le_refl _
  | b :: ns, a, y, h => by
    unfold botI
    have ih := botI_bd ns (if b < a then b else a)
    have i0 := ih _ List.mem_cons_self
    rcases List.mem_cons.mp h with rfl | h
    · split at i0 <;> split <;> omega
    · rcases List.mem_cons.mp h with rfl | h
      · split at i0 <;> split <;> omega
      · exact ih y (List.mem_cons_of_mem _ h)
theorem c_min (fx : Fx X G C d) : CallR X (.builtin "min") (rMs G bMin) := by
  intro pins s σ H xs us Q I r h
  obtain ⟨m, F, hh, vs, rl, rs, w⟩ := h
  unfold bMin at w
  split at w
  · obtain ⟨x, y, rfl, rx, ry⟩ := two_R rs
    exact call_min2 fx.calm pins s σ H _ us Q I r ⟨_, _, by rw [show x = _ from rx, show y = _ from ry], w.here rl rfl⟩
  · obtain ⟨x, rfl, rx⟩ := one_R rs
    split at w
    · rename_i a0 bs e1
      obtain ⟨ls, e2, e3⟩ := Option.bind_eq_some_iff.mp e1
      obtain ⟨p, ys, rfl, q, rz⟩ := lst_ok rl rx e2
      have e4 := ints_ok rz e3
      subst e4
      refine cr_min fx.calm pins s σ H _ us Q I r ⟨p, a0 :: bs, rfl, by rw [fx.K]; exact q, Nat.succ_pos _, fun m hm hb => ?_⟩
      have em : m = botI a0 bs := by
        have h1 := hb _ (botI_mem bs a0)
        have h2 := botI_bd bs a0 m hm
        omega
      rw [em]
      exact w.here rl rfl
    · exact False.elim w
  · exact False.elim w
theorem c_int : CallR X (.type "int") (rMs G bInt) := by
  intro pins s σ H xs us Q I r h
  obtain ⟨m, F, hh, vs, rl, rs, w⟩ := h
  unfold bInt at w
  split at w
  · obtain ⟨x, rfl, rx⟩ := one_R rs
    exact call_int1 pins s σ H _ us Q I r (.inl ⟨_, by rw [show x = _ from rx], w.here rl rfl⟩)
  · obtain ⟨x, rfl, rx⟩ := one_R rs
    exact call_int1 pins s σ H _ us Q I r (.inr ⟨_, by rw [show x = _ from rx], w.here rl rfl⟩)
  · exact False.elim w
theorem c_all (fx : Fx X G C d) : CallR X (.builtin "all") (rMs G bAll) := by
  intro pins s σ H xs us Q I r h
  obtain ⟨m, F, hh, vs, rl, rs, w⟩ := h
  unfold bAll at w
  split at w
  · obtain ⟨x, rfl, rx⟩ := one_R rs
    split at w
    · rename_i bs e1
      obtain ⟨ls, e2, e3⟩ := Option.bind_eq_some_iff.mp e1
      obtain ⟨p, ys, rfl, q, rz⟩ := lst_ok rl rx e2
      have e4 := bols_ok rz e3
      subst e4
      exact cr_all fx.calm pins s σ H _ us Q I r ⟨p, bs, rfl, by rw [fx.K]; exact q, w.here rl rfl⟩
    · exact False.elim w
  · exact False.elim w
theorem c_any (fx : Fx X G C d) : CallR X (.builtin "any") (rMs G bAny) := by
  intro pins s σ H xs us Q I r h
  obtain ⟨m, F, hh, vs, rl, rs, w⟩ := h
  unfold bAny at w
  split at w
  · obtain ⟨x, rfl, rx⟩ := one_R rs
    split at w
    · rename_i bs e1
      obtain ⟨ls, e2, e3⟩ := Option.bind_eq_some_iff.mp e1
      obtain ⟨p, ys, rfl, q, rz⟩ := lst_ok rl rx e2
      have e4 := bols_ok rz e3
      subst e4
      exact cr_any fx.calm pins s σ H _ us Q I r ⟨p, bs, rfl, by rw [fx.K]; exact q, w.here rl rfl⟩
    · exact False.elim w
  · exact False.elim w
/-- list(s), s a text -/
theorem call_listS (hc : X.calm = true) : CallR X (.type "list") (fun xs H Q => ∃ z : Str, xs = [.str z] ∧ z.length ≤ sizeLine ∧ ∀ l, H l = none → Q (.ref l) (upd H l (.lst (z.cps.toList.map fun c => V.str ⟨#[c]⟩)))) := by
  intro pins s σ H xs us Q I r h
  obtain ⟨z, rfl, hl, q⟩ := h
  obtain ⟨u, rfl, ru⟩ := Vals.one r
  obtain ⟨t, rfl⟩ := ru
  refine call_list_str (I.ok.hd hc) z t (fun h' tk acc' c' hk hS hit => ?_) hl
  have hf : H s.heap.objs.size = none := I.hok.fresh (Nat.le_refl _)
  refine ⟨.ref s.heap.objs.size, upd H s.heap.objs.size (.lst (z.cps.toList.map fun c => V.str ⟨#[c]⟩)), I.laid (t' := tk) hk (Nat.le_refl _) ?_, rfl, q _ hf⟩
  refine ⟨by rw [List.length_map]; exact hl, acc'.toList, c', ?_, by simpa using hS⟩
  obtain ⟨hz, hi⟩ := hit
  have hv : ∀ (l : List Nat) (us : List Value), l.length = us.length → (∀ (j : Nat) v, us[j]? = some v → ∃ c u, l[j]? = some c ∧ v = Value.str ⟨#[c]⟩ u) → Vals (l.map fun c => V.str ⟨#[c]⟩) us := by
    intro l
    induction l with
    | nil =>
      intro us hl _
      cases us with
      | nil => exact .nil
      | cons u us => cases hl
    | cons c l ih =>
      intro us hl hi
      cases us with
      | nil => cases hl
      | cons u us =>
        obtain ⟨c', t', e1, e2⟩ := hi 0 u rfl
        have e1 : c = c' := Option.some.inj e1
        subst e1
        exact .cons ⟨t', e2⟩ (ih us (by simpa using hl) fun j v e => hi (j + 1) v e)
  refine hv z.cps.toList acc'.toList (by simpa using hz.symm) fun j v e => ?_
  obtain ⟨c0, u0, e1, e2⟩ := hi j v (by simpa using e)
  exact ⟨c0, u0, by simpa using e1, e2⟩
theorem signs_R {F : Hp} {m : Mp} : ∀ {s : Tx}, sOk s → Rs G F m (s.map fun c => Vl.str [c]) (s.map fun c => V.str ⟨#[c]⟩)
  | [], _ => rfl
  | c :: s, h => ⟨_, _, rfl, ⟨rfl, fun c' hc => h c' (by
      have hc : c' = c := by simpa using hc
      subst hc
      exact List.mem_cons_self)⟩, signs_R fun c' hc => h c' (List.mem_cons_of_mem _ hc)⟩
theorem c_list (fx : Fx X G C d) (lv : Bool) : CallR X (.type "list") (rMs G (bList lv)) := by
  intro pins s σ H xs us Q I r h
  obtain ⟨m, F, hh, vs, rl, rs, w⟩ := h
  unfold bList at w
  split at w
  · rename_i s1
    obtain ⟨x, rfl, rx, ox⟩ := one_R rs
    subst rx
    split at w
    · rename_i hl
      refine call_listS fx.calm pins s σ H _ us Q I r ⟨ss s1, rfl, by rw [ss_len]; exact hl, fun l nl => ?_⟩
      rw [ss_list]
      exact w.newL rl nl (signs_R ox)
    · exact False.elim w
  · obtain ⟨x, rfl, rx⟩ := one_R rs
    split at w
    · rename_i ls e1
      obtain ⟨p, ys, rfl, q, rz⟩ := seq_ok rl rx e1
      exact call_list_of pins s σ H _ us Q I r ⟨p, ys, rfl, by rw [fx.K]; exact q, fun l nl => w.newL rl nl rz⟩
    · exact False.elim w
  · exact False.elim w
end
end Mi
namespace Mi
open PySem PySem.Spec L2
section
variable {X : Cx} {G : Gi} {C : Cs} {d : Nat} {e a b c : Expr} {x y z : Ex} {pos : Pos}
theorem ty_ok {F H : Hp} {m : Mp} {h : Hm} {v : Vl} {x : V} {n : String} (rl : Rel G m F h H) (r : R G F m v x) (e : tyNm h v = some n) : TyX G.K H x (.type n) := by
  have hL : ∀ {p : Addr} {ys : List V}, SqL G.K H p ys → TyX G.K H (.ref p) (.type "list") := fun q => by
    rcases q with (q | ⟨o, q⟩) | ⟨o, its, k, q, c, _⟩
    · exact .base (.lst q)
    · exact .base (.frz q)
    · exact .kList q c
  have hT : ∀ {p : Addr} {ys : List V}, SqT G.K H p ys → TyX G.K H (.ref p) (.type "tuple") := fun q => by
    rcases q with (q | ⟨o, q⟩) | ⟨o, its, k, q, c, _⟩
    · exact .base (.tup q)
    · exact .fTuple q
    · exact .kTuple q c
  unfold tyNm at e
  split at e
  · have e := Option.some.inj e
    subst e
    rw [show x = _ from r]
    exact .base .non
  · have e := Option.some.inj e
    subst e
    rw [show x = _ from r]
    exact .base (.bl _)
  · have e := Option.some.inj e
    subst e
    rw [show x = _ from r]
    exact .base (.int _)
  · have e := Option.some.inj e
    subst e
    rw [r.1]
    exact .base (.str _)
  · have e := Option.some.inj e
    subst e
    obtain ⟨p, ys, rfl, q, _⟩ := r
    exact hT (rl.sub.tup q)
  · have e := Option.some.inj e
    subst e
    obtain ⟨p, ys, rfl, q, _⟩ := r
    exact hL (rl.sub.lst q).sq
  · have e := Option.some.inj e
    subst e
    obtain ⟨p, ys, rfl, q, _⟩ := r
    exact .base (.dK (rl.sub _ _ q))
  · rename_i a0
    split at e
    · rename_i xs e1
      have e := Option.some.inj e
      subst e
      obtain ⟨_, p, ys, _, rfl, _, _, q, _⟩ := liv_ok (xs := xs) rl r (by unfold livOf; dsimp only; rw [e1])
      exact .base (.lst q)
    · rename_i kvs e1
      have e := Option.some.inj e
      subst e
      obtain ⟨p, ys, rfl, q, _⟩ := dct_ok (kvs := kvs) rl r (by unfold dctOf; dsimp only; rw [e1])
      exact .base (.dK q)
    · cases e
  · cases e
theorem nm_in {h : Hm} {v : Vl} {n : String} (e : tyNm h v = some n) : n ∈ ["NoneType", "bool", "int", "str", "tuple", "list", "dict"] := by
  unfold tyNm at e
  split at e <;> (try split at e) <;> first | (cases e; done) | (have e := Option.some.inj e; subst e; decide)
theorem sub_all : ∀ n ∈ ["NoneType", "bool", "int", "str", "tuple", "list", "dict"], ∀ t ∈ ["str", "int", "bool", "tuple", "list", "dict"], kitB n t = some (n == t || (n == "bool" && t == "int")) := by decide +kernel
theorem sub_ok {h : Hm} {v : Vl} {n t : String} {b : Bool} (e : tyNm h v = some n) (e2 : subT n t = some b) : PySem.W.kitOne G.K (.type n) (.type t) = some b := by
  unfold subT at e2
  split at e2
  · rename_i hc
    have e2 := Option.some.inj e2
    subst e2
    exact kit_ty (sub_all n (nm_in e) t (by simpa using hc))
  · cases e2
theorem ty_own (fx : Fx X G C d) {F H : Hp} {m : Mp} {h : Hm} {v : Vl} {x : V} {cc : String} {fs : List (String × Vl)} (rl : Rel G m F h H) (r : R G F m v x) (e : objOf h v = some (cc, fs)) : TyX G.K H x (.ref (G.ca cc)) ∧ cc ∈ G.cs := by
  obtain ⟨p, dx, ys, rfl, hp, hc, rf⟩ := obj_ok rl r e
  have o := fx.own cc hc
  exact ⟨.base (.ins hp (fx.cls cc hc) o.ha o.hn o.htk o.hm), hc⟩
theorem c_isi (fx : Fx X G C d) : CallR X (.builtin "isinstance") (rMs G bIsi) := by
  intro pins s σ H xs us Q I r h
  obtain ⟨m, F, hh, vs, rl, rs, w⟩ := h
  unfold bIsi at w
  split at w
  · obtain ⟨x, y, rfl, rx, ry⟩ := two_R rs
    obtain ⟨b, e, q⟩ := bres_wp w rl
    rw [show y = _ from ry] at r
    unfold isi at e
    split at e
    · rename_i v t _ n e1
      exact call_isi pins s σ H _ us Q I r ⟨x, .ty t, _, _, b, rfl, .ty t, by rw [fx.K]; exact ty_ok rl rx e1, by rw [fx.K]; exact sub_ok e1 e, q⟩
    · cases e
  · obtain ⟨x, y, rfl, rx, ry⟩ := two_R rs
    rename_i v0 c0
    obtain ⟨b, e, q⟩ := bres_wp w rl
    obtain ⟨rfl, hc0⟩ := (show y = V.ref (G.ca c0) ∧ c0 ∈ G.cs from ry)
    unfold Mi.isc at e
    split at e
    · rename_i cc fs e1
      cases e
      obtain ⟨ht, hc⟩ := ty_own fx rl rx e1
      exact call_isi pins s σ H _ us Q I r ⟨x, .ref (G.ca c0), _, _, _, rfl, .own _, by rw [fx.K]; exact ht, by rw [fx.K]; exact (fx.own cc hc).isc c0 hc0, q⟩
    · obtain ⟨n, e1, rfl⟩ := Option.map_eq_some_iff.mp e
      exact call_isi pins s σ H _ us Q I r ⟨x, .ref (G.ca c0), _, _, _, rfl, .own _, by rw [fx.K]; exact ty_ok rl rx e1, by rw [fx.K]; exact (fx.own c0 hc0).isb n (nm_in e1), q⟩
  · exact False.elim w
theorem c_bool (fx : Fx X G C d) : CallR X (.type "bool") (rMs G bBool) := by
  intro pins s σ H xs us Q I r h
  obtain ⟨m, F, hh, vs, rl, rs, w⟩ := h
  unfold bBool at w
  split at w
  · obtain ⟨x, rfl, rx⟩ := one_R rs
    exact call_bool1 pins s σ H _ us Q I r (.inl ⟨_, by rw [show x = _ from rx], w.here rl rfl⟩)
  · obtain ⟨x, rfl, rx⟩ := one_R rs
    exact call_bool1 pins s σ H _ us Q I r (.inr ⟨_, by rw [show x = _ from rx], w.here rl rfl⟩)
  · obtain ⟨x, rfl, rx⟩ := one_R rs
    split at w
    · rename_i ls e1
      obtain ⟨p, ys, rfl, q, rz⟩ := lst_ok rl rx e1
      refine call_boolL pins s σ H _ us Q I r ⟨p, ys, rfl, by rw [fx.K]; exact q, ?_⟩
      have e : ys.isEmpty = ls.isEmpty := by
        have := rz.length
        cases ys <;> cases ls <;> simp_all
      rw [e]
      exact w.here rl rfl
    · exact False.elim w
  · exact False.elim w
theorem show_ss (i : Int) : Str.ofString (toString i) = ss (showI i) := ofS _
theorem show_ok (i : Int) : sOk (showI i) := fun c hc => by
  unfold showI at hc
  obtain ⟨ch, _, rfl⟩ := List.mem_map.mp hc
  have := ch.valid
  rcases this with h | h
  · show ch.val.toNat < _
    omega
  · exact h.2
theorem c_str : CallR X (.type "str") (rMs G bStr) := by
  intro pins s σ H xs us Q I r h
  obtain ⟨m, F, hh, vs, rl, rs, w⟩ := h
  unfold bStr at w
  split at w
  · obtain ⟨x, rfl, rx⟩ := one_R rs
    split at w
    · rename_i hl
      exact call_str_int pins s σ H _ us Q I r ⟨_, by rw [show x = _ from rx], hl, w.here rl ⟨by rw [show_ss], show_ok _⟩⟩
    · exact False.elim w
  · obtain ⟨x, rfl, rx⟩ := one_R rs
    exact SkE.call_str_str pins s σ H _ us Q I r ⟨_, by rw [rx.1], w.here rl ⟨rfl, rx.2⟩⟩
  · exact False.elim w
theorem c_tup (fx : Fx X G C d) : CallR X (.type "tuple") (rMs G bTup) := by
  intro pins s σ H xs us Q I r h
  obtain ⟨m, F, hh, vs, rl, rs, w⟩ := h
  unfold bTup at w
  split at w
  · obtain ⟨x, rfl, rx⟩ := one_R rs
    have rx' := rx
    obtain ⟨p, ys, rfl, q, rz⟩ := rx
    exact call_tuple_of pins s σ H _ us Q I r ⟨p, ys, rfl, .inr ⟨by rw [fx.K]; exact rl.sub.tup q, w.here rl rx'⟩⟩
  · obtain ⟨x, rfl, rx⟩ := one_R rs
    split at w
    · rename_i ls e1
      obtain ⟨p, ys, rfl, q, rz⟩ := lst_ok rl rx e1
      refine call_tuple_of pins s σ H _ us Q I r ⟨p, ys, rfl, .inl ⟨by rw [fx.K]; exact q, fun l nl => ?_⟩⟩
      exact w.tup rl nl rz
    · exact False.elim w
  · exact False.elim w
theorem c_sum (fx : Fx X G C d) : CallR X (.builtin "sum") (rMs G bSum) := by
  intro pins s σ H xs us Q I r h
  obtain ⟨m, F, hh, vs, rl, rs, w⟩ := h
  unfold bSum at w
  split at w
  · obtain ⟨x, rfl, rx⟩ := one_R rs
    split at w
    · rename_i bs e1
      obtain ⟨ls, e2, e3⟩ := Option.bind_eq_some_iff.mp e1
      obtain ⟨p, ys, rfl, q, rz⟩ := lst_ok rl rx e2
      have e4 := ints_ok rz e3
      subst e4
      exact cr_sum fx.calm pins s σ H _ us Q I r ⟨p, bs, rfl, by rw [fx.K]; exact q, w.here rl rfl⟩
    · exact False.elim w
  · exact False.elim w
theorem c_repr : CallR X (.builtin "repr") (rMs G (bltF "repr")) := by
  intro pins s σ H xs us Q I r h
  obtain ⟨m, F, hh, vs, rl, rs, w⟩ := h
  exact False.elim w
theorem sorted_list : CallR X (.builtin "sorted") (fun vs H Q => ∃ (a : Addr) (xs : List Str), vs = [V.ref a] ∧ SqL X.K H a (xs.map V.str) ∧ ∀ (ys : List Str) (p : Addr), ys.Perm xs → PyProof.Rows.sortedS ys = true → H p = none → Q (.ref p) (upd H p (.lst (ys.map V.str)))) := by
  intro pins s σ H vs us Q I r h
  obtain ⟨a, xs, rfl, hs, q⟩ := h
  obtain ⟨its, rv, hl, hz⟩ := I.list hs
  rw [Vals.ref1 r]
  have hlen : xs.length = its.length := by simpa using rv.length
  rw [List.length_map] at hz
  refine PyProof.Rows.sorted_strsAny hl.isList (by simpa using rv.strs) (by rw [← hlen]; exact hz) fun out ys h1 h2 h3 => ?_
  obtain ⟨ep, he'⟩ := PyProof.Rows.sortedAll_at s.heap its out
  refine ⟨.ref _, upd H (s.heap.objs.size + 1) (.lst (ys.map V.str)), I.laid (t' := s.toks) (fun _ _ => PyProof.Rows.sortedAll_old) (Nat.le_succ _) ⟨?_, out.toList, ep, vals_of_strs h1, he'⟩, rfl, q ys _ h2 h3 (I.hok.fresh (Nat.le_succ _))⟩
  rw [List.length_map, h2.length_eq]
  exact hz
theorem Rs.strs {F : Hp} {m : Mp} : ∀ {l : List Tx}, (∀ s ∈ l, sOk s) → Rs G F m (l.map .str) ((l.map ss).map V.str)
  | [], _ => rfl
  | s :: l, h => ⟨_, _, rfl, ⟨rfl, h s List.mem_cons_self⟩, Rs.strs fun t ht => h t (List.mem_cons_of_mem _ ht)⟩
theorem Rk.keys {F : Hp} {m : Mp} : ∀ {kvs : List (Tx × Vl)} {ys : List (Key × V)}, Rk G F m kvs ys → ys.map (·.1) = ((kvs.map (·.1)).map ss).map Sum.inr ∧ ∀ k ∈ kvs.map (·.1), sOk k
  | [], ys, r => by
    have e : ys = [] := r
    subst e
    exact ⟨rfl, fun k hk => by cases hk⟩
  | (k, v) :: kvs, ys, r => by
    obtain ⟨y, zs, rfl, o, rv, rs⟩ := r
    obtain ⟨i1, i2⟩ := Rk.keys rs
    refine ⟨by rw [List.map_cons, List.map_cons, List.map_cons, List.map_cons, i1], fun k' hk => ?_⟩
    rcases List.mem_cons.mp hk with rfl | hk
    · exact o
    · exact i2 k' hk
theorem c_sorted (fx : Fx X G C d) (lv : Bool) : CallR X (.builtin "sorted") (rMs G (bSorted lv)) := by
  intro pins s σ H xs us Q I r h
  obtain ⟨m, F, hh, vs, rl, rs, w⟩ := h
  unfold bSorted at w
  split at w
  · rename_i v0
    obtain ⟨x, rfl, rx⟩ := one_R rs
    split at w
    · rename_i l e
      obtain ⟨ls, e2, e3⟩ := Option.bind_eq_some_iff.mp e
      obtain ⟨p, ys, rfl, q, rz⟩ := lst_ok rl rx e2
      obtain ⟨e4, ok⟩ := strs_ok rz e3
      subst e4
      refine sorted_list pins s σ H _ us Q I r ⟨p, _, rfl, by rw [fx.K]; exact q, fun zs p' pm hs np => ?_⟩
      rw [sorted_ours pm hs]
      exact w.newL rl np (Rs.strs fun t ht => ok t ((sortS_perm l).mem_iff.mp ht))
    · split at w
      · rename_i kvs e
        split at w
        · rename_i h64
          obtain ⟨p, ys, rfl, q, rz⟩ := dct_ok rl rx e
          obtain ⟨k1, k2⟩ := Rk.keys rz
          refine call_sortedD fx.calm pins s σ H _ us Q I r ⟨p, ys, _, rfl, .inl q, k1, by rw [List.length_map, List.length_map]; exact h64, fun zs p' pm hs np => ?_⟩
          rw [sorted_ours pm hs]
          exact w.newL rl np (Rs.strs fun t ht => k2 t ((sortS_perm _).mem_iff.mp ht))
        · exact False.elim w
      · exact False.elim w
  · exact False.elim w
/-- the name that is written -/
def bltP : String → String
  | "listL" => "list"
  | "sortedL" => "sorted"
  | f => f
def bltV : String → Option Value
  | "len" => some (.builtin "len")
  | "abs" => some (.builtin "abs")
  | "max" => some (.builtin "max")
  | "min" => some (.builtin "min")
  | "int" => some (.type "int")
  | "all" => some (.builtin "all")
  | "any" => some (.builtin "any")
  | "list" => some (.type "list")
  | "listL" => some (.type "list")
  | "isinstance" => some (.builtin "isinstance")
  | "bool" => some (.type "bool")
  | "str" => some (.type "str")
  | "tuple" => some (.type "tuple")
  | "sum" => some (.builtin "sum")
  | "repr" => some (.builtin "repr")
  | "sorted" => some (.builtin "sorted")
  | "sortedL" => some (.builtin "sorted")
  | _ => none
theorem blt_ok0 (fx : Fx X G C d) {f : String} {v : Value} (h : bltV f = some v) : CallR X v (rMs G (bltF f)) ∧ ((∃ id, v = .builtin id) ∨ ∃ T, v = .type T) := by
  unfold bltV at h
  split at h <;> cases h
  · exact ⟨c_len fx, .inl ⟨_, rfl⟩⟩
  · exact ⟨c_abs, .inl ⟨_, rfl⟩⟩
  · exact ⟨c_max fx, .inl ⟨_, rfl⟩⟩
  · exact ⟨c_min fx, .inl ⟨_, rfl⟩⟩
  · exact ⟨c_int, .inr ⟨_, rfl⟩⟩
  · exact ⟨c_all fx, .inl ⟨_, rfl⟩⟩
  · exact ⟨c_any fx, .inl ⟨_, rfl⟩⟩
  · exact ⟨c_list fx false, .inr ⟨_, rfl⟩⟩
  · exact ⟨c_list fx true, .inr ⟨_, rfl⟩⟩
  · exact ⟨c_isi fx, .inl ⟨_, rfl⟩⟩
  · exact ⟨c_bool fx, .inr ⟨_, rfl⟩⟩
  · exact ⟨c_str, .inr ⟨_, rfl⟩⟩
  · exact ⟨c_tup fx, .inr ⟨_, rfl⟩⟩
  · exact ⟨c_sum fx, .inl ⟨_, rfl⟩⟩
  · exact ⟨c_repr, .inl ⟨_, rfl⟩⟩
  · exact ⟨c_sorted fx false, .inl ⟨_, rfl⟩⟩
  · exact ⟨c_sorted fx true, .inl ⟨_, rfl⟩⟩
theorem blt_ok (fx : Fx X G C d) {f : String} {v : Value} (h : bltV f = some v) : CallR X v (rMs G (bltC C f)) ∧ ((∃ id, v = .builtin id) ∨ ∃ T, v = .type T) := by
  obtain ⟨h0, h1⟩ := blt_ok0 (C := C) fx h
  refine ⟨fun pins s σ H xs us Q I r hq => ?_, h1⟩
  obtain ⟨m, F, hh, vs, rl, rs, w⟩ := hq
  unfold bltC at w
  split at w
  · rename_i v0
    split at w
    · rename_i cc fs e
      obtain ⟨x, rfl, rx⟩ := one_R rs
      obtain ⟨u, rfl, ru⟩ := vals1 r
      refine own_call fx (f := f) ?_ I rl rx ru e w
      unfold ownF at w
      split at w
      · cases h
        exact .inl ⟨rfl, rfl⟩
      · cases h
        exact .inr (.inl ⟨rfl, rfl⟩)
      · cases h
        exact .inr (.inr (.inl ⟨rfl, rfl⟩))
      · cases h
        exact .inr (.inr (.inr ⟨rfl, rfl⟩))
      · exact False.elim w
    · exact h0 pins s σ H xs us Q I r ⟨m, F, hh, _, rl, rs, w⟩
  · exact h0 pins s σ H xs us Q I r ⟨m, F, hh, _, rl, rs, w⟩
theorem se_blt (fx : Fx X G C d) {e : Expr} {es : List Expr} {xs : List Ex} {f : String} {v : Value} {p : Pos} (hv : bltV f = some v) (hg : Gl X (Str.ofString (bltP f))) (hm : X.mg (Str.ofString (bltP f)) = none) (hb : bootBuiltins (Str.ofString (bltP f)) = some v)
    (hn : Str.ofString (bltP f) ≠ "__name__") (hdb : (Str.ofString (bltP f) == ("__debug__" : Str)) = false) (hs : (e :: es).all noStar = true) (ha : SA X G C (e :: es) xs) : SE X G C (.Call (.Name (Str.ofString (bltP f)) p) (e :: es) [] pos) (.blt f xs) := by
  obtain ⟨cr, hk⟩ := blt_ok fx hv
  have hs1 : noStar e = true := by
    rw [List.all_cons, Bool.and_eq_true] at hs
    exact hs.1
  have hs2 : es.all noStar = true := by
    rw [List.all_cons, Bool.and_eq_true] at hs
    exact hs.2
  refine SE.of fx.K (plainT_of rfl) (fun m r h => by rw [evM]) (PE.weak (t := tCB (rMs G (bltC C f)) (tMs G fun r h => evs C xs r h)) ?_ fun σ H Q w => ?_)
  · rcases hk with ⟨id, rfl⟩ | ⟨T, rfl⟩
    · exact pe_callB cr hg hm hb ha hn hdb (star_of hs1) (noStar_any hs2)
    · exact pe_callTy cr hg hm hb ha hn hdb (star_of hs1) (noStar_any hs2)
  · exact tMs_use w fun m F h vs ys H' rl rs w => ⟨m, F, h, vs, rl, rs, w⟩

/-- sorted(set(..)) -/
def lvN (lv : Bool) (a b : String) : String := if lv then b else a
theorem se_sortedU (fx : Fx X G C d) (lv : Bool) {p p2 pos2 : Pos} (he : SE X G C e x) (hs : noStar e = true) (hg : Gl X "sorted") (hm : X.mg "sorted" = none) (hg2 : Gl X "set") (hm2 : X.mg "set" = none) :
    SE X G C (.Call (.Name "sorted" p) [.Call (.Name "set" p2) [e] [] pos2] [] pos) (.blt (lvN lv "sortedset" "sortedsetL") [x]) := by
  have inner : PE X (.Call (.Name "set" p2) [e] [] pos2) _ := pe_callTy (cr_setT fx.calm) hg2 hm2 (by decide +kernel) (sa_cons he hs sa_nil) (by decide) (by decide) (star_of hs) (by rfl)
  refine SE.of fx.K (plainT_of rfl) (fun m r h => by rw [evM]) (PE.weak (pe_callB (cr_sortedU fx.calm) hg hm (by decide +kernel) (pa_cons inner pa_nil (star_of rfl)) (by decide) (by decide) (star_of rfl) (by rfl)) fun σ H Q w => ?_)
  have hb : ∀ vs h, bltC C (lvN lv "sortedset" "sortedsetL") vs h = .bad ∨ bltC C (lvN lv "sortedset" "sortedsetL") vs h = bSortedU lv vs h := fun vs h => by
    unfold bltC
    cases lv
    · split
      · split
        · exact .inl rfl
        · exact .inr rfl
      · exact .inr rfl
    · split
      · split
        · exact .inl rfl
        · exact .inr rfl
      · exact .inr rfl
  refine tMs_use w fun m F h vs ys H' rl rs w => ?_
  rcases hb vs h with e0 | e0
  · rw [e0] at w
    exact False.elim w
  rw [e0] at w
  unfold bSortedU at w
  split at w
  · rename_i v0
    obtain ⟨x0, rfl, rx⟩ := one_R rs
    split at w
    · rename_i l e
      split at w
      · rename_i hl
        obtain ⟨ls, e2, e3⟩ := Option.bind_eq_some_iff.mp e
        obtain ⟨p0, zs, rfl, q, rz⟩ := lst_ok rl rx e2
        obtain ⟨e4, ok⟩ := strs_ok rz e3
        subst e4
        refine ⟨p0, l.map ss, rfl, by rw [fx.K]; exact q, by rw [List.length_map]; exact hl, fun q0 n0 nd => ?_⟩
        refine ⟨q0, _, rfl, upd_same, fun ys q1 hs pm n1 => ?_⟩
        rw [sortedU_ours pm nd hs]
        exact w.newL (rl.grow n0) n1 (Rs.strs fun t ht => ok t (sortU_mem.mp ht))
      · exact False.elim w
    · exact False.elim w
  · exact False.elim w

/-! ### methods of built-in things -/
def rMm (G : Gi) (f : Vl → List Vl → Hm → Res Vl) : V → List V → Hp → VK → Prop := fun x xs H Q => ∃ m F h v vs, Rel G m F h H ∧ R G F m v x ∧ Rs G F m vs xs ∧ WpV G m F (f v vs h) Q
theorem ss_size (s : Tx) : (ss s).cps.size = s.length := by simp [ss]
theorem glued_ok (sep : Tx) : ∀ ls : List Tx, Txt.join (ss sep) (ls.map ss) = ss (joinT sep ls) := by
  have key : ∀ (ls : List Tx) (acc : Tx), ls ≠ [] → ((ls.map ss).foldl (fun acc p => acc ++ (ss sep).cps ++ p.cps) acc.toArray) = (acc ++ sep ++ joinT sep ls).toArray := by
    intro ls
    induction ls with
    | nil =>
      intro acc h
      exact absurd rfl h
    | cons l ls ih =>
      intro acc _
      cases ls with
      | nil =>
        show acc.toArray ++ sep.toArray ++ l.toArray = _
        simp [joinT]
      | cons l2 ls =>
        show ((l2 :: ls).map ss).foldl _ (acc.toArray ++ sep.toArray ++ l.toArray) = _
        have e : acc.toArray ++ sep.toArray ++ l.toArray = (acc ++ sep ++ l).toArray := by simp
        rw [e, ih (acc ++ sep ++ l) (by simp)]
        simp [joinT]
  intro ls
  cases ls with
  | nil => rfl
  | cons l ls =>
    show (⟨((ls.map ss).foldl (fun acc p => acc ++ (ss sep).cps ++ p.cps) l.toArray)⟩ : Str) = _
    cases ls with
    | nil => rfl
    | cons l2 ls =>
      rw [key (l2 :: ls) l (by simp)]
      rfl
theorem joinT_mem (sep : Tx) : ∀ (ls : List Tx) (c : Nat), c ∈ joinT sep ls → c ∈ sep ∨ ∃ l ∈ ls, c ∈ l
  | [], c, h => by cases h
  | [l], c, h => .inr ⟨l, by simp, h⟩
  | l :: l2 :: ls, c, h => by
    unfold joinT at h
    rw [List.append_assoc] at h
    rcases List.mem_append.mp h with h | h
    · exact .inr ⟨l, by simp, h⟩
    · rcases List.mem_append.mp h with h | h
      · exact .inl h
      · rcases joinT_mem sep (l2 :: ls) c h with h | ⟨x, hx, h⟩
        · exact .inl h
        · exact .inr ⟨x, List.mem_cons_of_mem _ hx, h⟩
theorem t_join (fx : Fx X G C d) : MtR X "str.join" (rMm G mJoin) := by
  intro pins s σ H x xs v us Q I rx rxs h
  obtain ⟨m, F, hh, v0, vs, rl, r0, rs, w⟩ := h
  unfold mJoin at w
  split at w
  · rename_i sep v1
    obtain ⟨r0, o0⟩ := r0
    obtain ⟨x1, rfl, r1⟩ := one_R rs
    split at w
    · rename_i ls e1
      obtain ⟨zs, e2, e3⟩ := Option.bind_eq_some_iff.mp e1
      obtain ⟨p, ys, rfl, q, rz⟩ := seq_ok rl r1 e2
      obtain ⟨e4, hs⟩ := strs_ok rz e3
      subst e4
      split at w
      · rename_i hl
        refine mt_join pins s σ H _ _ v us Q I rx rxs ⟨ss sep, p, ls.map ss, r0, rfl, by rw [fx.K]; exact q, ?_, ?_⟩
        · rw [List.map_map, List.length_map, ss_len]
          have e5 : ((fun x : Str => x.length) ∘ ss) = fun s : Tx => s.length := by
            funext s
            exact ss_len s
          rw [e5]
          exact hl
        · rw [glued_ok]
          refine w.here rl ⟨rfl, fun c hc => ?_⟩
          rcases joinT_mem sep ls c hc with h | ⟨l, hl, h⟩
          · exact o0 c h
          · exact hs l hl c h
      · exact False.elim w
    · exact False.elim w
  · exact False.elim w
theorem t_lower : MtR X "str.lower" (rMm G mLower) := by
  intro pins s σ H x xs v us Q I rx rxs h
  obtain ⟨m, F, hh, v0, vs, rl, r0, rs, w⟩ := h
  unfold mLower at w
  split at w
  · rename_i s1
    obtain ⟨r0, o0⟩ := r0
    have rs : xs = [] := rs
    subst rs
    split at w
    · rename_i hl
      have h1 : ∀ c ∈ s1, c < 128 := fun c hc => by
        have := List.all_eq_true.mp hl.2 c hc
        simpa using this
      refine mt_lower pins s σ H _ _ v us Q I rx rxs ⟨ss s1, r0, rfl, by rw [ss_len]; exact hl.1, ?_⟩
      have e : Txt.lower (ss s1) = ss (s1.map lowerC) := by
        rw [PyProof.Rows.lower_ascii (by rw [ss_list]; exact h1)]
        unfold ss
        congr 1
        simp
        intro a _
        rfl
      rw [e]
      refine w.here rl ⟨rfl, fun c hc => ?_⟩
      obtain ⟨c0, hc0, rfl⟩ := List.mem_map.mp hc
      have := h1 c0 hc0
      unfold lowerC
      split <;> omega
    · exact False.elim w
  · exact False.elim w
theorem t_append : MtR X "list.append" (rMm G mAppend) := by
  intro pins s σ H x xs v us Q I rx rxs h
  obtain ⟨m, F, hh, v0, vs, rl, r0, rs, w⟩ := h
  unfold mAppend at w
  split at w
  · rename_i a0 v1
    obtain ⟨x1, rfl, r1⟩ := one_R rs
    split at w
    · rename_i ls e1
      split at w
      · rename_i hl
        obtain ⟨a', p, ys, e2, rfl, ma, _, q, rz⟩ := liv_ok (xs := ls) rl r0 (by unfold livOf; dsimp only; rw [e1])
        cases e2
        refine mt_append pins s σ H _ _ v us Q I rx rxs ⟨p, ys, x1, rfl, rfl, q, by rw [rz.length]; exact hl, ?_⟩
        exact w.here (rl.put e1 (fun z => nomatch z) ma ⟨_, rfl, rz.append (Rs.one r1)⟩) rfl
      · exact False.elim w
    · exact False.elim w
  · exact False.elim w
theorem t_extend : MtR X "list.extend" (rMm G mExtend) := by
  intro pins s σ H x xs v us Q I rx rxs h
  obtain ⟨m, F, hh, v0, vs, rl, r0, rs, w⟩ := h
  unfold mExtend at w
  split at w
  · rename_i a0 v1
    obtain ⟨x1, rfl, r1⟩ := one_R rs
    split at w
    · rename_i ls zs e1 e3
      split at w
      · rename_i hl
        obtain ⟨a', p, ys, e2, rfl, ma, _, q, rz⟩ := liv_ok (xs := ls) rl r0 (by unfold livOf; dsimp only; rw [e1])
        cases e2
        obtain ⟨b', p', ys', e4, rfl, mb, _, q', rz'⟩ := liv_ok rl r1 e3
        refine mt_extend pins s σ H _ _ v us Q I rx rxs ⟨p, p', ys, ys', rfl, rfl, q, q', by rw [rz.length, rz'.length]; exact hl, ?_⟩
        exact w.here (rl.put e1 (fun z => nomatch z) ma ⟨_, rfl, rz.append rz'⟩) rfl
      · exact False.elim w
    · exact False.elim w
  · exact False.elim w
theorem Rs.dropLast {F : Hp} {m : Mp} : ∀ {v : List Vl} {x : List V}, Rs G F m v x → Rs G F m v.dropLast x.dropLast := fun {v x} r => by
  rw [List.dropLast_eq_take, List.dropLast_eq_take, r.length]
  exact r.take _
theorem Rs.reverse {F : Hp} {m : Mp} : ∀ {v : List Vl} {x : List V}, Rs G F m v x → Rs G F m v.reverse x.reverse
  | [], x, h => by
    have e : x = [] := h
    subst e
    rfl
  | v :: vs, x, ⟨y, zs, e, r, rs⟩ => by
    subst e
    rw [List.reverse_cons, List.reverse_cons]
    exact (Rs.reverse rs).append (Rs.one r)
theorem t_pop : MtR X "list.pop" (rMm G mPop) := by
  intro pins s σ H x xs v us Q I rx rxs h
  obtain ⟨m, F, hh, v0, vs, rl, r0, rs, w⟩ := h
  unfold mPop at w
  split at w
  · rename_i a0
    have rs : xs = [] := rs
    subst rs
    split at w
    · rename_i ls e1
      split at w
      · rename_i y0 e3
        obtain ⟨a', p, ys, e2, rfl, ma, _, q, rz⟩ := liv_ok (xs := ls) rl r0 (by unfold livOf; dsimp only; rw [e1])
        cases e2
        obtain ⟨y, e4, ry⟩ := rz.get e3
        refine mt_pop pins s σ H _ _ v us Q I rx rxs ⟨p, ys, y, rfl, rfl, q, by rw [rz.length]; exact e4, ?_⟩
        exact w.here (rl.put e1 (fun z => nomatch z) ma ⟨_, rfl, rz.dropLast⟩) ry
      · exact False.elim w
    · exact False.elim w
  · exact False.elim w
theorem t_reverse : MtR X "list.reverse" (rMm G mReverse) := by
  intro pins s σ H x xs v us Q I rx rxs h
  obtain ⟨m, F, hh, v0, vs, rl, r0, rs, w⟩ := h
  unfold mReverse at w
  split at w
  · rename_i a0
    have rs : xs = [] := rs
    subst rs
    split at w
    · rename_i ls e1
      obtain ⟨a', p, ys, e2, rfl, ma, _, q, rz⟩ := liv_ok (xs := ls) rl r0 (by unfold livOf; dsimp only; rw [e1])
      cases e2
      refine mt_reverse pins s σ H _ _ v us Q I rx rxs ⟨p, ys, rfl, rfl, q, ?_⟩
      exact w.here (rl.put e1 (fun z => nomatch z) ma ⟨_, rfl, rz.reverse⟩) rfl
    · exact False.elim w
  · exact False.elim w
theorem starts_eq (s t : Tx) (i : Nat) : (decide (i + (ss t).length ≤ (ss s).length) && Builtin.Str.subAt (ss s) (ss t) i) = (decide (i ≤ s.length) && (s.drop i).take t.length == t) := by
  rw [PySem.StrLaws.subAt_eq, ss_len, ss_len, ss_list, ss_list]
  by_cases h : (s.drop i).take t.length = t
  · have hl : t.length ≤ s.length - i := by
      have := congrArg List.length h
      rw [List.length_take, List.length_drop] at this
      omega
    rw [beq_iff_eq.mpr h, Bool.and_true, Bool.and_true]
    apply decide_eq_decide.mpr
    omega
  · rw [beq_eq_false_iff_ne.mpr h, Bool.and_false, Bool.and_false]
theorem t_starts : MtR X "str.startswith" (rMm G mStarts) := by
  intro pins s σ H x xs v us Q I rx rxs h
  obtain ⟨m, F, hh, v0, vs, rl, r0, rs, w⟩ := h
  unfold mStarts at w
  split at w
  · rename_i s1 t1
    obtain ⟨x1, rfl, r1⟩ := one_R rs
    refine mt_startswith pins s σ H _ _ v us Q I rx rxs ⟨ss s1, ss t1, r0.1, by rw [r1.1], ?_⟩
    have e : Txt.startswith (ss s1) (ss t1) = (s1.take t1.length == t1) := by
      have := starts_eq s1 t1 0
      rw [decide_eq_true (Nat.zero_le _), Bool.true_and, List.drop_zero] at this
      exact this
    rw [e]
    exact w.here rl rfl
  · rename_i s1 t1 i
    obtain ⟨x1, x2, rfl, r1, r2⟩ := two_R rs
    split at w
    · rename_i hi
      refine mt_startswith3 pins s σ H _ _ v us Q I rx rxs ⟨ss s1, ss t1, i, r0.1, by rw [r1.1, show x2 = _ from r2], ?_⟩
      have e0 : PySem.fromIndex (ss s1).length i = i.toNat := by
        unfold PySem.fromIndex
        rw [if_neg (by omega)]
        omega
      have e : Txt.startswith3 (ss s1) (ss t1) i = (decide (i.toNat ≤ s1.length) && (s1.drop i.toNat).take t1.length == t1) := by
        unfold Txt.startswith3
        rw [e0]
        exact starts_eq s1 t1 i.toNat
      rw [e]
      exact w.here rl rfl
    · exact False.elim w
  · exact False.elim w
/-- the type, the model's own name and its facts -/
structure BmOk (X : Cx) (G : Gi) (f : String) (n : Nat) (T id : String) : Prop where
  ty : bmTy f n = T
  pa : PlainAttrs T
  slot : Slot T (Str.ofString f) id
  tyof : typeOf (.builtin id) = pure (.type "method_descriptor")
  rule : MtR X id (rMm G (bmF f))
def bmId : String → Nat → Option (String × String)
  | "join", 1 => some ("str", "str.join")
  | "lower", 0 => some ("str", "str.lower")
  | "append", 1 => some ("list", "list.append")
  | "extend", 1 => some ("list", "list.extend")
  | "pop", 0 => some ("list", "list.pop")
  | "reverse", 0 => some ("list", "list.reverse")
  | "startswith", 1 => some ("str", "str.startswith")
  | "startswith", 2 => some ("str", "str.startswith")
  | _, _ => none
theorem bm_ok (fx : Fx X G C d) {f T id : String} {n : Nat} (h : bmId f n = some (T, id)) : BmOk X G f n T id := by
  unfold bmId at h
  split at h <;> cases h
  · exact ⟨rfl, PySem.F.plainAttrs_str, PySem.F.slot_str_join, PySem.F.type_str_join, t_join fx⟩
  · exact ⟨rfl, PySem.F.plainAttrs_str, PySem.F.slot_str_lower, PySem.F.type_str_lower, t_lower⟩
  · exact ⟨rfl, PySem.F.plainAttrs_list, PySem.F.slot_list_append, PySem.F.type_list_append, t_append⟩
  · exact ⟨rfl, PySem.F.plainAttrs_list, PySem.F.slot_list_extend, PySem.F.type_list_extend, t_extend⟩
  · exact ⟨rfl, PySem.F.plainAttrs_list, PySem.F.slot_list_pop, PySem.F.type_list_pop, t_pop⟩
  · exact ⟨rfl, PySem.F.plainAttrs_list, PySem.F.slot_list_reverse, PySem.F.type_list_reverse, t_reverse⟩
  · exact ⟨rfl, PySem.F.plainAttrs_str, PySem.F.slot_str_startswith, PySem.F.type_str_startswith, t_starts⟩
  · exact ⟨rfl, PySem.F.plainAttrs_str, PySem.F.slot_str_startswith, PySem.F.type_str_startswith, t_starts⟩
theorem chk_ok {F H : Hp} {m : Mp} {h : Hm} {v : Vl} {x : V} {T : String} (rl : Rel G m F h H) (r : R G F m v x) (e : bmChk T v h = true) : tyV G.K T x H := by
  unfold bmChk at e
  split at e
  · split at e
    · rw [r.1]
      rfl
    · cases e
  · obtain ⟨xs, e1⟩ := Option.isSome_iff_exists.mp e
    obtain ⟨p, ys, rfl, q, _⟩ := lst_ok rl r e1
    exact .inl ⟨rfl, ys, q⟩
  · obtain ⟨xs, e1⟩ := Option.isSome_iff_exists.mp e
    obtain ⟨p, ys, rfl, q, _⟩ := dct_ok rl r e1
    exact .inr (.inr (.inl ⟨rfl, .inl ⟨ys, q⟩⟩))
  · cases e
theorem se_bm (fx : Fx X G C d) {es : List Expr} {xs : List Ex} {f T id : String} {apos : Pos} (hid : bmId f es.length = some (T, id)) (ho : SE X G C a x) (hb0 : baseOk a = true) (hs : es.all noStar = true) (hf : fewOk es.length 0 = true) (hln : (apos.endLine == pos.line) = true)
    (ha : SA X G C es xs) (hl : es.length = xs.length) : SE X G C (.Call (.Attribute a (Str.ofString f) apos) es [] pos) (.bm x f xs) := by
  obtain ⟨ty, pa, slot, tyof, rule⟩ := bm_ok fx hid
  have key : ∀ σ H Q, tM G (fun r h => (evM C x false r h).bind fun x h => if bmChk (bmTy f xs.length) x h then (evs C xs r h).bind fun vs h => bmF f x vs h else .bad) σ H Q → tBM X.K T (rMm G (bmF f)) (tM G fun r h => evM C x false r h) (tMs G fun r h => evs C xs r h) σ H Q := fun σ H Q w => by
    refine tM_bind (g := fun r x h => if bmChk (bmTy f xs.length) x h then (evs C xs r h).bind fun vs h => bmF f x vs h else .bad) w fun m F h r v x H' rl re rx w => ?_
    split at w
    · rename_i hc
      rw [← hl, ty] at hc
      refine ⟨by rw [fx.K]; exact chk_ok rl rx hc, ?_⟩
      obtain ⟨vs, h1, e1, w⟩ := w.bind
      refine ⟨m, F, h, r, rl, re, ?_⟩
      dsimp only
      rw [e1]
      exact fun m' F' H2 ys lm l rl' rys => ⟨m', F', h1, v, vs, rl', R.mono l lm _ _ rx, rys, w.mono lm l⟩
    · exact False.elim w
  refine SE.of fx.K (plainT_of rfl) (fun m r h => by rw [evM]) ?_
  cases es with
  | nil =>
    refine PE.weak (pe_bm0 pa slot tyof rule ho.v (base_of hb0) hln) fun σ H Q w => ?_
    obtain ⟨m, F, h, r, rl, re, k⟩ := key σ H Q w
    refine ⟨m, F, h, r, rl, re, k.imp fun y H1 ⟨h1, h2⟩ => ⟨h1, ?_⟩⟩
    have hx : xs = [] := by
      cases xs with
      | nil => rfl
      | cons x xs => cases hl
    subst hx
    obtain ⟨m2, F2, h2, r2, rl2, re2, k2⟩ := h2
    dsimp only at k2
    rw [evs] at k2
    exact k2.here rl2 rfl
  | cons e0 es =>
    have hs1 : noStar e0 = true := by
      rw [List.all_cons, Bool.and_eq_true] at hs
      exact hs.1
    have hs2 : es.all noStar = true := by
      rw [List.all_cons, Bool.and_eq_true] at hs
      exact hs.2
    have hfm := form_of (pos := pos) (kws := []) (env := X.env) hs rfl hf
    refine PE.weak (pe_bm pa slot tyof rule ho.v ha (base_of hb0) ?_ hln (star_of hs1) (noStar_any hs2)) key
    exact hfm

/-! ### new objects -/
theorem Rf.nil {F : Hp} {m : Mp} : Rf G F m [] [] := rfl
end
end Mi
/-! MINI: x in [..] of an own thing -/
namespace Mi
open PySem PySem.Spec PyProof.Rows L2
open PySem.SeqAt
open AutoSeq1 (wpAny_loadPart')
open MeetsSeq MeetsSeq2 MeetsSeq3 SeqRoads2
section
variable {prog : Program} {w : World} {A : Around} {E : Value → Shared → Prop} {s : Shared}
/-- what is known at a turn: the list is read anew -/
def InT (prog : Program) (w : World) (A : Around) (E : Value → Shared → Prop) (l : Addr) (N : Nat) (x : Value) (Q : Shared → Prop) (T : Nat → Shared → Prop) : Prop :=
  ∀ i s, T i s → ∃ (its : List Value) (n : Nat), s.heap.get? l = some { cls := .type "list", data := .seq its.toArray n } ∧ its.length = N ∧
    ∀ h : i < its.length, wpAny (model prog w) A.in1 (eqBool its[i] x) (fun b s' => if b = true then Q s' else T (i + 1) s') E s
theorem in_loop (l : Addr) (N : Nat) (x : Value) (R : Result → Shared → Prop) (T : Nat → Shared → Prop) (hl : InT prog w A (fun e s' => R (.error e) s') l N x (fun s' => R (.ok (.ret (.bool true))) s') T)
    (fin : ∀ s, T N s → R (.ok (.ret (.bool false))) s) (k : Nat) :
    ∀ i : Nat, N - i = k → i ≤ N → ∀ s, T i s → wpAny (model prog w) A.in1 (Builtin.«list.__contains__.loop» ⟨[.ref l, x, rawInt i], []⟩) (GQ.FinOf prog w A R) (fun e s' => R (.error e) s') s := by
  induction k with
  | zero =>
    intro i hk hi s h
    obtain ⟨its, n, hl1, hN, _⟩ := hl _ _ h
    have hi' : i = its.length := by omega
    have hR := fin s (by rw [← hN, ← hi']; exact h)
    obtain ⟨hp, g, d, tk, os⟩ := s
    wp_walk using wpAny_loadPart' hl1
    have hi1 : its.toArray[((i : Nat) : Int).toNat]? = none := by simp [hi']
    rw [hi1]
    wp_walk
    exact hR
  | succ k ih =>
    intro i hk hi s h
    obtain ⟨its, n, hl1, hN, turn⟩ := hl _ _ h
    have hlt : i < its.length := by omega
    have ht := turn hlt
    obtain ⟨hp, g, d, tk, os⟩ := s
    wp_walk using wpAny_loadPart' hl1
    have hi1 : its.toArray[((i : Nat) : Int).toNat]? = some its[i] := by simp [hlt]
    have hc : ((i : Int) + 1) = ((i + 1 : Nat) : Int) := by omega
    rw [hi1]
    refine wpAny_bind (wpAny_mono ht (fun r s2 h2 => ?_) fun _ _ z => z)
    cases r with
    | true =>
      have h2 : R (.ok (.ret (.bool true))) s2 := h2
      wp_walk
      exact h2
    | false =>
      have h2 : T (i + 1) s2 := h2
      have hrec := ih (i + 1) (by omega) (by omega) s2 h2
      obtain ⟨hp2, g2, d2, tk2, os2⟩ := s2
      wp_walk
      rw [hc]
      exact ⟨plainId_quiet plain_contains_loop _, codeAny_builtin entry_contains_loop (by
        rw [Around.under_plainId plain_contains_loop _]
        exact hrec)⟩
theorem in_own {l : Addr} {N : Nat} {x : Value} {Q : Bool → Shared → Prop} (T : Nat → Shared → Prop) (hl : InT prog w A E l N x (fun s' => Q true s') T) (fin : ∀ s, T N s → Q false s) (h : T 0 s) :
    wpAny (model prog w) A (contains (.ref l) x) Q E s := by
  obtain ⟨its, n, hl1, _⟩ := hl _ _ h
  refine wpAny_contains_slot (T := "list") ⟨_, hl1, rfl⟩ F.slot_list_contains ?_
  refine wpAny_mono (GQ.call_here (Q := fun v s' => ∃ b, v = .bool b ∧ Q b s') F.slot_list_contains ⟨_, hl1, rfl⟩ F.entry_list_contains (F.args_list_contains_2 _ _) ?_) (fun v s' hv => ?_) fun _ _ z => z
  · have hrec := in_loop (A := A) l N x (wants (fun v s' => ∃ b, v = .bool b ∧ Q b s') E) T (fun i s t => by
      obtain ⟨its, n, e1, e2, tn⟩ := hl i s t
      refine ⟨its, n, e1, e2, fun hi => wpAny_mono (tn hi) (fun b s' q => ?_) fun _ _ z => z⟩
      cases b with
      | true => exact ⟨true, rfl, q⟩
      | false => exact q) (fun s t => ⟨false, rfl, fin s t⟩) _ 0 rfl (Nat.zero_le _) s h
    obtain ⟨hp, g, d, tk, os⟩ := s
    wp_walk using wpAny_loadPart' hl1
    exact ⟨plainId_quiet plain_contains_loop _, codeAny_builtin entry_contains_loop (by
      rw [Around.under_plainId plain_contains_loop _]
      exact hrec)⟩
  · obtain ⟨b, rfl, hq⟩ := hv
    exact wpAny_truthy_bool hq
/-- None == x: x is asked -/
theorem none_own {K : PySem.W.Frag} {x Cl f : Addr} {ox : Obj} {od : Option Obj} {Q : Bool → Shared → Prop} (hu : A.units < cLine) (K1 : K.In s.heap) (I : PySem.W.InstAt s.heap x ox Cl od) (hs : PySem.W.findIn K (.ref Cl) "__eq__" = some (some (.ref f))) (hf : PySem.W.isFn K (.ref f) = true)
    (hsub : PySem.W.subIn K (.ref Cl) (.type "NoneType") = some false)
    (h : wpAny (model prog w) A (call (.ref f) [.ref x, .none]) (fun v s' => ∃ r, v = .bool r ∧ Q r s') E s) : wpAny (model prog w) A (eqBool .none (.ref x)) Q E s := by
  have one : wpAny (model prog w) A (tryCompare .none "__eq__" (.ref x)) (fun r s' => r = none ∧ s' = s) E s :=
    wpAny_tryCompare_declines (show s.TypeIs .none "NoneType" from rfl) F.slot_NoneType_eq_refl (call_gives F.slot_NoneType_eq_refl rfl F.entry_NoneType_eq (F.args_NoneType_eq_2 _ _) (NoneType___eq___none_ref_0 x) ⟨rfl, rfl, rfl⟩)
  have two : wpAny (model prog w) A (tryCompare (.ref x) "__eq__" .none) (fun r s' => ∃ b, r = some (.bool b) ∧ Q b s') E s := by
    unfold tryCompare
    refine wpAny_bind (PySem.W.ifBound_K K1 I hs hf (wpAny_mono h (fun v s' hv => ?_) fun _ _ e => e))
    obtain ⟨b, rfl, q⟩ := hv
    exact wpAny_pure ⟨b, rfl, q⟩
  unfold eqBool
  refine wpAny_holding ?_
  rw [if_neg (by simp)]
  refine wpAny_bind (m := richCompare .Eq .none (.ref x)) ?_
  simp only [richCompare, cmpInfo_Eq, oneThing_ref]
  refine wpAny_holding (wpAny_bind (wpAny_cRoomFor hu ?_))
  refine wpAny_bind (wpAny_typeOf (show s.TypeIs .none "NoneType" from rfl) ?_)
  refine wpAny_bind (I.type.here ?_)
  rw [if_pos (by rfl)]
  refine wpAny_bind ((PySem.W.looks_subIn K1 hsub).here ?_)
  simp only [Bool.false_eq_true, if_false, Bool.not_false, if_true]
  refine wpAny_bind (m := tryCompare .none _ (.ref x)) (wpAny_mono one (fun r s1 z => ?_) fun _ _ e => e)
  obtain ⟨z1, z2⟩ := z
  subst z1
  subst z2
  refine wpAny_bind (m := tryCompare (.ref x) _ .none) (wpAny_mono two (fun r s2 z => ?_) fun _ _ e => e)
  obtain ⟨b, rfl, q⟩ := z
  exact wpAny_pure (wpAny_pure q)
/-- y == x of two own things, as a list asks it -/
theorem both_own {K : PySem.W.Frag} {y x Cl f : Addr} {oy : Obj} {od : Option Obj} {tb : Value} {Q : Bool → Shared → Prop} {L : Addr} {h₀ : Heap} {m : Str → Option Value} (hu : A.units < cLine) (hF : Fr h₀ L s.heap m) (K0 : K.In h₀) (I : PySem.W.InstAt s.heap y oy Cl od)
    (hb : PySem.W.Looks (model prog w) s.heap (typeOf (.ref x)) tb) (hn : PySem.W.notFirst K Cl tb = true) (hs : PySem.W.findIn K (.ref Cl) "__eq__" = some (some (.ref f))) (hf : PySem.W.isFn K (.ref f) = true) (same : y = x → Q true s)
    (h : wpAny (model prog w) A (call (.ref f) [.ref y, .ref x]) (fun v s' => ∃ r, v = .bool r ∧ Q r s') E s) : wpAny (model prog w) A (eqBool (.ref y) (.ref x)) Q E s := by
  unfold eqBool
  refine wpAny_holding ?_
  by_cases e : y = x
  · rw [if_pos (by rw [e]; simp)]
    exact wpAny_bind (wpAny_rule (wpAny_pure (same e)))
  · rw [if_neg (by simpa using e)]
    refine wpAny_bind (m := richCompare .Eq (.ref y) (.ref x)) ?_
    refine PySem.W.cmp_K (op := .Eq) hu hF K0 I hb hn hs hf (wpAny_mono h (fun v s' z => ?_) fun _ _ z => z)
    obtain ⟨r, rfl, q⟩ := z
    exact wpAny_pure q
end
end Mi
/-! MINI: == and != of own things -/
namespace Mi
open PySem PySem.Spec PyProof.Rows L2
section
variable {X : Cx} {G : Gi} {C : Cs} {d : Nat} {e a b c : Expr} {x y z : Ex} {pos : Pos}
theorem first_of {K : PySem.W.Frag} {A : Addr} {n : String} (h : n ∈ tyAll) : PySem.W.notFirst K A (.type n) = true := by
  unfold PySem.W.notFirst
  rw [Bool.or_eq_true]
  refine .inr ?_
  unfold tyAll at h
  simp only [List.mem_cons, List.not_mem_nil, or_false] at h
  have key : ∀ (T : String) (l : List Value), fastBuiltinMro T = some l → (l.all fun v => match v with
      | .type _ => true
      | _ => false) = true → (PySem.W.subIn K (.type T) (.ref A) == some false) = true := by
    intro T l e1 e2
    have : PySem.W.subIn K (.type T) (.ref A) = some false := by
      show (fastBuiltinMro T).map (·.contains (.ref A)) = some false
      rw [e1]
      refine congrArg some (Bool.eq_false_iff.mpr fun z => ?_)
      have hm : Value.ref A ∈ l := List.contains_iff_mem.mp z
      have := List.all_eq_true.mp e2 _ hm
      cases this
    rw [this]
    rfl
  have k2 : ∀ (T : String), (match fastBuiltinMro T with
      | some l => l.all fun v => match v with
        | .type _ => true
        | _ => false
      | none => false) = true → (PySem.W.subIn K (.type T) (.ref A) == some false) = true := by
    intro T hT
    split at hT
    · rename_i l e1
      exact key T l e1 hT
    · cases hT
  rcases h with rfl | rfl | rfl | rfl | rfl | rfl | rfl <;> exact k2 _ (by decide +kernel)
/-- the second thing's type -/
theorem second_of (fx : Fx X G C d) {pins : List (Addr × Obj)} {σ : L2.St} {H F : Hp} {s : Shared} {m : Mp} {h : Hm} {v : Vl} {x : V} {u : Value} {cc : String} (I : Inv X pins σ H s) (rl : Rel G m F h H) (r : R G F m v x) (ru : RelV x u) (ht : typed h v = true) (hc : cc ∈ G.cs) :
    ∃ tb, PySem.W.Looks (model X.prog X.w) s.heap (typeOf u) tb ∧ PySem.W.notFirst X.K (G.ca cc) tb = true := by
  have K1 : X.K.In s.heap := I.kIn
  unfold typed at ht
  cases eo : objOf h v with
  | some q =>
    obtain ⟨c2, fs⟩ := q
    obtain ⟨ty, hc2⟩ := ty_own fx rl r eo
    obtain ⟨P, Z, p, _⟩ := kit_of (X := X) I ru (by rw [fx.K]; exact ty)
    exact ⟨_, Z.ty _ _ K1 p, by rw [fx.K]; exact (fx.own cc hc).subc c2 hc2⟩
  | none =>
    rw [eo] at ht
    have ht : (tyNm h v).isSome = true := ht
    obtain ⟨n, en⟩ := Option.isSome_iff_exists.mp ht
    obtain ⟨P, Z, p, _⟩ := kit_of (X := X) I ru (by rw [fx.K]; exact ty_ok rl r en)
    exact ⟨_, Z.ty _ _ K1 p, first_of (nm_in en)⟩
/-- != by the == of an own class -/
theorem ne_own {prog : Program} {w : World} {A : Around} {E : Value → Shared → Prop} {s : Shared} {K : PySem.W.Frag} {x Cl f : Addr} {ox : Obj} {od : Option Obj} {b tb : Value} {Q : Value → Shared → Prop} (hu : A.units < cLine) (hu1 : A.in1.units < cLine) (K1 : K.In s.heap) (I : PySem.W.InstAt s.heap x ox Cl od)
    (hb : PySem.W.Looks (model prog w) s.heap (typeOf b) tb) (hn : PySem.W.notFirst K Cl tb = true) (hm : PySem.W.mroIn K Cl (.type "object") = some true) (hne : PySem.W.findIn K (.ref Cl) "__ne__" = some (some (.builtin "object.__ne__")))
    (hs : PySem.W.findIn K (.ref Cl) "__eq__" = some (some (.ref f))) (hf : PySem.W.isFn K (.ref f) = true)
    (h : wpAny (model prog w) A.in1 (call (.ref f) [.ref x, b]) (fun v s' => ∃ r, v = .bool r ∧ Q (.bool (!r)) s') E s) : wpAny (model prog w) A (richCompare .NotEq (.ref x) b) Q E s := by
  have entry : wpAny (model prog w) A.in1 (Builtin.«object.__ne__» ⟨[.ref x, b], []⟩) (fun fin s' => ∃ r, fin = .done (.ret (.bool (!r))) ∧ Q (.bool (!r)) s') E s := by
    unfold Builtin.«object.__ne__»
    refine wpAny_bind (wpAny_pure ?_)
    refine wpAny_bind (wpAny_cRoomFor hu1 ?_)
    refine wpAny_bind (m := callSpecialIfBound? (.ref x) (Str.ofString "__eq__") [b]) (PySem.W.ifBound_K K1 I hs hf (wpAny_mono h (fun v s' hv => ?_) fun _ _ z => z))
    obtain ⟨r, rfl, q⟩ := hv
    refine wpAny_bind (m := truthy (.bool r)) (wpAny_pure ?_)
    exact wpAny_pure ⟨r, rfl, q⟩
  have one : wpAny (model prog w) A (tryCompare (.ref x) "__ne__" b) (fun r s' => ∃ v, r = some v ∧ Q v s') E s := by
    unfold tryCompare
    refine wpAny_bind (m := callSpecialIfBound? (.ref x) (Str.ofString "__ne__") [b]) ?_
    simp only [callSpecialIfBound?, bindSpecialIfBound?]
    refine wpAny_holding (wpAny_bind (wpAny_bind (wpAny_bind (I.type.here ((PySem.W.looks_findIn K1 hne).here ?_)))))
    refine wpAny_bind (wpAny_askSetting (wpAny_ite ?_))
    have fin : ∀ R : Option Value → Shared → Prop, (∀ v s', (∃ r, v = Value.bool (!r) ∧ Q (.bool (!r)) s') → R (some v) s') → wpAny (model prog w) A (call (.builtin "object.__ne__") ([.ref x] ++ [b]) >>= fun v => pure (some v)) R E s := by
      intro R hR
      refine wpAny_bind (m := call (.builtin "object.__ne__") [.ref x, b]) ?_
      have ca : wpAny (model prog w) A (call (.builtin "object.__ne__") [.ref x, b]) (fun v s' => ∃ r, v = .bool (!r) ∧ Q (.bool (!r)) s') E s :=
        wpAny_call (codeAny_call_builtin F.cmp_object.ne.plain F.cmpEntry_ne (PySem.W.check_slot F.cmpKind_ne F.cmpSplit_ne (I.type.andThen (PySem.W.looks_mroIn K1 hm)) (F.cmpArgs_ne _ _) (wpAny_mono entry (fun fn s' ⟨r, e, q⟩ => by subst e; exact ⟨r, rfl, q⟩) fun _ _ z => z)))
      exact wpAny_mono ca (fun v s' z => wpAny_pure (hR v s' z)) fun _ _ z => z
    split
    · exact wpAny_bind (wpAny_of_eq (F.cmp_object.ne.bind _) (wpAny_pure (by exact fin _ fun v s' ⟨r, e, q⟩ => by subst e; exact wpAny_pure ⟨_, rfl, q⟩)))
    · exact wpAny_tryCatch (wpAny_bind (wpAny_of_eq (F.cmp_object.ne.bind _) (wpAny_pure (by exact fin _ fun v s' ⟨r, e, q⟩ => by subst e; exact wpAny_pure ⟨_, rfl, q⟩))))
  unfold richCompare
  simp only [oneThing_ref]
  refine wpAny_holding (wpAny_bind (wpAny_cRoomFor hu ?_))
  refine wpAny_bind (I.type.here (wpAny_bind (hb.here ?_)))
  split
  · rename_i q
    have e : PySem.W.subIn K tb (.ref Cl) = some false := by
      rcases Bool.or_eq_true_iff.mp hn with e | e
      · rw [beq_iff_eq.mp e] at q
        simp at q
      · exact beq_iff_eq.mp e
    refine wpAny_bind ((PySem.W.looks_subIn K1 e).here ?_)
    simp only [Bool.false_eq_true, if_false]
    refine wpAny_bind (wpAny_mono one (fun r s' z => ?_) fun _ _ e => e)
    obtain ⟨v, rfl, hq⟩ := z
    exact wpAny_pure hq
  · refine wpAny_bind (wpAny_pure ?_)
    simp only [Bool.false_eq_true, if_false]
    refine wpAny_bind (wpAny_mono one (fun r s' z => ?_) fun _ _ e => e)
    obtain ⟨v, rfl, hq⟩ := z
    exact wpAny_pure hq
theorem op_cut {op : CmpOp} {r r' : R2} (h : OpR X (compareOp op) r) (i : ∀ x y H Q, r' x y H Q → r x y H Q) : OpR X (compareOp op) r' := fun pins s σ H x y v u Q I rx ry q => h pins s σ H x y v u Q I rx ry (i _ _ _ _ q)
theorem cmp_eqC (fx : Fx X G C d) : OpR X (compareOp .Eq) (rM2 G (cmpC C .eq)) := by
  intro pins s σ H x y v u Q I rx ry hq
  obtain ⟨m, F, hh, a, b, rl, ra, rb, w⟩ := hq
  unfold cmpC at w
  cases eo : objOf hh a with
  | none =>
    rw [eo] at w
    exact cmp_eq fx.K fx.hu pins s σ H x y v u Q I rx ry ⟨m, F, hh, a, b, rl, ra, rb, w⟩
  | some q =>
    obtain ⟨cc, fs⟩ := q
    rw [eo] at w
    dsimp only at w
    split at w
    · rename_i ht
      obtain ⟨p, rfl, hc, ox, od, J⟩ := own_at fx I rl ra eo
      obtain rfl : v = Value.ref p := rx
      obtain ⟨mm, hF⟩ := I.fr
      obtain ⟨tb, hl, hn⟩ := second_of fx I rl rb ry ht hc
      unfold boolR at w
      obtain ⟨r0, h1, e2, w⟩ := w.bind
      cases efi : G.fi cc "__eq__" with
      | none =>
        rw [fx.badF _ _ _ _ efi] at e2
        cases e2
      | some fi =>
        have M := fx.meth cc _ fi hc efi
        obtain ⟨fd, hf⟩ := fx.fn G.U cc "__eq__" fi efi
        show wpAny (model X.prog X.w) X.A (richCompare .Eq (.ref p) u) (EP X pins σ Q) X.xe s
        refine PySem.W.cmp_K (K := X.K) (C := G.ca cc) (op := .Eq) (f := G.fa cc "__eq__") fx.room.units0 hF I.ok.mod.kin J hl hn (by rw [fx.K]; exact M.at_) (by rw [fx.K]; exact M.fn) ?_
        refine wpAny_mono (run_own (A := X.A) (sem := C.fn) (us := [.ref p, u]) (xs := [.ref p, y]) (ls := [a, b]) (Q := fun z H' => ∃ i : Bool, z = .bl i ∧ Q (.bl i) H') rfl hf fx.K fx.room I (.cons rfl (.cons ry .nil)) (fx.ar2 cc hc fi efi) rfl rl (Rs.cons ra (Rs.one rb)) ?_) (fun u2 s2 z => ?_) fun _ _ z => z
        · rw [e2]
          intro m2 F2 H2 z lm l rl2 rz
          split at w
          · rename_i i
            exact ⟨i, rz, w m2 F2 H2 _ lm l rl2 rfl⟩
          · exact False.elim w
        · obtain ⟨z, H2, I2, rz, i, rfl, q⟩ := z
          obtain rfl : u2 = Value.bool i := rz
          exact ⟨.bl i, H2, I2, rfl, q⟩
    · exact False.elim w
theorem cmp_neC (fx : Fx X G C d) : OpR X (compareOp .NotEq) (rM2 G (cmpC C .ne)) := by
  intro pins s σ H x y v u Q I rx ry hq
  obtain ⟨m, F, hh, a, b, rl, ra, rb, w⟩ := hq
  unfold cmpC at w
  cases eo : objOf hh a with
  | none =>
    rw [eo] at w
    exact cmp_ne fx.K fx.hu pins s σ H x y v u Q I rx ry ⟨m, F, hh, a, b, rl, ra, rb, w⟩
  | some q =>
    obtain ⟨cc, fs⟩ := q
    rw [eo] at w
    dsimp only at w
    split at w
    · rename_i ht
      obtain ⟨p, rfl, hc, ox, od, J⟩ := own_at fx I rl ra eo
      obtain rfl : v = Value.ref p := rx
      obtain ⟨mm, hF⟩ := I.fr
      obtain ⟨tb, hl, hn⟩ := second_of fx I rl rb ry ht hc
      unfold notR at w
      obtain ⟨r0, h1, e2, w⟩ := w.bind
      cases efi : G.fi cc "__eq__" with
      | none =>
        rw [fx.badI _ _ _ _ efi] at e2
        cases e2
      | some fi =>
        have M := fx.meth cc _ fi hc efi
        rcases fx.ini with h0 | ⟨d', rfl, hi⟩
        · rw [fx.ini0 h0] at e2
          cases e2
        · obtain ⟨fd, hf⟩ := hi G.U cc "__eq__" fi efi
          show wpAny (model X.prog X.w) X.A (richCompare .NotEq (.ref p) u) (EP X pins σ Q) X.xe s
          refine ne_own (K := X.K) (Cl := G.ca cc) (f := G.fa cc "__eq__") fx.room.units0 fx.room.in1.units0 I.kIn J hl hn (by rw [fx.K]; exact (fx.own cc hc).hm) (by rw [fx.K]; exact (fx.own cc hc).ne) (by rw [fx.K]; exact M.at_) (by rw [fx.K]; exact M.fn) ?_
          refine wpAny_mono (run_own (A := X.A.in1) (sem := C.ini) (us := [.ref p, u]) (xs := [.ref p, y]) (ls := [a, b]) (Q := fun z H' => ∃ i : Bool, z = .bl i ∧ Q (.bl (!i)) H') rfl hf fx.K fx.room.in1 I (.cons rfl (.cons ry .nil)) (fx.ar2 cc hc fi efi) rfl rl (Rs.cons ra (Rs.one rb)) ?_) (fun u2 s2 z => ?_) fun _ _ z => z
          · rw [e2]
            intro m2 F2 H2 z lm l rl2 rz
            split at w
            · rename_i i
              exact ⟨i, rz, w m2 F2 H2 _ lm l rl2 rfl⟩
            · exact False.elim w
          · obtain ⟨z, H2, I2, rz, i, rfl, q⟩ := z
            obtain rfl : u2 = Value.bool i := rz
            exact ⟨i, rfl, .bl (!i), H2, I2, rfl, q⟩
    · exact False.elim w
theorem pureR_ok {r : Res Vl} {h h1 : Hm} {v : Vl} (e : pureR r h = .ok v h1) : ∃ h0, r = .ok v h0 ∧ clo v = true ∧ h1 = h := by
  unfold pureR at e
  split at e
  · rename_i v0 h0
    split at e
    · rename_i hc
      cases e
      exact ⟨h0, rfl, hc, rfl⟩
    · cases e
  · cases e
/-- an own ==, asked by itself -/
theorem own_eq_run (fx : Fx X G C d) {pins : List (Addr × Obj)} {σ : L2.St} {H F : Hp} {s : Shared} {m : Mp} {hh h0 : Hm} {a b : Vl} {p : Addr} {u : Value} {y : V} {cc : String} {fi : FnI} {bb : Bool} {Q : Value → Shared → Prop} (efi : G.fi cc "__eq__" = some fi) (hc : cc ∈ G.cs) (I : Inv X pins σ H s) (rl : Rel G m F hh H) (ra : R G F m a (.ref p)) (rb : R G F m b y) (ru : RelV y u) (ca : clo a = true) (cb : clo b = true)
    (e : C.ini cc "__eq__" [a, b] [] = .ok (.bl bb) h0) (k : ∀ s2 H2 F2, Inv X pins σ H2 s2 → Le F F2 → Rel G m F2 hh H2 → Q (.bool bb) s2) : wpAny (model X.prog X.w) X.A.in1 (call (.ref (G.fa cc "__eq__")) [.ref p, u]) Q X.xe s := by
  rcases fx.ini with h1 | ⟨d', rfl, hi⟩
  · rw [fx.ini0 h1] at e
    cases e
  · obtain ⟨fd, hf⟩ := hi (allBy G m hh H) cc "__eq__" fi efi
    refine wpAny_mono (run_own (G := G.u (allBy G m hh H)) (A := X.A.in1) (sem := C.ini) (us := [.ref p, u]) (xs := [.ref p, y]) (ls := [a, b]) (Q := fun z H2 => z = .bl bb ∧ ∃ F2, Le F F2 ∧ Rel G m F2 hh H2) rfl hf fx.K fx.room.in1 I (.cons rfl (.cons ru .nil)) (fx.ar2 cc hc fi efi) rfl rl.alone (Rs.clo (m := m) (by simp [clos, ca, cb]) (Rs.u (Rs.cons ra (Rs.one rb)))) ?_) (fun u2 s2 z => ?_) fun _ _ z => z
    · rw [e]
      intro m2 F2 H2 z lm l rl2 rz
      exact ⟨rz, F2, l, rl.back l rl2⟩
    · obtain ⟨z, H2, I2, rz, rfl, F2, l, rl2⟩ := z
      obtain rfl : u2 = Value.bool bb := rz
      exact k s2 H2 F2 I2 l rl2
/-- the turns of x in [..] -/
theorem inO_run (fx : Fx X G C d) {pins : List (Addr × Obj)} {σ : L2.St} {H F : Hp} {s : Shared} {m : Mp} {hh : Hm} {a : Vl} {v : Value} {x : V} {cc : String} {fs : List (String × Vl)} {ys : List Vl} {zs : List V} {p : Addr} {Q : Bool → Hp → Prop} (I : Inv X pins σ H s) (rl : Rel G m F hh H) (ra : R G F m a x) (rx : RelV x v) (eo : objOf hh a = some (cc, fs))
    (hq : SqX G.K F p zs) (rs : Rs G F m ys zs) (hca : clo a = true) (hcs : clos ys = true) (w : WpV G m F (inO C a cc ys hh) (fun z H' => ∃ b, z = .bl b ∧ Q b H')) :
    wpAny (model X.prog X.w) X.A (contains (.ref p) v) (fun b s' => ∃ H', Inv X pins σ H' s' ∧ Q b H') X.xe s := by
  have hcd : ∀ i, clos (ys.drop i) = true := by
    intro i
    induction ys generalizing i with
    | nil => simp [clos]
    | cons y ys ih =>
      have hcs' : clo y = true ∧ clos ys = true := by simpa [clos] using hcs
      cases i with
      | zero => exact hcs
      | succ i =>
        rw [List.drop_succ_cons]
        clear w rs
        revert i
        intro i
        have key : ∀ (l : List Vl) (i : Nat), clos l = true → clos (l.drop i) = true := by
          intro l
          induction l with
          | nil => intro i h; simp [clos]
          | cons y l ih =>
            intro i h
            cases i with
            | zero => exact h
            | succ i =>
              rw [List.drop_succ_cons]
              exact ih i ((by simpa [clos] using h : clo y = true ∧ clos l = true).2)
        exact key ys i hcs'.2
  refine in_own (N := ys.length) (fun i s' => ∃ H' F', Inv X pins σ H' s' ∧ Le F F' ∧ Rel G m F' hh H' ∧ WpV G m F' (inO C a cc (ys.drop i) hh) (fun z H' => ∃ b, z = .bl b ∧ Q b H')) (fun i s' t => ?_) (fun s' t => ?_) ⟨H, F, I, Le.refl F, rl, by rw [List.drop_zero]; exact w⟩
  · obtain ⟨H', F', I', l', rl', w'⟩ := t
    have hx : SqX X.K H' p zs := by
      rw [fx.K]
      exact rl'.sub.lst (l'.lst hq)
    obtain ⟨_, its, n, rv, hl, hg⟩ := lst_at I' hx
    have hlen : its.length = ys.length := by rw [← hl, rs.length]
    refine ⟨its, n, hg, hlen, fun hi => ?_⟩
    have hiy : i < ys.length := by omega
    have ed : ys.drop i = ys[i] :: ys.drop (i + 1) := List.drop_eq_getElem_cons hiy
    have hc2 := hcd i
    rw [ed] at w' hc2
    have hc2 : clo ys[i] = true ∧ clos (ys.drop (i + 1)) = true := by simpa [clos] using hc2
    obtain ⟨z, ez, rz⟩ := rs.get (i := i) (List.getElem?_eq_getElem hiy)
    have ruz : RelV z its[i] := by
      obtain ⟨u, eu, ru⟩ := rv.get ez
      rw [List.getElem?_eq_getElem hi] at eu
      cases eu
      exact ru
    have ra' := R.mono l' (Lm.refl m) _ _ ra
    have rz' := R.mono l' (Lm.refl m) _ _ rz
    obtain ⟨px, rfl, hc, ox, od, J⟩ := own_at fx I' rl' ra' eo
    obtain rfl : v = Value.ref px := rx
    generalize ys[i] = yi at w' hc2 rz rz'
    generalize its[i] = ui at ruz
    unfold inO at w'
    split at w'
    · rename_i z0
      cases z0
    · rename_i r0 z0
      cases z0
      have ezn : z = .non := rz
      subst ezn
      obtain rfl : ui = Value.none := ruz
      obtain ⟨b0, h1, e2, w2⟩ := w'.bind
      clear w'
      obtain ⟨h0, e3, cb, rfl⟩ := pureR_ok e2
      split at w2
      · cases efi : G.fi cc "__eq__" with
        | none =>
          rw [fx.badI _ _ _ _ efi] at e3
          cases e3
        | some fi =>
          have M := fx.meth cc _ fi hc efi
          refine none_own (K := X.K) (Cl := G.ca cc) (f := G.fa cc "__eq__") (by have := fx.room.un; show X.A.units + 1 < cLine; omega) I'.kIn J (by rw [fx.K]; exact M.at_) (by rw [fx.K]; exact M.fn) (by rw [fx.K]; exact (fx.own cc hc).sn) ?_
          exact own_eq_run (b := .non) (y := .non) fx efi hc I' rl' ra' rz' rfl hca rfl e3 fun s2 H2 F2 I2 l2 rl2 => ⟨false, rfl, H2, F2, I2, l'.trans l2, rl2, Wp.mono w2 (Lm.refl m) l2⟩
      · exact False.elim w2
    · rename_i y0 r0 _ z0
      cases z0
      split at w'
      · rename_i c2 fs2 eo2
        obtain ⟨b0, h1, e2, w2⟩ := w'.bind
        clear w'
        obtain ⟨h0, e3, cb, rfl⟩ := pureR_ok e2
        split at w2
        · cases efi : G.fi c2 "__eq__" with
          | none =>
            rw [fx.badI _ _ _ _ efi] at e3
            cases e3
          | some fi =>
            obtain ⟨py, rfl, hc3, oy, ody, Jy⟩ := own_at fx I' rl' rz' eo2
            obtain rfl : ui = Value.ref py := ruz
            have M := fx.meth c2 _ fi hc3 efi
            obtain ⟨mm, hF⟩ := I'.fr
            obtain ⟨tb, hl2, hn2⟩ := second_of fx I' rl' ra' rfl (by unfold typed; rw [eo]; rfl) hc3
            have fin : ∀ H2 F2, Le F' F2 → Rel G m F2 h1 H2 → Q true H2 := fun H2 F2 l2 rl2 => by
              obtain ⟨b, e, q⟩ := w2 m F2 H2 _ (Lm.refl m) l2 rl2 rfl
              cases e
              exact q
            refine both_own (K := X.K) (Cl := G.ca c2) (f := G.fa c2 "__eq__") (by have := fx.room.un; show X.A.units + 1 < cLine; omega) hF I'.ok.mod.kin Jy hl2 hn2 (by rw [fx.K]; exact M.at_) (by rw [fx.K]; exact M.fn) (fun _ => ⟨H', I', fin H' F' (Le.refl _) rl'⟩) ?_
            exact own_eq_run fx efi hc3 I' rl' rz' ra' rfl hc2.1 hca e3 fun s2 H2 F2 I2 l2 rl2 => ⟨true, rfl, H2, I2, fin H2 F2 l2 rl2⟩
        · exact False.elim w2
      · exact False.elim w'
  · obtain ⟨H', F', I', l', rl', w'⟩ := t
    rw [List.drop_length, inO] at w'
    obtain ⟨b, e, q⟩ := w'.here rl' rfl
    cases e
    exact ⟨H', I', q⟩
theorem bind_ok {α β : Type} {r : Res α} {f : α → Hm → Res β} {b : β} {h' : Hm} (e : r.bind f = .ok b h') : ∃ a h1, r = .ok a h1 ∧ f a h1 = .ok b h' := by
  cases r with
  | ok a h1 => exact ⟨a, h1, rfl, e⟩
  | exc c fs h => cases e
  | bad => cases e
theorem inO_bl {a v : Vl} {cc : String} {h' : Hm} : ∀ (l : List Vl) (h : Hm), inO C a cc l h = .ok v h' → ∃ t, v = .bl t
  | [], h, e => by
    rw [inO] at e
    cases e
    exact ⟨_, rfl⟩
  | y :: l, h, e => by
    unfold inO at e
    split at e
    · rename_i z0
      cases z0
    · rename_i z0
      cases z0
      obtain ⟨b0, h1, _, e⟩ := bind_ok e
      split at e
      · exact inO_bl l _ e
      · cases e
    · rename_i z0
      cases z0
      split at e
      · obtain ⟨b0, h1, _, e⟩ := bind_ok e
        split at e
        · cases e
          exact ⟨_, rfl⟩
        · cases e
      · cases e
theorem inOwn_bl {a b v : Vl} {cc : String} {h h' : Hm} (e : inOwn C a cc b h = .ok v h') : ∃ t, v = .bl t := by
  unfold inOwn at e
  split at e
  · split at e
    · exact inO_bl _ _ e
    · cases e
  · cases e
theorem cmp_inC (fx : Fx X G C d) (neg : Bool) : OpR X (compareOp (if neg then .NotIn else .In)) (rM2 G (cmpC C (if neg then .notin else .isin))) := by
  intro pins s σ H x y v u Q I rx ry hq
  obtain ⟨m, F, hh, a, b, rl, ra, rb, w⟩ := hq
  cases eo : objOf hh a with
  | none =>
    cases neg with
    | true =>
      have w : WpV G m F (cmpC C .notin a b hh) Q := w
      unfold cmpC at w
      rw [eo] at w
      exact cmp_notin fx.K fx.hu pins s σ H x y v u Q I rx ry ⟨m, F, hh, a, b, rl, ra, rb, w⟩
    | false =>
      have w : WpV G m F (cmpC C .isin a b hh) Q := w
      unfold cmpC at w
      rw [eo] at w
      exact cmp_in fx.K fx.hu pins s σ H x y v u Q I rx ry ⟨m, F, hh, a, b, rl, ra, rb, w⟩
  | some q =>
    obtain ⟨cc, fs⟩ := q
    have key : ∀ Q' : Bool → Hp → Prop, WpV G m F (inOwn C a cc b hh) (fun z H' => ∃ b, z = .bl b ∧ Q' b H') → wpAny (model X.prog X.w) X.A (contains u v) (fun b s' => ∃ H', Inv X pins σ H' s' ∧ Q' b H') X.xe s := by
      intro Q' w
      unfold inOwn at w
      split at w
      · rename_i ys
        split at w
        · rename_i hc
          rw [Bool.and_eq_true] at hc
          obtain ⟨p, zs, rfl, hq, rs⟩ := rb
          obtain rfl : u = Value.ref p := ry
          exact inO_run fx I rl ra rx eo hq rs hc.1 hc.2 w
        · exact False.elim w
      · exact False.elim w
    cases neg with
    | true =>
      have w : WpV G m F (cmpC C .notin a b hh) Q := w
      unfold cmpC at w
      rw [eo] at w
      have w : WpV G m F ((inOwn C a cc b hh).bind fun v h => match v with
        | .bl b => .ok (.bl (!b)) h
        | _ => .bad) Q := w
      obtain ⟨v1, h1, e1, w⟩ := w.bind
      obtain ⟨t, rfl⟩ := inOwn_bl e1
      show wpAny (model X.prog X.w) X.A (do return Value.bool (!(← contains u v))) (EP X pins σ Q) X.xe s
      refine wpAny_bind (wpAny_mono (key (fun b H' => Q (.bl (!b)) H') ?_) (fun b s' z => ?_) fun _ _ z => z)
      · rw [e1]
        intro m2 F2 H2 z lm l rl2 rz
        exact ⟨t, rz, w m2 F2 H2 _ lm l rl2 rfl⟩
      · obtain ⟨H', I', q⟩ := z
        exact wpAny_pure ⟨.bl (!b), H', I', rfl, q⟩
    | false =>
      have w : WpV G m F (cmpC C .isin a b hh) Q := w
      unfold cmpC at w
      rw [eo] at w
      have w : WpV G m F (inOwn C a cc b hh) Q := w
      show wpAny (model X.prog X.w) X.A (do return Value.bool (← contains u v)) (EP X pins σ Q) X.xe s
      refine wpAny_bind (wpAny_mono (key (fun b H' => Q (.bl b) H') ?_) (fun b s' z => ?_) fun _ _ z => z)
      · cases e1 : inOwn C a cc b hh with
        | ok v1 h1 =>
          rw [e1] at w
          obtain ⟨t, rfl⟩ := inOwn_bl e1
          intro m2 F2 H2 z lm l rl2 rz
          exact ⟨t, rz, w m2 F2 H2 _ lm l rl2 rfl⟩
        | exc c f h1 =>
          rw [e1] at w
          exact False.elim w
        | bad =>
          rw [e1] at w
          exact False.elim w
      · obtain ⟨H', I', q⟩ := z
        exact wpAny_pure ⟨.bl b, H', I', rfl, q⟩
theorem cmpC_else (op : Cop) (h1 : op ≠ .eq) (h2 : op ≠ .ne) (h3 : op ≠ .isin) (h4 : op ≠ .notin) : cmpC C op = cmpop op := by
  funext x y h
  unfold cmpC
  cases op <;> first | exact absurd rfl h1 | exact absurd rfl h2 | exact absurd rfl h3 | exact absurd rfl h4 | rfl
theorem cmp_okC (fx : Fx X G C d) (op : Cop) : OpR X (compareOp (opC op)) (rM2 G (cmpC C op)) := by
  by_cases h1 : op = .eq
  · subst h1
    exact cmp_eqC fx
  by_cases h2 : op = .ne
  · subst h2
    exact cmp_neC fx
  by_cases h3 : op = .isin
  · subst h3
    exact cmp_inC fx false
  by_cases h4 : op = .notin
  · subst h4
    exact cmp_inC fx true
  rw [cmpC_else op h1 h2 h3 h4]
  exact cmp_ok fx.K fx.hu op
theorem cmpC_bl {op : Cop} {x y v : Vl} {h h' : Hm} (e : cmpC C op x y h = .ok v h') : ∃ b, v = .bl b := by
  have key : ∀ (r : Res Vl) (g : Bool → Bool), (r.bind fun v h => match v with
      | .bl b => Res.ok (.bl (g b)) h
      | _ => .bad) = .ok v h' → ∃ b, v = .bl b := by
    intro r g e
    cases r with
    | ok a h1 =>
      cases a with
      | bl b =>
        have e : Res.ok (Vl.bl (g b)) h1 = .ok v h' := e
        cases e
        exact ⟨_, rfl⟩
      | _ => cases e
    | _ => cases e
  cases eo : objOf h x with
  | none =>
    unfold cmpC at e
    rw [eo] at e
    have e : cmpop op x y h = .ok v h' := by
      cases op <;> exact e
    obtain ⟨b, e, _⟩ := cmp_bl e
    exact ⟨b, e⟩
  | some q =>
    unfold cmpC at e
    rw [eo] at e
    cases op with
    | eq =>
      dsimp only at e
      split at e
      · exact key _ id e
      · cases e
    | ne =>
      dsimp only at e
      split at e
      · exact key _ (!·) e
      · cases e
    | isin => exact inOwn_bl e
    | notin => exact key _ (!·) e
    | _ =>
      obtain ⟨b, e, _⟩ := cmp_bl e
      exact ⟨b, e⟩
theorem se_cmp (fx : Fx X G C d) (op : Cop) (ha : SE X G C a x) (hb : SE X G C b y) (hs : noSet b = true) : SE X G C (.Compare a [opC op] [b] pos) (.cmp op x y) := by
  refine SE.ofB (f := fun r h => (evM C x false r h).bind fun u h => (evM C y false r h).bind fun v h => cmpC C op u v h) (fun m r h => by rw [evM]) (fun r h v h' e => ?_) (PE.weak (pe_cmpR (cmp_okC fx op) ha.v hb.v (marks_of hs)) fun σ H Q w => tM_two rfl w)
    (PT.weak (pt_cmpR (cmp_okC fx op) ha.v hb.v (marks_of hs)) fun σ H Q w => tM_two rfl w)
  cases e1 : evM C x false r h with
  | ok u h1 =>
    rw [e1] at e
    have e : ((evM C y false r h1).bind fun v h => cmpC C op u v h) = .ok v h' := e
    cases e2 : evM C y false r h1 with
    | ok u2 h2 =>
      rw [e2] at e
      exact cmpC_bl (show cmpC C op u u2 h2 = .ok v h' from e)
    | exc c fs h' =>
      rw [e2] at e
      cases e
    | bad =>
      rw [e2] at e
      cases e
  | exc c fs h' =>
    rw [e1] at e
    cases e
  | bad =>
    rw [e1] at e
    cases e
end
end Mi
/-! MINI: f-texts, displayed dicts, get -/
namespace Mi
open PySem PySem.Spec PyProof.Rows L2
section
variable {X : Cx} {G : Gi} {C : Cs} {d : Nat} {e a b c : Expr} {x y z : Ex} {pos : Pos}
def tMu (G : Gi) (f : Rho → Hm → Res Vl) : TE := fun σ H Q => ∃ U, tM (G.u U) f σ H Q
theorem PE.ex' {t : Hp → TE} (h : ∀ U, PE X e (t U)) : PE X e (fun σ H Q => ∃ U, t U σ H Q) := ⟨fun pins s σ H Q I ⟨U, q⟩ => (h U).run pins s σ H Q I q⟩
theorem se_fmt (fx : Fx X G C d) (he : SE X G C e x) : SE X G C (.FormattedValue e (-1) none pos) (.fmt x) := by
  refine SE.of fx.K (plainT_of rfl) (fun m r h => by rw [evM]) ⟨fun pins s σ H Q I w => ?_⟩
  refine wpAny_FormattedValue_plain (thn (he.v.run pins s σ H (fun y H1 => ∃ m F h v, Rel G m F h H1 ∧ R G F m v y ∧ WpV G m F (fmtV C v h) Q) I (tM_bind w fun m F h r v x H' rl re rx w => ⟨m, F, h, v, rl, rx, w⟩)) fun u s1 ⟨y, H1, I1, ru, m, F, h, v, rl, rx, w⟩ => ?_)
  unfold fmtV at w
  split at w
  · rename_i t
    split at w
    · rename_i hl
      obtain ⟨rfl, o⟩ := rx
      obtain ⟨tk, rfl⟩ := ru
      exact wpAny_formatField_str ⟨.str (ss t), H1, I1, ⟨tk, rfl⟩, w.here rl ⟨rfl, o⟩⟩ ⟨.str (ss t), H1, I1.tok _, ⟨_, rfl⟩, w.here rl ⟨rfl, o⟩⟩ (by rw [ss_len]; exact hl)
    · exact False.elim w
  · rename_i i
    split at w
    · rename_i hl
      have e : y = .int i := rx
      subst e
      obtain ⟨tk, rfl⟩ := ru
      exact wpAny_formatField_int hl ⟨.str (toString i), H1, I1.tok _, ⟨_, rfl⟩, w.here rl ⟨congrArg V.str (show_ss i), show_ok i⟩⟩
    · exact False.elim w
  · split at w
    · rename_i cc fs eo
      obtain ⟨p, rfl, hc, ox, od, J⟩ := own_at fx I1 rl rx eo
      obtain rfl : u = Value.ref p := ru
      unfold strR at w
      obtain ⟨r0, h1, e2, w⟩ := w.bind
      cases efi : G.fi cc "__str__" with
      | none =>
        rw [fx.badI _ _ _ _ efi] at e2
        cases e2
      | some fi =>
        have M := fx.meth cc _ fi hc efi
        rcases fx.ini with h0 | ⟨d', rfl, hi⟩
        · rw [fx.ini0 h0] at e2
          cases e2
        · obtain ⟨fd, hf⟩ := hi G.U cc "__str__" fi efi
          have I2 := I1.tok (s1.toks + 1)
          refine PySem.W.kfo_fieldS (K := X.K) (C := G.ca cc) (f := G.fa cc "__str__") fx.room.in1.units0 I1.kIn J (by rw [fx.K]; exact (fx.own cc hc).fm) (by rw [fx.K]; exact (fx.own cc hc).hm) (by rw [fx.K]; exact M.at_) (by rw [fx.K]; exact M.fn) ?_
          refine wpAny_mono (run_own (A := X.A.in1) (sem := C.ini) (us := [.ref p]) (xs := [.ref p]) (ls := [v]) (Q := fun y H' => ∃ i : Str, y = .str i ∧ Q (.str i) H') rfl hf fx.K fx.room.in1 I2 (.cons rfl .nil) (fx.ar1 cc hc _ (by decide) fi efi) rfl rl (Rs.one rx) ?_) (fun u2 s2 z => ?_) fun _ _ z => z
          · rw [e2]
            intro m2 F2 H2 y lm l rl2 ry
            split at w
            · rename_i i
              obtain ⟨ry, o⟩ := ry
              exact ⟨ss i, ry, w m2 F2 H2 _ lm l rl2 ⟨rfl, o⟩⟩
            · exact False.elim w
          · obtain ⟨y, H2, I3, ry, i, rfl, q⟩ := z
            obtain ⟨t, rfl⟩ := (show ∃ t, u2 = Value.str i t from ry)
            exact ⟨.str i, H2, I3, ⟨_, rfl⟩, q⟩
    · exact False.elim w
/-- the pieces -/
inductive SJ (X : Cx) (G : Gi) (C : Cs) : List Expr → List Ex → Prop where
  | nil : SJ X G C [] []
  | cons {e : Expr} {x : Ex} {es : List Expr} {xs : List Ex} (h : SE X G C e x) (r : SJ X G C es xs) : SJ X G C (e :: es) (x :: xs)
theorem SJ.pj {es : List Expr} {xs : List Ex} (h : SJ X G C es xs) : PJ X es (xs.map fun x => tM G fun r h => evM C x false r h) := by
  induction h with
  | nil => exact .nil
  | cons h r ih => exact .cons h.v ih
theorem joins_ok {σ : L2.St} : ∀ (xs : List Ex) (acc : Tx) (H : Hp) (Q : Str → Hp → Prop), sOk acc → (∃ m F h r, Rel G m F h H ∧ RE G F m r σ ∧ Wp G (fun _ _ (t : Tx) (u : Str) => u = ss t ∧ sOk t) m F (evf C xs acc r h) Q) → tJs (xs.map fun x => tM G fun r h => evM C x false r h) (ss acc) σ H Q
  | [], acc, H, Q, o, w => by
    obtain ⟨m, F, h, r, rl, re, w⟩ := w
    rw [evf] at w
    exact w.here rl ⟨rfl, o⟩
  | x :: xs, acc, H, Q, o, w => by
    obtain ⟨m, F, h, r, rl, re, w⟩ := w
    rw [evf] at w
    obtain ⟨v, h1, e1, w⟩ := w.bind
    refine ⟨m, F, h, r, rl, re, ?_⟩
    dsimp only
    rw [e1]
    intro m2 F2 H2 y lm l rl2 ry
    split at w
    · rename_i t
      split at w
      · rename_i hl
        obtain ⟨rfl, ot⟩ := ry
        refine ⟨ss t, rfl, by rw [ss_append, ss_len, List.length_append]; exact hl, ?_⟩
        rw [ss_append]
        exact joins_ok xs (acc ++ t) H2 Q (o.append ot) ⟨m2, F2, h1, r, rl2, RE.mono l lm _ _ re, w.mono lm l⟩
      · exact False.elim w
    · exact False.elim w
theorem se_fstr (hK : X.K = G.K) {v1 v2 : Expr} {rest : List Expr} {xs : List Ex} (h : SJ X G C (v1 :: v2 :: rest) xs) : SE X G C (.JoinedStr (v1 :: v2 :: rest) pos) (.fstr xs) := by
  refine SE.of hK (plainT_of rfl) (fun m r h => by rw [evM]) (PE.weak (pe_joined h.pj) fun σ H Q w => ?_)
  obtain ⟨m, F, hh, r, rl, re, w⟩ := w
  refine joins_ok xs [] H _ (fun c hc => by cases hc) ⟨m, F, hh, r, rl, re, ?_⟩
  obtain ⟨t, h1, e1, w⟩ := w.bind
  rw [e1]
  intro m2 F2 H2 u lm l rl2 ⟨eu, o⟩
  subst eu
  exact w m2 F2 H2 _ lm l rl2 ⟨rfl, o⟩
theorem se_fstr1 (fx : Fx X G C d) {p2 : Pos} (he : SE X G C e x) : SE X G C (.JoinedStr [.FormattedValue e (-1) none p2] pos) (.fmt x) := by
  refine SE.of fx.K (plainT_of rfl) (fun m r h => by rw [evM]) (PE.weak (pe_joined1 (se_fmt fx he).v) fun σ H Q w => ?_)
  obtain ⟨m, F, hh, r, rl, re, w⟩ := w
  refine ⟨m, F, hh, r, rl, re, ?_⟩
  dsimp only
  rw [evM]
  exact w
/-! ### displayed dicts -/
/-- the pairs, as they are written -/
inductive SD (X : Cx) (G : Gi) (C : Cs) : List (Option Expr) → List Expr → List Ex → Prop where
  | nil : SD X G C [] [] []
  | cons {k v : Expr} {x y : Ex} {ks : List (Option Expr)} {vs : List Expr} {xs : List Ex} (hk : SE X G C k x) (hv : SE X G C v y) (r : SD X G C ks vs xs) : SD X G C (some k :: ks) (v :: vs) (x :: y :: xs)
/-- the readings of the pairs -/
def trsOf (G : Gi) (C : Cs) : List Ex → List (TE × TE)
  | x :: y :: xs => (tMu G fun r h => evM C x false r h, tMu G fun r h => evM C y false r h) :: trsOf G C xs
  | _ => []
theorem sd_pps {ks : List (Option Expr)} {vs : List Expr} {xs : List Ex} (h : ∀ U, SD X (G.u U) C ks vs xs) : PPs X pos ks vs (trsOf G C xs) := by
  induction ks generalizing vs xs with
  | nil =>
    cases h G.U
    exact pps_nil
  | cons k ks ih =>
    cases h G.U with
    | cons hk hv r => 
      refine pps_cons (PE.ex' fun U => ?_) (PE.ex' fun U => ?_) (ih fun U => ?_)
      · cases h U with
        | cons a b c => exact a.v
      · cases h U with
        | cons a b c => exact b.v
      · cases h U with
        | cons a b c => exact c
theorem sd_len {ks : List (Option Expr)} {vs : List Expr} {xs : List Ex} (h : SD X G C ks vs xs) : ks.all (·.isSome) = true ∧ ks.length = vs.length := by
  induction h with
  | nil => exact ⟨rfl, rfl⟩
  | cons hk hv r ih => exact ⟨by rw [List.all_cons, ih.1]; rfl, by rw [List.length_cons, List.length_cons, ih.2]⟩
end
end Mi
/-! MINI: what loops go over; comprehensions -/
namespace Mi
open PySem PySem.Spec L2
/-- our iterator and the layer's go together -/
def ItR (G : Gi) (m : Mp) (F : Hp) (J : Mi.It) (J' : L2.It) : Prop := ∀ i h H m' F', Lm m m' → Le F F' → Rel G m' F' h H →
  (J.next i h = some none → J'.stop i H) ∧ ∀ v, J.next i h = some (some v) → J'.go i H ∧ ∀ x H', J'.yld i H x H' → ∃ F'', Le F' F'' ∧ Rel G m' F'' h H' ∧ R G F'' m' v x
section
variable {X : Cx} {G : Gi} {C : Cs} {d : Nat} {e a b c : Expr} {x y z : Ex} {pos : Pos} {m : Mp} {F : Hp}
theorem Sq_inj {K : PySem.W.Frag} {H : Hp} {p : Addr} {xs : List V} (h : H p = some (.lst xs)) {ys : List V} (hq : ∀ (zs : List V), SqL K H p zs → zs[0]? = ys[0]?) : xs[0]? = ys[0]? := hq xs (.inl (.inl h))
theorem it_rng (lo : Int) (n : Nat) : ItR G m F (.rng lo n) (Itr lo n) := by
  intro i h H m' F' lm l rl
  refine ⟨fun e => ?_, fun v e => ?_⟩
  · simp only [It.next] at e
    by_cases hi : i < n
    · rw [if_pos hi] at e
      cases e
    · exact Nat.le_of_not_lt hi
  · simp only [It.next] at e
    by_cases hi : i < n
    · rw [if_pos hi] at e
      cases e
      refine ⟨hi, fun x H' ⟨h1, h2⟩ => ⟨F', Le.refl _, by rw [h1]; exact rl, h2⟩⟩
    · rw [if_neg hi] at e
      cases e
theorem it_live {a : Nat} {p : Addr} (ma : m a = some p) : ItR G m F (.live a) (Itl G.K p) := by
  intro i h H m' F' lm l rl
  have key : ∀ xs, h[a]? = some (.lst xs) → ∃ ys, H p = some (.lst ys) ∧ Rs G F' m' xs ys := fun xs e => by
    obtain ⟨p', z1, z2, ys', z3, z4⟩ := rl.obj a _ e (fun z => nomatch z)
    have e5 : p = p' := Option.some.inj ((lm _ _ ma).symm.trans z1)
    subst e5
    exact ⟨ys', z3, z4⟩
  refine ⟨fun e => ?_, fun v e => ?_⟩
  · simp only [It.next] at e
    split at e
    · rename_i xs e1
      obtain ⟨ys, e2, rs⟩ := key xs e1
      refine ⟨ys, .inl (.inl e2), ?_⟩
      rw [rs.length]
      exact List.getElem?_eq_none_iff.mp (Option.some.inj e)
    · cases e
  · simp only [It.next] at e
    split at e
    · rename_i xs e1
      obtain ⟨ys, e2, rs⟩ := key xs e1
      obtain ⟨y, e3, ry⟩ := rs.get (Option.some.inj e)
      refine ⟨⟨ys, y, .inl (.inl e2), e3⟩, fun x H' ⟨h1, h2⟩ => ?_⟩
      have e4 := h2 ys (.inl (.inl e2))
      rw [e3] at e4
      have e4 := Option.some.inj e4
      subst e4
      exact ⟨F', Le.refl _, by rw [h1]; exact rl, ry⟩
    · cases e
theorem it_lst {xs : List Vl} {ys : List V} {p : Addr} (q : SqL G.K F p ys) (rs : Rs G F m xs ys) : ItR G m F (.vals xs) (Itl G.K p) := by
  intro i h H m' F' lm l rl
  have q' : SqL G.K H p ys := rl.sub.lstL (l.lstL q)
  have rs' := Rs.mono l lm _ _ rs
  refine ⟨fun e => ⟨ys, q', ?_⟩, fun v e => ?_⟩
  · rw [rs.length]
    exact List.getElem?_eq_none_iff.mp (Option.some.inj e)
  · obtain ⟨y, e3, ry⟩ := rs'.get (Option.some.inj e)
    refine ⟨⟨ys, y, q', e3⟩, fun x H' ⟨h1, h2⟩ => ?_⟩
    have e4 := h2 ys q'
    rw [e3] at e4
    have e4 := Option.some.inj e4
    subst e4
    exact ⟨F', Le.refl _, by rw [h1]; exact rl, ry⟩
theorem it_tup {xs : List Vl} {ys : List V} {p : Addr} (q : SqT G.K F p ys) (rs : Rs G F m xs ys) : ItR G m F (.vals xs) (Itt G.K p) := by
  intro i h H m' F' lm l rl
  have q' : SqT G.K H p ys := rl.sub.tup (l.tup q)
  have rs' := Rs.mono l lm _ _ rs
  refine ⟨fun e => ⟨ys, q', ?_⟩, fun v e => ?_⟩
  · rw [rs.length]
    exact List.getElem?_eq_none_iff.mp (Option.some.inj e)
  · obtain ⟨y, e3, ry⟩ := rs'.get (Option.some.inj e)
    refine ⟨⟨ys, y, q', e3⟩, fun x H' ⟨h1, h2⟩ => ?_⟩
    have e4 := h2 ys q'
    rw [e3] at e4
    have e4 := Option.some.inj e4
    subst e4
    exact ⟨F', Le.refl _, by rw [h1]; exact rl, ry⟩
theorem it_str {s : Tx} (o : sOk s) : ItR G m F (.vals (s.map fun c => Vl.str [c])) (Its (ss s)) := by
  intro i h H m' F' lm l rl
  refine ⟨fun e => ?_, fun v e => ?_⟩
  · have e := List.getElem?_eq_none_iff.mp (Option.some.inj e)
    rw [List.length_map] at e
    show (ss s).cps.size ≤ i
    rw [ss_size]
    exact e
  · have e : (s.map fun c => Vl.str [c])[i]? = some v := Option.some.inj e
    rw [List.getElem?_map] at e
    obtain ⟨c, e1, rfl⟩ := Option.map_eq_some_iff.mp e
    have e2 : (ss s).cps[i]? = some c := by
      unfold ss
      simpa using e1
    refine ⟨?_, fun x H' ⟨h1, c', h2, h3⟩ => ?_⟩
    · show i < (ss s).cps.size
      rw [ss_size]
      exact (List.getElem?_eq_some_iff.mp e1).1
    · rw [e2] at h2
      have h2 := Option.some.inj h2
      subst h2
      refine ⟨F', Le.refl _, by rw [h1]; exact rl, h3, fun c' hc => ?_⟩
      have hc : c' = c := by simpa using hc
      subst hc
      exact o c' (List.mem_of_getElem? e1)
theorem it_enum {a : Nat} {p : Addr} (ma : m a = some p) : ItR G m F (.enumL a) (Ite G.K p) := by
  intro i h H m' F' lm l rl
  have key : ∀ xs, h[a]? = some (.lst xs) → ∃ ys, H p = some (.lst ys) ∧ Rs G F' m' xs ys := fun xs e => by
    obtain ⟨p', z1, z2, ys', z3, z4⟩ := rl.obj a _ e (fun z => nomatch z)
    have e5 : p = p' := Option.some.inj ((lm _ _ ma).symm.trans z1)
    subst e5
    exact ⟨ys', z3, z4⟩
  refine ⟨fun e => ?_, fun v e => ?_⟩
  · simp only [It.next] at e
    split at e
    · rename_i xs e1
      obtain ⟨ys, e2, rs⟩ := key xs e1
      refine ⟨ys, .inl (.inl e2), ?_⟩
      rw [rs.length]
      have e := Option.some.inj e
      cases ex : xs[i]? with
      | none => exact List.getElem?_eq_none_iff.mp ex
      | some z =>
        rw [ex] at e
        cases e
    · cases e
  · simp only [It.next] at e
    split at e
    · rename_i xs e1
      obtain ⟨ys, e2, rs⟩ := key xs e1
      obtain ⟨v0, ev, rfl⟩ := Option.map_eq_some_iff.mp (Option.some.inj e)
      obtain ⟨y, e3, ry⟩ := rs.get ev
      refine ⟨⟨ys, y, .inl (.inl e2), e3⟩, fun x H' ⟨T, x0, h1, nT, h2, h3⟩ => ?_⟩
      have e4 := h3 ys (.inl (.inl e2))
      rw [e3] at e4
      have e4 := Option.some.inj e4
      subst e4
      subst h1 h2
      refine ⟨upd F' T (.tup [.int (i : Nat), y]), Le.upd (rl.free nT), rl.lay nT, T, _, rfl, .inl (.inl upd_same), ⟨_, _, rfl, rfl, _, _, rfl, R.mono (Le.upd (rl.free nT)) (Lm.refl _) _ _ ry, rfl⟩⟩
    · cases e
theorem it_enumF {xs : List Vl} {ys : List V} {p : Addr} (q : SqX G.K F p ys) (rs : Rs G F m xs ys) : ItR G m F (.enumV xs) (Ite G.K p) := by
  intro i h H m' F' lm l rl
  have q' : SqL G.K H p ys := (rl.sub.lst (l.lst q)).sq
  have rs' := Rs.mono l lm _ _ rs
  refine ⟨fun e => ?_, fun v e => ?_⟩
  · simp only [It.next] at e
    refine ⟨ys, q', ?_⟩
    rw [rs.length]
    have e := Option.some.inj e
    cases ex : xs[i]? with
    | none => exact List.getElem?_eq_none_iff.mp ex
    | some z =>
      rw [ex] at e
      cases e
  · simp only [It.next] at e
    obtain ⟨v0, ev, rfl⟩ := Option.map_eq_some_iff.mp (Option.some.inj e)
    obtain ⟨y, e3, ry⟩ := rs'.get ev
    refine ⟨⟨ys, y, q', e3⟩, fun x H' ⟨T, x0, h1, nT, h2, h3⟩ => ?_⟩
    have e4 := h3 ys q'
    rw [e3] at e4
    have e4 := Option.some.inj e4
    subst e4
    subst h1 h2
    refine ⟨upd F' T (.tup [.int (i : Nat), y]), Le.upd (rl.free nT), rl.lay nT, T, _, rfl, .inl (.inl upd_same), ⟨_, _, rfl, rfl, _, _, rfl, R.mono (Le.upd (rl.free nT)) (Lm.refl _) _ _ ry, rfl⟩⟩

/-- what a loop goes over, read by MINI -/
def tIM (G : Gi) (f : Rho → Hm → Res Vl) : TI := fun σ H Rk => ∃ m F h r v h1 J, Rel G m F h H ∧ RE G F m r σ ∧ f r h = .ok v h1 ∧ itOf h1 v = some J ∧
  ∀ m' F' H' J', Lm m m' → Le F F' → Rel G m' F' h1 H' → (∀ U, ItR (G.u U) m' F' J J') → Rk J' H'
structure SI (X : Cx) (G : Gi) (C : Cs) (tg e : Expr) (x : Ex) : Prop where
  i : PI X tg e (tIM G fun r h => evM C x false r h)
  f : ∀ v, foldedSetIterable e X.env v = pure v
theorem PI.weak {tg e : Expr} {t t' : TI} (h : PI X tg e t) (i : ∀ σ H Q, t' σ H Q → t σ H Q) : PI X tg e t' := ⟨fun pins s σ H Q I q => h.run pins s σ H Q I (i σ H Q q)⟩
theorem folded_of {e : Expr} {env : PySem.Env} (h : noSet e = true) (v : Value) : foldedSetIterable e env v = pure v := by
  cases e <;> first | rfl | cases h
/-- a list, a tuple, a text -/
theorem pi_any {tg e : Expr} {t : TE} (he : PE X e t) : PI X tg e (fun σ H Rk => t σ H fun x H1 => (∃ a, x = .ref a ∧ (∃ xs, SqL X.K H1 a xs) ∧ Rk (Itl X.K a) H1) ∨ (∃ a, x = .ref a ∧ (∃ xs, SqT X.K H1 a xs) ∧ Rk (Itt X.K a) H1) ∨ ∃ z, x = .str z ∧ Rk (Its z) H1) := by
  refine ⟨fun pins s σ H Rk I h => ?_⟩
  refine thn (he.run pins s σ H _ I h) fun v s1 ⟨y, H1, I1, r1, q1⟩ => ?_
  rcases q1 with ⟨a, e1, ⟨xs, hq⟩, q⟩ | ⟨a, e1, ⟨xs, hq⟩, q⟩ | ⟨z, e1, q⟩
  · subst e1
    cases r1
    obtain ⟨its, rv, p, hz⟩ := I1.list hq
    refine wpAny_pyIter_list p.isList ?_
    refine ⟨s1.heap.objs.size, [s1.heap.objs.size], _, _, H1, rfl, I1.kept (t' := s1.toks) fun b o e => Heap.get?_push_of_some _ e, turn_list a _, ⟨_, Heap.get?_push_size _ rfl, rfl, rfl⟩, fun b hb => ?_, q⟩
    have e : b = s1.heap.objs.size := by simpa using hb
    subst e
    exact I1.fpOk (Nat.le_refl _) (I1.hok.fresh (Nat.le_refl _))
  · subst e1
    cases r1
    obtain ⟨its, rv, p, hz⟩ := I1.tuple hq
    refine wpAny_pyIter_tuple (show s1.heap.IsTuple a its.toArray from p) ?_
    refine ⟨s1.heap.objs.size, [s1.heap.objs.size], _, _, H1, rfl, I1.kept (t' := s1.toks) fun b o e => Heap.get?_push_of_some _ e, turn_tuple a _, ⟨_, Heap.get?_push_size _ rfl, rfl, rfl⟩, fun b hb => ?_, q⟩
    have e : b = s1.heap.objs.size := by simpa using hb
    subst e
    exact I1.fpOk (Nat.le_refl _) (I1.hok.fresh (Nat.le_refl _))
  · subst e1
    obtain ⟨t, rfl⟩ := r1
    cases ha : z.cps.all (· < 128)
    · exact wpAny_pyIter_wide ha (pi_one (tk := s1.toks) I1 _ (turn_str _ z t "str_iterator" (.inr rfl)) ⟨_, Heap.get?_push_size _ rfl, rfl, rfl⟩ q)
    · exact wpAny_pyIter_ascii ha (pi_one (tk := s1.toks) I1 _ (turn_str _ z t "str_ascii_iterator" (.inl rfl)) ⟨_, Heap.get?_push_size _ rfl, rfl, rfl⟩ q)
theorem si_any (hK : X.K = G.K) {tg : Expr} (he : SE X G C e x) (hs : noSet e = true) : SI X G C tg e x := by
  refine ⟨PI.weak (pi_any he.v) fun σ H Rk w => ?_, folded_of hs⟩
  obtain ⟨m, F, h, r, v, h1, J, rl, re, e1, e2, k⟩ := w
  dsimp only at e1
  refine ⟨m, F, h, r, rl, re, ?_⟩
  dsimp only
  rw [e1]
  intro m' F' H' x' lm l rl' rx
  have k' := fun J' => k m' F' H' J' lm l rl'
  unfold itOf at e2
  split at e2
  · exact False.elim rx
  · exact False.elim rx
  · exact False.elim rx
  · cases e2
    obtain ⟨p, rfl, q⟩ := rx
    exact .inl ⟨p, rfl, ⟨_, by rw [hK]; exact rl'.sub.lstL q⟩, by rw [hK]; exact k' _ fun U => it_lst (G := G.u U) q (Rs.ints _)⟩
  · cases e2
    obtain ⟨p, ys, rfl, q, rs⟩ := rx
    exact .inr (.inl ⟨p, rfl, ⟨ys, by rw [hK]; exact rl'.sub.tup q⟩, by rw [hK]; exact k' _ fun U => it_tup (G := G.u U) q rs.u⟩)
  · cases e2
    obtain ⟨p, ys, rfl, q, rs⟩ := rx
    exact .inl ⟨p, rfl, ⟨ys, by rw [hK]; exact (rl'.sub.lst q).sq⟩, by rw [hK]; exact k' _ fun U => it_lst (G := G.u U) q.sq rs.u⟩
  · cases e2
    obtain ⟨rx, o⟩ := rx
    exact .inr (.inr ⟨_, rx, k' _ fun U => it_str o⟩)
  · rename_i a0
    split at e2
    · rename_i xs e3
      cases e2
      obtain ⟨a', p, ys, e4, rfl, ma, _, q, rs⟩ := liv_ok (xs := xs) rl' rx (by unfold livOf; dsimp only; rw [e3])
      cases e4
      exact .inl ⟨p, rfl, ⟨ys, .inl (.inl q)⟩, by rw [hK]; exact k' _ fun U => it_live (G := G.u U) ma⟩
    · cases e2
  · cases e2
theorem bltC_F {f : String} {vs : List Vl} {h h1 : Hm} {v : Vl} (hf : ∀ c v h, ownF C f c v h = .bad) (e : bltC C f vs h = .ok v h1) : bltF f vs h = .ok v h1 := by
  unfold bltC at e
  split at e
  · split at e
    · rw [hf] at e
      cases e
    · exact e
  · exact e
/-- range(n) -/
theorem si_range (fx : Fx X G C d) {tg : Expr} {p : Pos} (he : SE X G C e x) (hs : noStar e = true) (hg : Gl X "range") (hm : X.mg "range" = none) : SI X G C tg (.Call (.Name "range" p) [e] [] pos) (.blt "range" [x]) := by
  refine ⟨PI.weak (pi_range1 hg hm (sa_cons he hs sa_nil) (star_of hs)) fun σ H Rk w => ?_, folded_of rfl⟩
  obtain ⟨m, F, h, r, v, h1, J, rl, re, e1, e2, k⟩ := w
  dsimp only at e1
  rw [evM] at e1
  have e1 : ((evs C [x] r h).bind fun vs h => bltC C "range" vs h) = .ok v h1 := e1
  refine ⟨m, F, h, r, rl, re, ?_⟩
  dsimp only
  cases ev : evs C [x] r h with
  | ok vs h2 =>
    rw [ev] at e1
    have e1 : bltF "range" vs h2 = .ok v h1 := bltC_F (fun _ _ _ => rfl) e1
    intro m' F' H' xs lm l rl' rs
    simp only [bltF] at e1
    split at e1
    · split at e1
      · rename_i hj
        cases e1
        obtain ⟨x0, rfl, r0⟩ := one_R rs
        rw [show x0 = _ from r0]
        cases e2
        exact ⟨_, rfl, hj.1, hj.2, k m' F' H' _ lm l rl' (fun U => it_rng 0 _)⟩
      · cases e1
    · cases e1
  | exc c fs h' =>
    rw [ev] at e1
    cases e1
  | bad =>
    rw [ev] at e1
    cases e1
theorem si_enum (fx : Fx X G C d) {elts : List Expr} {kk : Nat} {p tpos : Pos} (he : SE X G C e x) (hs : noStar e = true) (hg : Gl X "enumerate") (hm : X.mg "enumerate" = none) : SI X G C (.Tuple elts kk tpos) (.Call (.Name "enumerate" p) [e] [] pos) (.blt "enumerate" [x]) := by
  refine ⟨PI.weak (pi_enum hg hm (sa_cons he hs sa_nil) (star_of hs)) fun σ H Rk w => ?_, folded_of rfl⟩
  obtain ⟨m, F, h, r, v, h1, J, rl, re, e1, e2, k⟩ := w
  dsimp only at e1
  rw [evM] at e1
  have e1 : ((evs C [x] r h).bind fun vs h => bltC C "enumerate" vs h) = .ok v h1 := e1
  refine ⟨m, F, h, r, rl, re, ?_⟩
  dsimp only
  cases ev : evs C [x] r h with
  | ok vs h2 =>
    rw [ev] at e1
    have e1 : bltF "enumerate" vs h2 = .ok v h1 := bltC_F (fun _ _ _ => rfl) e1
    intro m' F' H' xs lm l rl' rs
    simp only [bltF] at e1
    split at e1
    · rename_i v0
      cases e1
      obtain ⟨x0, rfl, r0⟩ := one_R rs
      unfold itOf at e2
      split at e2
      · rename_i z
        cases z
      · rename_i a0 z
        cases z
        split at e2
        · rename_i ls e3
          cases e2
          obtain ⟨a', p, ys, e4, rfl, ma, _, q, rs⟩ := liv_ok (xs := ls) rl' r0 (by unfold livOf; dsimp only; rw [e3])
          cases e4
          exact ⟨p, ys, rfl, .inl (.inl q), by rw [fx.K]; exact k m' F' H' _ lm l rl' (fun U => it_enum (G := G.u U) ma)⟩
        · cases e2
      · rename_i ls z
        cases z
        cases e2
        obtain ⟨p, ys, rfl, q, rs⟩ := r0
        exact ⟨p, ys, rfl, by rw [fx.K]; exact (rl'.sub.lst q).sq, by rw [fx.K]; exact k m' F' H' _ lm l rl' (fun U => it_enumF (G := G.u U) q rs.u)⟩
      all_goals first | (cases e2; done) | (rename_i z; cases z)
    · cases e1
  | exc c fs h' =>
    rw [ev] at e1
    cases e1
  | bad =>
    rw [ev] at e1
    cases e1

/-! ### targets of names -/
def gM (G : Gi) (f : Vl → Rho → Hm → Res Rho) : TG := fun x σ H Q => ∃ m F h r v, Rel G m F h H ∧ RE G F m r σ ∧ R G F m v x ∧ Wp G (RE G) m F (f v r h) Q
def gMs (G : Gi) (f : List Vl → Rho → Hm → Res Rho) : TGs := fun xs σ H Q => ∃ m F h r vs, Rel G m F h H ∧ RE G F m r σ ∧ Rs G F m vs xs ∧ Wp G (RE G) m F (f vs r h) Q
theorem PG.weak {tg : Expr} {t t' : TG} (h : PG X tg t) (i : ∀ x σ H Q, t' x σ H Q → t x σ H Q) : PG X tg t' := ⟨fun pins s σ H v u Q I r q => h.run pins s σ H v u Q I r (i v σ H Q q)⟩
theorem PGs.weak {tg : List Expr} {t t' : TGs} (h : PGs X tg t) (i : ∀ x σ H Q, t' x σ H Q → t x σ H Q) : PGs X tg t' := ⟨fun pins s σ H v u Q I r q => h.run pins s σ H v u Q I r (i v σ H Q q)⟩
def patF (p : Pt) (v : Vl) (r : Rho) (h : Hm) : Res Rho := match bindP p v r with
  | some r' => .ok r' h
  | none => .bad
def patsF (p : List Pt) (v : List Vl) (r : Rho) (h : Hm) : Res Rho := match bindPs p v r with
  | some r' => .ok r' h
  | none => .bad
def SP (X : Cx) (G : Gi) (tg : Expr) (p : Pt) : Prop := PG X tg (gM G (patF p))
def SPs (X : Cx) (G : Gi) (tg : List Expr) (p : List Pt) : Prop := PGs X tg (gMs G (patsF p))
theorem sp_name (hN : X.N.Nodup) {i : Nat} {n : Str} (hi : X.N[i]? = some n) (hx : Loc X.env.scope n) (hf : X.fn n = true ∨ X.env.scope.names.lookup n = some .local) : SP X G (.Name n pos) (.name i) := by
  refine PG.weak (pg_name hN hi hx hf) fun x σ H Q w => ?_
  obtain ⟨m, F, h, r, v, rl, re, rx, w⟩ := w
  exact w.here rl (re.set i rx)
theorem sps_nil : SPs X G [] [] := PGs.weak pgs_nil fun x σ H Q w => by
  obtain ⟨m, F, h, r, vs, rl, re, rx, w⟩ := w
  cases vs with
  | nil => exact ⟨rx, w.here rl re⟩
  | cons v vs => exact False.elim w
theorem assign_of {e : Expr} {es : List Expr} {env : PySem.Env} (h : noStar e = true) : (assignEach (e :: es) env).map (·.2) = assign e env :: (assignEach es env).map (·.2) := by
  cases e <;> first | rfl | cases h
theorem sps_cons {es : List Expr} {p : Pt} {ps : List Pt} (h : SP X G e p) (hs : noStar e = true) (hr : SPs X G es ps) : SPs X G (e :: es) (p :: ps) := by
  refine PGs.weak (pgs_cons h hr (assign_of hs)) fun x σ H Q w => ?_
  obtain ⟨m, F, hh, r, vs, rl, re, rx, w⟩ := w
  cases vs with
  | nil => exact False.elim w
  | cons v vs =>
    obtain ⟨y, zs, rfl, ry, rzs⟩ := rx
    refine ⟨y, zs, rfl, m, F, hh, r, v, rl, re, ry, ?_⟩
    unfold patsF bindPs at w
    unfold patF
    cases eb : bindP p v r with
    | none =>
      rw [eb] at w
      exact False.elim w
    | some r' =>
      rw [eb] at w
      intro m' F' H' σ' lm l rl' re'
      exact ⟨m', F', hh, r', vs, rl', re', Rs.mono l lm _ _ rzs, Wp.mono w lm l⟩
theorem len_of {es : List Expr} {env : PySem.Env} : (assignEach es env).length = es.length := by
  induction es with
  | nil => rfl
  | cons e es ih => cases e <;> (show (assignEach es env).length + 1 = es.length + 1; rw [ih])
theorem nostar_of {es : List Expr} {env : PySem.Env} (h : es.all noStar = true) : (assignEach es env).findIdx? (·.1) = none := by
  induction es with
  | nil => rfl
  | cons e es ih =>
    rw [List.all_cons, Bool.and_eq_true] at h
    have ih := ih h.2
    have e1 : assignEach (e :: es) env = (false, assign e env) :: assignEach es env := by
      cases e <;> first | rfl | cases h.1
    rw [e1, List.findIdx?_cons]
    simp [ih]
theorem bindPs_len : ∀ {ps : List Pt} {vs : List Vl} {r r' : Rho}, bindPs ps vs r = some r' → vs.length = ps.length
  | [], [], _, _, _ => rfl
  | p :: ps, v :: vs, r, r', e => by
    unfold bindPs at e
    split at e
    · rw [List.length_cons, List.length_cons, bindPs_len e]
    · cases e
  | [], v :: vs, _, _, e => by cases e
  | p :: ps, [], _, _, e => by cases e
theorem sp_tup (fx : Fx X G C d) {es : List Expr} {ps : List Pt} {k : Nat} (h : SPs X G es ps) (hs : es.all noStar = true) (hl : es.length = ps.length) : SP X G (.Tuple es k pos) (.tup ps) := by
  refine PG.weak (pg_tup fx.calm h len_of (nostar_of hs)) fun x σ H Q w => ?_
  obtain ⟨m, F, hh, r, v, rl, re, rx, w⟩ := w
  unfold patF at w
  cases eb : bindP (.tup ps) v r with
  | none =>
    rw [eb] at w
    exact False.elim w
  | some r' =>
    rw [eb] at w
    cases v with
    | tup vs =>
      obtain ⟨p, ys, rfl, q, rs⟩ := rx
      have eb : bindPs ps vs r = some r' := by
        unfold bindP at eb
        exact eb
      refine ⟨p, ys, rfl, by rw [fx.K]; exact rl.sub.tup q, by rw [rs.length, bindPs_len eb, hl], m, F, hh, r, vs, rl, re, rs, ?_⟩
      unfold patsF
      rw [eb]
      exact w
    | _ => cases eb

/-! ### comprehensions -/
theorem Fx.blk (fx : Fx X G C d) (s : Shared) (H : Hp) (scope : Scope) (cenv : PySem.Env) (fp : List Addr) : Fx (X.blk s H scope cenv fp) G C d :=
  ⟨fx.K, fx.calm, fx.nd, fx.room, fx.cls, fx.noat, fx.fn, fx.ini, fx.ini0, fx.meth, fx.mkr, fx.glf, fx.glc, fx.in2, fx.in20, fx.badF, fx.badI, fx.badJ, fx.own, fx.ar1, fx.ar2⟩
theorem wipe_set {σ : L2.St} {vs : List Nat} {i : Nat} {v : Option V} (h : i ∈ vs) : L2.wipe (σ.set i v) vs = L2.wipe σ vs := by
  induction vs with
  | nil => cases h
  | cons w vs ih =>
    unfold L2.wipe
    by_cases hw : i = w
    · subst hw
      have : ∀ us : List Nat, (L2.wipe (σ.set i v) us).set i none = (L2.wipe σ us).set i none := by
        intro us
        induction us with
        | nil =>
          show (σ.set i v).set i none = σ.set i none
          rw [List.set_set]
        | cons u us ih2 =>
          unfold L2.wipe
          by_cases hu : u = i
          · subst hu
            rw [List.set_set, List.set_set]
            exact ih2
          · rw [List.set_comm _ _ hu, ih2, List.set_comm _ _ hu]
      exact this vs
    · rcases List.mem_cons.mp h with h | h
      · exact absurd h hw
      · rw [ih h]
theorem wipe_wipe {σ : L2.St} {vs : List Nat} : L2.wipe (L2.wipe σ vs) vs = L2.wipe σ vs := by
  refine List.ext_getElem? fun i => ?_
  by_cases hi : i ∈ vs
  · have h1 : ∀ t : L2.St, i ∈ vs → (L2.wipe t vs)[i]? = if i < t.length then some none else none := by
      intro t
      clear hi
      induction vs with
      | nil => intro h; cases h
      | cons w vs ih =>
        intro h
        unfold L2.wipe
        by_cases hw : w = i
        · subst hw
          rw [List.getElem?_set_self']
          by_cases hl : w < t.length
          · rw [if_pos hl]
            have : w < (L2.wipe t vs).length := by rw [wipe_length]; exact hl
            rw [List.getElem?_eq_getElem this]
            rfl
          · rw [if_neg hl]
            have : (L2.wipe t vs)[w]? = none := List.getElem?_eq_none (by rw [wipe_length]; omega)
            rw [this]
            rfl
        · rw [List.getElem?_set_ne hw]
          rcases List.mem_cons.mp h with h | h
          · exact absurd h.symm hw
          · exact ih h
    rw [h1 _ hi, h1 _ hi, wipe_length]
  · rw [wipe_out hi, wipe_out hi]
mutual
def patIx : Pt → List Nat
  | .name i => [i]
  | .tup ps => patIxs ps
def patIxs : List Pt → List Nat
  | [] => []
  | p :: ps => patIx p ++ patIxs ps
end
/-- a comprehension's target touches its own slots alone: by the slots' reading -/
structure SP2 (X : Cx) (G : Gi) (tg : Expr) (p : Pt) (vs : List Nat) : Prop where
  g : PG X tg (fun x σ H Q => gM G (patF p) x σ H fun σ' H' => L2.wipe σ' vs = L2.wipe σ vs → Q σ' H')
theorem patName_only {i : Nat} {n : Str} {vs : List Nat} (hN : X.N.Nodup) (hi : X.N[i]? = some n) (hx : Loc X.env.scope n) (hf : X.fn n = true ∨ X.env.scope.names.lookup n = some .local) (hv : i ∈ vs) : SP2 X G (.Name n pos) (.name i) vs := by
  refine ⟨PG.weak (pg_name hN hi hx hf) fun x σ H Q w => ?_⟩
  obtain ⟨m, F, h, r, v, rl, re, rx, w⟩ := w
  exact w.here rl (re.set i rx) (wipe_set hv)
structure SPs2 (X : Cx) (G : Gi) (tg : List Expr) (p : List Pt) (vs : List Nat) : Prop where
  g : PGs X tg (fun x σ H Q => gMs G (patsF p) x σ H fun σ' H' => L2.wipe σ' vs = L2.wipe σ vs → Q σ' H')
theorem patsNil_only {vs : List Nat} : SPs2 X G [] [] vs := ⟨PGs.weak pgs_nil fun x σ H Q w => by
  obtain ⟨m, F, h, r, ws, rl, re, rx, w⟩ := w
  cases ws with
  | nil => exact ⟨rx, w.here rl re rfl⟩
  | cons v vs => exact False.elim w⟩
theorem patsCons_only {es : List Expr} {p : Pt} {ps : List Pt} {vs : List Nat} (h : SP2 X G e p vs) (hs : noStar e = true) (hr : SPs2 X G es ps vs) : SPs2 X G (e :: es) (p :: ps) vs := by
  refine ⟨PGs.weak (pgs_cons h.g hr.g (assign_of hs)) fun x σ H Q w => ?_⟩
  obtain ⟨m, F, hh, r, ws, rl, re, rx, w⟩ := w
  cases ws with
  | nil => exact False.elim w
  | cons v ws =>
    obtain ⟨y, zs, rfl, ry, rzs⟩ := rx
    refine ⟨y, zs, rfl, m, F, hh, r, v, rl, re, ry, ?_⟩
    unfold patsF bindPs at w
    unfold patF
    cases eb : bindP p v r with
    | none =>
      rw [eb] at w
      exact False.elim w
    | some r' =>
      rw [eb] at w
      intro m' F' H' σ' lm l rl' re' ew
      refine ⟨m', F', hh, r', ws, rl', re', Rs.mono l lm _ _ rzs, ?_⟩
      exact Wp.imp (Wp.mono w lm l) fun σ2 H2 q e2 => q (e2.trans ew)
theorem patTup_only (fx : Fx X G C d) {es : List Expr} {ps : List Pt} {k : Nat} {vs : List Nat} (h : SPs2 X G es ps vs) (hs : es.all noStar = true) (hl : es.length = ps.length) : SP2 X G (.Tuple es k pos) (.tup ps) vs := by
  refine ⟨PG.weak (pg_tup fx.calm h.g len_of (nostar_of hs)) fun x σ H Q w => ?_⟩
  obtain ⟨m, F, hh, r, v, rl, re, rx, w⟩ := w
  unfold patF at w
  cases eb : bindP (.tup ps) v r with
  | none =>
    rw [eb] at w
    exact False.elim w
  | some r' =>
    rw [eb] at w
    cases v with
    | tup ws =>
      obtain ⟨p, ys, rfl, q, rs⟩ := rx
      have eb : bindPs ps ws r = some r' := by
        unfold bindP at eb
        exact eb
      refine ⟨p, ys, rfl, by rw [fx.K]; exact rl.sub.tup q, by rw [rs.length, bindPs_len eb, hl], m, F, hh, r, ws, rl, re, rs, ?_⟩
      unfold patsF
      rw [eb]
      exact w
    | _ => cases eb
/-- the tests of a comprehension -/
def STs (X : Cx) (G : Gi) (C : Cs) (es : List Expr) (x : Ex) : Prop := PTs X es (tMt G fun r h => evM C x true r h)
theorem PTs.weak {es : List Expr} {t t' : TT} (h : PTs X es t) (i : ∀ σ H Q, t' σ H Q → t σ H Q) : PTs X es t' := ⟨fun pins s σ H Q I q => h.run pins s σ H Q I (i σ H Q q)⟩
theorem sts_nil : STs X G C [] (.cst (.bl true)) := PTs.weak pts_nil fun σ H Q w => by
  obtain ⟨m, F, h, r, rl, re, w⟩ := w
  dsimp only at w
  rw [evM] at w
  obtain ⟨b, e, q⟩ := Wp.here (show WpV G m F (.ok (.bl true) h) _ from w) rl (show R G F m (.bl true) (.bl true) from rfl)
  cases e
  exact q
theorem sts_one (h : SE X G C e x) : STs X G C [e] x := pts_one h.t
/-- one turn of a comprehension -/
def lcBody (C : Cs) (elt : Ex) (p : Pt) (cond : Ex) (own : List Nat) (r : Rho) (x : Vl) (h : Hm) : Res (Option Vl) := match bindP p x (wipe r own) with
  | some r' => (evM C cond true r' h).bind fun b h => (match b with
    | .bl true => (evM C elt false r' h).bind fun y h => .ok (some y) h
    | .bl false => .ok none h
    | _ => .bad)
  | none => .bad
theorem lc_read {f : Rho → Hm → Res Vl} {elt : Ex} {p : Pt} {cond : Ex} {own : List Nat} {σ : L2.St} {H : Hp} {Q : VK}
    (w : tM G (fun r h => (f r h).bind fun v h => match itOf h v with
      | none => .bad
      | some J => (loopC J h.length (lcBody C elt p cond own r) FUEL 0 (h ++ [.lst []])).bind fun _ h' => .ok (.ref h.length) h') σ H Q) :
    tLc (tIM G f) (fun x σ H Q => gM G (patF p) x σ H fun σ' H' => L2.wipe σ' own = L2.wipe σ own → Q σ' H') (tMt G fun r h => evM C cond true r h) (tM G fun r h => evM C elt false r h) own σ H Q := by
  obtain ⟨m0, F0, h0, r, rl0, re0, w⟩ := w
  obtain ⟨v, h1, e1, w⟩ := w.bind
  cases eJ : itOf h1 v with
  | none =>
    rw [eJ] at w
    exact False.elim w
  | some J =>
    rw [eJ] at w
    refine ⟨m0, F0, h0, r, v, h1, J, rl0, re0, e1, eJ, fun m1 F1 H1 J' lm1 l1 rl1 it D nD => ?_⟩
    have hm1 : m1 h1.length = none := rl1.dom _ (Nat.le_refl _)
    refine ⟨fun i k H2 => ∃ m2 F2 h2, Lm (m1.add h1.length D) m2 ∧ Le F1 F2 ∧ Rel G m2 F2 h2 H2 ∧ ∃ h3, loopC J h1.length (lcBody C elt p cond own r) k i h2 = .ok () h3 ∧ WpV G m0 F0 (.ok (.ref h1.length) h3) Q, ?_, ?_⟩
    · obtain ⟨_, h3, e3, w3⟩ := w.bind
      exact ⟨FUEL, m1.add h1.length D, F1, h1 ++ [.lst []], Lm.refl _, Le.refl _, rl1.new (o := .lst []) nD ⟨[], rfl, rfl⟩, h3, e3, w3⟩
    · rintro i k H2 ⟨m2, F2, h2, lm2, l2, rl2, h3, e3, w3⟩
      have lmA : Lm m1 m2 := (Lm.add hm1).trans lm2
      have hmD : m2 h1.length = some D := lm2 _ _ (Mp.add_same _ _ _)
      cases k with
      | zero => cases e3
      | succ k =>
        obtain ⟨hst, hgo⟩ := it G.U i h2 H2 m2 F2 lmA l2 rl2
        unfold loopC at e3
        cases en : J.next i h2 with
        | none =>
          rw [en] at e3
          cases e3
        | some o =>
          rw [en] at e3
          cases o with
          | none =>
            have e3 : Res.ok () h2 = .ok () h3 := e3
            cases e3
            exact .inl ⟨hst en, w3 m2 F2 H2 _ (lm1.trans lmA) (l1.trans l2) rl2 ⟨D, hmD, rfl⟩⟩
          | some v2 =>
            obtain ⟨g1, g2⟩ := hgo v2 en
            refine .inr ⟨g1, fun H' => ∃ m4 F4 h4, Lm (m1.add h1.length D) m4 ∧ Le F1 F4 ∧ Rel G m4 F4 h4 H' ∧ ∃ h5, loopC J h1.length (lcBody C elt p cond own r) k (i + 1) h4 = .ok () h5 ∧ WpV G m0 F0 (.ok (.ref h1.length) h5) Q, fun H' ⟨m4, F4, h4, a1, a2, a3, a4⟩ => ⟨k, Nat.lt_succ_self k, m4, F4, h4, a1, a2, a3, a4⟩, fun x H' yl => ?_⟩
            obtain ⟨F3, l3, rl3, rx⟩ := g2 x H' yl
            have e3 : ((lcBody C elt p cond own r v2 h2).bind fun y h => match y with
              | none => loopC J h1.length (lcBody C elt p cond own r) k (i + 1) h
              | some y => match h[h1.length]? with
                | some (.lst acc) => if acc.length < LIM then loopC J h1.length (lcBody C elt p cond own r) k (i + 1) (h.set h1.length (.lst (acc ++ [y]))) else .bad
                | _ => .bad) = .ok () h3 := e3
            have reW : RE G F3 m2 (wipe r own) (L2.wipe σ own) := RE.mono (l1.trans (l2.trans l3)) (lm1.trans lmA) _ _ (RE.wipe re0 own)
            refine ⟨m2, F3, h2, wipe r own, v2, rl3, reW, rx, ?_⟩
            unfold patF
            unfold lcBody at e3
            cases eb : bindP p v2 (wipe r own) with
            | none =>
              rw [eb] at e3
              cases e3
            | some r' =>
              rw [eb] at e3
              intro m4 F4 H4 σ4 lm4 l4 rl4 re4 ew
              have ew : L2.wipe σ4 own = L2.wipe σ own := ew.trans wipe_wipe
              refine ⟨ew, m4, F4, h2, r', rl4, re4, ?_⟩
              dsimp only
              rw [bind_assoc'] at e3
              cases ec : evM C cond true r' h2 with
              | exc cc fs hx =>
                rw [ec] at e3
                cases e3
              | bad =>
                rw [ec] at e3
                cases e3
              | ok vb h6 =>
                rw [ec] at e3
                intro m5 F5 H5 x5 lm5 l5 rl5 rx5
                cases vb with
                | bl b =>
                  refine ⟨b, rx5, ?_⟩
                  cases b with
                  | true =>
                    rw [if_pos rfl]
                    have e3 : (((evM C elt false r' h6).bind fun y h => .ok (some y) h).bind fun y h => match y with
                      | none => loopC J h1.length (lcBody C elt p cond own r) k (i + 1) h
                      | some y => match h[h1.length]? with
                        | some (.lst acc) => if acc.length < LIM then loopC J h1.length (lcBody C elt p cond own r) k (i + 1) (h.set h1.length (.lst (acc ++ [y]))) else .bad
                        | _ => .bad) = .ok () h3 := e3
                    rw [bind_assoc'] at e3
                    refine ⟨m5, F5, h6, r', rl5, RE.mono l5 lm5 _ _ re4, ?_⟩
                    dsimp only
                    cases ee : evM C elt false r' h6 with
                    | exc cc fs hx =>
                      rw [ee] at e3
                      cases e3
                    | bad =>
                      rw [ee] at e3
                      cases e3
                    | ok vy h7 =>
                      rw [ee] at e3
                      intro m7 F7 H7 y7 lm7 l7 rl7 ry7
                      have e3 : (match h7[h1.length]? with
                        | some (.lst acc) => if acc.length < LIM then loopC J h1.length (lcBody C elt p cond own r) k (i + 1) (h7.set h1.length (.lst (acc ++ [vy]))) else .bad
                        | _ => .bad) = .ok () h3 := e3
                      split at e3
                      · rename_i acc ea
                        split at e3
                        · rename_i hl
                          have lm7' := lm4.trans (lm5.trans lm7)
                          have hD7 : m7 h1.length = some D := lm7' _ _ hmD
                          obtain ⟨p', z1, z2, ys', z3, z4⟩ := rl7.obj _ _ ea (fun z => nomatch z)
                          have e5 : D = p' := Option.some.inj (hD7.symm.trans z1)
                          subst e5
                          exact ⟨ys', z3, by rw [z4.length]; exact hl, m7, F7, _, lm2.trans lm7', (l2.trans (l3.trans (l4.trans (l5.trans l7)))), rl7.put (o' := .lst (acc ++ [vy])) ea (fun z => nomatch z) hD7 ⟨_, rfl, z4.append (Rs.one ry7)⟩, h3, e3, w3⟩
                        · cases e3
                      · cases e3
                  | false =>
                    rw [if_neg Bool.false_ne_true]
                    exact ⟨m5, F5, h6, lm2.trans (lm4.trans lm5), l2.trans (l3.trans (l4.trans l5)), rl5, h3, e3, w3⟩
                | _ => cases e3
/-! ### a comprehension whose list won't be changed -/
def tMtu (G : Gi) (f : Rho → Hm → Res Vl) : TT := fun σ H Q => ∃ U, tMt (G.u U) f σ H Q
def gMu (G : Gi) (f : Vl → Rho → Hm → Res Rho) : TG := fun x σ H Q => ∃ U, gM (G.u U) f x σ H Q
theorem lcF_read {f : Rho → Hm → Res Vl} {elt : Ex} {p : Pt} {cond : Ex} {own : List Nat} {σ : L2.St} {H : Hp} {Q : VK}
    (w : tM G (fun r h => (f r h).bind fun v h => match itOf h v with
      | none => .bad
      | some J => (loopP J (lcBody C elt p cond own r) FUEL 0 [] h).bind fun acc h' => .ok (.fl acc) h') σ H Q) :
    tLc (tIM G f) (fun x σ H Q => gMu G (patF p) x σ H fun σ' H' => L2.wipe σ' own = L2.wipe σ own → Q σ' H') (tMtu G fun r h => evM C cond true r h) (tMu G fun r h => evM C elt false r h) own σ H Q := by
  obtain ⟨m0, F0, h0, r, rl0, re0, w⟩ := w
  obtain ⟨v, h1, e1, w⟩ := w.bind
  cases eJ : itOf h1 v with
  | none =>
    rw [eJ] at w
    exact False.elim w
  | some J =>
    rw [eJ] at w
    refine ⟨m0, F0, h0, r, v, h1, J, rl0, re0, e1, eJ, fun m1 F1 H1 J' lm1 l1 rl1 it D nD => ?_⟩
    have hUD : G.U D = none := rl1.freeU nD
    refine ⟨fun i k H2 => ∃ m2 F2 h2 acc ys, Lm m1 m2 ∧ Le F1 F2 ∧ Rel (G.u (upd G.U D (.lst ys))) m2 F2 h2 H2 ∧ Rs G F2 m2 acc ys ∧ ∃ a3 h3, loopP J (lcBody C elt p cond own r) k i acc h2 = .ok a3 h3 ∧ WpV G m0 F0 (.ok (.fl a3) h3) Q, ?_, ?_⟩
    · obtain ⟨a3, h3, e3, w3⟩ := w.bind
      refine ⟨FUEL, m1, F1, h1, [], [], Lm.refl _, Le.refl _, (rl1.grow (u := .lst []) nD).by upd_same (rl1.free nD) hUD ?_, rfl, a3, h3, e3, w3⟩
      rintro ⟨a, o, ea, na, ma⟩
      exact rl1.apart nD ea na ma
    · rintro i k H2 ⟨m2, F2, h2, acc, ys, lm2, l2, rl2, racc, a3, h3, e3, w3⟩
      cases k with
      | zero => cases e3
      | succ k =>
        obtain ⟨hst, hgo⟩ := it (upd G.U D (.lst ys)) i h2 H2 m2 F2 lm2 l2 rl2
        unfold loopP at e3
        cases en : J.next i h2 with
        | none =>
          rw [en] at e3
          cases e3
        | some o =>
          rw [en] at e3
          cases o with
          | none =>
            have e3 : Res.ok acc h2 = .ok a3 h3 := e3
            cases e3
            obtain ⟨rg, hD, hF, hl⟩ := Rel.unby hUD rl2
            refine .inl ⟨hst en, w3 m2 (upd F2 D (.lst ys)) H2 _ (lm1.trans lm2) ((l1.trans l2).trans (Le.upd hF)) ?_ ⟨D, ys, rfl, .inl (.inl upd_same), Rs.mono (Le.upd hF) (Lm.refl _) _ _ racc⟩⟩
            exact rg.own hD hF hUD hl
          | some v2 =>
            obtain ⟨g1, g2⟩ := hgo v2 en
            refine .inr ⟨g1, fun H' => ∃ m4 F4 h4 acc4 ys4, Lm m1 m4 ∧ Le F1 F4 ∧ Rel (G.u (upd G.U D (.lst ys4))) m4 F4 h4 H' ∧ Rs G F4 m4 acc4 ys4 ∧ ∃ a5 h5, loopP J (lcBody C elt p cond own r) k (i + 1) acc4 h4 = .ok a5 h5 ∧ WpV G m0 F0 (.ok (.fl a5) h5) Q, fun H' ⟨m4, F4, h4, acc4, ys4, a1, a2, a3, a4⟩ => ⟨k, Nat.lt_succ_self k, m4, F4, h4, acc4, ys4, a1, a2, a3, a4⟩, fun x H' yl => ?_⟩
            obtain ⟨F3, l3, rl3, rx⟩ := g2 x H' yl
            have e3 : ((lcBody C elt p cond own r v2 h2).bind fun y h => match y with
              | none => loopP J (lcBody C elt p cond own r) k (i + 1) acc h
              | some y => if acc.length < LIM then loopP J (lcBody C elt p cond own r) k (i + 1) (acc ++ [y]) h else .bad) = .ok a3 h3 := e3
            have reW : RE G F3 m2 (wipe r own) (L2.wipe σ own) := RE.mono (l1.trans (l2.trans l3)) (lm1.trans lm2) _ _ (RE.wipe re0 own)
            refine ⟨upd G.U D (.lst ys), m2, F3, h2, wipe r own, v2, rl3, reW.u, rx, ?_⟩
            unfold patF
            unfold lcBody at e3
            cases eb : bindP p v2 (wipe r own) with
            | none =>
              rw [eb] at e3
              cases e3
            | some r' =>
              rw [eb] at e3
              intro m4 F4 H4 σ4 lm4 l4 rl4 re4 ew
              have ew : L2.wipe σ4 own = L2.wipe σ own := ew.trans wipe_wipe
              refine ⟨ew, upd G.U D (.lst ys), m4, F4, h2, r', rl4, re4, ?_⟩
              dsimp only
              rw [bind_assoc'] at e3
              cases ec : evM C cond true r' h2 with
              | exc cc fs hx =>
                rw [ec] at e3
                cases e3
              | bad =>
                rw [ec] at e3
                cases e3
              | ok vb h6 =>
                rw [ec] at e3
                intro m5 F5 H5 x5 lm5 l5 rl5 rx5
                cases vb with
                | bl b =>
                  refine ⟨b, rx5, ?_⟩
                  cases b with
                  | true =>
                    rw [if_pos rfl]
                    have e3 : (((evM C elt false r' h6).bind fun y h => .ok (some y) h).bind fun y h => match y with
                      | none => loopP J (lcBody C elt p cond own r) k (i + 1) acc h
                      | some y => if acc.length < LIM then loopP J (lcBody C elt p cond own r) k (i + 1) (acc ++ [y]) h else .bad) = .ok a3 h3 := e3
                    rw [bind_assoc'] at e3
                    refine ⟨upd G.U D (.lst ys), m5, F5, h6, r', rl5, RE.mono l5 lm5 _ _ re4, ?_⟩
                    dsimp only
                    cases ee : evM C elt false r' h6 with
                    | exc cc fs hx =>
                      rw [ee] at e3
                      cases e3
                    | bad =>
                      rw [ee] at e3
                      cases e3
                    | ok vy h7 =>
                      rw [ee] at e3
                      intro m7 F7 H7 y7 lm7 l7 rl7 ry7
                      have e3 : (if acc.length < LIM then loopP J (lcBody C elt p cond own r) k (i + 1) (acc ++ [vy]) h7 else .bad) = .ok a3 h3 := e3
                      split at e3
                      · rename_i hl
                        have lm7' := lm4.trans (lm5.trans lm7)
                        have l7' := l3.trans (l4.trans (l5.trans l7))
                        obtain ⟨rg, hD, hF, hlv⟩ := Rel.unby hUD rl7
                        have racc7 : Rs G F7 m7 acc ys := Rs.mono l7' lm7' _ _ racc
                        refine ⟨ys, hD, by rw [racc.length]; exact hl, m7, F7, h7, acc ++ [vy], ys ++ [y7], lm2.trans lm7', l2.trans l7', ?_, racc7.append (Rs.one (R.u (G := G.u (upd G.U D (.lst ys))) (U := G.U) ry7)), a3, h3, e3, w3⟩
                        exact rg.rest hD hF hUD hlv
                      · cases e3
                  | false =>
                    rw [if_neg Bool.false_ne_true]
                    exact ⟨m5, F5, h6, acc, ys, lm2.trans (lm4.trans lm5), l2.trans (l3.trans (l4.trans l5)), rl5, Rs.mono (l3.trans (l4.trans l5)) (lm4.trans lm5) _ _ racc, a3, h3, e3, w3⟩
                | _ => cases e3
/-- what is asked of a thing that may be asked with anything standing by -/
theorem PE.ex {t : Hp → TE} (h : ∀ U, PE X e (t U)) : PE X e (fun σ H Q => ∃ U, t U σ H Q) := ⟨fun pins s σ H Q I ⟨U, q⟩ => (h U).run pins s σ H Q I q⟩
theorem PTs.ex {es : List Expr} {t : Hp → TT} (h : ∀ U, PTs X es (t U)) : PTs X es (fun σ H Q => ∃ U, t U σ H Q) := ⟨fun pins s σ H Q I ⟨U, q⟩ => (h U).run pins s σ H Q I q⟩
theorem PG.ex {tg : Expr} {t : Hp → TG} (h : ∀ U, PG X tg (t U)) : PG X tg (fun x σ H Q => ∃ U, t U x σ H Q) := ⟨fun pins s σ H v u Q I r ⟨U, q⟩ => (h U).run pins s σ H v u Q I r q⟩
theorem se_lc (fx : Fx X G C d) (lv : Bool) {elt tg iter : Expr} {ifs : List Expr} {scope : Scope} {own : List (Str × Nat)} {p : Pt} {ite cond : Ex} (hi : SI X G C tg iter ite) (ok : BlkOk X.N X.env.scope scope own)
    (hg : ∀ U s H A cl fp, SP2 (X.blk s H scope (compEnvC scope cl A X.env) fp) (G.u U) tg p (own.map (·.2))) (ht : ∀ U s H A cl fp, STs (X.blk s H scope (compEnvC scope cl A X.env) fp) (G.u U) C ifs cond) (he : ∀ U s H A cl fp, SE (X.blk s H scope (compEnvC scope cl A X.env) fp) (G.u U) C elt x) :
    SE X G C (.ListComp elt [⟨tg, iter, ifs, 0⟩] scope pos) (.lc lv x p ite cond (own.map (·.2))) := by
  cases lv with
  | true =>
    refine SE.of fx.K (plainT_of rfl) (fun m r h => by rw [evM]) (PE.weak (pe_lc fx.calm fx.nd hi.i ok (fun s H A cl fp => (hg G.U s H A cl fp).g) (ht G.U) (fun s H A cl fp => (he G.U s H A cl fp).v) hi.f) fun σ H Q w => ?_)
    exact lc_read w
  | false =>
    refine SE.of fx.K (plainT_of rfl) (fun m r h => by rw [evM]) (PE.weak (pe_lc fx.calm fx.nd hi.i ok (fun s H A cl fp => PG.ex fun U => (hg U s H A cl fp).g) (fun s H A cl fp => PTs.ex fun U => ht U s H A cl fp) (fun s H A cl fp => PE.ex fun U => (he U s H A cl fp).v) hi.f) fun σ H Q w => ?_)
    exact lcF_read w
end
end Mi
/-! MINI: statements -/
namespace Mi
open PySem PySem.Spec L2
section
variable {X : Cx} {G : Gi} {C : Cs} {d : Nat} {e a b c : Expr} {x y z : Ex} {pos : Pos} {m m' : Mp} {F F' : Hp}
/-- what is wanted of a statement's result -/
def WpF (G : Gi) (m : Mp) (F : Hp) (r : Res Flow) (D : Ends) : Prop := match r with
  | .ok (.nx r') h' => ∀ m' F' H' σ', Lm m m' → Le F F' → Rel G m' F' h' H' → RE G F' m' r' σ' → D.nx σ' H'
  | .ok (.bk r') h' => ∀ m' F' H' σ', Lm m m' → Le F F' → Rel G m' F' h' H' → RE G F' m' r' σ' → D.bk σ' H'
  | .ok (.ct r') h' => ∀ m' F' H' σ', Lm m m' → Le F F' → Rel G m' F' h' H' → RE G F' m' r' σ' → D.ct σ' H'
  | .ok (.rt v) h' => ∀ m' F' H' x, Lm m m' → Le F F' → Rel G m' F' h' H' → R G F' m' v x → D.rt x H'
  | _ => False
theorem WpF.mono {r : Res Flow} {D : Ends} (w : WpF G m F r D) (lm : Lm m m') (l : Le F F') : WpF G m' F' r D := by
  cases r with
  | ok f h =>
    cases f with
    | nx r' => exact fun m2 F2 H2 s2 a b => w m2 F2 H2 s2 (lm.trans a) (l.trans b)
    | bk r' => exact fun m2 F2 H2 s2 a b => w m2 F2 H2 s2 (lm.trans a) (l.trans b)
    | ct r' => exact fun m2 F2 H2 s2 a b => w m2 F2 H2 s2 (lm.trans a) (l.trans b)
    | rt v => exact fun m2 F2 H2 s2 a b => w m2 F2 H2 s2 (lm.trans a) (l.trans b)
  | exc c fs h => exact False.elim w
  | bad => exact False.elim w
theorem WpF.bind {α : Type} {r : Res α} {f : α → Hm → Res Flow} {D : Ends} (w : WpF G m F (r.bind f) D) : ∃ a h, r = .ok a h ∧ WpF G m F (f a h) D := by
  cases r with
  | ok a h => exact ⟨a, h, rfl, w⟩
  | exc c fs h => exact False.elim w
  | bad => exact False.elim w
def tS (G : Gi) (f : Rho → Hm → Res Flow) : TS := fun D σ H => ∃ m F h r, Rel G m F h H ∧ RE G F m r σ ∧ WpF G m F (f r h) D
def SS (X : Cx) (G : Gi) (C : Cs) (st : Stmt) (s : Sm) : Prop := PS X st (tS G fun r h => ex C s r h)
def SSs (X : Cx) (G : Gi) (C : Cs) (st : List Stmt) (s : List Sm) : Prop := PSs X st (tS G fun r h => exs C s r h)
theorem PS.weak {st : Stmt} {t t' : TS} (h : PS X st t) (i : ∀ D σ H, t' D σ H → t D σ H) : PS X st t' := ⟨fun pins s σ H D I q => h.run pins s σ H D I (i D σ H q)⟩
theorem PSs.weak {st : List Stmt} {t t' : TS} (h : PSs X st t) (i : ∀ D σ H, t' D σ H → t D σ H) : PSs X st t' := ⟨fun pins s σ H D I q => h.run pins s σ H D I (i D σ H q)⟩
theorem tS_bind {f : Rho → Hm → Res Vl} {g : Rho → Vl → Hm → Res Flow} {σ : L2.St} {H : Hp} {D : Ends} {k : V → Hp → Prop} (w : tS G (fun r h => (f r h).bind (g r)) D σ H)
    (hk : ∀ m F h r v x H', Rel G m F h H' → RE G F m r σ → R G F m v x → WpF G m F (g r v h) D → k x H') : tM G f σ H k := by
  obtain ⟨m, F, h, r, rl, re, w⟩ := w
  obtain ⟨v, h1, e, w⟩ := w.bind
  refine ⟨m, F, h, r, rl, re, ?_⟩
  rw [e]
  exact fun m' F' H' x lm l rl' rx => hk m' F' h1 r v x H' rl' (RE.mono l lm _ _ re) rx (w.mono lm l)
theorem tS_test {f : Rho → Hm → Res Vl} {g : Rho → Vl → Hm → Res Flow} {σ : L2.St} {H : Hp} {D : Ends} {k : Bool → Hp → Prop} (w : tS G (fun r h => (f r h).bind (g r)) D σ H)
    (hb : ∀ r v h, g r v h ≠ .bad → ∃ b, v = .bl b)
    (hk : ∀ m F h r b H', Rel G m F h H' → RE G F m r σ → WpF G m F (g r (.bl b) h) D → k b H') : tMt G f σ H k := by
  obtain ⟨m, F, h, r, rl, re, w⟩ := w
  obtain ⟨v, h1, e, w⟩ := w.bind
  obtain ⟨b, rfl⟩ := hb r v h1 (fun z => by
    rw [z] at w
    exact w)
  refine ⟨m, F, h, r, rl, re, ?_⟩
  rw [e]
  refine fun m' F' H' x lm l rl' rx => ⟨b, rx, ?_⟩
  exact hk m' F' h1 r b H' rl' (RE.mono l lm _ _ re) (w.mono lm l)
theorem WpF.next {r : Rho} {h : Hm} {H : Hp} {σ : L2.St} {D : Ends} (w : WpF G m F (.ok (.nx r) h) D) (rl : Rel G m F h H) (re : RE G F m r σ) : D.nx σ H := w m F H σ (Lm.refl m) (Le.refl F) rl re

/-! ### blocks -/
theorem ss_nil : SSs X G C [] [] := PSs.weak pss_nil fun D σ H w => by
  obtain ⟨m, F, h, r, rl, re, w⟩ := w
  dsimp only at w
  rw [exs] at w
  exact w.next rl re
theorem ss_cons {st : Stmt} {sts : List Stmt} {s : Sm} {ss : List Sm} (h1 : SS X G C st s) (h2 : SSs X G C sts ss) : SSs X G C (st :: sts) (s :: ss) := by
  refine PSs.weak (pss_cons h1 h2) fun D σ H w => ?_
  obtain ⟨m, F, h, r, rl, re, w⟩ := w
  dsimp only at w
  rw [exs] at w
  refine ⟨m, F, h, r, rl, re, ?_⟩
  dsimp only
  cases e1 : ex C s r h with
  | ok f h1 =>
    rw [e1] at w
    cases f with
    | nx r' => exact fun m' F' H' σ' lm l rl' re' => ⟨m', F', h1, r', rl', re', WpF.mono w lm l⟩
    | bk r' => exact w
    | ct r' => exact w
    | rt v => exact w
  | exc c fs h =>
    rw [e1] at w
    exact False.elim w
  | bad =>
    rw [e1] at w
    exact False.elim w
theorem s_pass : SS X G C (.Pass pos) .pass := PS.weak ps_pass fun D σ H w => by
  obtain ⟨m, F, h, r, rl, re, w⟩ := w
  dsimp only at w
  rw [ex] at w
  exact w.next rl re
theorem s_brk : SS X G C (.Break pos) .brk := PS.weak ps_break fun D σ H w => by
  obtain ⟨m, F, h, r, rl, re, w⟩ := w
  dsimp only at w
  rw [ex] at w
  exact w m F H σ (Lm.refl m) (Le.refl F) rl re
theorem s_cont : SS X G C (.Continue pos) .cont := PS.weak ps_continue fun D σ H w => by
  obtain ⟨m, F, h, r, rl, re, w⟩ := w
  dsimp only at w
  rw [ex] at w
  exact w m F H σ (Lm.refl m) (Le.refl F) rl re
theorem s_never {st : Stmt} : SS X G C st .never := PS.weak ps_never fun D σ H w => by
  obtain ⟨m, F, h, r, rl, re, w⟩ := w
  dsimp only at w
  rw [ex] at w
  exact w
def noComp : Expr → Bool
  | .ListComp .. => false
  | .SetComp .. => false
  | .DictComp .. => false
  | _ => true
theorem swaps_of {e : Expr} {t : Option Expr} {n : Nat} {env : PySem.Env} (h : noComp e = true) : swapsWith e t n env = pure false := by
  unfold swapsWith
  cases e <;> first | rfl | cases h
theorem s_expr (he : SE X G C e x) (hn : noComp e = true) : SS X G C (.Expr e pos) (.expr x) := by
  refine PS.weak (ps_expr he.v (swaps_of hn)) fun D σ H w => ?_
  have w : tS G (fun r h => (evM C x false r h).bind fun _ h => .ok (.nx r) h) D σ H := by
    obtain ⟨m, F, h, r, rl, re, w⟩ := w
    dsimp only at w
    rw [ex] at w
    exact ⟨m, F, h, r, rl, re, w⟩
  exact tS_bind w fun m F h r v x H' rl re rx w => w.next rl re
theorem s_ret (he : SE X G C e x) : SS X G C (.Return (some e) pos) (.ret x) := by
  refine PS.weak (ps_ret he.v) fun D σ H w => ?_
  have w : tS G (fun r h => (evM C x false r h).bind fun v h => .ok (.rt v) h) D σ H := by
    obtain ⟨m, F, h, r, rl, re, w⟩ := w
    dsimp only at w
    rw [ex] at w
    exact ⟨m, F, h, r, rl, re, w⟩
  exact tS_bind w fun m F h r v x H' rl re rx w => w m F H' x (Lm.refl m) (Le.refl F) rl rx
theorem s_retN : SS X G C (.Return none pos) (.ret (.cst .non)) := by
  refine PS.weak ps_retN fun D σ H w => ?_
  obtain ⟨m, F, h, r, rl, re, w⟩ := w
  dsimp only at w
  rw [ex, evM] at w
  exact (show WpF G m F (.ok (.rt .non) h) D from w) m F H _ (Lm.refl m) (Le.refl F) rl rfl
theorem s_if {sa sb : List Stmt} {ta tb : List Sm} (hc : SE X G C c z) (ha : SSs X G C sa ta) (hb : SSs X G C sb tb) : SS X G C (.If c sa sb pos) (.ite z ta tb) := by
  refine PS.weak (ps_if hc.t ha hb) fun D σ H w => ?_
  have w : tS G (fun r h => (evM C z true r h).bind fun v h => match v with
    | .bl true => exs C ta r h
    | .bl false => exs C tb r h
    | _ => .bad) D σ H := by
    obtain ⟨m, F, h, r, rl, re, w⟩ := w
    dsimp only at w
    rw [ex] at w
    exact ⟨m, F, h, r, rl, re, w⟩
  refine tS_test (g := fun r v h => match v with
    | .bl true => exs C ta r h
    | .bl false => exs C tb r h
    | _ => .bad) w (fun r v h n => ?_) fun m F h r b H' rl re w => ?_
  · cases v <;> first | exact ⟨_, rfl⟩ | exact absurd rfl n
  · cases b with
    | true =>
      rw [if_pos rfl]
      exact ⟨m, F, h, r, rl, re, w⟩
    | false =>
      rw [if_neg Bool.false_ne_true]
      exact ⟨m, F, h, r, rl, re, w⟩

/-! ### loops -/
theorem s_while (hp : PassesOwn (model X.prog X.w) X.A X.env X.xe) {sb : List Stmt} {tb : List Sm} (hc : SE X G C c z) (hb : SSs X G C sb tb) : SS X G C (.While c sb [] pos) (.whl z tb) := by
  refine PS.weak (ps_while hp hc.t hb) fun D σ H w => ?_
  obtain ⟨m, F, h, r, rl, re, w⟩ := w
  dsimp only at w
  rw [ex] at w
  refine ⟨fun k σ H => ∃ m F h r, Rel G m F h H ∧ RE G F m r σ ∧ WpF G m F (loopW (fun r h => evM C z true r h) (fun r h => exs C tb r h) k r h) D, ⟨FUEL, m, F, h, r, rl, re, w⟩, ?_⟩
  rintro k σ1 H1 ⟨m1, F1, h1, r1, rl1, re1, w1⟩
  cases k with
  | zero => exact False.elim w1
  | succ k =>
    unfold loopW at w1
    obtain ⟨v, h2, e2, w2⟩ := w1.bind
    refine ⟨m1, F1, h1, r1, rl1, re1, ?_⟩
    dsimp only at e2 ⊢
    rw [e2]
    intro m2 F2 H2 x2 lm2 l2 rl2 rx2
    have re2 := RE.mono l2 lm2 _ _ re1
    cases v with
    | bl b =>
      refine ⟨b, rx2, ?_⟩
      cases b with
      | true =>
        rw [if_pos rfl]
        refine ⟨fun σ H => ∃ m F h r, Rel G m F h H ∧ RE G F m r σ ∧ WpF G m F (loopW (fun r h => evM C z true r h) (fun r h => exs C tb r h) k r h) D, fun σ' H' q => ⟨k, Nat.lt_succ_self k, q⟩, m2, F2, h2, r1, rl2, re2, ?_⟩
        have w3 := WpF.mono w2 lm2 l2
        dsimp only at w3 ⊢
        cases e3 : exs C tb r1 h2 with
        | ok f h3 =>
          rw [e3] at w3
          cases f with
          | nx r' => exact fun m' F' H' σ' lm l rl' re' => ⟨m', F', h3, r', rl', re', WpF.mono w3 lm l⟩
          | ct r' => exact fun m' F' H' σ' lm l rl' re' => ⟨m', F', h3, r', rl', re', WpF.mono w3 lm l⟩
          | bk r' => exact w3
          | rt v => exact w3
        | exc c fs h =>
          rw [e3] at w3
          exact False.elim w3
        | bad =>
          rw [e3] at w3
          exact False.elim w3
      | false =>
        rw [if_neg Bool.false_ne_true]
        exact WpF.next (WpF.mono w2 lm2 l2) rl2 re2
    | _ => exact False.elim w2
theorem s_for (fx : Fx X G C d) (hp : PassesOwn (model X.prog X.w) X.A X.env X.xe) {tg iter : Expr} {p : Pt} {sb : List Stmt} {tb : List Sm} (hi : SI X G C tg iter x) (hg : SP X G tg p) (hb : SSs X G C sb tb) : SS X G C (.For tg iter sb [] pos) (.for_ p x tb) := by
  refine PS.weak (ps_for hp fx.calm hi.i hg hb hi.f) fun D σ H w => ?_
  obtain ⟨m, F, h, r, rl, re, w⟩ := w
  dsimp only at w
  rw [ex] at w
  obtain ⟨v, h1, e1, w⟩ := w.bind
  cases eJ : itOf h1 v with
  | none =>
    rw [eJ] at w
    exact False.elim w
  | some J =>
    rw [eJ] at w
    refine ⟨m, F, h, r, v, h1, J, rl, re, e1, eJ, fun m1 F1 H1 J' lm1 l1 rl1 it => ?_⟩
    refine ⟨fun i k σ H => ∃ m2 F2 h2 r2, Lm m1 m2 ∧ Le F1 F2 ∧ Rel G m2 F2 h2 H ∧ RE G F2 m2 r2 σ ∧ WpF G m2 F2 (loopF J (fun x r h => match bindP p x r with
      | some r => exs C tb r h
      | none => .bad) k i r2 h2) D, ⟨FUEL, m1, F1, h1, r, Lm.refl _, Le.refl _, rl1, RE.mono l1 lm1 _ _ re, WpF.mono w lm1 l1⟩, ?_⟩
    rintro i k σ2 H2 ⟨m2, F2, h2, r2, lm2, l2, rl2, re2, w2⟩
    cases k with
    | zero => exact False.elim w2
    | succ k =>
      obtain ⟨hst, hgo⟩ := it G.U i h2 H2 m2 F2 lm2 l2 rl2
      unfold loopF at w2
      cases en : J.next i h2 with
      | none =>
        rw [en] at w2
        exact False.elim w2
      | some o =>
        rw [en] at w2
        cases o with
        | none => exact .inl ⟨hst en, WpF.next w2 rl2 re2⟩
        | some v2 =>
          obtain ⟨g1, g2⟩ := hgo v2 en
          refine .inr ⟨g1, fun σ H => ∃ m2 F2 h2 r2, Lm m1 m2 ∧ Le F1 F2 ∧ Rel G m2 F2 h2 H ∧ RE G F2 m2 r2 σ ∧ WpF G m2 F2 (loopF J (fun x r h => match bindP p x r with
            | some r => exs C tb r h
            | none => .bad) k (i + 1) r2 h2) D, fun σ' H' q => ⟨k, Nat.lt_succ_self k, q⟩, fun x' H' yl => ?_⟩
          obtain ⟨F3, l3, rl3, rx⟩ := g2 x' H' yl
          refine ⟨m2, F3, h2, r2, v2, rl3, RE.mono l3 (Lm.refl _) _ _ re2, rx, ?_⟩
          unfold patF
          dsimp only at w2
          cases eb : bindP p v2 r2 with
          | none =>
            rw [eb] at w2
            exact False.elim w2
          | some r' =>
            rw [eb] at w2
            intro m4 F4 H4 σ4 lm4 l4 rl4 re4
            refine ⟨m4, F4, h2, r', rl4, re4, ?_⟩
            have w3 := WpF.mono w2 lm4 (l3.trans l4)
            dsimp only at w3 ⊢
            cases e3 : exs C tb r' h2 with
            | ok f h3 =>
              rw [e3] at w3
              cases f with
              | nx r' => exact fun m' F' H' σ' lm l rl' re' => ⟨m', F', h3, r', lm2.trans (lm4.trans lm), l2.trans (l3.trans (l4.trans l)), rl', re', WpF.mono w3 lm l⟩
              | ct r' => exact fun m' F' H' σ' lm l rl' re' => ⟨m', F', h3, r', lm2.trans (lm4.trans lm), l2.trans (l3.trans (l4.trans l)), rl', re', WpF.mono w3 lm l⟩
              | bk r' => exact w3
              | rt v => exact w3
            | exc c fs h =>
              rw [e3] at w3
              exact False.elim w3
            | bad =>
              rw [e3] at w3
              exact False.elim w3

/-! ### targets -/
def ST (X : Cx) (G : Gi) (C : Cs) (tg : Expr) (t : Tg) : Prop := PG X tg (gM G (asg C t))
def STL (X : Cx) (G : Gi) (C : Cs) (tg : List Expr) (t : List Tg) : Prop := PGs X tg (gMs G (asgs C t))
theorem st_name (hN : X.N.Nodup) {i : Nat} {n : Str} (hi : X.N[i]? = some n) (hx : Loc X.env.scope n) (hf : X.fn n = true ∨ X.env.scope.names.lookup n = some .local) : ST X G C (.Name n pos) (.name i) := by
  refine PG.weak (pg_name hN hi hx hf) fun x σ H Q w => ?_
  obtain ⟨m, F, h, r, v, rl, re, rx, w⟩ := w
  rw [asg] at w
  exact w.here rl (re.set i rx)
theorem putF_R {f : String} {v : Vl} {x : V} (rv : R G F m v x) : ∀ {fs : List (String × Vl)} {ys : List (Str × V)}, Rf G F m fs ys → Rf G F m (Mi.putF f v fs) (L2.putF (Str.ofString f) x ys)
  | [], ys, r => by
    have e : ys = [] := r
    subst e
    exact ⟨x, [], rfl, rv, rfl⟩
  | (g, w) :: fs, ys, ⟨y, zs, e, r, rs⟩ => by
    subst e
    have ih := putF_R (f := f) rv rs
    unfold Mi.putF L2.putF
    by_cases hf : f = g
    · subst hf
      rw [if_pos rfl, if_pos (by first | rfl | simp)]
      exact ⟨x, zs, rfl, rv, rs⟩
    · have hf2 : Str.ofString f ≠ Str.ofString g := fun z => hf (of_inj z)
      rw [if_neg hf]
      first
        | rw [if_neg (fun z => hf2 z.symm)]
        | rw [if_neg hf2]
        | (rw [if_neg (by simpa using hf2)])
        | (rw [if_neg (by simpa using fun z => hf2 z.symm)])
      exact ⟨y, _, rfl, r, ih⟩
/-- o.f = .. as a target -/
theorem st_att (fx : Fx X G C d) {f : String} (ho : SE X G C a x) (hf : f ∈ G.fl) : ST X G C (.Attribute a (Str.ofString f) pos) (.att x f) := by
  refine ⟨fun pins s σ H v u Q I r w => ?_⟩
  obtain ⟨m, F, h, rr, v0, rl, re, rx, w⟩ := w
  rw [asg] at w
  obtain ⟨o, h1, e1, w⟩ := w.bind
  show wpAny _ _ (do
    let ov ← holding [u] (eval a X.env)
    standAt pos.atName
    holding [u, ov] (setAttr ov (Str.ofString f) u)
    release [u, ov] []) _ _ s
  refine wpAny_bind (wpAny_holding (thn (ho.v.run pins s σ H (fun y H1 => ∃ m1 F1, Lm m m1 ∧ Le F F1 ∧ Rel G m1 F1 h1 H1 ∧ R G F1 m1 o y) I ⟨m, F, h, rr, rl, re, by
    dsimp only
    rw [e1]
    exact fun m1 F1 H1 y lm l rl1 ry => ⟨m1, F1, lm, l, rl1, ry⟩⟩) fun ov s1 ⟨y, H1, I1, ry, m1, F1, lm1, l1, rl1, ro⟩ => ?_))
  refine wpAny_bind (wpAny_standAt (wpAny_bind (wpAny_holding ?_)))
  obtain ⟨_, h2, e2, w⟩ := w.bind
  unfold setF at e2
  split at e2
  · split at e2
    · rename_i cc fs e3
      split at e2
      · rename_i hl
        cases e2
        obtain ⟨p, ma, rfl⟩ := ro
        obtain ⟨p', z1, z2, dx, ys, z3, z0, z4⟩ := rl1.obj _ _ e3 (fun z => nomatch z)
        have e5 : p = p' := Option.some.inj (ma.symm.trans z1)
        subst e5
        obtain rfl : ov = Value.ref p := ry
        refine setattr_ok I1 z3 (by rw [fx.K]; exact fx.cls _ z0) (by rw [fx.K]; exact fx.noat _ z0 f hf) (by rw [z4.length]; omega) r fun s2 I2 => wpAny_release ⟨σ, _, I2, ?_⟩
        have rl2 := rl1.put (o' := .inst cc (Mi.putF f v0 fs)) e3 (fun z => nomatch z) ma ⟨dx, _, rfl, z0, putF_R (R.mono l1 lm1 _ _ rx) z4⟩
        exact w m1 F1 _ σ lm1 l1 rl2 (RE.mono l1 lm1 _ _ re)
      · cases e2
    · cases e2
  · cases e2
theorem putK_R {k : Tx} {v : Vl} {x : V} (ok : sOk k) (rv : R G F m v x) : ∀ {kvs : List (Tx × Vl)} {ys : List (Key × V)}, Rk G F m kvs ys → (kvs.map (·.1)).Nodup → Rk G F m (Mi.putK k v kvs) (L2.putK ys (Sum.inr (ss k)) x) := by
  have key : ∀ k' : Tx, (Sum.inr (ss k') : Key) = Sum.inr (ss k) ↔ k' = k := fun k' => ⟨fun h => ss_inj (Sum.inr.inj h), fun h => by rw [h]⟩
  intro kvs
  induction kvs with
  | nil =>
    intro ys r _
    have e : ys = [] := r
    subst e
    exact ⟨x, [], rfl, ok, rv, rfl⟩
  | cons kv kvs ih =>
    obtain ⟨g, w⟩ := kv
    intro ys r nd
    obtain ⟨y, zs, e, og, r, rs⟩ := r
    subst e
    rw [List.map_cons, List.nodup_cons] at nd
    have ih0 := ih rs nd.2
    clear ih
    unfold Mi.putK
    by_cases hk : k = g
    · subst hk
      rw [if_pos rfl]
      have e1 : L2.putK ((Sum.inr (ss k), y) :: zs) (Sum.inr (ss k)) x = (Sum.inr (ss k), x) :: zs := by
        unfold L2.putK
        rw [if_pos (by simp)]
        rw [List.map_cons, if_pos rfl]
        congr 1
        have hz : ∀ p ∈ zs, p.1 ≠ (Sum.inr (ss k) : Key) := by
          clear ih0
          have hn := nd.1
          clear nd
          induction kvs generalizing zs with
          | nil =>
            have e : zs = [] := rs
            subst e
            exact fun p hp => nomatch hp
          | cons kv kvs ih2 =>
            obtain ⟨g2, w2⟩ := kv
            obtain ⟨y2, zs2, e, og2, r2, rs2⟩ := rs
            subst e
            intro p hp
            rcases List.mem_cons.mp hp with rfl | hp
            · exact fun z => hn (by rw [(key g2).mp z]; exact List.mem_cons_self)
            · exact ih2 _ rs2 (fun z => hn (List.mem_cons_of_mem _ z)) p hp
        refine (List.map_congr_left fun p hp => ?_).trans (List.map_id zs)
        rw [if_neg (hz p hp)]
        rfl
      rw [e1]
      exact ⟨x, zs, rfl, og, rv, rs⟩
    · rw [if_neg hk]
      have e1 : L2.putK ((Sum.inr (ss g), y) :: zs) (Sum.inr (ss k)) x = (Sum.inr (ss g), y) :: L2.putK zs (Sum.inr (ss k)) x := by
        have hne : ¬ ((Sum.inr (ss g) : Key) = Sum.inr (ss k)) := fun z => hk ((key g).mp z).symm
        unfold L2.putK
        rw [List.any_cons, decide_eq_false hne, Bool.false_or]
        split
        · rw [List.map_cons, if_neg hne]
        · rfl
      rw [e1]
      exact ⟨y, _, rfl, og, r, ih0⟩
theorem putK_keys {k : Tx} {v : Vl} : ∀ {kvs : List (Tx × Vl)} {g : Tx}, g ∈ (Mi.putK k v kvs).map (·.1) → g = k ∨ g ∈ kvs.map (·.1)
  | [], g, h => by
    have h : g = k := by simpa [Mi.putK] using h
    exact .inl h
  | (g', w) :: kvs, g, h => by
    unfold Mi.putK at h
    split at h
    · exact .inr h
    · rw [List.map_cons] at h
      rcases List.mem_cons.mp h with h | h
      · exact .inr (by rw [h]; exact List.mem_cons_self)
      · rcases putK_keys h with h | h
        · exact .inl h
        · exact .inr (List.mem_cons_of_mem _ h)
theorem putK_nodup {k : Tx} {v : Vl} : ∀ {kvs : List (Tx × Vl)}, (kvs.map (·.1)).Nodup → ((Mi.putK k v kvs).map (·.1)).Nodup
  | [], _ => by simp [Mi.putK]
  | (g', w) :: kvs, nd => by
    unfold Mi.putK
    split
    · exact nd
    · rename_i hk
      rw [List.map_cons, List.nodup_cons] at nd ⊢
      exact ⟨fun z => by
        rcases putK_keys z with z | z
        · exact hk z.symm
        · exact nd.1 z, putK_nodup nd.2⟩
/-- o[i] = v, by values -/
def rSetM (G : Gi) : TSet := fun o i v H Q => ∃ m F h o0 i0 v0, Rel G m F h H ∧ R G F m o0 o ∧ R G F m i0 i ∧ R G F m v0 v ∧ Wp G (fun _ _ (_ : Unit) (_ : Unit) => True) m F (setV o0 i0 v0 h) (fun _ H' => Q H')
theorem set_ok (fx : Fx X G C d) : PSet X (rSetM G) := by
  intro pins s σ H o i v ov iv u Q I ro ri rv q
  obtain ⟨m, F, h, o0, i0, v0, rl, r1, r2, r3, w⟩ := q
  unfold setV at w
  split at w
  · split at w
    · rename_i xs k e1
      split at w
      · rename_i j e2
        obtain ⟨a', p, ys, e4, rfl, ma, _, q, rs⟩ := liv_ok (xs := xs) rl r1 (by unfold livOf; dsimp only; rw [e1])
        cases e4
        refine set_list pins s σ H _ _ v ov iv u Q I ro ri rv ⟨p, ys, k, j, rfl, r2, q, by rw [rs.length, ixN_eq]; exact e2, ?_⟩
        exact w m F _ () (Lm.refl m) (Le.refl F) (rl.put (o' := .lst (xs.set j v0)) e1 (fun z => nomatch z) ma ⟨_, rfl, rs.set j r3⟩) trivial
      · exact False.elim w
    · rename_i kvs k e1
      split at w
      · rename_i hl
        obtain ⟨p, ma, rfl⟩ := r1
        obtain ⟨p', z1, z2, ys', z3, nd, z4⟩ := rl.obj _ _ e1 (fun z => nomatch z)
        have e5 : p = p' := Option.some.inj (ma.symm.trans z1)
        subst e5
        obtain ⟨r2, o2⟩ := r2
        subst r2
        obtain rfl : ov = Value.ref p := ro
        have dp : DPut H p (.str (ss k)) v (upd H p (.dK (L2.putK ys' (Sum.inr (ss k)) v))) := DPut.k (k := Sum.inr (ss k)) z3 (by rw [z4.length]; exact hl)
        refine d_setItem (by have := fx.hu; omega) I dp ri rv fun s' I' => ⟨_, I', ?_⟩
        exact w m F _ () (Lm.refl m) (Le.refl F) (rl.put (o' := .dct (Mi.putK k v0 kvs)) e1 (fun z => nomatch z) ma ⟨_, rfl, putK_nodup nd, putK_R o2 r3 z4 nd⟩) trivial
      · exact False.elim w
    · exact False.elim w
  · exact False.elim w
theorem st_sub (fx : Fx X G C d) (ho : SE X G C a x) (hi : SE X G C b y) (hs : noSlice b = true) : ST X G C (.Subscript a b pos) (.sub x y) := by
  refine PG.weak (pg_sub ho.v hi.v (set_ok fx) (fun v => ?_)) fun v σ H Q w => ?_
  · cases b <;> first | rfl | cases hs
  · obtain ⟨m, F, h, r, v0, rl, re, rx, w⟩ := w
    rw [asg] at w
    obtain ⟨o, h1, e1, w1⟩ := w.bind
    obtain ⟨i, h2, e2, w2⟩ := w1.bind
    refine ⟨m, F, h, r, rl, re, ?_⟩
    dsimp only
    rw [e1]
    intro m1 F1 H1 y1 lm1 l1 rl1 r1
    refine ⟨m1, F1, h1, r, rl1, RE.mono l1 lm1 _ _ re, ?_⟩
    dsimp only
    rw [e2]
    intro m2 F2 H2 y2 lm2 l2 rl2 r2
    obtain ⟨_, h3, e3, w3⟩ := w2.bind
    refine ⟨m2, F2, h2, o, i, v0, rl2, R.mono l2 lm2 _ _ r1, r2, R.mono (l1.trans l2) (lm1.trans lm2) _ _ rx, ?_⟩
    rw [e3]
    exact fun m3 F3 H3 _ lm3 l3 rl3 _ => w3 m3 F3 H3 σ (lm1.trans (lm2.trans lm3)) (l1.trans (l2.trans l3)) rl3 (RE.mono (l1.trans (l2.trans l3)) (lm1.trans (lm2.trans lm3)) _ _ re)
theorem stl_nil : STL X G C [] [] := PGs.weak pgs_nil fun x σ H Q w => by
  obtain ⟨m, F, h, r, vs, rl, re, rx, w⟩ := w
  cases vs with
  | nil =>
    rw [asgs] at w
    exact ⟨rx, w.here rl re⟩
  | cons v vs =>
    rw [asgs] at w
    · exact False.elim w
    all_goals simp
theorem stl_cons {es : List Expr} {t : Tg} {ts : List Tg} (h : ST X G C e t) (hs : noStar e = true) (hr : STL X G C es ts) : STL X G C (e :: es) (t :: ts) := by
  refine PGs.weak (pgs_cons h hr (assign_of hs)) fun x σ H Q w => ?_
  obtain ⟨m, F, hh, r, vs, rl, re, rx, w⟩ := w
  cases vs with
  | nil =>
    rw [asgs] at w
    · exact False.elim w
    all_goals simp
  | cons v vs =>
    obtain ⟨y, zs, rfl, ry, rzs⟩ := rx
    rw [asgs] at w
    obtain ⟨r', h1, e1, w⟩ := w.bind
    refine ⟨y, zs, rfl, m, F, hh, r, v, rl, re, ry, ?_⟩
    rw [e1]
    exact fun m' F' H' σ' lm l rl' re' => ⟨m', F', h1, r', vs, rl', re', Rs.mono l lm _ _ rzs, w.mono lm l⟩
theorem asgs_len : ∀ {ts : List Tg} {vs : List Vl} {r r' : Rho} {h h' : Hm}, asgs C ts vs r h = .ok r' h' → vs.length = ts.length
  | [], [], _, _, _, _, _ => rfl
  | t :: ts, v :: vs, r, r', h, h', e => by
    rw [asgs] at e
    cases e1 : asg C t v r h with
    | ok r1 h1 =>
      rw [e1] at e
      rw [List.length_cons, List.length_cons, asgs_len e]
    | exc c fs h =>
      rw [e1] at e
      cases e
    | bad =>
      rw [e1] at e
      cases e
  | [], v :: vs, _, _, _, _, e => by
    rw [asgs] at e
    · cases e
    all_goals simp
  | p :: ps, [], _, _, _, _, e => by
    rw [asgs] at e
    · cases e
    all_goals simp
theorem PG.or {X : Cx} {e : Expr} {t u : TG} (h1 : PG X e t) (h2 : PG X e u) : PG X e (fun v σ H Q => t v σ H Q ∨ u v σ H Q) :=
  ⟨fun pins s σ H v z Q I r h => h.elim (h1.run pins s σ H v z Q I r) (h2.run pins s σ H v z Q I r)⟩
theorem st_tup (fx : Fx X G C d) {es : List Expr} {ts : List Tg} {k : Nat} (h : STL X G C es ts) (hs : es.all noStar = true) (hl : es.length = ts.length) : ST X G C (.Tuple es k pos) (.tup ts) := by
  refine PG.weak (PG.or (pg_tup fx.calm h len_of (nostar_of hs)) (pg_unl fx.calm h len_of (nostar_of hs))) fun x σ H Q w => ?_
  obtain ⟨m, F, hh, r, v, rl, re, rx, w⟩ := w
  unfold asg at w
  split at w
  · rename_i vs
    obtain ⟨p, ys, rfl, q, rs⟩ := rx
    cases ea : asgs C ts vs r hh with
    | ok r' h' => exact .inl ⟨p, ys, rfl, by rw [fx.K]; exact rl.sub.tup q, by rw [rs.length, asgs_len ea, hl], m, F, hh, r, vs, rl, re, rs, w⟩
    | exc c fs h =>
      rw [ea] at w
      exact False.elim w
    | bad =>
      rw [ea] at w
      exact False.elim w
  · rename_i vs
    obtain ⟨p, ys, rfl, q, rs⟩ := rx
    cases ea : asgs C ts vs r hh with
    | ok r' h' => exact .inr ⟨p, ys, rfl, by rw [fx.K]; exact (rl.sub.lst q).sq, by rw [rs.length, asgs_len ea, hl], m, F, hh, r, vs, rl, re, rs, w⟩
    | exc c fs h =>
      rw [ea] at w
      exact False.elim w
    | bad =>
      rw [ea] at w
      exact False.elim w
  · exact False.elim w

/-! ### assignments -/
theorem tS_asg {t : Tg} {D : Ends} {σ : L2.St} {H : Hp} (w : tS G (fun r h => ex C (.asg t x) r h) D σ H) : tAsg (tM G fun r h => evM C x false r h) (gM G (asg C t)) D σ H := by
  have w : tS G (fun r h => (evM C x false r h).bind fun v h => (asg C t v r h).bind fun r h => .ok (.nx r) h) D σ H := by
    obtain ⟨m, F, h, r, rl, re, w⟩ := w
    dsimp only at w
    rw [ex] at w
    exact ⟨m, F, h, r, rl, re, w⟩
  refine tS_bind (g := fun r v h => (asg C t v r h).bind fun r h => .ok (.nx r) h) w fun m F h r v x H' rl re rx w => ?_
  obtain ⟨r', h1, e1, w⟩ := w.bind
  refine ⟨m, F, h, r, v, rl, re, rx, ?_⟩
  rw [e1]
  exact w
theorem one_of {e : Expr} {env : PySem.Env} (h : noStar e = true) : (assignEach [e] env).map (·.2) = [assign e env] := assign_of h
/-- no exchange of stores -/
theorem s_asg {tg : Expr} {t : Tg} (he : SE X G C e x) (ht : ST X G C tg t) (hs : noStar tg = true) (h1 : swapsWithSole [tg] e pos.line X.env = pure false) (h2 : swappedStores [tg] e X.env = pure none) : SS X G C (.Assign [tg] e pos) (.asg t x) :=
  PS.weak (ps_asg he.v ht h1 h2 (one_of hs)) fun D σ H w => tS_asg w
theorem s_setLc (fx : Fx X G C d) (lv : Bool) {i : Nat} {n : Str} {py : Pos} {elt tg iter : Expr} {ifs : List Expr} {scope : Scope} {own : List (Str × Nat)} {p : Pt} {ite cond : Ex} {spos : Pos} (hy : X.N[i]? = some n) (hyl : X.env.scope.names.lookup n = some .local)
    (hsw : swapsWith (.ListComp elt [⟨tg, iter, ifs, 0⟩] scope pos) (some (.Name n py)) spos.line X.env = pure true) (hi : SI X G C tg iter ite) (ok : BlkOk X.N X.env.scope scope own)
    (hg : ∀ U s H A cl fp, SP2 (X.blk s H scope (compEnvC scope cl A X.env) fp) (G.u U) tg p (own.map (·.2))) (ht : ∀ U s H A cl fp, STs (X.blk s H scope (compEnvC scope cl A X.env) fp) (G.u U) C ifs cond) (he : ∀ U s H A cl fp, SE (X.blk s H scope (compEnvC scope cl A X.env) fp) (G.u U) C elt x) :
    SS X G C (.Assign [.Name n py] (.ListComp elt [⟨tg, iter, ifs, 0⟩] scope pos) spos) (.asg (.name i) (.lc lv x p ite cond (own.map (·.2)))) := by
  have key : ∀ {m : Mp} {F : Hp} {h h1 : Hm} {r : Rho} {v : Vl} {D : Ends} {σ : L2.St} {q : Res Vl}, RE G F m r σ → WpF G m F ((asg C (.name i) v r h1).bind fun r h => .ok (.nx r) h) D → q = .ok v h1 → WpV G m F q (fun x H' => D.nx (σ.set i (some x)) H') := by
    intro m F h h1 r v D σ q re w e
    rw [e]
    intro m' F' H' x' lm l rl' rx
    rw [asg] at w
    exact (show WpF G m F (.ok (.nx (r.set i (some v))) h1) D from w) m' F' H' _ lm l rl' ((RE.mono l lm _ _ re).set i rx)
  cases lv with
  | true =>
    refine PS.weak (ps_setLc fx.calm fx.nd hy hyl hsw hi.i ok (fun s H A cl fp => (hg G.U s H A cl fp).g) (ht G.U) (fun s H A cl fp => (he G.U s H A cl fp).v) hi.f) fun D σ H w => ?_
    obtain ⟨m, F, h, r, rl, re, w⟩ := w
    dsimp only at w
    rw [ex, evM] at w
    obtain ⟨v, h1, e1, w⟩ := w.bind
    exact lc_read ⟨m, F, h, r, rl, re, key (h := h) re w e1⟩
  | false =>
    refine PS.weak (ps_setLc fx.calm fx.nd hy hyl hsw hi.i ok (fun s H A cl fp => PG.ex fun U => (hg U s H A cl fp).g) (fun s H A cl fp => PTs.ex fun U => ht U s H A cl fp) (fun s H A cl fp => PE.ex fun U => (he U s H A cl fp).v) hi.f) fun D σ H w => ?_
    obtain ⟨m, F, h, r, rl, re, w⟩ := w
    dsimp only at w
    rw [ex, evM] at w
    obtain ⟨v, h1, e1, w⟩ := w.bind
    exact lcF_read ⟨m, F, h, r, rl, re, key (h := h) re w e1⟩
theorem s_par (fx : Fx X G C d) {i j : Nat} {n1 n2 : Str} {px py pt pt2 : Pos} {kt k2 : Nat} (hi : X.N[i]? = some n1) (hj : X.N[j]? = some n2) (hij : i ≠ j) (hx : X.env.scope.names.lookup n1 = some .local) (hy : X.env.scope.names.lookup n2 = some .local)
    (ha : SA X G C [a, b] [x, y]) (hw : swappedStores [.Tuple [.Name n1 px, .Name n2 py] kt pt] (.Tuple [a, b] k2 pt2) X.env = pure (some [n1, n2])) :
    SS X G C (.Assign [.Tuple [.Name n1 px, .Name n2 py] kt pt] (.Tuple [a, b] k2 pt2) pos) (.asg (.tup [.name i, .name j]) (.tupE [x, y])) := by
  refine PS.weak (ps_par fx.calm fx.nd hi hj hij hx hy ha hw) fun D σ H w => ?_
  obtain ⟨m, F, h, r, rl, re, w⟩ := w
  dsimp only at w
  rw [ex, evM] at w
  refine ⟨m, F, h, r, rl, re, ?_⟩
  dsimp only
  have w : WpF G m F (((evs C [x, y] r h).bind fun vs h => if vs.length ≤ LIM then .ok (.tup vs) h else .bad).bind fun v h => (asg C (.tup [.name i, .name j]) v r h).bind fun r h => .ok (.nx r) h) D := w
  rw [bind_assoc'] at w
  obtain ⟨vs, h1, e1, w⟩ := w.bind
  rw [e1]
  intro m' F' H' xs lm l rl' rs
  have hl := evs_len e1
  obtain ⟨v1, v2, rfl⟩ : ∃ v1 v2, vs = [v1, v2] := by
    match vs, hl with
    | [v1, v2], _ => exact ⟨v1, v2, rfl⟩
  obtain ⟨x1, x2, rfl, r1, r2⟩ := two_R rs
  refine ⟨x1, x2, rfl, ?_⟩
  have w : WpF G m F (.ok (.nx ((r.set i (some v1)).set j (some v2))) h1) D := by
    rw [if_pos (by show 2 ≤ LIM; decide)] at w
    have w : WpF G m F ((asg C (.tup [.name i, .name j]) (.tup [v1, v2]) r h1).bind fun r h => .ok (.nx r) h) D := w
    simp only [asg, asgs, Res.bind] at w
    exact w
  exact w m' F' H' _ lm l rl' (((RE.mono l lm _ _ re).set i r1).set j r2)
theorem s_par3 (fx : Fx X G C d) {i j k : Nat} {n1 n2 n3 : Str} {px py pz pt pt2 : Pos} {kt k2 : Nat} (hi : X.N[i]? = some n1) (hj : X.N[j]? = some n2) (hk : X.N[k]? = some n3) (hij : i ≠ j) (hik : i ≠ k) (hjk : j ≠ k) (hx : X.env.scope.names.lookup n1 = some .local) (hy : X.env.scope.names.lookup n2 = some .local) (hz : X.env.scope.names.lookup n3 = some .local)
    (ha : SA X G C [a, b, c] [x, y, z]) (hw : swappedStores [.Tuple [.Name n1 px, .Name n2 py, .Name n3 pz] kt pt] (.Tuple [a, b, c] k2 pt2) X.env = pure (some [n1, n2, n3])) :
    SS X G C (.Assign [.Tuple [.Name n1 px, .Name n2 py, .Name n3 pz] kt pt] (.Tuple [a, b, c] k2 pt2) pos) (.asg (.tup [.name i, .name j, .name k]) (.tupE [x, y, z])) := by
  refine PS.weak (ps_par3 fx.calm fx.nd hi hj hk hij hik hjk hx hy hz ha hw) fun D σ H w => ?_
  obtain ⟨m, F, h, r, rl, re, w⟩ := w
  dsimp only at w
  rw [ex, evM] at w
  refine ⟨m, F, h, r, rl, re, ?_⟩
  dsimp only
  have w : WpF G m F (((evs C [x, y, z] r h).bind fun vs h => if vs.length ≤ LIM then .ok (.tup vs) h else .bad).bind fun v h => (asg C (.tup [.name i, .name j, .name k]) v r h).bind fun r h => .ok (.nx r) h) D := w
  rw [bind_assoc'] at w
  obtain ⟨vs, h1, e1, w⟩ := w.bind
  rw [e1]
  intro m' F' H' xs lm l rl' rs
  have hl := evs_len e1
  obtain ⟨v1, v2, v3, rfl⟩ : ∃ v1 v2 v3, vs = [v1, v2, v3] := by
    match vs, hl with
    | [v1, v2, v3], _ => exact ⟨v1, v2, v3, rfl⟩
  obtain ⟨x1, zs, rfl, r1, rs⟩ := rs
  obtain ⟨x2, x3, rfl, r2, r3⟩ := two_R rs
  refine ⟨x1, x2, x3, rfl, ?_⟩
  have w : WpF G m F (.ok (.nx (((r.set i (some v1)).set j (some v2)).set k (some v3))) h1) D := by
    rw [if_pos (by show 3 ≤ LIM; decide)] at w
    have w : WpF G m F ((asg C (.tup [.name i, .name j, .name k]) (.tup [v1, v2, v3]) r h1).bind fun r h => .ok (.nx r) h) D := w
    simp only [asg, asgs, Res.bind] at w
    exact w
  exact w m' F' H' _ lm l rl' ((((RE.mono l lm _ _ re).set i r1).set j r2).set k r3)
/-! ### op= -/
theorem aug_ok : ∀ op : Bop, PIp X (opB op) (rM2 G (augop op)) := by
  intro op pins s σ H x y v u Q I rx ry q
  obtain ⟨m, F, h, a, b, rl, ra, rb, w⟩ := q
  unfold augop at w
  split at w
  · exact ip_add pins s σ H x y v u Q I rx ry ⟨_, _, ra, rb, w.here rl rfl⟩
  · exact ip_sub pins s σ H x y v u Q I rx ry ⟨_, _, ra, rb, w.here rl rfl⟩
  · exact False.elim w
theorem s_aug (hN : X.N.Nodup) {i : Nat} {n : Str} {p2 : Pos} (op : Bop) (hi : X.N[i]? = some n) (hx : Loc X.env.scope n) (hf : X.fn n = true ∨ X.env.scope.names.lookup n = some .local) (he : SE X G C e x) : SS X G C (.AugAssign (.Name n p2) (opB op) e pos) (.aug i op x) := by
  refine PS.weak (ps_aug hN hi hx he.v (aug_ok (G := G) op) hf) fun D σ H w => ?_
  obtain ⟨m, F, h, r, rl, re, w⟩ := w
  dsimp only at w
  rw [ex] at w
  split at w
  · rename_i a e1
    obtain ⟨xa, e2, ra⟩ := re.get e1
    refine ⟨xa, e2, m, F, h, r, rl, re, ?_⟩
    obtain ⟨b, h1, e3, w⟩ := w.bind
    obtain ⟨z, h2, e4, w⟩ := w.bind
    dsimp only
    rw [e3]
    intro m' F' H' y lm l rl' ry
    refine ⟨m', F', h1, a, b, rl', R.mono l lm _ _ ra, ry, ?_⟩
    rw [e4]
    exact fun m2 F2 H2 z2 lm2 l2 rl2 rz => w m2 F2 H2 _ (lm.trans lm2) (l.trans l2) rl2 ((RE.mono (l.trans l2) (lm.trans lm2) _ _ re).set i rz)
  · exact False.elim w
theorem s_augF (fx : Fx X G C d) {f : String} {tpos : Pos} (op : Bop) (ho : SE X G C a x) (he : SE X G C e y) (hf : f ∈ G.fl) : SS X G C (.AugAssign (.Attribute a (Str.ofString f) tpos) (opB op) e pos) (.augF x f op y) := by
  refine PS.weak (ps_fldaug ho.v he.v (aug_ok (G := G) op)) fun D σ H w => ?_
  obtain ⟨m, F, h, r, rl, re, w⟩ := w
  dsimp only at w
  rw [ex] at w
  obtain ⟨o, h1, e1, w⟩ := w.bind
  obtain ⟨u, h2, e2, w⟩ := w.bind
  obtain ⟨b, h3, e3, w⟩ := w.bind
  obtain ⟨z, h4, e4, w⟩ := w.bind
  split at w
  case isFalse => exact False.elim w
  rename_i hcl
  obtain ⟨_, h5, e5, w⟩ := w.bind
  refine ⟨m, F, h, r, rl, re, ?_⟩
  dsimp only
  rw [e1]
  intro m1 F1 H1 xo lm1 l1 rl1 ro
  unfold attV at e2
  split at e2
  · rename_i cc fs eo
    split at e2
    · rename_i v0 eg
      cases e2
      obtain ⟨p, dx, ys, rfl, hp, hc, rf⟩ := obj_ok rl1 ro eo
      have g := getF_ok f rf
      rw [eg] at g
      obtain ⟨x0, e6, r0⟩ := g
      refine ⟨p, _, dx, ys, x0, rfl, hp, by rw [fx.K]; exact fx.cls _ hc, by rw [fx.K]; exact fx.noat _ hc f hf, e6, ?_⟩
      refine ⟨m1, F1, h1, r, rl1, RE.mono l1 lm1 _ _ re, ?_⟩
      dsimp only
      rw [e3]
      intro m3 F3 H3 yb lm3 l3 rl3 rb
      refine ⟨m3, F3, h3, u, b, rl3, R.mono l3 lm3 _ _ r0, rb, ?_⟩
      rw [e4]
      intro m4 F4 H4 zz lm4 l4 rl4 rz
      cases o with
      | ref a0 =>
        unfold setF at e5
        dsimp only at e5
        split at e5
        · rename_i c5 fs5 e7
          split at e5
          · rename_i hl
            cases e5
            obtain ⟨p', ma', hx'⟩ := R.mono (l3.trans l4) (lm3.trans lm4) _ _ ro
            cases hx'
            obtain ⟨p2, z1, z2, dx', ys', z3, z0, z4⟩ := rl4.obj _ _ e7 (fun z => nomatch z)
            have e8 : p = p2 := Option.some.inj (ma'.symm.trans z1)
            subst e8
            have hcc : G.ca c5 = G.ca cc := by
              have q1 : clsOf h4 (.ref a0) = some c5 := by
                unfold clsOf objOf
                dsimp only
                rw [e7]
                rfl
              have q2 : clsOf h1 (.ref a0) = some cc := by
                unfold clsOf
                rw [eo]
                rfl
              rw [q1, q2] at hcl
              rw [Option.some.inj hcl]
            rw [hcc] at z3
            refine ⟨dx', ys', z3, by rw [z4.length]; omega, ?_⟩
            have rl5 := rl4.put (o' := .inst c5 (Mi.putF f z fs5)) e7 (fun z => nomatch z) ma' ⟨dx', _, rfl, z0, putF_R rz z4⟩
            rw [hcc] at rl5
            exact w m4 F4 _ σ (lm1.trans (lm3.trans lm4)) (l1.trans (l3.trans l4)) rl5 (RE.mono (l1.trans (l3.trans l4)) (lm1.trans (lm3.trans lm4)) _ _ re)
          · cases e5
        · cases e5
      | _ => cases e5
    · cases e2
  · cases e2
end
end Mi
/-! MINI: new objects of own classes -/
namespace Mi
open PySem PySem.Spec L2
section
variable {X : Cx} {G : Gi} {C : Cs} {d : Nat} {e a b c : Expr} {x y z : Ex} {pos : Pos} {sem : List Vl → Hm → Res Vl}
/-- an object's __init__ runs -/
theorem run_hmake {c : String} {fi : FnI} {fd : FuncData} {d : Nat} (hf : Held X.prog X.w X.mg X.base G d c "__init__" fi sem fd) (hK : X.K = G.K) (M : Mk G.K (G.ca c) (G.fa c "__init__")) (hcs : c ∈ G.cs) (hr : Room (d + 1) X.A) {pins : List (Addr × Obj)} {σ : L2.St} {H : Hp} {s : Shared} {Q : VK}
    {us ws : List Value} {vs zs : List V} {ks : List Str} {ps : List Src} {ls as : List Vl} {m : Mp} {F : Hp} {h : Hm} (I : Inv X pins σ H s) (rv : Vals vs us) (rz : Vals zs ws) (lk : ws.length = ks.length)
    (ep : srcsI fi (us.length + 1) ks = some ps) (rl : Rel G m F h H) (rs : Rs G F m ls (vs ++ zs)) (es : srcs (.ref h.length :: ls) ps = some as)
    (w : ∀ p dx m' F', H p = none → H dx = none → dx ≠ p → m' h.length = some p → Lm m m' → Le F F' → Rel G m' F' (h ++ [.inst c []]) (upd (upd H dx (.own p)) p (.ins (G.ca c) dx [])) → WpV G m' F' (sem as (h ++ [.inst c []])) fun v H2 => v = .non ∧ Q (.ref p) H2) :
    wpAny (model X.prog X.w) X.A (call (.ref (G.ca c)) us (ks.zip ws)) (EP X pins σ Q) X.xe s := by
  obtain ⟨dvs, its, oi, rd, rdv, eoi, ld⟩ := hf.dfl
  obtain ⟨kvs, lkv, rk, rkv, lkw⟩ := hf.kwd
  unfold srcsI at ep
  obtain ⟨is, ei, rfl⟩ := Option.map_eq_some_iff.mp ep
  have ld1 : its.length = fi.dfl.length := by rw [← rdv.length, rd.length]
  have lk1 : (kvs.map (·.2)).length = fi.kwd.length := by rw [List.length_map, lkv]
  obtain ⟨p, hp⟩ : ∃ p, p = s.heap.objs.size + 1 := ⟨_, rfl⟩
  obtain ⟨dx, hdx⟩ : ∃ p, p = s.heap.objs.size := ⟨_, rfl⟩
  have hb := perm_binds (us := Value.ref p :: us) (ws := ws) (ds := its) (kv := kvs.map (·.2)) lk ld1 lk1 ei
  have n1 : H p = none := I.hok.fresh (by omega)
  have n2 : H dx = none := I.hok.fresh (by omega)
  have ne : dx ≠ p := by omega
  have I2 := Inv.made (C := G.ca c) I
  rw [← hp, ← hdx] at I2
  have rl1 := rl.lay (u := .own p) n2
  have rl2 := rl1.new (p := p) (o := .inst c []) (u := .ins (G.ca c) dx []) (by unfold upd; rw [if_neg (Ne.symm ne)]; exact n1) ⟨dx, [], rfl, hcs, rfl⟩
  have lF : Le F (upd F dx (.own p)) := fun b o e => by
    unfold upd
    by_cases hb : b = dx
    · subst hb
      have := rl.sub _ _ e
      rw [n2] at this
      cases this
    · rw [if_neg hb]
      exact e
  have lM : Lm m (m.add h.length p) := Lm.add (rl.dom _ (Nat.le_refl _))
  have w := w p dx _ _ n1 n2 ne (Mp.add_same _ _ _) lM lF rl2
  have ll : (Vl.ref h.length :: ls).length = us.length + 1 + ks.length := by
    rw [List.length_cons, ← rs.length, List.length_append, rv.length, rz.length, lk]
    omega
  have up : ∀ {a : List Vl} {b : List V}, Rs G F0 m0 a b → Rs G (upd F dx (.own p)) (m.add h.length p) a b := fun r => Rs.mono (fun _ _ e => by cases e) (fun _ _ e => by cases e) _ _ r
  have rs2 : Rs G (upd F dx (.own p)) (m.add h.length p) (.ref h.length :: ls) ((V.ref p :: vs) ++ zs) := ⟨_, _, rfl, ⟨p, Mp.add_same _ _ _, rfl⟩, Rs.mono lF lM _ _ rs⟩
  have ra := srcs_rel ll rs2 (up rd) (up rk) es
  have rv2 : Vals (V.ref p :: vs) (Value.ref p :: us) := .cons rfl rv
  have bt : ∀ s2 : Shared, G.K.In s2.heap → BindsTo s2 fd ⟨Value.ref p :: us, ks.zip ws⟩ ((names fi).zip (is.map fun i => (Value.ref p :: us ++ ws ++ its ++ kvs.map (·.2)).getD i .none)) := by
    intro s2 hK'
    refine BindsTo.of_looks fun M => binds_looks (oi := oi) (ds := its) (kd := (fi.kwd.map (·.1)).zip (kvs.map (·.2))) (by rw [hf.par]; exact hf.plain) (ld M s2.heap hK') eoi (fun n v e => ?_) (by rw [hf.par]; exact hb)
    obtain ⟨D, e1, e2⟩ := lkw n v e
    exact ⟨D, e1, e2 M s2.heap hK'⟩
  have rvv : Vals (is.map fun i => ((V.ref p :: vs ++ zs) ++ dvs ++ kvs.map (·.1)).getD i .non) (is.map fun i => (Value.ref p :: us ++ ws ++ its ++ kvs.map (·.2)).getD i .none) :=
    paired_map (fun i => Vals.getD (((rv2.append rz).append rdv).append rkv) i) is
  have e0 := I2.env0.make (G.ca c) us (ks.zip ws)
  rw [hK] at e0
  have kin2 := I2.kIn
  rw [hK] at kin2
  subst hp hdx
  refine wpAny_call (make_map (K := G.K) (f := G.fa c "__init__") (by rw [← hK]; exact I.kIn) M.makes M.init (beq_iff_eq.mp M.fn) (codeAny_mono (hf.ok.run _ X.stack _ _ ⟨Value.ref (s.heap.objs.size + 1) :: us, ks.zip ws⟩ _ _ _ E0 (hr.make (G.ca c) us (ks.zip ws)) e0 (bt _ kin2) rvv ⟨_, _, _, as, rl2, ra, w⟩) fun r s' hq' => ?_))
  cases r with
  | error e => exact False.elim hq'
  | ok fl =>
    cases fl with
    | ret u =>
      obtain ⟨v, H', I3, rv, ev, q3⟩ := I2.after hq'
      subst ev
      exact ⟨rv, ⟨V.ref (s.heap.objs.size + 1), H', I3, rfl, q3⟩⟩
    | next => exact False.elim hq'
    | brk => exact False.elim hq'
    | cont => exact False.elim hq'
/-! ### an object is never changed again -/
theorem Le.updN {F : Hp} {p : Addr} {u : HO} (h : F p = none) : Le F (L2.upd F p u) := fun b o e => by
  unfold L2.upd
  by_cases hb : b = p
  · subst hb
    rw [h] at e
    cases e
  · rw [if_neg hb]
    exact e
theorem updS {F : Hp} {p : Addr} {u : HO} : upd F p u p = some u := by
  unfold upd
  rw [if_pos rfl]
theorem frzV_ok {m : Mp} {F H : Hp} {h : Hm} {v : Vl} {x : V} (rl : Rel G m F h H) (r : R G F m v x) : ∃ F', Le F F' ∧ Rel G m F' (frzV h v).2 H ∧ R G F' m (frzV h v).1 x := by
  have triv : ∃ F', Le F F' ∧ Rel G m F' h H ∧ R G F' m v x := ⟨F, Le.refl F, rl, r⟩
  unfold frzV
  split
  · rename_i b
    split
    · rename_i xs e1
      obtain ⟨p, e2, hn, ys, e3, rs⟩ := rl.obj _ _ e1 (fun z => nomatch z)
      obtain ⟨p', e4, rfl⟩ := r
      have : p' = p := Option.some.inj (e4.symm.trans e2)
      subst this
      exact ⟨upd F p' (.lst ys), Le.updN hn.1, rl.freeze e1 (fun z => nomatch z) e2 e3, p', ys, rfl, .inl (.inl updS), Rs.mono (Le.updN hn.1) (Lm.refl m) _ _ rs⟩
    · rename_i kvs e1
      obtain ⟨p, e2, hn, ys, e3, nd, rs⟩ := rl.obj _ _ e1 (fun z => nomatch z)
      obtain ⟨p', e4, rfl⟩ := r
      have : p' = p := Option.some.inj (e4.symm.trans e2)
      subst this
      exact ⟨upd F p' (.dK ys), Le.updN hn.1, rl.freeze e1 (fun z => nomatch z) e2 e3, p', ys, rfl, updS, nd, Rk.mono (Le.updN hn.1) (Lm.refl m) _ _ rs⟩
    · exact triv
  · exact triv
theorem frzV_inst {h : Hm} {v : Vl} {a : Nat} {c : String} {fs : List (String × Vl)} (e : h[a]? = some (.inst c fs)) : (frzV h v).2[a]? = some (.inst c fs) := by
  unfold frzV
  split
  · rename_i b
    have key : ∀ o, h[b]? = some o → (∀ c fs, o ≠ .inst c fs) → (h.set b .dead)[a]? = some (.inst c fs) := fun o e1 n => by
      rw [List.getElem?_set_ne]
      · exact e
      · rintro rfl
        rw [e] at e1
        exact n _ _ (Option.some.inj e1).symm
    split
    · rename_i e1
      exact key _ e1 fun _ _ z => nomatch z
    · rename_i e1
      exact key _ e1 fun _ _ z => nomatch z
    · exact e
  · exact e
theorem frzFs_ok {m : Mp} {H : Hp} : ∀ {fs : List (String × Vl)} {ys : List (Str × V)} {F : Hp} {h : Hm}, Rel G m F h H → Rf G F m fs ys → ∃ F', Le F F' ∧ Rel G m F' (frzFs fs h).2 H ∧ Rf G F' m (frzFs fs h).1 ys
  | [], ys, F, h, rl, r => ⟨F, Le.refl F, rl, r⟩
  | (f, v) :: fs, ys, F, h, rl, ⟨y, zs, e, r, rs⟩ => by
    subst e
    obtain ⟨F1, l1, rl1, r1⟩ := frzV_ok rl r
    obtain ⟨F2, l2, rl2, r2⟩ := frzFs_ok rl1 (Rf.mono l1 (Lm.refl m) _ _ rs)
    refine ⟨F2, l1.trans l2, ?_, y, zs, ?_, R.mono l2 (Lm.refl m) _ _ r1, r2⟩
    · unfold frzFs
      exact rl2
    · rfl
theorem frzFs_inst {a : Nat} {c : String} {gs : List (String × Vl)} : ∀ {fs : List (String × Vl)} {h : Hm}, h[a]? = some (.inst c gs) → (frzFs fs h).2[a]? = some (.inst c gs)
  | [], h, e => e
  | (f, v) :: fs, h, e => by
    unfold frzFs
    exact frzFs_inst (frzV_inst e)
/-- a new object is made -/
theorem mk_run (fx : Fx X G C d) {c : String} {fi : FnI} {ps : List Src} (fz : Bool) (hfi : G.fi c "__init__" = some fi) (hc : c ∈ G.cs) {pins : List (Addr × Obj)} {σ : L2.St} {Q : VK} {us ws : List Value} {vs zs : List V} {ls as : List Vl} {m' : Mp} {F' H' : Hp} {h' : Hm} {s' : Shared} {ks : List Str} (I' : Inv X pins σ H' s') (rv : Vals vs us) (rz : Vals zs ws) (lk : ws.length = ks.length)
    (ep : srcsI fi (us.length + 1) ks = some ps) (rl' : Rel G m' F' h' H') (rs : Rs G F' m' ls (vs ++ zs)) (e1 : srcs (.ref h'.length :: ls) ps = some as) (w : WpV G m' F' (mkV C c fz as h') Q) : wpAny (model X.prog X.w) X.A (call (.ref (G.ca c)) us (ks.zip ws)) (EP X pins σ Q) X.xe s' := by
  have M := fx.mkr c fi hc hfi
  unfold mkV at w
  obtain ⟨r0, h1, e2, w⟩ := w.bind
  rcases fx.ini with h0 | ⟨d', rfl, hi⟩
  · rw [fx.ini0 h0] at e2
    cases e2
  · obtain ⟨fd, hf⟩ := hi G.U c "__init__" fi hfi
    refine run_hmake (us := us) hf fx.K M hc fx.room I' rv rz lk ep rl' rs e1 fun p dx m2 F2 n1 n2 ne mp lm2 l2 rl2 => ?_
    rw [e2]
    intro m3 F3 H3 x3 lm3 l3 rl3 rx3
    split at w
    · refine ⟨rx3, ?_⟩
      split at w
      · split at w
        · rename_i c0 fs e3
          obtain ⟨F4, l4, rl4, rf4⟩ : ∃ F', Le F3 F' ∧ Rel G m3 F' (frzFs fs h1).2 H3 ∧ ∃ p' dx' ys', m3 h'.length = some p' ∧ F' p' = none ∧ H3 p' = some (.ins (G.ca c0) dx' ys') ∧ c0 ∈ G.cs ∧ Rf G F' m3 (frzFs fs h1).1 ys' := by
            obtain ⟨p', q1, q2, dx', ys', q3, q4, q5⟩ := rl3.obj _ _ e3 (fun z => nomatch z)
            obtain ⟨F', a1, a2, a3⟩ := frzFs_ok rl3 q5
            obtain ⟨p2, b1, b2, _⟩ := a2.obj _ _ (frzFs_inst e3) (fun z => nomatch z)
            have : p2 = p' := Option.some.inj (b1.symm.trans q1)
            subst this
            exact ⟨F', a1, a2, p2, dx', ys', q1, b2.1, q3, q4, a3⟩
          obtain ⟨p', dx', ys', q1, q2, q3, q4, q5⟩ := rf4
          have hpp : p' = p := Option.some.inj (q1.symm.trans (lm3 _ _ mp))
          subst hpp
          have rl5 := rl4.freeze (frzFs_inst e3) (fun z => nomatch z) q1 q3
          exact w m3 (upd F4 p' (.ins (G.ca c0) dx' ys')) H3 _ (lm2.trans lm3) ((l2.trans l3).trans (l4.trans (Le.updN q2))) rl5 ⟨p', dx', ys', rfl, updS, q4, Rf.mono (Le.updN q2) (Lm.refl _) _ _ q5⟩
        · exact False.elim w
      · exact w m3 F3 H3 _ (lm2.trans lm3) (l2.trans l3) rl3 ⟨p, lm3 _ _ mp, rfl⟩
    · exact False.elim w
theorem se_mk (fx : Fx X G C d) {es : List Expr} {kws : List Keyword} {xs ys : List Ex} {c : String} {fi : FnI} {ps : List Src} {p : Pos} (fz : Bool) (hfi : G.fi c "__init__" = some fi) (hc : c ∈ G.cs) (hg : Gl X (Str.ofString c)) (hdb : (Str.ofString c == ("__debug__" : Str)) = false)
    (hs : es.all noStar = true) (hkw : kwOk kws = true) (ha : SA X G C es xs) (hb : SK X G C kws ys) (hl : es.length = xs.length) (hl2 : kws.length = ys.length) (hp : srcsI fi (es.length + 1) (kwNames kws) = some ps) :
    SE X G C (.Call (.Name (Str.ofString c) p) es kws pos) (.mk c (xs ++ ys) ps fz) := by
  have M := fx.mkr c fi hc hfi
  refine SE.of fx.K (plainT_of rfl) (fun m r h => by rw [evM]) ⟨fun pins s σ H Q I w => ?_⟩
  obtain ⟨m, F, h, r, rl, re, w⟩ := w
  refine wpAny_Call_Name_kw (ld_glob I hg (fx.glc c hc) ?_ hdb)
  refine call_args (first := []) (g := fun vs h => match srcs (.ref h.length :: vs) ps with
    | some vs => mkV C c fz vs h
    | none => .bad) (by rw [fx.K]; exact M.kp) hs hkw ha hb I rl re hl hl2 w fun us ws vs zs ls m' F' H' h' s' I' rv rz lu lw lm lf rl' rs w => ?_
  split at w
  · rename_i as e1
    exact mk_run (us := us) fx fz hfi hc I' rv rz (by rw [lw, kwNames_len hkw]) (by rw [lu]; exact hp) rl' rs e1 w
  · exact False.elim w
/-- a new object that won't be changed, made by itself -/
theorem se_mkp (fx : Fx X G C d) {es : List Expr} {kws : List Keyword} {xs ys : List Ex} {c : String} {fi : FnI} {ps : List Src} {p : Pos} (hfi : G.fi c "__init__" = some fi) (hc : c ∈ G.cs) (hg : Gl X (Str.ofString c)) (hdb : (Str.ofString c == ("__debug__" : Str)) = false)
    (hs : es.all noStar = true) (hkw : kwOk kws = true) (ha : SA X G C es xs) (hb : SK X G C kws ys) (hl : es.length = xs.length) (hl2 : kws.length = ys.length) (hp : srcsI fi (es.length + 1) (kwNames kws) = some ps) :
    SE X G C (.Call (.Name (Str.ofString c) p) es kws pos) (.mkp c (xs ++ ys) ps) := by
  have M := fx.mkr c fi hc hfi
  refine SE.of fx.K (plainT_of rfl) (fun m r h => by rw [evM]) ⟨fun pins s σ H Q I w => ?_⟩
  obtain ⟨m, F, h, r, rl, re, w⟩ := w
  refine wpAny_Call_Name_kw (ld_glob I hg (fx.glc c hc) ?_ hdb)
  refine call_args (first := []) (g := fun vs h => if clos vs then (match srcs (.ref 0 :: vs) ps with
    | some vs => pureR (mkV C c true vs []) h
    | none => .bad) else .bad) (by rw [fx.K]; exact M.kp) hs hkw ha hb I rl re hl hl2 w fun us ws vs zs ls m' F' H' h' s' I' rv rz lu lw lm lf rl' rs w => ?_
  split at w
  · rename_i hcl
    split at w
    · rename_i as e1
      exact mk_run (us := us) (fx.u (allBy G m' h' H')) true hfi hc I' rv rz (by rw [lw, kwNames_len hkw]) (by rw [lu]; exact hp) rl'.alone (Rs.clo hcl rs.u) e1 (Wp.alone rl' w)
    · exact False.elim w
  · exact False.elim w
end
end Mi
/-! MINI: displayed dicts, get -/
namespace Mi
open PySem PySem.Spec PyProof.Rows L2
section
variable {X : Cx} {G : Gi} {C : Cs} {d : Nat} {e a b c : Expr} {x y z : Ex} {pos : Pos}
theorem pairsOf_two {v u : Vl} {vs : List Vl} {kvs : List (Tx × Vl)} (h : pairsOf (v :: u :: vs) = some kvs) : ∃ k kvs', v = .str k ∧ pairsOf vs = some kvs' ∧ kvs = (k, u) :: kvs' := by
  unfold pairsOf at h
  split at h
  · rename_i z
    cases z
  · rename_i k v' r z
    cases z
    obtain ⟨kvs', e, rfl⟩ := Option.map_eq_some_iff.mp h
    exact ⟨k, kvs', rfl, e, rfl⟩
  · cases h
theorem tpairs_ok {D : Addr} {o : HO} {r : Rho} {σ : L2.St} : ∀ (xs : List Ex) (vs : List Vl) (kvs : List (Tx × Vl)) (m : Mp) (F H : Hp) (h h' : Hm) (Q : List (V × V) → Hp → Prop), xs.length % 2 = 0 → Rel (G.u (upd G.U D o)) m F h H → RE G F m r σ → evs C xs r h = .ok vs h' → pairsOf vs = some kvs →
    (∀ m' F' H' ys, Lm m m' → Le F F' → Rel (G.u (upd G.U D o)) m' F' h' H' → Rk G F' m' kvs ys → Q (ys.map fun kv => (kV kv.1, kv.2)) H') → tPairs (trsOf G C xs) σ H Q
  | [], vs, kvs, m, F, H, h, h', Q, _, rl, re, e, ep, k => by
    rw [evs] at e
    cases e
    cases ep
    exact k m F H [] (Lm.refl _) (Le.refl _) rl rfl
  | [x], vs, kvs, m, F, H, h, h', Q, hl, rl, re, e, ep, k => by
    cases hl
  | x :: y :: xs, vs, kvs, m, F, H, h, h', Q, hl, rl, re, e, ep, k => by
    rw [evs] at e
    cases e1 : evM C x false r h with
    | exc c fs h1 =>
      rw [e1] at e
      cases e
    | bad =>
      rw [e1] at e
      cases e
    | ok v1 h1 =>
      rw [e1] at e
      have e : ((evs C (y :: xs) r h1).bind fun xs h => .ok (v1 :: xs) h) = .ok vs h' := e
      rw [evs, bind_assoc'] at e
      cases e2 : evM C y false r h1 with
      | exc c fs h2 =>
        rw [e2] at e
        cases e
      | bad =>
        rw [e2] at e
        cases e
      | ok v2 h2 =>
        rw [e2] at e
        have e : (((evs C xs r h2).bind fun xs h => .ok (v2 :: xs) h).bind fun xs h => .ok (v1 :: xs) h) = .ok vs h' := e
        rw [bind_assoc'] at e
        cases e3 : evs C xs r h2 with
        | exc c fs h3 =>
          rw [e3] at e
          cases e
        | bad =>
          rw [e3] at e
          cases e
        | ok v3 h3 =>
          rw [e3] at e
          cases e
          obtain ⟨kk, kvs', rfl, ep', rfl⟩ := pairsOf_two ep
          refine ⟨upd G.U D o, m, F, h, r, rl, re.u, ?_⟩
          dsimp only
          rw [e1]
          intro m1 F1 H1 u1 lm1 l1 rl1 r1
          refine ⟨upd G.U D o, m1, F1, h1, r, rl1, (RE.mono l1 lm1 _ _ re).u, ?_⟩
          dsimp only
          rw [e2]
          intro m2 F2 H2 u2 lm2 l2 rl2 r2
          refine tpairs_ok xs v3 kvs' m2 F2 H2 h2 _ _ (by rw [List.length_cons, List.length_cons] at hl; omega) rl2 (RE.mono (l1.trans l2) (lm1.trans lm2) _ _ re) e3 ep' fun m' F' H' ys lm l rl' rk => ?_
          obtain ⟨e4, ok⟩ := r1
          subst e4
          exact k m' F' H' ((Sum.inr (ss kk), u2) :: ys) ((lm1.trans lm2).trans lm) ((l1.trans l2).trans l) rl' ⟨u2, ys, rfl, ok, R.u (G := G.u (upd G.U D o)) (U := G.U) (R.mono l lm _ _ r2), rk⟩
theorem merge_R {F : Hp} {m : Mp} : ∀ {kvs : List (Tx × Vl)} {ys : List (Key × V)} {acc : List (Tx × Vl)} {bcc : List (Key × V)}, Rk G F m kvs ys → Rk G F m acc bcc → (acc.map (·.1)).Nodup → Rk G F m (kvs.foldl (fun acc kv => Mi.putK kv.1 kv.2 acc) acc) (mergeK bcc ys) ∧ ((kvs.foldl (fun acc kv => Mi.putK kv.1 kv.2 acc) acc).map (·.1)).Nodup
  | [], ys, acc, bcc, r, ra, nd => by
    have e : ys = [] := r
    subst e
    exact ⟨ra, nd⟩
  | (k, v) :: kvs, ys, acc, bcc, r, ra, nd => by
    obtain ⟨y, zs, rfl, ok, rv, rs⟩ := r
    exact merge_R (kvs := kvs) (ys := zs) (acc := Mi.putK k v acc) (bcc := L2.putK bcc (Sum.inr (ss k)) y) rs (putK_R ok rv ra nd) (putK_nodup nd)
theorem se_dct (fx : Fx X G C d) (lv : Bool) {ks : List (Option Expr)} {vs : List Expr} {xs : List Ex} (h : ∀ U, SD X (G.u U) C ks vs xs) (h0 : ks ≠ []) (h15 : ks.length ≤ 15) : SE X G C (.Dict ks vs pos) (.dctE lv xs) := by
  obtain ⟨l1, l2⟩ := sd_len (h G.U)
  have l3 : ∀ {ks : List (Option Expr)} {vs : List Expr} {xs : List Ex}, SD X G C ks vs xs → xs.length % 2 = 0 := by
    intro ks vs xs h
    induction h with
    | nil => rfl
    | cons a b r ih =>
      rw [List.length_cons, List.length_cons]
      omega
  refine SE.of fx.K (plainT_of rfl) (fun m r h => by rw [evM]) (PE.weak (pe_disp (sd_pps h) l1 l2 h0 h15) fun σ H Q w p np => ?_)
  obtain ⟨m, F, hh, r, rl, re, w⟩ := w
  obtain ⟨us, h1, e1, w⟩ := w.bind
  split at w
  · rename_i kvs ep
    split at w
    · rename_i hl
      have hU := rl.freeU np
      refine tpairs_ok (D := p) (o := .dK []) xs us kvs m F _ hh h1 _ (l3 (h G.U)) ((rl.grow (u := .dK []) np).by upd_same (rl.free np) hU ?_) re e1 ep fun m' F' H' ys lm l rl' rk => ?_
      · rintro ⟨a, o, ea, na, ma⟩
        exact rl.apart np ea na ma
      · obtain ⟨rg, hD, hF, hlv⟩ := Rel.unby hU rl'
        obtain ⟨mr, nd⟩ := merge_R (acc := []) (bcc := []) rk rfl List.nodup_nil
        refine ⟨hD, ys, rfl, by rw [rk.length]; exact hl, ?_⟩
        unfold newD at w
        split at w
        · -- one that may be changed
          have rl2 : Rel G m' F' h1 (upd H' p (.dK (mergeK [] ys))) := (Rel.unby hU (rg.rest (u' := .dK (mergeK [] ys)) hD hF hU hlv)).1
          exact w (m'.add h1.length p) F' _ _ (lm.trans (Lm.add (rl2.dom _ (Nat.le_refl _)))) l (rl2.live upd_same hF hU hlv ⟨_, rfl, nd, mr⟩) ⟨p, Mp.add_same _ _ _, rfl⟩
        · have rl2 : Rel G m' F' h1 (upd H' p (.dK (mergeK [] ys))) := (Rel.unby hU (rg.rest (u' := .dK (mergeK [] ys)) hD hF hU hlv)).1
          exact w m' (upd F' p (.dK (mergeK [] ys))) _ _ lm (l.trans (Le.upd hF)) (rl2.own upd_same hF hU hlv) ⟨p, _, rfl, upd_same, nd, Rk.mono (Le.upd hF) (Lm.refl _) _ _ mr⟩
    · exact False.elim w
  · exact False.elim w
theorem se_dct0 (fx : Fx X G C d) (lv : Bool) : SE X G C (.Dict [] [] pos) (.dctE lv []) := by
  refine SE.of fx.K (plainT_of rfl) (fun m r h => by rw [evM]) (PE.weak pe_dnewK fun σ H Q w p np => ?_)
  obtain ⟨m, F, hh, r, rl, re, w⟩ := w
  dsimp only at w
  rw [evs] at w
  exact (show WpV G m F (newD lv [] hh) Q from w).newD rl np List.nodup_nil rfl
/-! ### d.get -/
theorem m2_of {env : PySem.Env} {o e f : Expr} {m : Str} {apos : Pos} (hb : baseOk o = true) (h1 : noStar e = true) (h2 : noStar f = true) (hl : (apos.endLine == pos.line) = true) (hX : X.env = env) : M2 X o m apos e f pos := by
  refine ⟨base_of hb, ?_, hl, ?_⟩
  · rw [star_of h1, star_of h2]
    rfl
  · rw [star_of h1, star_of h2]
    rfl
theorem valV_getK {F : Hp} {m : Mp} (k : Tx) {kvs : List (Tx × Vl)} {ys : List (Key × V)} (r : Rk G F m kvs ys) : match getK kvs k with
    | some v => ∃ x, valV ys (Sum.inr (ss k)) = some x ∧ R G F m v x
    | none => valV ys (Sum.inr (ss k)) = none := getK_ok k r
theorem se_dget2 (fx : Fx X G C d) {apos : Pos} {f : Expr} {u : Ex} (ho : SE X G C a x) (he : SE X G C e y) (hf : SE X G C f u) (hb : baseOk a = true) (h1 : noStar e = true) (h2 : noStar f = true) (hl : (apos.endLine == pos.line) = true) :
    SE X G C (.Call (.Attribute a "get" apos) [e, f] [] pos) (.bm x "get" [y, u]) := by
  refine SE.of fx.K (plainT_of rfl) (fun m r h => by rw [evM]) (PE.weak (pe_dget2 (by have := fx.hu; omega) ho.v he.v hf.v (m2_of hb h1 h2 hl rfl)) fun σ H Q w => ?_)
  refine tM_bind w fun m F h r v x0 H' rl re rx w => ?_
  split at w
  · rename_i hc
    have hc : (dctOf h v).isSome = true := hc
    obtain ⟨kvs, ek⟩ := Option.isSome_iff_exists.mp hc
    obtain ⟨p, zs, rfl, hp, rk⟩ := dct_ok rl rx ek
    refine ⟨p, rfl, .inl ⟨zs, .inl hp⟩, ?_⟩
    obtain ⟨vs, h3, e3, w⟩ := w.bind
    rw [evs] at e3
    cases e1 : evM C y false r h with
    | exc c fs h1 =>
      rw [e1] at e3
      cases e3
    | bad =>
      rw [e1] at e3
      cases e3
    | ok v1 h1 =>
      rw [e1] at e3
      have e3 : ((evs C [u] r h1).bind fun xs h => .ok (v1 :: xs) h) = .ok vs h3 := e3
      rw [evs, bind_assoc'] at e3
      cases e2 : evM C u false r h1 with
      | exc c fs h2 =>
        rw [e2] at e3
        cases e3
      | bad =>
        rw [e2] at e3
        cases e3
      | ok v2 h2 =>
        rw [e2] at e3
        have e3 : (((evs C [] r h2).bind fun xs h => .ok (v2 :: xs) h).bind fun xs h => .ok (v1 :: xs) h) = .ok vs h3 := e3
        rw [evs] at e3
        cases e3
        refine ⟨m, F, h, r, rl, re, ?_⟩
        dsimp only
        rw [e1]
        intro m1 F1 H1 y1 lm1 l1 rl1 r1
        refine ⟨m1, F1, h1, r, rl1, RE.mono l1 lm1 _ _ re, ?_⟩
        dsimp only
        rw [e2]
        intro m2 F2 H2 y2 lm2 l2 rl2 r2
        have w : WpV G m F (mGet v [v1, v2] _) Q := w
        unfold mGet at w
        split at w
        · rename_i z
          cases z
        · rename_i kvs2 k2 v3 ek2 z
          cases z
          obtain ⟨p', zs', ep', hp', rk'⟩ := dct_ok rl2 (R.mono (l1.trans l2) (lm1.trans lm2) _ _ rx) ek2
          cases ep'
          obtain ⟨e4, ok⟩ := R.mono l2 lm2 _ _ r1
          subst e4
          refine ⟨_, DGet.k (k := Sum.inr (ss k2)) hp', ?_⟩
          have g := getK_ok k2 rk'
          cases eg : getK kvs2 k2 with
          | some v5 =>
            rw [eg] at g w
            obtain ⟨x5, g1, g2⟩ := g
            rw [g1]
            exact w m2 F2 H2 _ (lm1.trans lm2) (l1.trans l2) rl2 g2
          | none =>
            rw [eg] at g w
            rw [g]
            exact w m2 F2 H2 _ (lm1.trans lm2) (l1.trans l2) rl2 r2
        · exact False.elim w
  · exact False.elim w
end
end Mi
/-! MINI: the compiler of expressions -/
namespace Mi
open PySem PySem.Spec L2

def gd {α : Type} (b : Bool) (x : Option α) : Option α := if b then x else none
theorem gd_some {α : Type} {b : Bool} {x : Option α} {a : α} : gd b x = some a ↔ b = true ∧ x = some a := by
  unfold gd
  cases b <;> simp

/-- what the compiler knows of the module -/
structure Tb where
  gv : List (Str × Vl)
  gf : List (Str × String)
  gc : List (Str × String)
  fl : List (Str × String)
  ms : List (Str × String)
  nb : List (Str × String)
  fi : List ((String × String) × FnI)
  fz : List String
  /-- where lists are made that are changed -/
  lv : List (Nat × Nat × Nat)
  /-- defs, classes, methods that change nothing -/
  pu : List String
  pc : List String
  pm : List String
  /-- where a call is no pure one -/
  np : List (Nat × Nat × Nat)
def Tb.imp (T : Tb) (p : Pos) : Bool := T.np.contains (p.line, p.col, p.endCol)
def Tb.live (T : Tb) (p : Pos) : Bool := T.lv.contains (p.line, p.col, p.endCol)
def Tb.info (T : Tb) (c f : String) : Option FnI := T.fi.lookup (c, f)
def Tb.cs (T : Tb) : List String := T.gc.map (·.2)
def visB (sc : Scope) (n : Str) : Bool := match sc.names.lookup n with
  | some .local => true
  | some .cell => true
  | some .free => true
  | _ => false
def locB (sc : Scope) (n : Str) : Bool := match sc.names.lookup n with
  | some .local => true
  | some .cell => true
  | _ => false
def glB (sc : Scope) (n : Str) : Bool := match sc.names.lookup n with
  | some .globalImplicit => true
  | _ => false
theorem visB_ok {sc : Scope} {n : Str} (h : visB sc n = true) : Vis sc n := by
  unfold visB at h
  unfold Vis
  split at h <;> simp_all
theorem locB_ok {sc : Scope} {n : Str} (h : locB sc n = true) : Loc sc n := by
  unfold locB at h
  unfold L2.Loc
  split at h <;> simp_all
theorem glB_ok {sc : Scope} {n : Str} (h : glB sc n = true) : sc.names.lookup n = some .globalImplicit := by
  unfold glB at h
  split at h <;> simp_all
def find (N : List Str) (n : Str) : Option Nat := go N 0
where go : List Str → Nat → Option Nat
  | [], _ => none
  | a :: r, i => if a = n then some i else go r (i + 1)
theorem find_ok {N : List Str} {n : Str} {i : Nat} (h : find N n = some i) : N[i]? = some n := by
  have key : ∀ (l : List Str) (k i : Nat), find.go n l k = some i → k ≤ i ∧ l[i - k]? = some n := by
    intro l
    induction l with
    | nil =>
      intro k i h
      cases h
    | cons a l ih =>
      intro k i h
      unfold find.go at h
      split at h
      · rename_i e
        cases h
        subst e
        exact ⟨Nat.le_refl _, by rw [Nat.sub_self]; rfl⟩
      · obtain ⟨h1, h2⟩ := ih _ _ h
        refine ⟨by omega, ?_⟩
        obtain ⟨j, rfl⟩ : ∃ j, i = k + 1 + j := ⟨i - (k + 1), by omega⟩
        rw [show k + 1 + j - (k + 1) = j by omega] at h2
        rw [show k + 1 + j - k = j + 1 by omega]
        exact h2
  have := key N 0 i h
  simpa using this.2

/-- types that are named as values -/
def tyNames : List String := ["str", "int", "bool", "tuple", "list", "dict"]
def okN (n : Str) : Bool := !(n == ("__debug__" : Str)) && !(n == ("__classdict__" : Str))
def sOkB (s : Str) : Bool := s.cps.toList.all (· < 0x110000)
theorem sOkB_ok {s : Str} (h : sOkB s = true) : sOk s.cps.toList := fun c hc => by
  have := List.all_eq_true.mp h c hc
  simpa using this
theorem ss_back (s : Str) : ss s.cps.toList = s := by
  cases s
  simp [ss]

def cName (T : Tb) (N : List Str) (sc : Scope) (n : Str) : Option Ex :=
  if visB sc n && okN n then (find N n).map .var
  else gd (glB sc n && okN n) (match T.gv.lookup n with
    | some v => some (.cst v)
    | none => match T.gc.lookup n with
    | some c => some (.cst (.cl c))
    | none => (T.nb.lookup n).bind fun f => gd (tyNames.contains f) (some (.cst (.ty f))))
def cConst : Const → Option Ex
  | .none => some (.cst .non)
  | .bool b => some (.cst (.bl b))
  | .int i => some (.cst (.int i))
  | .str s => gd (sOkB s) (some (.cst (.str s.cps.toList)))
  | _ => none
def cB : Operator → Option Bop
  | .Add => some .add
  | .Sub => some .sub
  | .Mult => some .mul
  | .FloorDiv => some .fdiv
  | .Mod => some .mod
  | .Pow => some .pow
  | _ => none
def cBl (lv : Bool) (o : Operator) : Option Bop := (cB o).map fun b => if lv then (match b with
  | .add => .addL
  | .mul => .mulL
  | b => b) else b
theorem cB_ok {o : Operator} {b : Bop} (h : cB o = some b) : o = opB b := by
  cases o <;> cases h <;> rfl
theorem cBl_ok {lv : Bool} {o : Operator} {b : Bop} (h : cBl lv o = some b) : o = opB b := by
  unfold cBl at h
  obtain ⟨b0, e, h⟩ := Option.map_eq_some_iff.mp h
  have := cB_ok e
  subst h
  rw [this]
  cases lv
  · rfl
  · cases b0 <;> rfl
def cC : CmpOp → Option Cop
  | .Eq => some .eq
  | .NotEq => some .ne
  | .Lt => some .lt
  | .LtE => some .le
  | .Gt => some .gt
  | .GtE => some .ge
  | .In => some .isin
  | .NotIn => some .notin
  | .Is => some .is
  | .IsNot => some .isnot
theorem cC_ok {o : CmpOp} {b : Cop} (h : cC o = some b) : o = opC b := by
  cases o <;> cases h <;> rfl

section
variable (f : Expr → Option Ex)
def cEs : List Expr → Option (List Ex)
  | [] => some []
  | e :: es => gd (noStar e) ((f e).bind fun x => (cEs es).bind fun xs => some (x :: xs))
def cKs : List Keyword → Option (List Ex)
  | [] => some []
  | k :: ks => gd k.arg.isSome ((f k.value).bind fun x => (cKs ks).bind fun xs => some (x :: xs))
def cBo (and : Bool) : List Expr → Option Ex
  | [] => none
  | [e] => f e
  | e :: es => (f e).bind fun x => (cBo and es).bind fun y => some (if and then .and x y else .or x y)
def cO : Option Expr → Option Ex
  | none => some (.cst .non)
  | some e => (f e).bind fun x => gd (!isAbs x) (some x)
end
/-- the sources of a method's parameters: they must be alike for all classes -/
def methPs (T : Tb) (m : String) (n : Nat) (ks : List Str) : Option (List Src) :=
  match T.cs.filterMap fun c => T.info c m with
  | [] => none
  | fi :: r => (srcsI fi n ks).bind fun ps => gd (r.all fun fi2 => match srcsI fi2 n ks with
    | some qs => eqSs qs ps
    | none => false) (some ps)
where
  eqV : Vl → Vl → Bool
  | .non, .non => true
  | .tup [], .tup [] => true
  | _, _ => false
  eqS : Src → Src → Bool
  | .at i, .at j => i == j
  | .dfl v, .dfl w => eqV v w
  | _, _ => false
  eqSs : List Src → List Src → Bool
  | [], [] => true
  | a :: r, b :: s => eqS a b && eqSs r s
  | _, _ => false
def bltL (lv : Bool) (g : String) : String := if lv && g == "list" then "listL" else if lv && g == "sorted" then "sortedL" else g
/-- sorted(set(..)) -/
def cSU (T : Tb) (lv : Bool) (f : Expr → Option Ex) (sc : Scope) (n : Str) (es : List Expr) (kws : List Keyword) : Option Ex := match es, kws with
  | [.Call (.Name n2 _) [e] [] _], [] => if n = "sorted" ∧ n2 = "set" then gd (glB sc n && glB sc n2 && (T.nb.lookup n).isSome && (T.nb.lookup n2).isSome && noStar e) ((f e).bind fun x => some (.blt (lvN lv "sortedset" "sortedsetL") [x])) else none
  | _, _ => none
/-- the pieces of an f-text -/
def cF (f : Expr → Option Ex) : Expr → Option Ex
  | .Constant (.str s) _ _ => gd (sOkB s) (some (.cst (.str s.cps.toList)))
  | .FormattedValue e c none _ => gd (c == -1) ((f e).bind fun x => some (.fmt x))
  | _ => none
def cFs (f : Expr → Option Ex) : List Expr → Option (List Ex)
  | [] => some []
  | e :: es => (cF f e).bind fun x => (cFs f es).bind fun xs => some (x :: xs)
/-- the pairs of a display -/
def cDs (f : Expr → Option Ex) : List (Option Expr) → List Expr → Option (List Ex)
  | [], [] => some []
  | some k :: ks, v :: vs => (f k).bind fun x => (f v).bind fun y => (cDs f ks vs).bind fun xs => some (x :: y :: xs)
  | _, _ => none
/-- f(..) by a name -/
def cCallN (T : Tb) (lv np : Bool) (f : Expr → Option Ex) (sc : Scope) (n : Str) (es : List Expr) (kws : List Keyword) : Option Ex :=
  gd (glB sc n && okN n) (match T.gf.lookup n with
    | some g => (T.info "" g).bind fun fi => (srcsI fi es.length (kwNames kws)).bind fun ps => (cEs f es).bind fun xs => (cKs f kws).bind fun ys => some (if T.pu.contains g && !np then .callp g (xs ++ ys) ps else .call g (xs ++ ys) ps)
    | none => match T.gc.lookup n with
      | some c => (T.info c "__init__").bind fun fi => (srcsI fi (es.length + 1) (kwNames kws)).bind fun ps => (cEs f es).bind fun xs => (cKs f kws).bind fun ys => some (if T.pc.contains c && !np then .mkp c (xs ++ ys) ps else .mk c (xs ++ ys) ps (T.fz.contains c))
      | none => (T.nb.lookup n).bind fun g => gd ((bltV g).isSome && kws.isEmpty && !es.isEmpty && (g != "listL") && (g != "sortedL")) ((cEs f es).bind fun xs => some (.blt (bltL lv g) xs)))
/-- o.m(..) -/
def cCallA (T : Tb) (f : Expr → Option Ex) (a : Expr) (n : Str) (apos pos : Pos) (es : List Expr) (kws : List Keyword) : Option Ex :=
  gd (baseOk a && fewOk es.length kws.length && (apos.endLine == pos.line)) ((f a).bind fun o => if n = "get" then (match es, kws with
    | [e1, e2], [] => gd (noStar e1 && noStar e2) ((f e1).bind fun x => (f e2).bind fun y => some (.bm o "get" [x, y]))
    | _, _ => none) else match T.ms.lookup n with
    | some m => (methPs T m (es.length + 1) (kwNames kws)).bind fun ps => (cEs f es).bind fun xs => (cKs f kws).bind fun ys => some (if T.pm.contains m && !(T.imp pos) then .methp o m (xs ++ ys) ps else .meth o m (xs ++ ys) ps)
    | none => (bmNames.find? fun m => decide (Str.ofString m = n)).bind fun m => gd ((bmId m es.length).isSome && kws.isEmpty) ((cEs f es).bind fun xs => some (.bm o m xs)))
where bmNames : List String := ["join", "lower", "append", "extend", "pop", "reverse", "startswith"]
/-- patterns of a comprehension -/
def cP (N : List Str) (sc : Scope) : Nat → Expr → Option Pt
  | 0, _ => none
  | k + 1, e => match e with
    | .Name n _ => gd (locB sc n) ((find N n).map .name)
    | .Tuple es _ _ => (cPs (cP N sc k) es).map .tup
    | _ => none
where cPs (f : Expr → Option Pt) : List Expr → Option (List Pt)
  | [] => some []
  | e :: es => gd (noStar e) ((f e).bind fun p => (cPs f es).bind fun ps => some (p :: ps))
/-- the slots of a block's own names -/
def ownOf (N : List Str) (sc : Scope) : List (Str × Nat) := sc.names.filterMap fun y => match y.2 with
  | .local => (find N y.1).map fun i => (y.1, i)
  | .cell => (find N y.1).map fun i => (y.1, i)
  | _ => none
/-- what a loop goes over -/
def cI (T : Tb) (f : Expr → Option Ex) (sc : Scope) (tg e : Expr) : Option Ex := match e with
  | .Call (.Name n _) [a] [] _ => if n = "range" then gd (glB sc n && (T.nb.lookup n).isSome && noStar a) ((f a).bind fun x => some (.blt "range" [x]))
    else if n = "enumerate" then (match tg with
      | .Tuple .. => gd (glB sc n && (T.nb.lookup n).isSome && noStar a) ((f a).bind fun x => some (.blt "enumerate" [x]))
      | _ => none)
    else gd (noSet e) (f e)
  | _ => gd (noSet e) (f e)
def cIfs (f : Expr → Option Ex) : List Expr → Option Ex
  | [] => some (.cst (.bl true))
  | [e] => f e
  | _ => none
def cE (T : Tb) (N : List Str) : Nat → Scope → Expr → Option Ex
  | 0, _, _ => none
  | k + 1, sc, e => match e with
    | .Name n _ => cName T N sc n
    | .Constant c _ _ => cConst c
    | .Tuple es _ _ => (cEs (cE T N k sc) es).bind fun xs => some (.tupE xs)
    | .List es p => (cEs (cE T N k sc) es).bind fun xs => some (.lstE (T.live p) xs)
    | .BinOp a op b p => (cBl (T.live p) op).bind fun o => (cE T N k sc a).bind fun x => (cE T N k sc b).bind fun y => some (.bin o x y)
    | .UnaryOp .USub a _ => (cE T N k sc a).bind fun x => some (.neg x)
    | .UnaryOp .Not a _ => (cE T N k sc a).bind fun x => some (.not x)
    | .Compare a [op] [b] _ => gd (noSet b) ((cC op).bind fun o => (cE T N k sc a).bind fun x => (cE T N k sc b).bind fun y => some (.cmp o x y))
    | .Compare a [o1, o2] [b, c] _ => gd (noSet c) ((cC o1).bind fun o1 => (cC o2).bind fun o2 => (cE T N k sc a).bind fun x => (cE T N k sc b).bind fun y => (cE T N k sc c).bind fun z => some (.chain o1 o2 x y z))
    | .BoolOp .And es _ => cBo (cE T N k sc) true es
    | .BoolOp .Or es _ => cBo (cE T N k sc) false es
    | .IfExp c a b _ => (cE T N k sc c).bind fun z => (cE T N k sc a).bind fun x => (cE T N k sc b).bind fun y => some (.ite z x y)
    | .Attribute a f _ => gd (baseOk a) ((T.fl.lookup f).bind fun g => (cE T N k sc a).bind fun x => some (.att x g))
    | .Subscript a (.Slice lo hi none _) p => (cE T N k sc a).bind fun x => (cO (cE T N k sc) lo).bind fun y => (cO (cE T N k sc) hi).bind fun z => some (.slc (T.live p) x y z)
    | .Subscript a i _ => gd (noSlice i) ((cE T N k sc a).bind fun x => (cE T N k sc i).bind fun y => some (.sub x y))
    | .Call (.Name n _) es kws p => (match cSU T (T.live p) (cE T N k sc) sc n es kws with
      | some x => some x
      | none => cCallN T (T.live p) (T.imp p) (cE T N k sc) sc n es kws)
    | .JoinedStr [.FormattedValue e c none _] _ => gd (c == -1) ((cE T N k sc e).bind fun x => some (.fmt x))
    | .JoinedStr (v1 :: v2 :: rest) _ => (cFs (cE T N k sc) (v1 :: v2 :: rest)).bind fun xs => some (.fstr xs)
    | .Dict [] [] p => some (.dctE (T.live p) [])
    | .Dict ks vs p => gd (decide (ks ≠ []) && decide (ks.length ≤ 15)) ((cDs (cE T N k sc) ks vs).bind fun xs => some (.dctE (T.live p) xs))
    | .Call (.Attribute a n apos) es kws pos => cCallA T (cE T N k sc) a n apos pos es kws
    | .ListComp elt [⟨tg, iter, ifs, 0⟩] scope lp => gd (blkC N sc scope (ownOf N scope)) ((cI T (cE T N k sc) sc tg iter).bind fun it => (cP N scope 9 tg).bind fun p =>
        gd ((patIx p).all fun i => ((ownOf N scope).map (·.2)).contains i) ((cIfs (cE T N k (relS scope sc)) ifs).bind fun c => (cE T N k (relS scope sc) elt).bind fun x => some (.lc (T.live lp) x p it c ((ownOf N scope).map (·.2)))))
    | _ => none

/-! ### it is sound -/
structure Cok (X : Cx) (G : Gi) (C : Cs) (d : Nat) (T : Tb) (N : List Str) (sc : Scope) : Prop where
  fx : Fx X G C d
  hN : X.N = N
  hsc : X.env.scope = sc
  gv : ∀ s v, T.gv.lookup s = some v → ∃ x u, X.mg s = some u ∧ RelV x u ∧ R G F0 m0 v x
  gf : ∀ s f, T.gf.lookup s = some f → s = Str.ofString f
  gc : ∀ s f, T.gc.lookup s = some f → s = Str.ofString f
  fl : ∀ s f, T.fl.lookup s = some f → s = Str.ofString f ∧ f ∈ G.fl
  ms : ∀ s f, T.ms.lookup s = some f → s = Str.ofString f
  nb : ∀ s f, T.nb.lookup s = some f → s = Str.ofString f ∧ X.mg s = none
  fi : ∀ c f, G.fi c f = T.info c f
  cs : G.cs = T.cs
  bad : ∀ c f vs h, G.fi c f = none → C.fn c f vs h = .bad
section
variable {X : Cx} {G : Gi} {C : Cs} {d : Nat} {T : Tb} {N : List Str} {sc : Scope}
theorem Cok.blk (c : Cok X G C d T N sc) (s : Shared) (H : Hp) (scope : Scope) (cl : List (Str × Addr)) (A : Addr) (fp : List Addr) : Cok (X.blk s H scope (compEnvC scope cl A X.env) fp) G C d T N (relS scope sc) where
  fx := c.fx.blk _ _ _ _ _
  hN := c.hN
  hsc := by
    rw [← c.hsc]
    rfl
  gv := c.gv
  gf := c.gf
  gc := c.gc
  fl := c.fl
  ms := c.ms
  nb := c.nb
  fi := c.fi
  cs := c.cs
  bad := c.bad
theorem Cok.u (c : Cok X G C d T N sc) (U : Hp) : Cok X (G.u U) C d T N sc where
  fx := c.fx.u U
  hN := c.hN
  hsc := c.hsc
  gv := fun s v e => by
    obtain ⟨x, u, a, b, r⟩ := c.gv s v e
    exact ⟨x, u, a, b, r.u⟩
  gf := c.gf
  gc := c.gc
  fl := c.fl
  ms := c.ms
  nb := c.nb
  fi := c.fi
  cs := c.cs
  bad := c.bad
/-- names that a pattern may bind -/
def Pok (X : Cx) (sc0 : Scope) : Prop := ∀ n, locB sc0 n = true → L2.Loc X.env.scope n ∧ (X.fn n = true ∨ X.env.scope.names.lookup n = some .local)
theorem Pok.blk (s : Shared) (H : Hp) (scope : Scope) (cl : List (Str × Addr)) (A : Addr) (fp : List Addr) : Pok (X.blk s H scope (compEnvC scope cl A X.env) fp) scope := fun n h => by
  rcases locB_ok h with h | h
  · have e : (relS scope X.env.scope).names.lookup n = some .local := lookup_relS_keep (fun z => nomatch z) h
    exact ⟨.inl e, .inr e⟩
  · have e : (relS scope X.env.scope).names.lookup n = some .cell := lookup_relS_keep (fun z => nomatch z) h
    refine ⟨.inr e, .inl ?_⟩
    show (scope.names.lookup n == some .cell) = true
    rw [h]
    rfl
theorem Cok.gl (c : Cok X G C d T N sc) {n : Str} (h : glB sc n = true) : Gl X n := by
  show X.env.scope.names.lookup n = _
  rw [c.hsc]
  exact glB_ok h
theorem okN_ok {n : Str} (h : okN n = true) : (n == ("__debug__" : Str)) = false ∧ (n == ("__classdict__" : Str)) = false := by
  unfold okN at h
  simpa using h
theorem cName_ok (c : Cok X G C d T N sc) {n : Str} {pos : Pos} {x : Ex} (h : cName T N sc n = some x) : SE X G C (.Name n pos) x := by
  unfold cName at h
  split at h
  · rename_i h1
    rw [Bool.and_eq_true] at h1
    obtain ⟨i, e1, rfl⟩ := Option.map_eq_some_iff.mp h
    obtain ⟨o1, o2⟩ := okN_ok h1.2
    exact se_var c.fx.K (by rw [c.hN]; exact find_ok e1) (by rw [c.hsc]; exact visB_ok h1.1) o1 o2
  · obtain ⟨h1, h⟩ := gd_some.mp h
    rw [Bool.and_eq_true] at h1
    obtain ⟨o1, o2⟩ := okN_ok h1.2
    split at h
    · rename_i v e1
      cases h
      obtain ⟨y, u, e2, r1, r2⟩ := c.gv _ _ e1
      exact se_cst c.fx.K (plainT_of rfl) (pe_glob (c.gl h1.1) e2 r1 o1) r2
    · split at h
      · rename_i cc e1
        cases h
        have hc : cc ∈ G.cs := by
          rw [c.cs]
          exact List.mem_map.mpr ⟨_, PySem.mem_of_lookup e1, rfl⟩
        obtain rfl := c.gc _ _ e1
        exact se_cst c.fx.K (plainT_of rfl) (pe_glob (v := .ref (G.ca cc)) (c.gl h1.1) (c.fx.glc cc hc) rfl o1) ⟨rfl, hc⟩
      obtain ⟨f, e1, h⟩ := Option.bind_eq_some_iff.mp h
      obtain ⟨h2, h⟩ := gd_some.mp h
      cases h
      obtain ⟨rfl, e2⟩ := c.nb _ _ e1
      have hb : bootBuiltins (Str.ofString f) = some (.type f) ∧ Str.ofString f ≠ "__name__" := by
        have h2 : f ∈ tyNames := by simpa using h2
        clear h1 o1 o2 e1 e2
        unfold tyNames at h2
        simp only [List.mem_cons, List.not_mem_nil, or_false] at h2
        rcases h2 with rfl | rfl | rfl | rfl | rfl | rfl
        all_goals exact ⟨by decide +kernel, by decide⟩
      exact se_cst c.fx.K (plainT_of rfl) (pe_bltn (v := .ty f) (c.gl h1.1) e2 hb.1 (by exact rfl) hb.2 o1) rfl

/-! ### lists -/
variable {f : Expr → Option Ex}
theorem cEs_ok (hf : ∀ e x, f e = some x → SE X G C e x) : ∀ {es : List Expr} {xs : List Ex}, cEs f es = some xs → SA X G C es xs ∧ es.all noStar = true ∧ es.length = xs.length
  | [], xs, h => by
    cases h
    exact ⟨sa_nil, rfl, rfl⟩
  | e :: es, xs, h => by
    unfold cEs at h
    obtain ⟨h1, h⟩ := gd_some.mp h
    obtain ⟨x, e1, h⟩ := Option.bind_eq_some_iff.mp h
    obtain ⟨ys, e2, h⟩ := Option.bind_eq_some_iff.mp h
    cases h
    obtain ⟨i1, i2, i3⟩ := cEs_ok hf e2
    exact ⟨sa_cons (hf _ _ e1) h1 i1, by rw [List.all_cons, h1, i2]; rfl, by rw [List.length_cons, List.length_cons, i3]⟩
theorem cKs_ok (hf : ∀ e x, f e = some x → SE X G C e x) : ∀ {es : List Keyword} {xs : List Ex}, cKs f es = some xs → SK X G C es xs ∧ kwOk es = true ∧ es.length = xs.length
  | [], xs, h => by
    cases h
    exact ⟨sk_nil, rfl, rfl⟩
  | ⟨n, e, p⟩ :: es, xs, h => by
    unfold cKs at h
    obtain ⟨h1, h⟩ := gd_some.mp h
    obtain ⟨x, e1, h⟩ := Option.bind_eq_some_iff.mp h
    obtain ⟨ys, e2, h⟩ := Option.bind_eq_some_iff.mp h
    cases h
    obtain ⟨i1, i2, i3⟩ := cKs_ok hf e2
    exact ⟨sk_cons (hf _ _ e1) i1, by unfold kwOk at i2 ⊢; rw [List.all_cons, i2]; simpa using h1, by rw [List.length_cons, List.length_cons, i3]⟩
theorem cBo_and (hK : X.K = G.K) (hf : ∀ e x, f e = some x → SE X G C e x) {pos : Pos} : ∀ {es : List Expr} {x : Ex}, cBo f true es = some x → SB X G C .And es pos x
  | [], x, h => by cases h
  | [e], x, h => sb_one (hf _ _ h)
  | e :: e2 :: es, x, h => by
    unfold cBo at h
    obtain ⟨y, e1, h⟩ := Option.bind_eq_some_iff.mp h
    obtain ⟨z, e2, h⟩ := Option.bind_eq_some_iff.mp h
    cases h
    exact sb_and hK (hf _ _ e1) (cBo_and hK hf e2)
theorem cBo_or (hK : X.K = G.K) (hf : ∀ e x, f e = some x → SE X G C e x) {pos : Pos} : ∀ {es : List Expr} {x : Ex}, cBo f false es = some x → SB X G C .Or es pos x
  | [], x, h => by cases h
  | [e], x, h => sb_one (hf _ _ h)
  | e :: e2 :: es, x, h => by
    unfold cBo at h
    obtain ⟨y, e1, h⟩ := Option.bind_eq_some_iff.mp h
    obtain ⟨z, e2, h⟩ := Option.bind_eq_some_iff.mp h
    cases h
    exact sb_or hK (hf _ _ e1) (cBo_or hK hf e2)
theorem cO_ok (hf : ∀ e x, f e = some x → SE X G C e x) {e : Option Expr} {x : Ex} (h : cO f e = some x) : SO X G C e x := by
  unfold cO at h
  split at h
  · cases h
    exact so_none
  · obtain ⟨y, e1, h⟩ := Option.bind_eq_some_iff.mp h
    obtain ⟨h1, h⟩ := gd_some.mp h
    cases h
    exact so_some (hf _ _ e1) (by simpa using h1)
theorem cIfs_ok (hf : ∀ e x, f e = some x → SE X G C e x) {e : List Expr} {x : Ex} (h : cIfs f e = some x) : STs X G C e x := by
  unfold cIfs at h
  split at h
  · cases h
    exact sts_nil
  · exact sts_one (hf _ _ h)
  · cases h

/-! ### calls -/
theorem eqS_ok {a b : Src} (h : methPs.eqS a b = true) : a = b := by
  unfold methPs.eqS at h
  split at h
  · rw [beq_iff_eq.mp h]
  · unfold methPs.eqV at h
    split at h
    · rfl
    · rfl
    · cases h
  · cases h
theorem eqSs_ok : ∀ {a b : List Src}, methPs.eqSs a b = true → a = b
  | [], [], _ => rfl
  | a :: r, b :: s, h => by
    unfold methPs.eqSs at h
    rw [Bool.and_eq_true] at h
    rw [eqS_ok h.1, eqSs_ok h.2]
  | [], _ :: _, h => by cases h
  | _ :: _, [], h => by cases h
theorem methPs_ok {m : String} {n : Nat} {ks : List Str} {ps : List Src} (h : methPs T m n ks = some ps) : ∀ c ∈ T.cs, ∀ fi, T.info c m = some fi → srcsI fi n ks = some ps := by
  intro c hc fi hfi
  have hm : fi ∈ T.cs.filterMap fun c => T.info c m := List.mem_filterMap.mpr ⟨c, hc, hfi⟩
  unfold methPs at h
  split at h
  · cases h
  · rename_i f0 r e
    rw [e] at hm
    obtain ⟨qs, e1, h⟩ := Option.bind_eq_some_iff.mp h
    obtain ⟨h1, h⟩ := gd_some.mp h
    cases h
    rcases List.mem_cons.mp hm with rfl | hm
    · exact e1
    · have h2 := List.all_eq_true.mp h1 _ hm
      cases e3 : srcsI fi n ks with
      | none =>
        rw [e3] at h2
        cases h2
      | some q2 =>
        rw [e3] at h2
        rw [eqSs_ok h2]
theorem blt_boot {f : String} {v : Value} (h : bltV f = some v) : bootBuiltins (Str.ofString (bltP f)) = some v ∧ Str.ofString (bltP f) ≠ "__name__" := by
  unfold bltV at h
  split at h <;> cases h
  all_goals exact ⟨by decide +kernel, by decide⟩
theorem bltL_ok {lv : Bool} {g : String} {v : Value} (h : bltV g = some v) (hn : g ≠ "listL") (hn2 : g ≠ "sortedL") : bltV (bltL lv g) = some v ∧ bltP (bltL lv g) = g := by
  unfold bltL
  split
  · rename_i hc
    rw [Bool.and_eq_true, beq_iff_eq] at hc
    obtain rfl := hc.2
    exact ⟨h, rfl⟩
  · split
    · rename_i hc
      rw [Bool.and_eq_true, beq_iff_eq] at hc
      obtain rfl := hc.2
      exact ⟨h, rfl⟩
    · refine ⟨h, ?_⟩
      unfold bltP
      split
      · exact absurd rfl hn
      · exact absurd rfl hn2
      · rfl
theorem cSU_ok (lv : Bool) (c : Cok X G C d T N sc) (hf : ∀ e x, f e = some x → SE X G C e x) {n : Str} {p pos : Pos} {es : List Expr} {kws : List Keyword} {x : Ex} (h : cSU T lv f sc n es kws = some x) : SE X G C (.Call (.Name n p) es kws pos) x := by
  unfold cSU at h
  split at h
  · split at h
    · rename_i hn
      obtain ⟨rfl, rfl⟩ := hn
      obtain ⟨h1, h⟩ := gd_some.mp h
      simp only [Bool.and_eq_true] at h1
      obtain ⟨⟨⟨⟨b1, b2⟩, b3⟩, b4⟩, b5⟩ := h1
      obtain ⟨y, e1, h⟩ := Option.bind_eq_some_iff.mp h
      cases h
      obtain ⟨g3, q3⟩ := Option.isSome_iff_exists.mp b3
      obtain ⟨g4, q4⟩ := Option.isSome_iff_exists.mp b4
      exact se_sortedU c.fx lv (hf _ _ e1) b5 (c.gl b1) (c.nb _ _ q3).2 (c.gl b2) (c.nb _ _ q4).2
    · cases h
  · cases h
theorem cF_ok (c : Cok X G C d T N sc) (hf : ∀ e x, f e = some x → SE X G C e x) {e : Expr} {x : Ex} (h : cF f e = some x) : SE X G C e x := by
  unfold cF at h
  split at h
  · obtain ⟨h1, h⟩ := gd_some.mp h
    cases h
    exact se_cst c.fx.K (plainT_of rfl) pe_str ⟨by rw [ss_back], sOkB_ok h1⟩
  · obtain ⟨h1, h⟩ := gd_some.mp h
    obtain ⟨y, e1, h⟩ := Option.bind_eq_some_iff.mp h
    cases h
    have := beq_iff_eq.mp h1
    subst this
    exact se_fmt c.fx (hf _ _ e1)
  · cases h
theorem cFs_ok (c : Cok X G C d T N sc) (hf : ∀ e x, f e = some x → SE X G C e x) : ∀ {es : List Expr} {xs : List Ex}, cFs f es = some xs → SJ X G C es xs
  | [], xs, h => by
    cases h
    exact .nil
  | e :: es, xs, h => by
    unfold cFs at h
    obtain ⟨x, e1, h⟩ := Option.bind_eq_some_iff.mp h
    obtain ⟨ys, e2, h⟩ := Option.bind_eq_some_iff.mp h
    cases h
    exact .cons (cF_ok c hf e1) (cFs_ok c hf e2)
theorem cDs_ok (hf : ∀ e x, f e = some x → SE X G C e x) : ∀ {ks : List (Option Expr)} {vs : List Expr} {xs : List Ex}, cDs f ks vs = some xs → SD X G C ks vs xs
  | [], [], xs, h => by
    cases h
    exact .nil
  | [], _ :: _, xs, h => by cases h
  | none :: _, [], xs, h => by cases h
  | none :: _, _ :: _, xs, h => by cases h
  | some k :: ks, [], xs, h => by cases h
  | some k :: ks, v :: vs, xs, h => by
    unfold cDs at h
    obtain ⟨x, e1, h⟩ := Option.bind_eq_some_iff.mp h
    obtain ⟨y, e2, h⟩ := Option.bind_eq_some_iff.mp h
    obtain ⟨ys, e3, h⟩ := Option.bind_eq_some_iff.mp h
    cases h
    exact .cons (hf _ _ e1) (hf _ _ e2) (cDs_ok hf e3)
theorem cCallN_ok (lv np : Bool) (c : Cok X G C d T N sc) (hf : ∀ e x, f e = some x → SE X G C e x) {n : Str} {p pos : Pos} {es : List Expr} {kws : List Keyword} {x : Ex} (h : cCallN T lv np f sc n es kws = some x) : SE X G C (.Call (.Name n p) es kws pos) x := by
  unfold cCallN at h
  obtain ⟨h1, h⟩ := gd_some.mp h
  rw [Bool.and_eq_true] at h1
  obtain ⟨o1, o2⟩ := okN_ok h1.2
  split at h
  · rename_i g e1
    obtain ⟨fi, e2, h⟩ := Option.bind_eq_some_iff.mp h
    obtain ⟨ps, e3, h⟩ := Option.bind_eq_some_iff.mp h
    obtain ⟨xs, e4, h⟩ := Option.bind_eq_some_iff.mp h
    obtain ⟨ys, e5, h⟩ := Option.bind_eq_some_iff.mp h
    cases h
    obtain ⟨i1, i2, i3⟩ := cEs_ok hf e4
    obtain ⟨j1, j2, j3⟩ := cKs_ok hf e5
    obtain rfl := c.gf _ _ e1
    split
    · exact se_callp c.fx ((c.fi _ _).trans e2) (c.gl h1.1) o1 i2 j2 i1 j1 i3 j3 e3
    · exact se_call c.fx ((c.fi _ _).trans e2) (c.gl h1.1) o1 i2 j2 i1 j1 i3 j3 e3
  · split at h
    · rename_i cc e1
      obtain ⟨fi, e2, h⟩ := Option.bind_eq_some_iff.mp h
      obtain ⟨ps, e3, h⟩ := Option.bind_eq_some_iff.mp h
      obtain ⟨xs, e4, h⟩ := Option.bind_eq_some_iff.mp h
      obtain ⟨ys, e5, h⟩ := Option.bind_eq_some_iff.mp h
      cases h
      obtain ⟨i1, i2, i3⟩ := cEs_ok hf e4
      obtain ⟨j1, j2, j3⟩ := cKs_ok hf e5
      have hc : cc ∈ G.cs := by
        rw [c.cs]
        exact List.mem_map.mpr ⟨_, PySem.mem_of_lookup e1, rfl⟩
      obtain rfl := c.gc _ _ e1
      split
      · exact se_mkp c.fx ((c.fi _ _).trans e2) hc (c.gl h1.1) o1 i2 j2 i1 j1 i3 j3 e3
      · exact se_mk c.fx _ ((c.fi _ _).trans e2) hc (c.gl h1.1) o1 i2 j2 i1 j1 i3 j3 e3
    · obtain ⟨g, e1, h⟩ := Option.bind_eq_some_iff.mp h
      obtain ⟨h2, h⟩ := gd_some.mp h
      obtain ⟨xs, e4, h⟩ := Option.bind_eq_some_iff.mp h
      cases h
      rw [Bool.and_eq_true, Bool.and_eq_true, Bool.and_eq_true, Bool.and_eq_true] at h2
      obtain ⟨⟨⟨⟨h2, h3⟩, h4⟩, h5⟩, h6⟩ := h2
      have h5 : g ≠ "listL" := by simpa using h5
      have h6 : g ≠ "sortedL" := by simpa using h6
      obtain ⟨rfl, e2⟩ := c.nb _ _ e1
      obtain ⟨v, hv⟩ := Option.isSome_iff_exists.mp h2
      obtain ⟨i1, i2, i3⟩ := cEs_ok hf e4
      cases kws with
      | cons k ks => cases h3
      | nil =>
        cases es with
        | nil => cases h4
        | cons e es =>
          obtain ⟨q1, q2⟩ := bltL_ok (lv := lv) hv h5 h6
          have := se_blt (pos := pos) (p := p) c.fx (f := bltL lv g) (e := e) (es := es) (xs := xs) q1 (by rw [q2]; exact c.gl h1.1) (by rw [q2]; exact e2) (blt_boot q1).1 (blt_boot q1).2 (by rw [q2]; exact o1) i2 i1
          rw [q2] at this
          exact this
theorem cCallA_ok (c : Cok X G C d T N sc) (hf : ∀ e x, f e = some x → SE X G C e x) {a : Expr} {n : Str} {apos pos : Pos} {es : List Expr} {kws : List Keyword} {x : Ex} (h : cCallA T f a n apos pos es kws = some x) : SE X G C (.Call (.Attribute a n apos) es kws pos) x := by
  unfold cCallA at h
  obtain ⟨h1, h⟩ := gd_some.mp h
  rw [Bool.and_eq_true, Bool.and_eq_true] at h1
  obtain ⟨⟨h1, h2⟩, h3⟩ := h1
  obtain ⟨o, e0, h⟩ := Option.bind_eq_some_iff.mp h
  by_cases hn : n = "get"
  · rw [if_pos hn] at h
    split at h
    · obtain ⟨h4, h⟩ := gd_some.mp h
      rw [Bool.and_eq_true] at h4
      obtain ⟨y1, e1, h⟩ := Option.bind_eq_some_iff.mp h
      obtain ⟨y2, e2, h⟩ := Option.bind_eq_some_iff.mp h
      have h := Option.some.inj h
      rw [← h, hn]
      exact se_dget2 c.fx (hf _ _ e0) (hf _ _ e1) (hf _ _ e2) h1 h4.1 h4.2 h3
    · cases h
  rw [if_neg hn] at h
  split at h
  · rename_i m e1
    obtain ⟨ps, e3, h⟩ := Option.bind_eq_some_iff.mp h
    obtain ⟨xs, e4, h⟩ := Option.bind_eq_some_iff.mp h
    obtain ⟨ys, e5, h⟩ := Option.bind_eq_some_iff.mp h
    cases h
    obtain ⟨i1, i2, i3⟩ := cEs_ok hf e4
    obtain ⟨j1, j2, j3⟩ := cKs_ok hf e5
    obtain rfl := c.ms _ _ e1
    split
    · exact se_methp c.fx (fun cc hc fi e => methPs_ok e3 cc (by rw [← c.cs]; exact hc) fi (by rw [← c.fi]; exact e)) (fun cc hc vs h e => c.bad _ _ _ _ e) (hf _ _ e0) h1 i2 j2 h2 h3 i1 j1 i3 j3
    · exact se_meth c.fx (fun cc hc fi e => methPs_ok e3 cc (by rw [← c.cs]; exact hc) fi (by rw [← c.fi]; exact e)) (fun cc hc vs h e => c.bad _ _ _ _ e) (hf _ _ e0) h1 i2 j2 h2 h3 i1 j1 i3 j3
  · obtain ⟨m, e1, h⟩ := Option.bind_eq_some_iff.mp h
    obtain ⟨h4, h⟩ := gd_some.mp h
    obtain ⟨xs, e4, h⟩ := Option.bind_eq_some_iff.mp h
    cases h
    rw [Bool.and_eq_true] at h4
    have e2 := List.find?_some e1
    obtain rfl : Str.ofString m = n := of_decide_eq_true e2
    obtain ⟨v, hv⟩ := Option.isSome_iff_exists.mp h4.1
    obtain ⟨i1, i2, i3⟩ := cEs_ok hf e4
    cases kws with
    | cons k ks => cases h4.2
    | nil => exact se_bm c.fx hv (hf _ _ e0) h1 i2 h2 h3 i1 i3
/-! ### patterns -/
theorem cPs_len {g : Expr → Option Pt} : ∀ {es : List Expr} {ps : List Pt}, cP.cPs g es = some ps → es.all noStar = true ∧ es.length = ps.length
  | [], ps, h => by
    cases h
    exact ⟨rfl, rfl⟩
  | e :: es, ps, h => by
    unfold cP.cPs at h
    obtain ⟨h1, h⟩ := gd_some.mp h
    obtain ⟨x, e1, h⟩ := Option.bind_eq_some_iff.mp h
    obtain ⟨ys, e2, h⟩ := Option.bind_eq_some_iff.mp h
    cases h
    obtain ⟨i2, i3⟩ := cPs_len e2
    exact ⟨by rw [List.all_cons, h1, i2]; rfl, by rw [List.length_cons, List.length_cons, i3]⟩
theorem cPs_ok {g : Expr → Option Pt} (hg : ∀ e p, g e = some p → SP X G e p) : ∀ {es : List Expr} {ps : List Pt}, cP.cPs g es = some ps → SPs X G es ps
  | [], ps, h => by
    cases h
    exact sps_nil
  | e :: es, ps, h => by
    unfold cP.cPs at h
    obtain ⟨h1, h⟩ := gd_some.mp h
    obtain ⟨x, e1, h⟩ := Option.bind_eq_some_iff.mp h
    obtain ⟨ys, e2, h⟩ := Option.bind_eq_some_iff.mp h
    cases h
    exact sps_cons (hg _ _ e1) h1 (cPs_ok hg e2)
theorem cP_ok (fx : Fx X G C d) (hN : X.N = N) {sc0 : Scope} (pk : Pok X sc0) : ∀ (k : Nat) {e : Expr} {p : Pt}, cP N sc0 k e = some p → SP X G e p
  | 0, e, p, h => by cases h
  | k + 1, e, p, h => by
    unfold cP at h
    split at h
    · obtain ⟨h1, h⟩ := gd_some.mp h
      obtain ⟨i, e1, rfl⟩ := Option.map_eq_some_iff.mp h
      obtain ⟨a, b⟩ := pk _ h1
      exact sp_name fx.nd (by rw [hN]; exact find_ok e1) a b
    · obtain ⟨ps, e1, rfl⟩ := Option.map_eq_some_iff.mp h
      obtain ⟨l1, l2⟩ := cPs_len e1
      exact sp_tup fx (cPs_ok (fun e p q => cP_ok fx hN pk k q) e1) l1 l2
    · cases h
theorem cPs_ok2 {g : Expr → Option Pt} {vs : List Nat} (hg : ∀ e p, g e = some p → (∀ i ∈ patIx p, i ∈ vs) → SP2 X G e p vs) : ∀ {es : List Expr} {ps : List Pt}, cP.cPs g es = some ps → (∀ i ∈ patIxs ps, i ∈ vs) → SPs2 X G es ps vs
  | [], ps, h, _ => by
    cases h
    exact patsNil_only
  | e :: es, ps, h, hv => by
    unfold cP.cPs at h
    obtain ⟨h1, h⟩ := gd_some.mp h
    obtain ⟨x, e1, h⟩ := Option.bind_eq_some_iff.mp h
    obtain ⟨ys, e2, h⟩ := Option.bind_eq_some_iff.mp h
    cases h
    unfold patIxs at hv
    exact patsCons_only (hg _ _ e1 fun i hi => hv i (List.mem_append_left _ hi)) h1 (cPs_ok2 hg e2 fun i hi => hv i (List.mem_append_right _ hi))
theorem cP_ok2 (fx : Fx X G C d) (hN : X.N = N) {sc0 : Scope} (pk : Pok X sc0) {vs : List Nat} : ∀ (k : Nat) {e : Expr} {p : Pt}, cP N sc0 k e = some p → (∀ i ∈ patIx p, i ∈ vs) → SP2 X G e p vs
  | 0, e, p, h, _ => by cases h
  | k + 1, e, p, h, hv => by
    unfold cP at h
    split at h
    · obtain ⟨h1, h⟩ := gd_some.mp h
      obtain ⟨i, e1, rfl⟩ := Option.map_eq_some_iff.mp h
      obtain ⟨a, b⟩ := pk _ h1
      exact patName_only fx.nd (by rw [hN]; exact find_ok e1) a b (hv i (by unfold patIx; exact List.mem_cons_self))
    · obtain ⟨ps, e1, rfl⟩ := Option.map_eq_some_iff.mp h
      obtain ⟨l1, l2⟩ := cPs_len e1
      exact patTup_only fx (cPs_ok2 (fun e p q => cP_ok2 fx hN pk k q) e1 fun i hi => hv i (by unfold patIx; exact hi)) l1 l2
    · cases h
theorem cI_ok (c : Cok X G C d T N sc) (hf : ∀ e x, f e = some x → SE X G C e x) {tg e : Expr} {x : Ex} (h : cI T f sc tg e = some x) : SI X G C tg e x := by
  unfold cI at h
  split at h
  · split at h
    · rename_i hn
      subst hn
      obtain ⟨h1, h⟩ := gd_some.mp h
      rw [Bool.and_eq_true, Bool.and_eq_true] at h1
      obtain ⟨y, e1, h⟩ := Option.bind_eq_some_iff.mp h
      cases h
      obtain ⟨g, hg⟩ := Option.isSome_iff_exists.mp h1.1.2
      exact si_range c.fx (hf _ _ e1) h1.2 (c.gl h1.1.1) (c.nb _ _ hg).2
    · split at h
      · rename_i hn
        subst hn
        split at h
        · obtain ⟨h1, h⟩ := gd_some.mp h
          rw [Bool.and_eq_true, Bool.and_eq_true] at h1
          obtain ⟨y, e1, h⟩ := Option.bind_eq_some_iff.mp h
          cases h
          obtain ⟨g, hg⟩ := Option.isSome_iff_exists.mp h1.1.2
          exact si_enum c.fx (hf _ _ e1) h1.2 (c.gl h1.1.1) (c.nb _ _ hg).2
        · cases h
      · obtain ⟨h1, h⟩ := gd_some.mp h
        exact si_any c.fx.K (hf _ _ h) h1
  · obtain ⟨h1, h⟩ := gd_some.mp h
    exact si_any c.fx.K (hf _ _ h) h1
theorem cE_ok : ∀ (k : Nat) {X : Cx} {G : Gi} {sc : Scope} {e : Expr} {x : Ex}, Cok X G C d T N sc → cE T N k sc e = some x → SE X G C e x
  | 0, X, G, sc, e, x, c, h => by cases h
  | k + 1, X, G, sc, e, x, c, h => by
    have hf : ∀ e x, cE T N k sc e = some x → SE X G C e x := fun e x => cE_ok k c
    unfold cE at h
    split at h
    · exact cName_ok c h
    · unfold cConst at h
      split at h
      · cases h
        exact se_cst c.fx.K (plainT_of rfl) pe_non rfl
      · cases h
        exact se_cst c.fx.K (plainT_of rfl) pe_bl rfl
      · cases h
        exact se_cst c.fx.K (plainT_of rfl) pe_int rfl
      · obtain ⟨h1, h⟩ := gd_some.mp h
        cases h
        exact se_cst c.fx.K (plainT_of rfl) pe_str ⟨by rw [ss_back], sOkB_ok h1⟩
      · cases h
    · obtain ⟨xs, e1, h⟩ := Option.bind_eq_some_iff.mp h
      cases h
      exact se_tup c.fx.K (cEs_ok hf e1).1
    · obtain ⟨xs, e1, h⟩ := Option.bind_eq_some_iff.mp h
      cases h
      exact se_lst c.fx.K _ (cEs_ok hf e1).1
    · obtain ⟨o, e0, h⟩ := Option.bind_eq_some_iff.mp h
      obtain ⟨y, e1, h⟩ := Option.bind_eq_some_iff.mp h
      obtain ⟨z, e2, h⟩ := Option.bind_eq_some_iff.mp h
      cases h
      rw [cBl_ok e0]
      exact se_bin c.fx.K o (hf _ _ e1) (hf _ _ e2)
    · obtain ⟨y, e1, h⟩ := Option.bind_eq_some_iff.mp h
      cases h
      exact se_neg c.fx.K (hf _ _ e1)
    · obtain ⟨y, e1, h⟩ := Option.bind_eq_some_iff.mp h
      cases h
      exact se_not c.fx.K (hf _ _ e1)
    · obtain ⟨h1, h⟩ := gd_some.mp h
      obtain ⟨o, e0, h⟩ := Option.bind_eq_some_iff.mp h
      obtain ⟨y, e1, h⟩ := Option.bind_eq_some_iff.mp h
      obtain ⟨z, e2, h⟩ := Option.bind_eq_some_iff.mp h
      cases h
      rw [cC_ok e0]
      exact se_cmp c.fx o (hf _ _ e1) (hf _ _ e2) h1
    · obtain ⟨h1, h⟩ := gd_some.mp h
      obtain ⟨o, e0, h⟩ := Option.bind_eq_some_iff.mp h
      obtain ⟨o2, e02, h⟩ := Option.bind_eq_some_iff.mp h
      obtain ⟨y, e1, h⟩ := Option.bind_eq_some_iff.mp h
      obtain ⟨z, e2, h⟩ := Option.bind_eq_some_iff.mp h
      obtain ⟨u, e3, h⟩ := Option.bind_eq_some_iff.mp h
      cases h
      rw [cC_ok e0, cC_ok e02]
      exact se_chain c.fx.K c.fx.hu o o2 (hf _ _ e1) (hf _ _ e2) (hf _ _ e3) h1
    · exact (cBo_and c.fx.K hf h).se
    · exact (cBo_or c.fx.K hf h).se
    · obtain ⟨y, e1, h⟩ := Option.bind_eq_some_iff.mp h
      obtain ⟨z, e2, h⟩ := Option.bind_eq_some_iff.mp h
      obtain ⟨u, e3, h⟩ := Option.bind_eq_some_iff.mp h
      cases h
      exact se_ite (hf _ _ e1) (hf _ _ e2) (hf _ _ e3)
    · obtain ⟨h1, h⟩ := gd_some.mp h
      obtain ⟨g, e1, h⟩ := Option.bind_eq_some_iff.mp h
      obtain ⟨z, e2, h⟩ := Option.bind_eq_some_iff.mp h
      cases h
      obtain ⟨rfl, i1⟩ := c.fl _ _ e1
      exact se_att c.fx (hf _ _ e2) g i1 h1
    · obtain ⟨y, e1, h⟩ := Option.bind_eq_some_iff.mp h
      obtain ⟨z, e2, h⟩ := Option.bind_eq_some_iff.mp h
      obtain ⟨u, e3, h⟩ := Option.bind_eq_some_iff.mp h
      cases h
      exact se_slc c.fx _ (hf _ _ e1) (cO_ok hf e2) (cO_ok hf e3)
    · obtain ⟨h1, h⟩ := gd_some.mp h
      obtain ⟨y, e1, h⟩ := Option.bind_eq_some_iff.mp h
      obtain ⟨z, e2, h⟩ := Option.bind_eq_some_iff.mp h
      cases h
      exact se_sub c.fx (hf _ _ e1) (hf _ _ e2) h1
    · split at h
      · rename_i x0 e0
        cases h
        exact cSU_ok _ c hf e0
      · exact cCallN_ok _ _ c hf h
    · obtain ⟨h1, h⟩ := gd_some.mp h
      obtain ⟨y, e1, h⟩ := Option.bind_eq_some_iff.mp h
      cases h
      have := beq_iff_eq.mp h1
      subst this
      exact se_fstr1 c.fx (hf _ _ e1)
    · obtain ⟨xs, e1, h⟩ := Option.bind_eq_some_iff.mp h
      cases h
      exact se_fstr c.fx.K (cFs_ok c hf e1)
    · cases h
      exact se_dct0 c.fx _
    · obtain ⟨h1, h⟩ := gd_some.mp h
      rw [Bool.and_eq_true] at h1
      obtain ⟨xs, e1, h⟩ := Option.bind_eq_some_iff.mp h
      cases h
      exact se_dct c.fx _ (fun U => cDs_ok (fun e x => cE_ok k (c.u U)) e1) (of_decide_eq_true h1.1) (of_decide_eq_true h1.2)
    · exact cCallA_ok c hf h
    · obtain ⟨h1, h⟩ := gd_some.mp h
      obtain ⟨it, e1, h⟩ := Option.bind_eq_some_iff.mp h
      obtain ⟨p, e2, h⟩ := Option.bind_eq_some_iff.mp h
      obtain ⟨h2, h⟩ := gd_some.mp h
      obtain ⟨cc, e3, h⟩ := Option.bind_eq_some_iff.mp h
      obtain ⟨y, e4, h⟩ := Option.bind_eq_some_iff.mp h
      cases h
      refine se_lc c.fx _ (cI_ok c hf e1) (by rw [c.hN, c.hsc]; exact blkOk_by h1) (fun U s H A cl fp => ?_) (fun U s H A cl fp => ?_) (fun U s H A cl fp => ?_)
      · refine cP_ok2 ((c.u U).blk s H _ cl A fp).fx c.hN (Pok.blk s H _ cl A fp) 9 e2 fun i hi => ?_
        have := List.all_eq_true.mp h2 i hi
        simpa using this
      · exact cIfs_ok (fun e x => cE_ok k ((c.u U).blk s H _ cl A fp)) e3
      · exact cE_ok k ((c.u U).blk s H _ cl A fp) e4
    · cases h
end
end Mi
/-! MINI: the compiler of statements -/
namespace Mi
open PySem PySem.Spec L2

def cT (T : Tb) (N : List Str) (sc : Scope) (f : Expr → Option Ex) : Nat → Expr → Option Tg
  | 0, _ => none
  | k + 1, e => match e with
    | .Name n _ => gd (locB sc n) ((find N n).map .name)
    | .Attribute a n _ => (T.fl.lookup n).bind fun g => (f a).bind fun x => some (.att x g)
    | .Subscript a i _ => gd (noSlice i) ((f a).bind fun x => (f i).bind fun y => some (.sub x y))
    | .Tuple es _ _ => (cTs (cT T N sc f k) es).bind fun ts => some (.tup ts)
    | _ => none
where cTs (g : Expr → Option Tg) : List Expr → Option (List Tg)
  | [] => some []
  | e :: es => gd (noStar e) ((g e).bind fun p => (cTs g es).bind fun ps => some (p :: ps))
/-- the names that are stored in turned order -/
def swLine (ts : List Expr) : Nat := (ts.head?.map (·.pos.line)).getD 0
def swNames (sc : Scope) (ts : List Expr) : List Str := ts.filterMap fun
  | .Name id pos => if sc.names.lookup id == some .local && pos.line == swLine ts then some id else none
  | _ => none
/-- no turned stores -/
def noSwap (sc : Scope) (ts vs : List Expr) : Bool := (!(ts.length == 2 || ts.length == 3) || vs.length != ts.length) || ((swNames sc ts).length != ts.length || vs.all (foldedForSure 8))
def isFun (sc : Scope) : Bool := match sc.kind with
  | .function => true
  | _ => false
def kindB (sc : Scope) (n : Str) : Bool := sc.names.lookup n == some .local
/-- a plain store -/
def swapOk (sc : Scope) (tg e : Expr) : Bool := match tg, e with
  | .Tuple ts _ _, .Tuple vs _ _ => noSwap sc ts vs && vs.all noStar
  | .List .., _ => false
  | _, _ => true
def cGen (T : Tb) (N : List Str) (sc : Scope) (f : Expr → Option Ex) (tg e : Expr) : Option Sm :=
  gd (noComp e && noStar tg && swapOk sc tg e) ((f e).bind fun x => (cT T N sc f 9 tg).bind fun t => some (.asg t x))
def cAsg (T : Tb) (N : List Str) (sc : Scope) (f : Expr → Option Ex) (tg e : Expr) : Option Sm := match tg, e with
  | .Tuple [.Name n1 p1, .Name n2 p2] q1 q2, .Tuple [a, b] q3 q4 => if isFun sc && (kindB sc n1 && kindB sc n2) && (p2.line == p1.line) && (decide (n1 ≠ n2)) && !([a, b].any (foldedForSure 8)) && !([a, b].all (constantsAlone 8)) && noStar a && noStar b then
      (find N n1).bind fun i => (find N n2).bind fun j => (f a).bind fun x => (f b).bind fun y => some (.asg (.tup [.name i, .name j]) (.tupE [x, y]))
    else cGen T N sc f (.Tuple [.Name n1 p1, .Name n2 p2] q1 q2) (.Tuple [a, b] q3 q4)
  | .Tuple [.Name n1 p1, .Name n2 p2, .Name n3 p3] q1 q2, .Tuple [a, b, c] q3 q4 => if isFun sc && (kindB sc n1 && kindB sc n2 && kindB sc n3) && (p2.line == p1.line) && (p3.line == p1.line) && (decide (n1 ≠ n2) && decide (n1 ≠ n3) && decide (n2 ≠ n3)) && !([a, b, c].any (foldedForSure 8)) && !([a, b, c].all (constantsAlone 8)) && noStar a && noStar b && noStar c then
      (find N n1).bind fun i => (find N n2).bind fun j => (find N n3).bind fun k => (f a).bind fun x => (f b).bind fun y => (f c).bind fun z => some (.asg (.tup [.name i, .name j, .name k]) (.tupE [x, y, z]))
    else cGen T N sc f (.Tuple [.Name n1 p1, .Name n2 p2, .Name n3 p3] q1 q2) (.Tuple [a, b, c] q3 q4)
  | tg, e => cGen T N sc f tg e
/-- x = [.. for ..] -/
def cSetLc (T : Tb) (N : List Str) (sc : Scope) (g : Scope → Expr → Option Ex) (tg e : Expr) : Option Sm := match tg, e with
  | .Name n py, .ListComp elt [⟨t, iter, ifs, 0⟩] scope pos =>
    gd (isFun sc && kindB sc n && (py.line == pos.line) && !(scope.names.any fun (m, k) => m == n && (k == .local || k == .cell)) && blkC N sc scope (ownOf N scope))
      ((find N n).bind fun i => (cI T (g sc) sc t iter).bind fun it => (cP N scope 9 t).bind fun p => gd ((patIx p).all fun i => ((ownOf N scope).map (·.2)).contains i)
        ((cIfs (g (relS scope sc)) ifs).bind fun c => (g (relS scope sc) elt).bind fun x => some (.asg (.name i) (.lc (T.live pos) x p it c ((ownOf N scope).map (·.2))))))
  | .Attribute .., .ListComp .. => gd (noStar tg) ((g sc e).bind fun x => (cT T N sc (g sc) 9 tg).bind fun t => some (.asg t x))
  | .Subscript .., .ListComp .. => gd (noStar tg) ((g sc e).bind fun x => (cT T N sc (g sc) 9 tg).bind fun t => some (.asg t x))
  | .Tuple .., .ListComp .. => gd (noStar tg) ((g sc e).bind fun x => (cT T N sc (g sc) 9 tg).bind fun t => some (.asg t x))
  | _, _ => none
def orNever (x : Option Sm) : Sm := x.getD .never
section
variable (T : Tb) (N : List Str) (sc : Scope)
def cS : Nat → Stmt → Sm
  | 0, _ => .never
  | k + 1, s => match s with
    | .Pass _ => .pass
    | .Break _ => .brk
    | .Continue _ => .cont
    | .Expr e _ => orNever (gd (noComp e) ((cE T N 40 sc e).bind fun x => some (.expr x)))
    | .Return none _ => .ret (.cst .non)
    | .Return (some e) _ => orNever ((cE T N 40 sc e).bind fun x => some (.ret x))
    | .If c a b _ => orNever ((cE T N 40 sc c).bind fun x => some (.ite x (a.map (cS k)) (b.map (cS k))))
    | .While c b [] _ => orNever ((cE T N 40 sc c).bind fun x => some (.whl x (b.map (cS k))))
    | .For tg it b [] _ => orNever ((cI T (cE T N 40 sc) sc tg it).bind fun x => (cP N sc 9 tg).bind fun p => some (.for_ p x (b.map (cS k))))
    | .AugAssign (.Name n _) op e _ => orNever ((cB op).bind fun o => gd (locB sc n) ((find N n).bind fun i => (cE T N 40 sc e).bind fun x => some (.aug i o x)))
    | .AugAssign (.Attribute a f _) op e _ => orNever ((cB op).bind fun o => (T.fl.lookup f).bind fun g => (cE T N 40 sc a).bind fun x => (cE T N 40 sc e).bind fun y => some (.augF x g o y))
    | .Assign [tg] e _ => orNever (if noComp e then cAsg T N sc (cE T N 40 sc) tg e else cSetLc T N sc (cE T N 40) tg e)
    | _ => .never
end

section
variable {X : Cx} {G : Gi} {C : Cs} {d : Nat} {T : Tb} {N : List Str} {sc : Scope} {f : Expr → Option Ex}
theorem cTs_len {g : Expr → Option Tg} : ∀ {es : List Expr} {ps : List Tg}, cT.cTs g es = some ps → es.all noStar = true ∧ es.length = ps.length
  | [], ps, h => by
    cases h
    exact ⟨rfl, rfl⟩
  | e :: es, ps, h => by
    unfold cT.cTs at h
    obtain ⟨h1, h⟩ := gd_some.mp h
    obtain ⟨x, e1, h⟩ := Option.bind_eq_some_iff.mp h
    obtain ⟨ys, e2, h⟩ := Option.bind_eq_some_iff.mp h
    cases h
    obtain ⟨i2, i3⟩ := cTs_len e2
    exact ⟨by rw [List.all_cons, h1, i2]; rfl, by rw [List.length_cons, List.length_cons, i3]⟩
theorem cTs_ok {g : Expr → Option Tg} (hg : ∀ e p, g e = some p → ST X G C e p) : ∀ {es : List Expr} {ps : List Tg}, cT.cTs g es = some ps → STL X G C es ps
  | [], ps, h => by
    cases h
    exact stl_nil
  | e :: es, ps, h => by
    unfold cT.cTs at h
    obtain ⟨h1, h⟩ := gd_some.mp h
    obtain ⟨x, e1, h⟩ := Option.bind_eq_some_iff.mp h
    obtain ⟨ys, e2, h⟩ := Option.bind_eq_some_iff.mp h
    cases h
    exact stl_cons (hg _ _ e1) h1 (cTs_ok hg e2)
theorem cT_ok (c : Cok X G C d T N sc) (pk : Pok X sc) (hf : ∀ e x, f e = some x → SE X G C e x) : ∀ (k : Nat) {e : Expr} {t : Tg}, cT T N sc f k e = some t → ST X G C e t
  | 0, e, t, h => by cases h
  | k + 1, e, t, h => by
    unfold cT at h
    split at h
    · obtain ⟨h1, h⟩ := gd_some.mp h
      obtain ⟨i, e1, rfl⟩ := Option.map_eq_some_iff.mp h
      obtain ⟨a, b⟩ := pk _ h1
      exact st_name c.fx.nd (by rw [c.hN]; exact find_ok e1) a b
    · obtain ⟨g, e1, h⟩ := Option.bind_eq_some_iff.mp h
      obtain ⟨x, e2, h⟩ := Option.bind_eq_some_iff.mp h
      cases h
      obtain ⟨rfl, i1⟩ := c.fl _ _ e1
      exact st_att c.fx (hf _ _ e2) i1
    · obtain ⟨h1, h⟩ := gd_some.mp h
      obtain ⟨x, e1, h⟩ := Option.bind_eq_some_iff.mp h
      obtain ⟨y, e2, h⟩ := Option.bind_eq_some_iff.mp h
      cases h
      exact st_sub c.fx (hf _ _ e1) (hf _ _ e2) h1
    · obtain ⟨ts, e1, h⟩ := Option.bind_eq_some_iff.mp h
      cases h
      obtain ⟨l1, l2⟩ := cTs_len e1
      exact st_tup c.fx (cTs_ok (fun e p q => cT_ok c pk hf k q) e1) l1 l2
    · cases h
theorem fun_kind (h : isFun sc = true) : sc.kind = .function := by
  unfold isFun at h
  split at h
  · assumption
  · cases h
theorem block_of {env : PySem.Env} (h : env.scope.kind = .function) : env.blockKind = .function := by
  unfold Env.blockKind
  rw [h]
  rfl
theorem ite_not {c : Bool} {α : Type} {x y z : α} (h : c = false) (e : y = z) : (if c = true then x else y) = z := by
  rw [h, if_neg (fun z => nomatch z)]
  exact e
theorem folded_any : ∀ {vs : List Expr}, vs ≠ [] → vs.any (foldedForSure 8) = false → vs.all (foldedForSure 8) = false
  | [], h, _ => (h rfl).elim
  | e :: es, _, h => by
    rw [List.any_cons, Bool.or_eq_false_iff] at h
    rw [List.all_cons, h.1, Bool.false_and]
theorem sw2 {env : PySem.Env} {n1 n2 : Str} {p1 p2 pt pt2 : Pos} {kt k2 : Nat} {a b : Expr} (hk : env.scope.kind = .function) (h1 : env.kindOf n1 = some .local) (h2 : env.kindOf n2 = some .local) (hl : (p2.line == p1.line) = true) (hn : n1 ≠ n2)
    (hf : [a, b].all (foldedForSure 8) = false) (hc : [a, b].all (constantsAlone 8) = false) (hs : [a, b].all noStar = true) : swappedStores [.Tuple [.Name n1 p1, .Name n2 p2] kt pt] (.Tuple [a, b] k2 pt2) env = pure (some [n1, n2]) := by
  have e2 : [n1, n2].eraseDups.length = 2 := by
    have : (n2 == n1) = false := beq_eq_false_iff_ne.mpr (Ne.symm hn)
    simp [List.eraseDups_cons, this, bne]
  unfold swappedStores
  dsimp only
  refine ite_not (by rw [block_of hk]; rfl) (ite_not (List.any_eq_false.mpr fun e he => ?_) ?_)
  · have := List.all_eq_true.mp hs e he
    cases e <;> first | exact fun z => Bool.noConfusion z | exact Bool.noConfusion this
  · simp only [List.head?_cons, Option.map_some, Option.getD_some, Expr.pos, List.filterMap_cons, h1, h2, hl, beq_self_eq_true, Bool.and_self, if_true, List.filterMap_nil]
    rw [e2]
    refine ite_not rfl (ite_not hf (ite_not hc rfl))
theorem sw3 {env : PySem.Env} {n1 n2 n3 : Str} {p1 p2 p3 pt pt2 : Pos} {kt k2 : Nat} {a b c : Expr} (hk : env.scope.kind = .function) (h1 : env.kindOf n1 = some .local) (h2 : env.kindOf n2 = some .local) (h3 : env.kindOf n3 = some .local) (hl : (p2.line == p1.line) = true) (hl3 : (p3.line == p1.line) = true) (hn : n1 ≠ n2) (hn2 : n1 ≠ n3) (hn3 : n2 ≠ n3)
    (hf : [a, b, c].all (foldedForSure 8) = false) (hc : [a, b, c].all (constantsAlone 8) = false) (hs : [a, b, c].all noStar = true) : swappedStores [.Tuple [.Name n1 p1, .Name n2 p2, .Name n3 p3] kt pt] (.Tuple [a, b, c] k2 pt2) env = pure (some [n1, n2, n3]) := by
  have e2 : [n1, n2, n3].eraseDups.length = 3 := by
    have t1 : (n2 == n1) = false := beq_eq_false_iff_ne.mpr (Ne.symm hn)
    have t2 : (n3 == n1) = false := beq_eq_false_iff_ne.mpr (Ne.symm hn2)
    have t3 : (n3 == n2) = false := beq_eq_false_iff_ne.mpr (Ne.symm hn3)
    simp [List.eraseDups_cons, t1, t2, t3, bne]
  unfold swappedStores
  dsimp only
  refine ite_not (by rw [block_of hk]; rfl) (ite_not (List.any_eq_false.mpr fun e he => ?_) ?_)
  · have := List.all_eq_true.mp hs e he
    cases e <;> first | exact fun z => Bool.noConfusion z | exact Bool.noConfusion this
  · simp only [List.head?_cons, Option.map_some, Option.getD_some, Expr.pos, List.filterMap_cons, h1, h2, h3, hl, hl3, beq_self_eq_true, Bool.and_self, if_true, List.filterMap_nil]
    rw [e2]
    refine ite_not rfl (ite_not hf (ite_not hc rfl))
def isTup : Expr → Bool
  | .Tuple .. => true
  | _ => false
theorem sw_none {env : PySem.Env} {tg e : Expr} (h : isTup tg = false ∨ isTup e = false) (hl : ∀ l p, tg ≠ .List l p) : swappedStores [tg] e env = pure none := by
  unfold swappedStores
  cases tg <;> first | rfl | (exact absurd rfl (hl _ _)) | skip
  cases e <;> first | rfl | skip
  rcases h with h | h <;> cases h
theorem sw_gen {env : PySem.Env} {tg e : Expr} (hs : env.scope = sc) (h : swapOk sc tg e = true) : swappedStores [tg] e env = pure none := by
  unfold swapOk at h
  split at h
  · rename_i ts k1 p1 vs k2 p2
    obtain ⟨h1, h2⟩ := (Bool.and_eq_true _ _).mp h
    have hn : (ts.filterMap fun
        | .Name id pos => if env.kindOf id == some .local && pos.line == (ts.head?.map (·.pos.line)).getD 0 then some id else none
        | _ => none) = swNames sc ts := by
      unfold swNames swLine
      refine congrArg (fun g => ts.filterMap g) (funext fun x => ?_)
      cases x <;> first | rfl | skip
      rename_i id pos
      show (if (env.scope.names.lookup id == some .local && _) = true then _ else _) = _
      rw [hs]
    unfold swappedStores
    dsimp only
    unfold noSwap at h1
    by_cases c1 : (!(ts.length == 2 || ts.length == 3) || vs.length != ts.length || env.blockKind != .function) = true
    · rw [if_pos c1]
    · rw [if_neg c1]
      refine ite_not (List.any_eq_false.mpr fun x hx => ?_) ?_
      · have := List.all_eq_true.mp h2 x hx
        cases x <;> first | exact fun z => Bool.noConfusion z | exact Bool.noConfusion this
      have c3 : (!(ts.length == 2 || ts.length == 3) || vs.length != ts.length) = false := by
        cases z : (!(ts.length == 2 || ts.length == 3) || vs.length != ts.length) with
        | false => rfl
        | true =>
          rw [z] at c1
          exact absurd rfl c1
      rw [c3, Bool.false_or, Bool.or_eq_true] at h1
      rcases h1 with h1 | h1
      · rw [← hn] at h1
        refine if_pos ?_
        rw [Bool.or_eq_true]
        exact .inl h1
      · split
        · rfl
        · first | rfl | exact if_pos h1
  · cases h
  · rename_i q1 q2
    have hl : ∀ l p, tg ≠ .List l p := fun l p z => by
      first | exact q1 l p z | exact q2 l p z
    refine sw_none ?_ hl
    cases tg <;> first | exact .inl rfl | skip
    cases e <;> first | exact .inr rfl | skip
    first | exact (q1 _ _ _ _ _ _ rfl rfl).elim | exact (q2 _ _ _ _ _ _ rfl rfl).elim
theorem any_folded : ∀ {vs : List Expr}, vs ≠ [] → vs.any (foldedForSure 8) = false → vs.all (foldedForSure 8) = false := folded_any
theorem cGen_ok (c : Cok X G C d T N sc) (pk : Pok X sc) (hf : ∀ e x, f e = some x → SE X G C e x) {tg e : Expr} {s : Sm} {pos : Pos} (h : cGen T N sc f tg e = some s) : SS X G C (.Assign [tg] e pos) s := by
  unfold cGen at h
  obtain ⟨h1, h⟩ := gd_some.mp h
  rw [Bool.and_eq_true, Bool.and_eq_true] at h1
  obtain ⟨x, e1, h⟩ := Option.bind_eq_some_iff.mp h
  obtain ⟨t, e2, h⟩ := Option.bind_eq_some_iff.mp h
  cases h
  exact s_asg (hf _ _ e1) (cT_ok c pk hf 9 e2) h1.1.2 (swaps_of h1.1.1) (sw_gen c.hsc h1.2)
theorem cAsg_ok (c : Cok X G C d T N sc) (pk : Pok X sc) (hf : ∀ e x, f e = some x → SE X G C e x) {tg e : Expr} {s : Sm} {pos : Pos} (hn : noComp e = true) (h : cAsg T N sc f tg e = some s) : SS X G C (.Assign [tg] e pos) s := by
  have hk : ∀ n, kindB sc n = true → X.env.kindOf n = some .local := fun n h => by
    show X.env.scope.names.lookup n = _
    rw [c.hsc]
    unfold kindB at h
    simpa using h
  unfold cAsg at h
  split at h
  · split at h
    · rename_i h1
      simp only [Bool.and_eq_true, Bool.not_eq_true', decide_eq_true_eq] at h1
      obtain ⟨⟨⟨⟨⟨⟨⟨b1, b2, b3⟩, b4⟩, b5⟩, b6⟩, b7⟩, b8⟩, b9⟩ := h1
      obtain ⟨i, e1, h⟩ := Option.bind_eq_some_iff.mp h
      obtain ⟨j, e2, h⟩ := Option.bind_eq_some_iff.mp h
      obtain ⟨x, e3, h⟩ := Option.bind_eq_some_iff.mp h
      obtain ⟨y, e4, h⟩ := Option.bind_eq_some_iff.mp h
      cases h
      have f1 := find_ok e1
      have f2 := find_ok e2
      refine s_par c.fx (by rw [c.hN]; exact f1) (by rw [c.hN]; exact f2) (fun z => ?_) (hk _ b2) (hk _ b3) (sa_cons (hf _ _ e3) b8 (sa_cons (hf _ _ e4) b9 sa_nil)) ?_
      · subst z
        exact b5 (Option.some.inj (f1.symm.trans f2))
      · exact sw2 (by rw [c.hsc]; exact fun_kind b1) (hk _ b2) (hk _ b3) b4 b5 (any_folded (fun z => nomatch z) b6) b7 (by rw [List.all_cons, List.all_cons, b8, b9]; rfl)
    · exact cGen_ok c pk hf h
  · split at h
    · rename_i h1
      simp only [Bool.and_eq_true, Bool.not_eq_true', decide_eq_true_eq] at h1
      obtain ⟨⟨⟨⟨⟨⟨⟨⟨⟨b1, ⟨b2, b3⟩, b3'⟩, b4⟩, b4'⟩, ⟨b5, b5'⟩, b5''⟩, b6⟩, b7⟩, b8⟩, b9⟩, b10⟩ := h1
      obtain ⟨i, e1, h⟩ := Option.bind_eq_some_iff.mp h
      obtain ⟨j, e2, h⟩ := Option.bind_eq_some_iff.mp h
      obtain ⟨k, e2', h⟩ := Option.bind_eq_some_iff.mp h
      obtain ⟨x, e3, h⟩ := Option.bind_eq_some_iff.mp h
      obtain ⟨y, e4, h⟩ := Option.bind_eq_some_iff.mp h
      obtain ⟨z, e5, h⟩ := Option.bind_eq_some_iff.mp h
      cases h
      have f1 := find_ok e1
      have f2 := find_ok e2
      have f3 := find_ok e2'
      refine s_par3 c.fx (by rw [c.hN]; exact f1) (by rw [c.hN]; exact f2) (by rw [c.hN]; exact f3) (fun z => ?_) (fun z => ?_) (fun z => ?_) (hk _ b2) (hk _ b3) (hk _ b3') (sa_cons (hf _ _ e3) b8 (sa_cons (hf _ _ e4) b9 (sa_cons (hf _ _ e5) b10 sa_nil))) ?_
      · subst z
        exact b5 (Option.some.inj (f1.symm.trans f2))
      · subst z
        exact b5' (Option.some.inj (f1.symm.trans f3))
      · subst z
        exact b5'' (Option.some.inj (f2.symm.trans f3))
      · exact sw3 (by rw [c.hsc]; exact fun_kind b1) (hk _ b2) (hk _ b3) (hk _ b3') b4 b4' b5 b5' b5'' (any_folded (fun z => nomatch z) b6) b7 (by rw [List.all_cons, List.all_cons, List.all_cons, b8, b9, b10]; rfl)
    · exact cGen_ok c pk hf h
  · exact cGen_ok c pk hf h
theorem cSetLc_ok (c : Cok X G C d T N sc) (pk : Pok X sc) {k : Nat} {tg e : Expr} {s : Sm} {pos : Pos} (h : cSetLc T N sc (cE T N k) tg e = some s) : SS X G C (.Assign [tg] e pos) s := by
  have hf : ∀ e x, cE T N k sc e = some x → SE X G C e x := fun e x => cE_ok k c
  unfold cSetLc at h
  split at h
  · obtain ⟨h1, h⟩ := gd_some.mp h
    simp only [Bool.and_eq_true, Bool.not_eq_true'] at h1
    obtain ⟨⟨⟨⟨b1, b2⟩, b3⟩, b4⟩, b5⟩ := h1
    obtain ⟨i, e0, h⟩ := Option.bind_eq_some_iff.mp h
    obtain ⟨it, e1, h⟩ := Option.bind_eq_some_iff.mp h
    obtain ⟨p, e2, h⟩ := Option.bind_eq_some_iff.mp h
    obtain ⟨h2, h⟩ := gd_some.mp h
    obtain ⟨cc, e3, h⟩ := Option.bind_eq_some_iff.mp h
    obtain ⟨y, e4, h⟩ := Option.bind_eq_some_iff.mp h
    cases h
    unfold kindB at b2
    have hl := beq_iff_eq.mp b2
    rw [← c.hsc] at hl
    refine s_setLc (i := i) c.fx _ (by rw [c.hN]; exact find_ok e0) hl ?_ (cI_ok c hf e1) (by rw [c.hN, c.hsc]; exact blkOk_by b5) (fun U s H A cl fp => ?_) (fun U s H A cl fp => ?_) (fun U s H A cl fp => ?_)
    · unfold swapsWith
      show (pure _ : Sem Bool) = pure true
      congr 1
      rw [block_of (by rw [c.hsc]; exact fun_kind b1), show X.env.kindOf _ = some .local from hl]
      have b3' := b3
      simp only [Expr.pos, b3', b4]
      rfl
    · refine cP_ok2 ((c.u U).blk s H _ cl A fp).fx c.hN (Pok.blk s H _ cl A fp) 9 e2 fun i hi => ?_
      have := List.all_eq_true.mp h2 i hi
      simpa using this
    · exact cIfs_ok (fun e x => cE_ok k ((c.u U).blk s H _ cl A fp)) e3
    · exact cE_ok k ((c.u U).blk s H _ cl A fp) e4
  all_goals first | cases h | skip
  all_goals
    obtain ⟨h1, h⟩ := gd_some.mp h
    obtain ⟨x, e1, h⟩ := Option.bind_eq_some_iff.mp h
    obtain ⟨t, e2, h⟩ := Option.bind_eq_some_iff.mp h
    cases h
    have ht := cT_ok c pk hf 9 e2
    exact s_asg (hf _ _ e1) ht h1 rfl (sw_none (.inr rfl) (fun l p z => nomatch z))
theorem never_ok {st : Stmt} {o : Option Sm} (h : ∀ s, o = some s → SS X G C st s) : SS X G C st (orNever o) := by
  cases o with
  | none => exact s_never
  | some s => exact h s rfl
theorem map_ok {g : Stmt → Sm} (h : ∀ st, SS X G C st (g st)) : ∀ l : List Stmt, SSs X G C l (l.map g)
  | [] => ss_nil
  | s :: l => ss_cons (h s) (map_ok h l)
theorem cS_ok (c : Cok X G C d T N sc) (pk : Pok X sc) (hp : PassesOwn (model X.prog X.w) X.A X.env X.xe) : ∀ (k : Nat) (st : Stmt), SS X G C st (cS T N sc k st)
  | 0, st => s_never
  | k + 1, st => by
    have hf : ∀ e x, cE T N 40 sc e = some x → SE X G C e x := fun e x => cE_ok 40 c
    have ih : ∀ l : List Stmt, SSs X G C l (l.map (cS T N sc k)) := map_ok (cS_ok c pk hp k)
    unfold cS
    split
    · exact s_pass
    · exact s_brk
    · exact s_cont
    · refine never_ok fun s h => ?_
      obtain ⟨h1, h⟩ := gd_some.mp h
      obtain ⟨x, e1, h⟩ := Option.bind_eq_some_iff.mp h
      cases h
      exact s_expr (hf _ _ e1) h1
    · exact s_retN
    · refine never_ok fun s h => ?_
      obtain ⟨x, e1, h⟩ := Option.bind_eq_some_iff.mp h
      cases h
      exact s_ret (hf _ _ e1)
    · refine never_ok fun s h => ?_
      obtain ⟨x, e1, h⟩ := Option.bind_eq_some_iff.mp h
      cases h
      exact s_if (hf _ _ e1) (ih _) (ih _)
    · refine never_ok fun s h => ?_
      obtain ⟨x, e1, h⟩ := Option.bind_eq_some_iff.mp h
      cases h
      exact s_while hp (hf _ _ e1) (ih _)
    · refine never_ok fun s h => ?_
      obtain ⟨x, e1, h⟩ := Option.bind_eq_some_iff.mp h
      obtain ⟨p, e2, h⟩ := Option.bind_eq_some_iff.mp h
      cases h
      exact s_for c.fx hp (cI_ok c hf e1) (cP_ok c.fx c.hN pk 9 e2) (ih _)
    · refine never_ok fun s h => ?_
      obtain ⟨o, e0, h⟩ := Option.bind_eq_some_iff.mp h
      obtain ⟨h1, h⟩ := gd_some.mp h
      obtain ⟨i, e1, h⟩ := Option.bind_eq_some_iff.mp h
      obtain ⟨x, e2, h⟩ := Option.bind_eq_some_iff.mp h
      cases h
      obtain ⟨q1, q2⟩ := pk _ h1
      rw [cB_ok e0]
      exact s_aug c.fx.nd o (by rw [c.hN]; exact find_ok e1) q1 q2 (hf _ _ e2)
    · refine never_ok fun s h => ?_
      obtain ⟨o, e0, h⟩ := Option.bind_eq_some_iff.mp h
      obtain ⟨g, e1, h⟩ := Option.bind_eq_some_iff.mp h
      obtain ⟨x, e2, h⟩ := Option.bind_eq_some_iff.mp h
      obtain ⟨y, e3, h⟩ := Option.bind_eq_some_iff.mp h
      cases h
      obtain ⟨rfl, i1⟩ := c.fl _ _ e1
      rw [cB_ok e0]
      exact s_augF c.fx o (hf _ _ e2) (hf _ _ e3) i1
    · refine never_ok fun s h => ?_
      split at h
      · rename_i hn
        exact cAsg_ok c pk hf hn h
      · exact cSetLc_ok c pk h
    · exact s_never
end
end Mi
/-! MINI: all defs keep their promises; the Hook; the end -/
namespace Mi
open PySem PySem.Spec PyProof.Rows L2

/-- one def -/
structure Cd where
  c : String
  f : String
  par : Arguments
  body : List Stmt
  sc : Scope
  N : List Str
  dfl : List Vl
  kwd : List (Str × Vl)
def Cd.fi (d : Cd) : FnI := ⟨d.par, d.dfl, d.kwd⟩
def Cd.key (d : Cd) : String × String := (d.c, d.f)
def Cd.qual (d : Cd) : Str := if d.c = "" then Str.ofString d.f else Str.ofString (d.c ++ "." ++ d.f)
def atK (c f : String) : Str × Option Str := if c = "" then (Str.ofString f, none) else (Str.ofString c, some (Str.ofString f))
def tbFi (cds : List Cd) : List ((String × String) × FnI) := cds.map fun d => (d.key, d.fi)
def prgOf (T : Tb) (cds : List Cd) : Prg := cds.map fun d => (d.key, ⟨(names d.fi).length, d.N.length, d.body.map (cS T d.N d.sc 40)⟩)
theorem look_map {β : Type} (g : Cd → β) (k : String × String) : ∀ cds : List Cd, (∃ d ∈ cds, d.key = k ∧ ∀ (γ : Type) (g' : Cd → γ), (cds.map fun d => (d.key, g' d)).lookup k = some (g' d)) ∨ ∀ (γ : Type) (g' : Cd → γ), (cds.map fun d => (d.key, g' d)).lookup k = none
  | [] => .inr fun _ _ => rfl
  | d :: cds => by
    by_cases h : k = d.key
    · refine .inl ⟨d, List.mem_cons_self, h.symm, fun γ g' => ?_⟩
      rw [List.map_cons, List.lookup_cons, beq_iff_eq.mpr h]
    · have hb : (k == d.key) = false := beq_eq_false_iff_ne.mpr h
      rcases look_map g k cds with ⟨d', m, e, q⟩ | q
      · refine .inl ⟨d', List.mem_cons_of_mem _ m, e, fun γ g' => ?_⟩
        rw [List.map_cons, List.lookup_cons, hb]
        exact q γ g'
      · refine .inr fun γ g' => ?_
        rw [List.map_cons, List.lookup_cons, hb]
        exact q γ g'

/-- what the head gives -/
structure Ground (mg : Str → Option Value) (G : Gi) (T : Tb) (cds : List Cd) : Prop where
  defs : ∀ d ∈ cds, ∃ fd dvs kws, FunD G.K (Str.ofString d.f) d.qual d.par d.body d.sc dvs kws (G.fa d.c d.f) fd ∧ Rs G F0 m0 d.dfl dvs ∧ kws.map (·.1) = d.kwd.map (·.1) ∧ Rs G F0 m0 (d.kwd.map (·.2)) (kws.map (·.2))
  chk : ∀ d ∈ cds, C8.scC d.N (names d.fi) d.sc = true ∧ plainArgs d.par = true
  fiT : T.fi = tbFi cds
  cls : ∀ c ∈ G.cs, Cls G.K (G.ca c)
  noat : ∀ c ∈ G.cs, ∀ f ∈ G.fl, NoAttr G.K (G.ca c) (Str.ofString f)
  meth : ∀ c m fi, c ∈ G.cs → G.fi c m = some fi → Meth G.K (G.ca c) (Str.ofString m) (G.fa c m)
  mkr : ∀ c fi, c ∈ G.cs → G.fi c "__init__" = some fi → Mk G.K (G.ca c) (G.fa c "__init__")
  glf : ∀ f fi, G.fi "" f = some fi → mg (Str.ofString f) = some (.ref (G.fa "" f))
  glc : ∀ c ∈ G.cs, mg (Str.ofString c) = some (.ref (G.ca c))
  own : ∀ c ∈ G.cs, Own G.K G.ca G.cs c
  ar1 : ∀ c ∈ G.cs, ∀ m ∈ sp1, ∀ fi, G.fi c m = some fi → srcsI fi 1 [] = some [.at 0]
  ar2 : ∀ c ∈ G.cs, ∀ fi, G.fi c "__eq__" = some fi → srcsI fi 2 [] = some [.at 0, .at 1]
  gv : ∀ s v, T.gv.lookup s = some v → ∃ x u, mg s = some u ∧ RelV x u ∧ R G F0 m0 v x
  gf : ∀ s f, T.gf.lookup s = some f → s = Str.ofString f
  gc : ∀ s f, T.gc.lookup s = some f → s = Str.ofString f
  fl : ∀ s f, T.fl.lookup s = some f → s = Str.ofString f ∧ f ∈ G.fl
  ms : ∀ s f, T.ms.lookup s = some f → s = Str.ofString f
  nb : ∀ s f, T.nb.lookup s = some f → s = Str.ofString f ∧ mg s = none
  fi : ∀ c f, G.fi c f = T.info c f
  cs : G.cs = T.cs
section
variable {prog : Program} {w : World} {mg : Str → Option Value} {base : Heap} {G : Gi} {T : Tb} {cds : List Cd}
theorem Ground.cd (g : Ground mg G T cds) {c f : String} {fi : FnI} (h : G.fi c f = some fi) : ∃ d ∈ cds, d.c = c ∧ d.f = f ∧ fi = d.fi ∧ (prgOf T cds).lookup (c, f) = some ⟨(names d.fi).length, d.N.length, d.body.map (cS T d.N d.sc 40)⟩ := by
  rw [g.fi] at h
  unfold Tb.info at h
  rw [g.fiT] at h
  rcases look_map Cd.fi (c, f) cds with ⟨d, m, e, q⟩ | q
  · refine ⟨d, m, congrArg (·.1) e, congrArg (·.2) e, ?_, q _ _⟩
    have := q _ Cd.fi
    exact Option.some.inj (h.symm.trans this)
  · have := q _ Cd.fi
    exact nomatch h.symm.trans this
theorem Ground.none (g : Ground mg G T cds) {c f : String} (h : G.fi c f = none) : (prgOf T cds).lookup (c, f) = none := by
  rw [g.fi] at h
  unfold Tb.info at h
  rw [g.fiT] at h
  rcases look_map Cd.fi (c, f) cds with ⟨d, m, e, q⟩ | q
  · have := q _ Cd.fi
    exact nomatch h.symm.trans this
  · exact q _ _
theorem callP_bad (P : Prg) {c f : String} (h : P.lookup (c, f) = none) : ∀ (d : Nat) (vs : List Vl) (hh : Hm), callP P d c f vs hh = .bad
  | 0, _, _ => rfl
  | d + 1, vs, hh => by
    rw [callP_succ, fnAt, h]
theorem RE_start {F : Hp} {m : Mp} {n : Nat} {N : List Str} (hn : N.length = n) : ∀ {vs : List Vl} {xs : List V}, Rs G F m vs xs → vs.length ≤ n → RE G F m (Mi.start n vs) (L2.start N xs) := by
  have rep : ∀ k, RE G F m (List.replicate k Option.none) (List.replicate k Option.none) := by
    intro k
    induction k with
    | zero => rfl
    | succ k ih => exact ⟨_, _, rfl, ih⟩
  have key : ∀ (k : Nat) (vs : List Vl) (xs : List V), Rs G F m vs xs → RE G F m (vs.map some ++ List.replicate k Option.none) (xs.map some ++ List.replicate k Option.none) := by
    intro k vs
    induction vs with
    | nil =>
      intro xs r
      have e : xs = [] := r
      subst e
      exact rep k
    | cons v vs ih =>
      intro xs r
      obtain ⟨y, zs, rfl, ry, rzs⟩ := r
      exact ⟨_, _, rfl, ry, ih zs rzs⟩
  intro vs xs r hl
  unfold Mi.start L2.start
  rw [hn, r.length]
  exact key _ _ _ r
/-- a def's promise at a level -/
def heldSp (G : Gi) (sem : List Vl → Hm → Res Vl) : Sp := fun vs H Q _ => rMs G sem vs H Q
theorem held_of (g : Ground mg G T cds) {c f : String} {fi : FnI} (h : G.fi c f = some fi) {k : Nat} {sem : List Vl → Hm → Res Vl} (hk : ∀ d ∈ cds, d.c = c → d.f = f → (prgOf T cds).lookup (c, f) = some ⟨(names d.fi).length, d.N.length, d.body.map (cS T d.N d.sc 40)⟩ → ∀ fd dvs kws, FunD G.K (Str.ofString d.f) d.qual d.par d.body d.sc dvs kws (G.fa d.c d.f) fd → FnOk prog w G.K mg base CX0 k (G.fa c f) fd (names d.fi) (heldSp G sem)) :
    ∃ fd, Held prog w mg base G k c f fi sem fd := by
  obtain ⟨d, hd, rfl, rfl, rfl, hp⟩ := g.cd h
  obtain ⟨fd, dvs, kws, F, r1, r2, r3⟩ := g.defs d hd
  have ok := hk d hd rfl rfl hp fd dvs kws F
  obtain ⟨oc, od, dV, kV, doc, pm, an, cdv, ct, osl, rfl, lk, hcd, hD, hK⟩ := F.ex
  refine ⟨_, rfl, (g.chk d hd).2, ?_, ?_, F.kp, ok, oc, od, osl, lk⟩
  · rcases hD with ⟨rfl, rfl⟩ | ⟨_, A, o, its, n, rfl, lT, oT, rT⟩
    · exact ⟨[], [], Option.none, r1, .nil, rfl, fun M h X => .of_pure rfl⟩
    · refine ⟨dvs, its, some its.toArray, r1, rT, by simp, fun M h X => ?_⟩
      intro A Q E s kp q
      exact wpAny_seqItems (kp _ _ (X _ _ lT)) oT q
  · rcases hK with rfl | ⟨D, rfl, hq⟩
    · have e : d.kwd = [] := by
        have := r2.symm
        simpa using this
      refine ⟨[], by show 0 = d.kwd.length; rw [e]; rfl, ?_, .nil, fun n v hv => ?_⟩
      · show Rs G F0 m0 (d.kwd.map (·.2)) []
        rw [e]
        rfl
      · rw [show d.fi.kwd = [] from e] at hv
        cases hv
    · obtain ⟨us, l, ru, a⟩ := kwd_vals hq
      have e1 : ((kws.map (·.2)).zip us).map (·.1) = kws.map (·.2) := List.map_fst_zip (by rw [List.length_map, l]; exact Nat.le_refl _)
      have e2 : ((kws.map (·.2)).zip us).map (·.2) = us := List.map_snd_zip (by rw [List.length_map, l]; exact Nat.le_refl _)
      refine ⟨(kws.map (·.2)).zip us, ?_, ?_, ?_, fun n v hv => ⟨D, rfl, fun M h X => ?_⟩⟩
      · rw [List.length_zip, List.length_map, l, Nat.min_self]
        have := congrArg List.length r2
        simpa [Cd.fi] using this
      · rw [e1]
        exact r3
      · rw [e1, e2]
        exact ru
      · rw [e2] at hv
        have hv : ((kws.map (·.1)).zip us).lookup n = some v := by
          rw [r2]
          exact hv
        have mem : (n, v) ∈ (kws.map (·.1)).zip us := PySem.mem_of_lookup hv
        exact PySem.W.looks_nsIn X (a _ mem)
theorem wpf_run {m : Mp} {F : Hp} {Q : VK} {r : Res Flow} (q : WpV G m F (runB r) Q) : WpF G m F r { nx := fun _ H' => Q .non H', rt := Q } := by
  cases r with
  | ok f h =>
    cases f with
    | nx r' => exact fun m' F' H' σ' lm l rl re => q m' F' H' .non lm l rl rfl
    | rt v => exact fun m' F' H' x lm l rl rx => q m' F' H' x lm l rl rx
    | bk r' => exact False.elim q
    | ct r' => exact False.elim q
  | exc c fs h => exact False.elim q
  | bad => exact False.elim q
theorem held_succ (g : Ground mg G T cds) {k : Nat} (ih3 : k = 0 ∨ k = 1 ∨ ∃ d', k = d' + 2 ∧ ∀ U, AllHeld prog w mg base (G.u U) d' (callP (prgOf T cds) d')) (ih : ∀ U, AllHeld prog w mg base (G.u U) k (callP (prgOf T cds) k)) (ih2 : k = 0 ∨ ∃ d', k = d' + 1 ∧ ∀ U, AllHeld prog w mg base (G.u U) d' (callP (prgOf T cds) d')) : AllHeld prog w mg base G (k + 1) (callP (prgOf T cds) (k + 1)) := by
  intro c f fi h
  refine held_of g h fun d hd hc hf hp fd dvs kws F => ?_
  subst hc hf
  have S := C8.fnScope_by (g.chk d hd).1
  refine F.ok S (fun vs H Q E q => ?_) (fun cdv A outer s H vs Q E hr q => ?_)
  · obtain ⟨m, F1, hh, vs0, rl, rs, q⟩ := q
    rw [callP_succ, fnAt, hp] at q
    dsimp only at q
    split at q
    · rename_i hl
      rw [rs.length, hl]
    · exact False.elim q
  · obtain ⟨m, F1, hh, vs0, rl, rs, q⟩ := q
    rw [callP_succ, fnAt, hp] at q
    dsimp only at q
    split at q
    · rename_i hl
      refine ⟨tS G fun r h => exs (csOf (prgOf T cds) k) (d.body.map (cS T d.N d.sc 40)) r h, PSs.nox ?_, ?_⟩
      · refine map_ok (cS_ok (d := k) (sc := d.sc) ⟨⟨rfl, rfl, S.nd, hr, g.cls, g.noat, ih, ?_, ?_, g.meth, g.mkr, g.glf, g.glc, ?_, ?_, fun c f vs h e => callP_bad _ (g.none e) k vs h, fun c f vs h e => ?_, fun c f vs h e => ?_, g.own, g.ar1, g.ar2⟩, rfl, rfl, g.gv, g.gf, g.gc, g.fl, g.ms, g.nb, g.fi, g.cs, fun c f vs h e => callP_bad _ (g.none e) k vs h⟩ (fun n hn => ⟨locB_ok hn, .inl rfl⟩) PassesOwn.never 40) d.body
        · rcases ih2 with rfl | ⟨d', rfl, i⟩
          · exact .inl rfl
          · exact .inr ⟨d', rfl, i⟩
        · rintro rfl c f vs h
          rfl
        · rcases ih3 with rfl | rfl | ⟨d', rfl, i⟩
          · exact .inl rfl
          · exact .inr (.inl rfl)
          · exact .inr (.inr ⟨d', rfl, i⟩)
        · rintro (rfl | rfl) c f vs h
          · rfl
          · rfl
        · cases k with
          | zero => rfl
          | succ k => exact callP_bad _ (g.none e) k vs h
        · cases k with
          | zero => rfl
          | succ k =>
            cases k with
            | zero => rfl
            | succ k => exact callP_bad _ (g.none e) k vs h
      · refine ⟨m, F1, hh, Mi.start d.N.length vs0, rl, RE_start rfl rs ?_, wpf_run q⟩
        rw [hl]
        have := congrArg List.length S.pre
        rw [List.length_take] at this
        omega
    · exact False.elim q
theorem Ground.u (g : Ground mg G T cds) (U : Hp) : Ground mg (G.u U) T cds where
  defs := fun d hd => by
    obtain ⟨fd, dvs, kws, a, b, c, e⟩ := g.defs d hd
    exact ⟨fd, dvs, kws, a, b.u, c, e.u⟩
  chk := g.chk
  fiT := g.fiT
  cls := g.cls
  noat := g.noat
  meth := g.meth
  mkr := g.mkr
  glf := g.glf
  glc := g.glc
  own := g.own
  ar1 := g.ar1
  ar2 := g.ar2
  gv := fun s v e => by
    obtain ⟨x, u, a, b, r⟩ := g.gv s v e
    exact ⟨x, u, a, b, r.u⟩
  gf := g.gf
  gc := g.gc
  fl := g.fl
  ms := g.ms
  nb := g.nb
  fi := g.fi
  cs := g.cs
theorem held_zero (g : Ground mg G T cds) : AllHeld prog w mg base G 0 (callP (prgOf T cds) 0) := by
  intro c f fi h
  refine held_of g h fun d hd hc hf hp fd dvs kws F => ⟨fun vs H Q E q => ?_, fun A outer s H args us vs Q E hr he hb hv q => ?_⟩
  · obtain ⟨m, F1, hh, vs0, rl, rs, q⟩ := q
    exact False.elim q
  · obtain ⟨m, F1, hh, vs0, rl, rs, q⟩ := q
    exact False.elim q
theorem held_allU : ∀ k : Nat, Ground mg G T cds → ∀ U, AllHeld prog w mg base (G.u U) k (callP (prgOf T cds) k)
  | 0, g, U => held_zero (g.u U)
  | 1, g, U => held_succ (g.u U) (.inl rfl) (fun V => held_zero (g.u V)) (.inl rfl)
  | 2, g, U => held_succ (g.u U) (.inr (.inl rfl)) (fun V => held_allU 1 g V) (.inr ⟨0, rfl, fun V => held_zero (g.u V)⟩)
  | k + 3, g, U => held_succ (g.u U) (.inr (.inr ⟨k, rfl, fun V => held_allU k g V⟩)) (fun V => held_allU (k + 2) g V) (.inr ⟨k + 1, rfl, fun V => held_allU (k + 1) g V⟩)
theorem held_all (g : Ground mg G T cds) (k : Nat) : AllHeld prog w mg base G k (callP (prgOf T cds) k) := held_allU k g G.U
end
end Mi
/-! MINI: the Hook; the end -/
namespace Mi
open PySem PySem.Spec PyProof.Rows L2

def uV : Value → Option V
  | .none => some .non
  | .bool b => some (.bl b)
  | .int i _ => some (.int i)
  | .str x _ => some (.str x)
  | .ref a => some (.ref a)
  | .type n => some (.ty n)
  | _ => none
theorem uV_ok {u : Value} {x : V} (h : uV u = some x) : RelV x u := by
  unfold uV at h
  split at h <;> cases h
  all_goals first | exact rfl | exact ⟨_, rfl⟩
mutual
def rB (K : PySem.W.Frag) : Vl → V → Bool
  | .non, .non => true
  | .bl b, .bl c => b == c
  | .int i, .int j => decide (i = j)
  | .str s, .str x => decide (ss s = x) && s.all (· < 0x110000)
  | .tup xs, .ref a => (match K.lookup a with
    | some ⟨.type c, _, .seq its _, _⟩ => decide (c = "tuple") && (decide (its.size ≤ sizeLine) && rBs K xs its.toList)
    | _ => false)
  | .fl xs, .ref a => (match K.lookup a with
    | some ⟨.type c, none, .seq its _, sl⟩ => decide (c = "list") && (decide (its.size ≤ sizeLine) && (decide (sl = #[]) && rBs K xs its.toList))
    | _ => false)
  | .fn c f, .ref a => decide (a = He.fAd K (atK c f))
  | .cl c, .ref a => false
  | .ty t, .ty u => decide (t = u)
  | _, _ => false
def rBs (K : PySem.W.Frag) : List Vl → List Value → Bool
  | [], [] => true
  | v :: vs, u :: us => (match uV u with
    | some y => rB K v y
    | none => false) && rBs K vs us
  | _, _ => false
end
def gOf (K : PySem.W.Frag) (T : Tb) : Gi := ⟨K, T.cs, T.fl.map (·.2), fun c => He.ga K (Str.ofString c), fun c f => He.fAd K (atK c f), T.info, fun _ => none⟩
section
variable {K : PySem.W.Frag} {T : Tb}
mutual
theorem rB_ok : ∀ {v : Vl} {x : V}, rB K v x = true → R (gOf K T) F0 m0 v x
  | .non, x, h => by cases x <;> first | rfl | cases h
  | .bl b, x, h => by
    cases x with
    | bl c => 
      have e : b = c := beq_iff_eq.mp h
      rw [e]
      exact rfl
    | _ => cases h
  | .int b, x, h => by
    cases x with
    | int c => 
      have e : b = c := of_decide_eq_true h
      rw [e]
      exact rfl
    | _ => cases h
  | .str s, x, h => by
    cases x with
    | str c =>
      obtain ⟨h1, h2⟩ := He.ba (show (decide (ss s = c) && s.all (· < 0x110000)) = true from h)
      exact ⟨by rw [of_decide_eq_true h1], fun c hc => by simpa using List.all_eq_true.mp h2 c hc⟩
    | _ => cases h
  | .byt b, x, h => by cases x <;> cases h
  | .ref b, x, h => by cases x <;> cases h
  | .tup xs, x, h => by
    cases x with
    | ref a =>
      unfold rB at h
      split at h
      · rename_i c _ its n _ q
        obtain ⟨h1, h2⟩ := He.ba h
        obtain ⟨h3, h4⟩ := He.ba h2
        obtain ⟨ys, r1, r2⟩ := rBs_ok h4
        exact ⟨a, ys, rfl, .inr ⟨_, its, n, q, congrArg Value.type (of_decide_eq_true h1), rfl, of_decide_eq_true h3, r2⟩, r1⟩
      · cases h
    | _ => cases h
  | .fl xs, x, h => by
    cases x with
    | ref a =>
      unfold rB at h
      split at h
      · rename_i c its n sl q
        obtain ⟨h1, h2⟩ := He.ba h
        obtain ⟨h3, h4⟩ := He.ba h2
        obtain ⟨h5, h4⟩ := He.ba h4
        obtain ⟨ys, r1, r2⟩ := rBs_ok h4
        have h1 := of_decide_eq_true h1
        have h5 := of_decide_eq_true h5
        subst h1 h5
        exact ⟨a, ys, rfl, .inr ⟨its, n, q, of_decide_eq_true h3, r2⟩, r1⟩
      · cases h
    | _ => cases h
  | .fd kvs, x, h => by cases x <;> cases h
  | .ob c fs, x, h => by cases x <;> cases h
  | .fn c f, x, h => by
    cases x with
    | ref a =>
      have e : a = He.fAd K (atK c f) := of_decide_eq_true h
      rw [e]
      exact rfl
    | _ => cases h
  | .cl c, x, h => by cases x <;> cases h
  | .ty t, x, h => by
    cases x with
    | ty u =>
      have e : t = u := of_decide_eq_true h
      rw [e]
      exact rfl
    | _ => cases h
  | .rng _ _, x, h => by cases x <;> cases h
  | .enm _, x, h => by cases x <;> cases h
  | .zp _ _, x, h => by cases x <;> cases h
  | .scr _, x, h => by cases x <;> cases h
theorem rBs_ok : ∀ {vs : List Vl} {us : List Value}, rBs K vs us = true → ∃ ys, Rs (gOf K T) F0 m0 vs ys ∧ Vals ys us
  | [], [], _ => ⟨[], rfl, .nil⟩
  | [], _ :: _, h => by cases h
  | _ :: _, [], h => by cases h
  | v :: vs, u :: us, h => by
    unfold rBs at h
    obtain ⟨h1, h2⟩ := He.ba h
    split at h1
    · rename_i y e
      obtain ⟨ys, r1, r2⟩ := rBs_ok h2
      exact ⟨y :: ys, ⟨y, ys, rfl, rB_ok h1, r1⟩, .cons (uV_ok e) r2⟩
    · cases h1
end
def rBv (K : PySem.W.Frag) : List Vl → List V → Bool
  | [], [] => true
  | v :: vs, u :: us => rB K v u && rBv K vs us
  | _, _ => false
theorem rBv_ok : ∀ {vs : List Vl} {us : List V}, rBv K vs us = true → Rs (gOf K T) F0 m0 vs us
  | [], [], _ => rfl
  | [], _ :: _, h => by cases h
  | _ :: _, [], h => by cases h
  | v :: vs, u :: us, h => by
    unfold rBv at h
    obtain ⟨h1, h2⟩ := He.ba h
    exact ⟨u, us, rfl, rB_ok h1, rBv_ok h2⟩
end
/-- what is known of own classes -/
def ownB (K : PySem.W.Frag) (cs : List String) (c : String) : Bool :=
  (PySem.W.findIn K (.ref (He.ga K (Str.ofString c))) "__class__" == some (some (.builtin "object.__class__"))) &&
  ((PySem.W.specialIn K (.builtin "object.__class__") "__get__" == some (some (.builtin "getset_descriptor.__get__"))) &&
  ((PySem.W.takesIn K (.builtin "object.__class__") == some true) &&
  ((PySem.W.mroIn K (He.ga K (Str.ofString c)) (.type "object") == some true) &&
  ((PySem.W.findIn K (.ref (He.ga K (Str.ofString c))) "__bool__" == some none) &&
  ((PySem.W.findIn K (.ref (He.ga K (Str.ofString c))) "__ne__" == some (some (.builtin "object.__ne__"))) &&
  ((PySem.W.findIn K (.ref (He.ga K (Str.ofString c))) "__format__" == some (some (.builtin "object.__format__"))) &&
  ((PySem.W.subIn K (.ref (He.ga K (Str.ofString c))) (.type "NoneType") == some false) &&
  ((cs.all fun c' => PySem.W.notFirst K (He.ga K (Str.ofString c)) (.ref (He.ga K (Str.ofString c')))) &&
  ((cs.all fun c' => PySem.W.kitOne K (.ref (He.ga K (Str.ofString c))) (.ref (He.ga K (Str.ofString c'))) == some (decide (c = c'))) &&
  ((tyAll.all fun n => PySem.W.kitOne K (.type n) (.ref (He.ga K (Str.ofString c))) == some false) &&
  (tyAsk.all fun t => PySem.W.kitOne K (.ref (He.ga K (Str.ofString c))) (.type t) == some false)))))))))))
theorem ownB_ok {K : PySem.W.Frag} {T : Tb} {c : String} (h : ownB K T.cs c = true) : Own (gOf K T).K (gOf K T).ca (gOf K T).cs c := by
  unfold ownB at h
  obtain ⟨h1, h⟩ := He.ba h
  obtain ⟨h2, h⟩ := He.ba h
  obtain ⟨h3, h⟩ := He.ba h
  obtain ⟨h4, h⟩ := He.ba h
  obtain ⟨h5, h⟩ := He.ba h
  obtain ⟨h6, h⟩ := He.ba h
  obtain ⟨h66, h⟩ := He.ba h
  obtain ⟨h67, h⟩ := He.ba h
  obtain ⟨h7, h⟩ := He.ba h
  obtain ⟨h8, h⟩ := He.ba h
  obtain ⟨h9, h10⟩ := He.ba h
  exact ⟨beq_iff_eq.mp h1, beq_iff_eq.mp h2, beq_iff_eq.mp h3, beq_iff_eq.mp h4, beq_iff_eq.mp h5, beq_iff_eq.mp h6, beq_iff_eq.mp h66, beq_iff_eq.mp h67, fun c' hc => List.all_eq_true.mp h7 c' hc, fun c' hc => beq_iff_eq.mp (List.all_eq_true.mp h8 c' hc), fun n hn => beq_iff_eq.mp (List.all_eq_true.mp h9 n hn), fun n hn => beq_iff_eq.mp (List.all_eq_true.mp h10 n hn)⟩
def arB (T : Tb) (m : String) (n : Nat) (ps : List Src) : Bool := T.cs.all fun c => match T.info c m with
  | some fi => (match srcsI fi n [] with
    | some qs => methPs.eqSs qs ps
    | none => false)
  | none => true
theorem arB_ok {T : Tb} {m : String} {n : Nat} {ps : List Src} (h : arB T m n ps = true) {c : String} (hc : c ∈ T.cs) {fi : FnI} (e : T.info c m = some fi) : srcsI fi n [] = some ps := by
  have := List.all_eq_true.mp h c hc
  rw [e] at this
  dsimp only at this
  split at this
  · rename_i qs e2
    rw [e2, eqSs_ok this]
  · cases this
/-- the object of a keyword's default -/
def kwAt (c f : String) (n : Str) (K : PySem.W.Frag) : Addr := match K.lookup (He.fAd K (atK c f)) with
  | some ⟨_, _, .func fd, _⟩ => (match fd.kwdefaults with
    | .ref D => (match PySem.W.nsIn K D n with
      | some (some (.ref a)) => a
      | _ => 0)
    | _ => 0)
  | _ => 0
def dvOf (p : PySem.W.Frag → Addr) : Vl → He.Dv
  | .non => .non
  | .bl b => .bl b
  | .int i => .int i
  | .str s => .str (ss s)
  | .ty t => .ty t
  | _ => .adr p
def dflD (c f : String) : Nat → List Vl → List He.Dv
  | _, [] => []
  | i, v :: vs => dvOf (He.dflAt (atK c f) i) v :: dflD c f (i + 1) vs
def Cd.dd (d : Cd) : He.DefD := ⟨atK d.c d.f, Str.ofString d.f, d.qual, d.par, d.body, d.sc, dflD d.c d.f 0 d.dfl, d.kwd.map fun q => (q.1, dvOf (kwAt d.c d.f q.1) q.2)⟩
def okV (K : PySem.W.Frag) (x : Str) (v : Vl) : Bool := match PySem.W.nsIn K mainGlobals x with
  | some (some u) => (match uV u with
    | some y => rB K v y
    | none => false)
  | _ => false
def okD (K : PySem.W.Frag) (d : Cd) : Bool := d.dd.ok K && (rBv K d.dfl (d.dd.dvs K) && (rBv K (d.kwd.map (·.2)) ((d.dd.kws K).map (·.2)) &&
  ((if d.c = "" then (He.Fa.glo (Str.ofString d.f)).ok K else (He.Fa.meth (Str.ofString d.c) (Str.ofString d.f)).ok K) && (if d.f = "__init__" then (He.Fa.mkr (Str.ofString d.c)).ok K else true))))
def okM (T : Tb) (cds : List Cd) (K : PySem.W.Frag) : Bool := (T.gv.all fun p => okV K p.1 p.2) && ((T.gc.all fun p => (He.Fa.glo (Str.ofString p.2)).ok K && (ownB K T.cs p.2 && ((He.Fa.cls (Str.ofString p.2)).ok K && T.fl.all fun q => (He.Fa.noat (Str.ofString p.2) (Str.ofString q.2)).ok K))) &&
  ((T.nb.all fun p => (He.Fa.free p.1).ok K) && cds.all fun d => okD K d))
/-- what does not hang on the head -/
def okT (T : Tb) (cds : List Cd) : Bool := (T.gf.all fun p => decide (p.1 = Str.ofString p.2)) && (T.gc.all fun p => decide (p.1 = Str.ofString p.2)) && (T.fl.all fun p => decide (p.1 = Str.ofString p.2)) && (T.ms.all fun p => decide (p.1 = Str.ofString p.2)) &&
  (T.nb.all fun p => decide (p.1 = Str.ofString p.2)) && !(T.cs.contains "") && (sp1.all fun m => arB T m 1 [.at 0]) && arB T "__eq__" 2 [.at 0, .at 1] && cds.all fun d => C8.scC d.N (names d.fi) d.sc && plainArgs d.par
abbrev AlM : Type := Bool × List He.FnW
def obsM (T : Tb) (cds : List Cd) (K : PySem.W.Frag) : AlM := (okM T cds K, cds.map fun d => He.fnW K (atK d.c d.f))
def valM (cds : List Cd) : AlM := (true, cds.map fun d => d.dd.val)
def SaysM (T : Tb) (cds : List Cd) (K : PySem.W.Frag) : Prop := obsM T cds K = valM cds
def obsMG (n : Nat) (T : Tb) (cds : List Cd) (g : Addr → Option Obj) : AlM := obsM T cds (He.frG g (He.asD g n))
def hookM (n : Nat) (T : Tb) (cds : List Cd) : PySem.W.Hook where
  α := AlM
  obs := fun s => obsMG n T cds s.heap.get?
  val := fun _ => valM cds
  says := fun _ h => ∃ K : PySem.W.Frag, K.In h ∧ SaysM T cds K
  of := fun _ _ e => ⟨_, He.frG_in, e⟩
  keeps := fun _ _ _ ⟨K, hK, c⟩ k => ⟨K, PySem.W.Frag.In.keeps hK k, c⟩
theorem obsMG_eq {n : Nat} {T : Tb} {cds : List Cd} {g : Addr → Option Obj} {s : Shared} (h : ∀ a, g a = s.heap.get? a) : obsMG n T cds g = (hookM n T cds).obs s := by
  have e : g = s.heap.get? := funext h
  rw [e] <;> rfl
theorem mem_look {α β : Type} [BEq α] [LawfulBEq α] : ∀ {l : List (α × β)} {a : α} {b : β}, l.lookup a = some b → (a, b) ∈ l
  | [], _, _, e => nomatch e
  | (c, d) :: l, a, b, e => by
    rw [List.lookup_cons] at e
    split at e
    · rename_i h
      rw [beq_iff_eq.mp h]
      cases e
      exact List.mem_cons_self
    · exact List.mem_cons_of_mem _ (mem_look e)
theorem all_look {α β : Type} [BEq α] [LawfulBEq α] {l : List (α × β)} {p : α × β → Bool} (h : l.all p = true) {a : α} {b : β} (e : l.lookup a = some b) : p (a, b) = true := List.all_eq_true.mp h _ (mem_look e)
theorem ground_of {K : PySem.W.Frag} {h : Heap} {mg : Str → Option Value} {T : Tb} {cds : List Cd} (KX : K.In h) (N : h.Ns mainGlobals mg) (hT : okT T cds = true) (hfi : T.fi = tbFi cds) (c : SaysM T cds K) : Ground mg (gOf K T) T cds := by
  have c1 : okM T cds K = true := congrArg (fun z : AlM => z.1) c
  have c2 : (cds.map fun d => He.fnW K (atK d.c d.f)) = cds.map fun d => d.dd.val := congrArg (fun z : AlM => z.2) c
  unfold okM at c1
  obtain ⟨a1, c1⟩ := He.ba c1
  obtain ⟨a2, c1⟩ := He.ba c1
  obtain ⟨a3, a4⟩ := He.ba c1
  unfold okT at hT
  obtain ⟨hT, t7⟩ := He.ba hT
  obtain ⟨hT, t9⟩ := He.ba hT
  obtain ⟨hT, t8⟩ := He.ba hT
  obtain ⟨hT, t6⟩ := He.ba hT
  obtain ⟨hT, t5⟩ := He.ba hT
  obtain ⟨hT, t4⟩ := He.ba hT
  obtain ⟨hT, t3⟩ := He.ba hT
  obtain ⟨t1, t2⟩ := He.ba hT
  have hcd : ∀ c f fi, T.info c f = some fi → ∃ d ∈ cds, d.c = c ∧ d.f = f := fun c f fi e => by
    unfold Tb.info at e
    rw [hfi] at e
    have := mem_look e
    unfold tbFi at this
    obtain ⟨d, hd, e2⟩ := List.mem_map.mp this
    have e3 : d.key = (c, f) := congrArg (·.1) e2
    exact ⟨d, hd, congrArg (·.1) e3, congrArg (·.2) e3⟩
  have hcs : ∀ c ∈ T.cs, ∃ s, (s, c) ∈ T.gc := fun c hc => by
    unfold Tb.cs at hc
    obtain ⟨p, hp, e⟩ := List.mem_map.mp hc
    exact ⟨p.1, by rw [← e]; exact hp⟩
  refine ⟨fun d hd => ?_, fun d hd => He.ba (List.all_eq_true.mp t7 d hd), hfi, fun c hc => ?_, fun c hc f hf => ?_, fun c m fi hc e => ?_, fun c fi hc e => ?_, fun f fi e => ?_, fun c hc => ?_, fun c hc => ?_, fun c hc m hm fi e => arB_ok (List.all_eq_true.mp t8 m hm) hc e, fun c hc fi e => arB_ok t9 hc e, fun s v e => ?_, fun s f e => ?_, fun s f e => ?_, fun s f e => ?_, fun s f e => ?_, fun s f e => ?_, fun _ _ => rfl, rfl⟩
  · have q := List.all_eq_true.mp a4 d hd
    unfold okD at q
    obtain ⟨q1, q⟩ := He.ba q
    obtain ⟨q2, q⟩ := He.ba q
    obtain ⟨q3, q⟩ := He.ba q
    obtain ⟨i, hi⟩ := List.mem_iff_getElem?.mp hd
    have e : He.fnW K (atK d.c d.f) = d.dd.val := by
      have e2 : (cds.map fun d => He.fnW K (atK d.c d.f))[i]? = (cds.map fun d => d.dd.val)[i]? := by rw [c2]
      rw [List.getElem?_map, List.getElem?_map, hi] at e2
      exact Option.some.inj e2
    obtain ⟨fd, F⟩ := He.DefD.funD (d := d.dd) e q1
    refine ⟨fd, _, _, F, rBv_ok q2, ?_, rBv_ok q3⟩
    unfold He.DefD.kws Cd.dd
    simp [Function.comp_def]
  · obtain ⟨s, hs⟩ := hcs c hc
    obtain ⟨b1, b⟩ := He.ba (List.all_eq_true.mp a2 _ hs)
    exact He.cls_ok (He.ba (He.ba b).2).1
  · obtain ⟨s, hs⟩ := hcs c hc
    obtain ⟨b1, b⟩ := He.ba (List.all_eq_true.mp a2 _ hs)
    obtain ⟨p, hp, rfl⟩ := List.mem_map.mp hf
    exact He.noat_ok (List.all_eq_true.mp (He.ba (He.ba b).2).2 p hp)
  · obtain ⟨d, hd, rfl, rfl⟩ := hcd _ _ _ e
    have q := List.all_eq_true.mp a4 d hd
    unfold okD at q
    obtain ⟨q1, q⟩ := He.ba q
    obtain ⟨q2, q⟩ := He.ba q
    obtain ⟨q3, q⟩ := He.ba q
    obtain ⟨q4, q5⟩ := He.ba q
    have hne : d.c ≠ "" := fun z => by
      have t6 : T.cs.contains "" = false := by simpa using t6
      have : T.cs.contains "" = true := by
        rw [← z]
        exact List.contains_iff_mem.mpr hc
      rw [t6] at this
      cases this
    rw [if_neg hne] at q4
    have := He.meth_ok q4
    show Meth K (He.ga K (Str.ofString d.c)) (Str.ofString d.f) (He.fAd K (atK d.c d.f))
    unfold atK
    rw [if_neg hne]
    exact this
  · obtain ⟨d, hd, rfl, hf⟩ := hcd _ _ _ e
    have q := List.all_eq_true.mp a4 d hd
    unfold okD at q
    obtain ⟨q1, q⟩ := He.ba q
    obtain ⟨q2, q⟩ := He.ba q
    obtain ⟨q3, q⟩ := He.ba q
    obtain ⟨q4, q5⟩ := He.ba q
    have hne : d.c ≠ "" := fun z => by
      have t6 : T.cs.contains "" = false := by simpa using t6
      have : T.cs.contains "" = true := by
        rw [← z]
        exact List.contains_iff_mem.mpr hc
      rw [t6] at this
      cases this
    rw [if_pos hf] at q5
    have := He.mkr_ok q5
    show Mk K (He.ga K (Str.ofString d.c)) (He.fAd K (atK d.c "__init__"))
    unfold atK
    rw [if_neg hne]
    exact this
  · obtain ⟨d, hd, hc, rfl⟩ := hcd _ _ _ e
    have q := List.all_eq_true.mp a4 d hd
    unfold okD at q
    obtain ⟨q1, q⟩ := He.ba q
    obtain ⟨q2, q⟩ := He.ba q
    obtain ⟨q3, q⟩ := He.ba q
    obtain ⟨q4, q5⟩ := He.ba q
    rw [if_pos hc] at q4
    exact He.glo_ok KX N q4
  · obtain ⟨s, hs⟩ := hcs c hc
    obtain ⟨b1, b⟩ := He.ba (List.all_eq_true.mp a2 _ hs)
    exact He.glo_ok KX N b1
  · obtain ⟨s, hs⟩ := hcs c hc
    obtain ⟨b1, b⟩ := He.ba (List.all_eq_true.mp a2 _ hs)
    exact ownB_ok (He.ba b).1
  · have q := all_look a1 e
    unfold okV at q
    split at q
    · rename_i u e1
      split at q
      · rename_i y e2
        exact ⟨y, u, PySem.W.mg_of KX N e1, uV_ok e2, rB_ok q⟩
      · cases q
    · cases q
  · exact of_decide_eq_true (all_look t1 e)
  · exact of_decide_eq_true (all_look t2 e)
  · exact ⟨of_decide_eq_true (all_look t3 e), List.mem_map.mpr ⟨_, mem_look e, rfl⟩⟩
  · exact of_decide_eq_true (all_look t4 e)
  · exact ⟨of_decide_eq_true (all_look t5 e), He.free_ok KX N (all_look a3 e)⟩
/-! ### the end -/
def lawArgs (x : Str) (p : Arguments) : Bool := decide (argNames p.args = [x]) && decide (argNames p.kwonlyargs = []) && plainArgs p
theorem law_walk {l : PySem.W.OpenLaw} {n k m : Nat} {q : Program} {loose : List Str} {XP : (Str → Option Value) → Heap → Prop} {T : Tb} {cds : List Cd} {dr : DefRec} {d : Cd} {x : Str} (hn : l.most = some n) (hn2 : n ≤ sizeLine) (hdf : dr.params.defaults = []) (hr : Room k callerA)
    (hname : dr.name = Str.ofString "law") (hT : okT T cds = true) (hfi : T.fi = tbFi cds) (hd : T.info "" "law" = some ⟨d.par, [], []⟩) (hp : lawArgs x d.par = true)
    (law : ∀ ns : List Int, ns.length ≤ n → ∃ h', callP (prgOf T cds) k "" "law" [.scr ns] [] = .ok (.bl true) h') :
    PySem.W.WalkO q loose XP (hookM m T cds).says l.row.toRowW dr [] (fun f vs => PySem.call f vs) := by
  refine L2.walk_ofE (CX := C8.CX0) (k := k) (x := x) hn hn2 hdf hr (fun w mg fa h Y N hmg => ?_) (fun _ _ _ _ z => z)
  obtain ⟨K, KX, c⟩ := Y
  have g := ground_of KX N hT hfi c
  unfold lawArgs at hp
  obtain ⟨hp, hp3⟩ := He.ba hp
  obtain ⟨hp1, hp2⟩ := He.ba hp
  have hp1 := of_decide_eq_true hp1
  have hp2 := of_decide_eq_true hp2
  have hfa : fa = (gOf K T).fa "" "law" := by
    have := g.glf "law" _ hd
    rw [← hname, hmg] at this
    exact Value.ref.inj (Option.some.inj this)
  have hnm : names ⟨d.par, [], []⟩ = [x] := by
    unfold names
    rw [hp1, hp2]
    rfl
  obtain ⟨d0, hd0, hc0, hf0, he0, _⟩ := g.cd (c := "") (f := "law") hd
  obtain ⟨fd, dvs, kws, F, r1, r2, r3⟩ := g.defs d0 hd0
  have hdfl : d0.dfl = [] := (congrArg FnI.dfl he0).symm
  have hpar : d0.par = d.par := (congrArg FnI.par he0).symm
  have hdv : dvs = [] := by
    rw [hdfl] at r1
    exact r1
  have bt : ∀ (s : Shared) (u : Value), BindsTo s fd ⟨[u], []⟩ [(x, u)] := by
    obtain ⟨oc, od, dV, kV, doc, pm, an, cdv, ct, osl, rfl, lk, hcd, hD, hK⟩ := F.ex
    intro s u
    rcases hD with ⟨_, rfl⟩ | ⟨e, _⟩
    · refine BindsTo.of_looks fun M => binds_looks (oi := none) (ds := []) (kd := []) (by show plainArgs d0.par = true; rw [hpar]; exact hp3) (.of_pure rfl) rfl (fun n v e => nomatch e) ?_
      show bindI (argNames d0.par.args) (argNames d0.par.kwonlyargs) [u] [] [] [] = some [(x, u)]
      rw [hpar, hp1, hp2]
      simp [bindI, addKw, fillK, fillD, pickL]
    · exact absurd hdv e
  refine ⟨K, fd, heldSp (gOf K T) (callP (prgOf T cds) k "" "law"), KX, bt, fun H a ns hl ho hs => ?_, fun base KB NB => ?_⟩
  · obtain ⟨h', e⟩ := law ns hl
    refine ⟨m0, H, [], [.scr ns], ⟨Le.refl H, fun _ _ => rfl, fun a o e => (nomatch e), fun a b o o' p e => (nomatch e), fun p o e => (nomatch e)⟩, Rs.one ⟨a, rfl, hs⟩, ?_⟩
    rw [e]
    exact fun m' F' H' x lm l rl rx => rx
  · have g2 := ground_of KB NB hT hfi c
    have ha : AllHeld l.prog w mg base (gOf K T) k (callP (prgOf T cds) k) := held_all g2 k
    obtain ⟨fd', hh⟩ := ha "" "law" _ hd
    obtain ⟨oc, od, osl, lk⟩ := hh.lk
    have efd : fd' = fd := by
      obtain ⟨oc', od', dV, kV, doc, pm, an, cdv, ct, osl', rfl, lk', _⟩ := F.ex
      rw [hc0, hf0] at lk'
      have := Option.some.inj (lk.symm.trans lk')
      have := congrArg Obj.data this
      injection this with this
      rw [hf0]
      exact this
    rw [← efd, hfa, ← hnm]
    exact hh.ok
end Mi
/-! MINI: proofs about runs -/
namespace Mi
def Ok {α : Type} (r : Res α) (Q : α → Hm → Prop) : Prop := match r with
  | .ok a h => Q a h
  | _ => False
section
variable {α β : Type} {C : Cs} {r : Rho} {h : Hm}
@[simp] theorem ok_ok {a : α} {Q : α → Hm → Prop} : Ok (.ok a h) Q ↔ Q a h := Iff.rfl
@[simp] theorem ok_bad {Q : α → Hm → Prop} : Ok (.bad : Res α) Q ↔ False := Iff.rfl
theorem ok_bind {x : Res α} {f : α → Hm → Res β} {Q : β → Hm → Prop} : Ok (x.bind f) Q ↔ Ok x fun a h => Ok (f a h) Q := by
  cases x <;> exact Iff.rfl
theorem ok_ite {c : Prop} [Decidable c] {x y : Res α} {Q : α → Hm → Prop} : Ok (if c then x else y) Q ↔ if c then Ok x Q else Ok y Q := by
  split <;> exact Iff.rfl
theorem Ok.imp {x : Res α} {Q Q' : α → Hm → Prop} (w : Ok x Q) (i : ∀ a h, Q a h → Q' a h) : Ok x Q' := by
  cases x with
  | ok a h => exact i a h w
  | exc c fs h => exact False.elim w
  | bad => exact False.elim w
theorem Ok.get {x : Res α} {Q : α → Hm → Prop} (w : Ok x Q) : ∃ a h, x = .ok a h ∧ Q a h := by
  cases x with
  | ok a h => exact ⟨a, h, rfl, w⟩
  | exc c fs h => exact False.elim w
  | bad => exact False.elim w
/-- what follows in a block -/
def Then (C : Cs) (ss : List Sm) (Q : Flow → Hm → Prop) : Flow → Hm → Prop
  | .nx r, h => Ok (exs C ss r h) Q
  | f, h => Q f h
@[simp] theorem then_nx {ss : List Sm} {Q : Flow → Hm → Prop} : Then C ss Q (.nx r) h ↔ Ok (exs C ss r h) Q := Iff.rfl
@[simp] theorem then_rt {ss : List Sm} {Q : Flow → Hm → Prop} {v : Vl} : Then C ss Q (.rt v) h ↔ Q (.rt v) h := Iff.rfl
@[simp] theorem then_bk {ss : List Sm} {Q : Flow → Hm → Prop} : Then C ss Q (.bk r) h ↔ Q (.bk r) h := Iff.rfl
@[simp] theorem then_ct {ss : List Sm} {Q : Flow → Hm → Prop} : Then C ss Q (.ct r) h ↔ Q (.ct r) h := Iff.rfl
theorem ok_cons {s : Sm} {ss : List Sm} {Q : Flow → Hm → Prop} : Ok (exs C (s :: ss) r h) Q ↔ Ok (ex C s r h) (Then C ss Q) := by
  rw [exs]
  cases ex C s r h with
  | ok f h => cases f <;> exact Iff.rfl
  | exc c fs h => exact Iff.rfl
  | bad => exact Iff.rfl
theorem ok_nil {Q : Flow → Hm → Prop} : Ok (exs C [] r h) Q ↔ Q (.nx r) h := by
  rw [exs]
  exact Iff.rfl
/-- a call -/
theorem ok_call {P : Prg} {d ar n : Nat} {c f : String} {vs : List Vl} {b : List Sm} {Q : Vl → Hm → Prop} (e : P.lookup (c, f) = some ⟨ar, n, b⟩) (hl : vs.length = ar) (w : Ok (exs (csOf P d) b (start n vs) h) fun fl h => match fl with
    | .nx _ => Q .non h
    | .rt v => Q v h
    | _ => False) : Ok (callP P (d + 1) c f vs h) Q := by
  rw [callP_succ, fnAt, e]
  dsimp only
  rw [if_pos hl]
  unfold runB
  rw [ok_bind]
  refine Ok.imp (x := exs (csOf P d) b (start n vs) h) w fun fl h q => ?_
  cases fl with
  | nx r => exact q
  | rt v => exact q
  | bk r => exact False.elim q
  | ct r => exact False.elim q
/-! ### expressions -/
def TR (h : Hm) (v : Vl) (Q : Vl → Hm → Prop) : Prop := ∃ b, tru h v = some b ∧ Q (.bl b) h
def BR (v : Vl) (A B : Prop) : Prop := match v with
  | .bl true => A
  | .bl false => B
  | _ => False
theorem br_t {A B : Prop} : BR (.bl true) A B ↔ A := Iff.rfl
theorem br_f {A B : Prop} : BR (.bl false) A B ↔ B := Iff.rfl
theorem br_b {A B : Prop} {b : Bool} : BR (.bl b) A B ↔ if b = true then A else B := by
  cases b
  · exact Iff.rfl
  · exact Iff.rfl
theorem br_d {A B : Prop} {c : Prop} [Decidable c] : BR (.bl (decide c)) A B ↔ if c then A else B := by
  by_cases h : c
  · rw [if_pos h, decide_eq_true h]
    exact Iff.rfl
  · rw [if_neg h, decide_eq_false h]
    exact Iff.rfl
theorem tr_b {b : Bool} {Q : Vl → Hm → Prop} : TR h (.bl b) Q ↔ Q (.bl b) h := ⟨fun ⟨c, e, q⟩ => by cases e; exact q, fun q => ⟨b, rfl, q⟩⟩
theorem ok_asT {x : Res Vl} {Q : Vl → Hm → Prop} : Ok (asT true x) Q ↔ Ok x fun v h => TR h v Q := by
  unfold asT
  rw [if_pos rfl, ok_bind]
  cases x with
  | ok v h =>
    show Ok (match tru h v with
      | some b => Res.ok (Vl.bl b) h
      | none => Res.bad) Q ↔ TR h v Q
    unfold TR
    cases tru h v with
    | some b => exact ⟨fun q => ⟨b, rfl, q⟩, fun ⟨c, e, q⟩ => by cases e; exact q⟩
    | none => exact ⟨fun q => False.elim q, fun ⟨c, e, q⟩ => nomatch e⟩
  | exc c fs h => exact Iff.rfl
  | bad => exact Iff.rfl
theorem asT_f {x : Res Vl} : asT false x = x := rfl
theorem ok_congr {x : Res α} {Q Q' : α → Hm → Prop} (i : ∀ a h, Q a h ↔ Q' a h) : Ok x Q ↔ Ok x Q' := ⟨fun w => w.imp fun a h => (i a h).mp, fun w => w.imp fun a h => (i a h).mpr⟩
section
variable {Q : Vl → Hm → Prop} {x y z : Ex} {es : List Ex}
/-- a test by the value's truth -/
def plainX : Ex → Bool
  | .not _ => false
  | .and _ _ => false
  | .or _ _ => false
  | .ite _ _ _ => false
  | _ => true
theorem e_T (hp : plainX x = true) : Ok (evM C x true r h) Q ↔ Ok (evM C x false r h) fun v h => TR h v Q := by
  cases x <;> first | cases hp | skip
  all_goals first | (rw [evM, evM, ok_asT, asT_f]; done) | (rw [evM, evM]; exact Iff.rfl)
theorem e_var {i : Nat} : Ok (evM C (.var i) false r h) Q ↔ ∃ v, r[i]? = some (some v) ∧ Q v h := by
  rw [evM, asT_f]
  cases e : r[i]? with
  | none => exact ⟨fun q => False.elim q, fun ⟨v, e, q⟩ => nomatch e⟩
  | some o =>
    cases o with
    | none => exact ⟨fun q => False.elim q, fun ⟨v, e, q⟩ => nomatch e⟩
    | some v => exact ⟨fun q => ⟨v, rfl, q⟩, fun ⟨v, e, q⟩ => by cases e; exact q⟩
theorem e_cst {v : Vl} : Ok (evM C (.cst v) false r h) Q ↔ Q v h := by
  rw [evM, asT_f]
  exact Iff.rfl
theorem e_tup : Ok (evM C (.tupE es) false r h) Q ↔ Ok (evs C es r h) fun vs h => vs.length ≤ LIM ∧ Q (.tup vs) h := by
  rw [evM, asT_f, ok_bind]
  exact ok_congr fun vs h => by
    by_cases hl : vs.length ≤ LIM
    · rw [if_pos hl]
      exact ⟨fun q => ⟨hl, q⟩, fun q => q.2⟩
    · rw [if_neg hl]
      exact ⟨fun q => False.elim q, fun q => (hl q.1).elim⟩
theorem e_lst : Ok (evM C (.lstE true es) false r h) Q ↔ Ok (evs C es r h) fun vs h => vs.length ≤ LIM ∧ Q (.ref h.length) (h ++ [.lst vs]) := by
  rw [evM, asT_f, ok_bind]
  exact ok_congr fun vs h => by
    by_cases hl : vs.length ≤ LIM
    · rw [if_pos hl]
      exact ⟨fun q => ⟨hl, q⟩, fun q => q.2⟩
    · rw [if_neg hl]
      exact ⟨fun q => False.elim q, fun q => (hl q.1).elim⟩
theorem e_lstF : Ok (evM C (.lstE false es) false r h) Q ↔ Ok (evs C es r h) fun vs h => vs.length ≤ LIM ∧ Q (.fl vs) h := by
  rw [evM, asT_f, ok_bind]
  exact ok_congr fun vs h => by
    by_cases hl : vs.length ≤ LIM
    · rw [if_pos hl]
      exact ⟨fun q => ⟨hl, q⟩, fun q => q.2⟩
    · rw [if_neg hl]
      exact ⟨fun q => False.elim q, fun q => (hl q.1).elim⟩
def PR (vs : List Vl) (Q : List (Tx × Vl) → Prop) : Prop := ∃ kvs, pairsOf vs = some kvs ∧ kvs.length ≤ 15 ∧ Q kvs
theorem e_dct {lv : Bool} : Ok (evM C (.dctE lv es) false r h) Q ↔ Ok (evs C es r h) fun vs h => PR vs fun kvs => Ok (newD lv (mkD kvs) h) Q := by
  rw [evM, asT_f, ok_bind]
  exact ok_congr fun vs h => by
    unfold PR
    cases pairsOf vs with
    | none => exact ⟨fun q => False.elim q, fun ⟨j, e, q⟩ => nomatch e⟩
    | some kvs =>
      dsimp only
      by_cases hl : kvs.length ≤ 15
      · rw [if_pos hl]
        exact ⟨fun q => ⟨kvs, rfl, hl, q⟩, fun ⟨j, e, _, q⟩ => by cases e; exact q⟩
      · rw [if_neg hl]
        exact ⟨fun q => False.elim q, fun ⟨j, e, l, q⟩ => by cases e; exact (hl l).elim⟩
theorem e_fstr : Ok (evM C (.fstr es) false r h) Q ↔ Ok (evf C es [] r h) fun s h => Q (.str s) h := by
  rw [evM, asT_f, ok_bind]
  exact Iff.rfl
theorem e_fnil {acc : Tx} {Q : Tx → Hm → Prop} : Ok (evf C [] acc r h) Q ↔ Q acc h := by
  rw [evf]
  exact Iff.rfl
theorem e_fcons {acc : Tx} {Q : Tx → Hm → Prop} : Ok (evf C (x :: es) acc r h) Q ↔ Ok (evM C x false r h) fun v h => ∃ s, v = .str s ∧ acc.length + s.length ≤ LIM ∧ Ok (evf C es (acc ++ s) r h) Q := by
  rw [evf, ok_bind]
  exact ok_congr fun u h => by
    cases u with
    | str s =>
      dsimp only
      by_cases hl : acc.length + s.length ≤ LIM
      · rw [if_pos hl]
        exact ⟨fun q => ⟨s, rfl, hl, q⟩, fun ⟨j, e, _, q⟩ => by cases e; exact q⟩
      · rw [if_neg hl]
        exact ⟨fun q => False.elim q, fun ⟨j, e, l, q⟩ => by cases e; exact (hl l).elim⟩
    | _ => exact ⟨fun q => False.elim q, fun ⟨j, e, q⟩ => nomatch e⟩
theorem e_fmt : Ok (evM C (.fmt x) false r h) Q ↔ Ok (evM C x false r h) fun v h => Ok (fmtV C v h) Q := by
  rw [evM, asT_f, ok_bind]
theorem fm_str {s : Tx} : Ok (fmtV C (.str s) h) Q ↔ s.length ≤ LIM ∧ Q (.str s) h := by
  show Ok (if s.length ≤ LIM then Res.ok (Vl.str s) h else .bad) Q ↔ _
  split
  · rename_i hl
    exact ⟨fun q => ⟨hl, q⟩, fun q => q.2⟩
  · rename_i hl
    exact ⟨fun q => False.elim q, fun q => (hl q.1).elim⟩
theorem e_slcR : Ok (evM C (.slcR x) false r h) Q ↔ Ok (evM C x false r h) fun v h => Ok (slcRV v h) Q := by
  rw [evM, asT_f, ok_bind]
theorem e_bin {op : Bop} : Ok (evM C (.bin op x y) false r h) Q ↔ Ok (evM C x false r h) fun u h => Ok (evM C y false r h) fun v h => Ok (binop op u v h) Q := by
  rw [evM, asT_f, ok_bind]
  exact ok_congr fun u h => ok_bind
theorem e_cmp {op : Cop} : Ok (evM C (.cmp op x y) false r h) Q ↔ Ok (evM C x false r h) fun u h => Ok (evM C y false r h) fun v h => Ok (cmpC C op u v h) Q := by
  rw [evM, asT_f, ok_bind]
  exact ok_congr fun u h => ok_bind
theorem e_neg : Ok (evM C (.neg x) false r h) Q ↔ Ok (evM C x false r h) fun u h => ∃ i, u = .int i ∧ Q (.int (-i)) h := by
  rw [evM, asT_f, ok_bind]
  exact ok_congr fun u h => by
    cases u with
    | int i => exact ⟨fun q => ⟨i, rfl, q⟩, fun ⟨j, e, q⟩ => by cases e; exact q⟩
    | _ => exact ⟨fun q => False.elim q, fun ⟨j, e, q⟩ => nomatch e⟩
theorem e_notF : Ok (evM C (.not x) false r h) Q ↔ Ok (evM C x false r h) fun u h => TR h u fun v h => ∃ b, v = .bl b ∧ Q (.bl (!b)) h := by
  rw [evM, ok_bind]
  exact ok_congr fun u h => by
    unfold TR
    cases tru h u with
    | none => exact ⟨fun q => False.elim q, fun ⟨b, e, q⟩ => nomatch e⟩
    | some b => exact ⟨fun q => ⟨b, rfl, b, rfl, q⟩, fun ⟨c, e, c', e', q⟩ => by cases e; cases e'; exact q⟩
theorem e_notT : Ok (evM C (.not x) true r h) Q ↔ Ok (evM C x true r h) fun u h => ∃ b, u = .bl b ∧ Q (.bl (!b)) h := by
  rw [evM, ok_bind]
  exact ok_congr fun u h => by
    cases u with
    | bl b => exact ⟨fun q => ⟨b, rfl, q⟩, fun ⟨c, e, q⟩ => by cases e; exact q⟩
    | _ => exact ⟨fun q => False.elim q, fun ⟨j, e, q⟩ => nomatch e⟩
theorem e_andT : Ok (evM C (.and x y) true r h) Q ↔ Ok (evM C x true r h) fun u h => BR u (Ok (evM C y true r h) Q) (Q (.bl false) h) := by
  rw [evM, ok_bind]
  exact ok_congr fun u h => by
    cases u with
    | bl b => cases b <;> exact Iff.rfl
    | _ => exact Iff.rfl
theorem e_orT : Ok (evM C (.or x y) true r h) Q ↔ Ok (evM C x true r h) fun u h => BR u (Q (.bl true) h) (Ok (evM C y true r h) Q) := by
  rw [evM, ok_bind]
  exact ok_congr fun u h => by
    cases u with
    | bl b => cases b <;> exact Iff.rfl
    | _ => exact Iff.rfl
theorem e_andF : Ok (evM C (.and x y) false r h) Q ↔ Ok (evM C x false r h) fun u h => TR h u fun b h => BR b (Ok (evM C y false r h) Q) (Q u h) := by
  rw [evM, ok_bind]
  exact ok_congr fun u h => by
    unfold TR
    cases tru h u with
    | none => exact ⟨fun q => False.elim q, fun ⟨b, e, q⟩ => nomatch e⟩
    | some b => cases b <;> exact ⟨fun q => ⟨_, rfl, q⟩, fun ⟨c, e, q⟩ => by cases e; exact q⟩
theorem e_orF : Ok (evM C (.or x y) false r h) Q ↔ Ok (evM C x false r h) fun u h => TR h u fun b h => BR b (Q u h) (Ok (evM C y false r h) Q) := by
  rw [evM, ok_bind]
  exact ok_congr fun u h => by
    unfold TR
    cases tru h u with
    | none => exact ⟨fun q => False.elim q, fun ⟨b, e, q⟩ => nomatch e⟩
    | some b => cases b <;> exact ⟨fun q => ⟨_, rfl, q⟩, fun ⟨c, e, q⟩ => by cases e; exact q⟩
theorem e_ite {m : Bool} : Ok (evM C (.ite z x y) m r h) Q ↔ Ok (evM C z true r h) fun u h => BR u (Ok (evM C x m r h) Q) (Ok (evM C y m r h) Q) := by
  rw [evM, ok_bind]
  exact ok_congr fun u h => by
    cases u with
    | bl b => cases b <;> exact Iff.rfl
    | _ => exact Iff.rfl
theorem e_chain {o1 o2 : Cop} : Ok (evM C (.chain o1 o2 x y z) false r h) Q ↔ Ok (evM C x false r h) fun u h => Ok (evM C y false r h) fun v h => Ok (cmpop o1 u v h) fun t h => BR t (Ok (evM C z false r h) fun w h => Ok (cmpop o2 v w h) Q) (Q (.bl false) h) := by
  rw [evM, asT_f, ok_bind]
  refine ok_congr fun u h => ?_
  rw [ok_bind]
  refine ok_congr fun v h => ?_
  rw [ok_bind]
  refine ok_congr fun t h => ?_
  cases t with
  | bl b =>
    cases b
    · exact Iff.rfl
    · exact ok_bind
  | _ => exact Iff.rfl
theorem e_att {f : String} : Ok (evM C (.att x f) false r h) Q ↔ Ok (evM C x false r h) fun u h => Ok (attV f u h) Q := by
  rw [evM, asT_f, ok_bind]
theorem e_sub : Ok (evM C (.sub x y) false r h) Q ↔ Ok (evM C x false r h) fun u h => Ok (evM C y false r h) fun v h => Ok (subV u v h) Q := by
  rw [evM, asT_f, ok_bind]
  exact ok_congr fun u h => ok_bind
def OI (C : Cs) (y : Ex) (r : Rho) (h : Hm) (Q : Option Int → Hm → Prop) : Prop := if isAbs y then Q none h else Ok (evM C y false r h) fun v h => ∃ i, v = .int i ∧ Q (some i) h
theorem oi_ok {Q : Option Int → Hm → Prop} : Ok (if isAbs y then .ok none h else intR (evM C y false r h)) Q ↔ OI C y r h Q := by
  unfold OI
  split
  · exact Iff.rfl
  · unfold intR
    rw [ok_bind]
    exact ok_congr fun v h => by
      cases v with
      | int i => exact ⟨fun q => ⟨i, rfl, q⟩, fun ⟨j, e, q⟩ => by cases e; exact q⟩
      | _ => exact ⟨fun q => False.elim q, fun ⟨j, e, q⟩ => nomatch e⟩
theorem oi_n {Q : Option Int → Hm → Prop} : OI C (.cst .non) r h Q ↔ Q none h := Iff.rfl
theorem oi_s {Q : Option Int → Hm → Prop} (hy : isAbs y = false) : OI C y r h Q ↔ Ok (evM C y false r h) fun v h => ∃ i, v = .int i ∧ Q (some i) h := by
  unfold OI
  rw [hy]
  exact Iff.rfl
theorem e_slc {lv : Bool} : Ok (evM C (.slc lv x y z) false r h) Q ↔ Ok (evM C x false r h) fun u h => OI C y r h fun lo h => OI C z r h fun hi h => Ok (slcV lv u lo hi h) Q := by
  rw [evM, asT_f, ok_bind]
  refine ok_congr fun u h => ?_
  exact ok_bind.trans ((ok_congr fun lo h => ok_bind.trans oi_ok).trans oi_ok)
/-- the parameters are laid out -/
def SR (vs : List Vl) (pm : List Src) (Q : List Vl → Prop) : Prop := ∃ l, srcs vs pm = some l ∧ Q l
theorem ok_pure {x : Res Vl} : Ok (pureR x h) Q ↔ Ok x fun v _ => clo v = true ∧ Q v h := by
  unfold pureR
  cases x with
  | ok v h' =>
    dsimp only
    by_cases hc : clo v = true
    · rw [if_pos hc]
      exact ⟨fun q => ⟨hc, q⟩, fun q => q.2⟩
    · rw [if_neg hc]
      exact ⟨fun q => False.elim q, fun q => (hc q.1).elim⟩
  | exc c fs h' => exact Iff.rfl
  | bad => exact Iff.rfl
theorem e_call {f : String} {pm : List Src} : Ok (evM C (.call f es pm) false r h) Q ↔ Ok (evs C es r h) fun vs h => SR vs pm fun l => Ok (C.fn "" f l h) Q := by
  rw [evM, asT_f, ok_bind]
  exact ok_congr fun vs h => by
    unfold SR
    cases srcs vs pm with
    | none => exact ⟨fun q => False.elim q, fun ⟨j, e, q⟩ => nomatch e⟩
    | some l => exact ⟨fun q => ⟨l, rfl, q⟩, fun ⟨j, e, q⟩ => by cases e; exact q⟩
theorem e_callp {f : String} {pm : List Src} : Ok (evM C (.callp f es pm) false r h) Q ↔ Ok (evs C es r h) fun vs h => clos vs = true ∧ SR vs pm fun l => Ok (C.fn "" f l []) fun v _ => clo v = true ∧ Q v h := by
  rw [evM, asT_f, ok_bind]
  exact ok_congr fun vs h => by
    by_cases hc : clos vs = true
    · rw [if_pos hc]
      unfold SR
      cases srcs vs pm with
      | none => exact ⟨fun q => False.elim q, fun ⟨_, j, e, q⟩ => nomatch e⟩
      | some l =>
        refine ⟨fun q => ⟨hc, l, rfl, ok_pure.mp q⟩, fun ⟨_, j, e, q⟩ => ?_⟩
        cases e
        exact ok_pure.mpr q
    · rw [if_neg hc]
      exact ⟨fun q => False.elim q, fun q => (hc q.1).elim⟩
theorem e_mkp {c : String} {pm : List Src} : Ok (evM C (.mkp c es pm) false r h) Q ↔ Ok (evs C es r h) fun vs h => clos vs = true ∧ SR (.ref 0 :: vs) pm fun l => Ok (mkV C c true l []) fun v _ => clo v = true ∧ Q v h := by
  rw [evM, asT_f, ok_bind]
  exact ok_congr fun vs h => by
    by_cases hc : clos vs = true
    · rw [if_pos hc]
      unfold SR
      cases srcs (.ref 0 :: vs) pm with
      | none => exact ⟨fun q => False.elim q, fun ⟨_, j, e, q⟩ => nomatch e⟩
      | some l =>
        refine ⟨fun q => ⟨hc, l, rfl, ok_pure.mp q⟩, fun ⟨_, j, e, q⟩ => ?_⟩
        cases e
        exact ok_pure.mpr q
    · rw [if_neg hc]
      exact ⟨fun q => False.elim q, fun q => (hc q.1).elim⟩
theorem e_methp {f : String} {pm : List Src} : Ok (evM C (.methp x f es pm) false r h) Q ↔ Ok (evM C x false r h) fun u h => ∃ c fs, objOf h u = some (c, fs) ∧ getF fs f = none ∧ Ok (evs C es r h) fun vs h => clos (u :: vs) = true ∧ SR (u :: vs) pm fun l => Ok (C.fn c f l []) fun v _ => clo v = true ∧ Q v h := by
  rw [evM, asT_f, ok_bind]
  refine ok_congr fun u h => ?_
  cases objOf h u with
  | none => exact ⟨fun q => False.elim q, fun ⟨c, fs, e, q⟩ => nomatch e⟩
  | some p =>
    obtain ⟨c, fs⟩ := p
    dsimp only
    cases e2 : getF fs f with
    | some v => exact ⟨fun q => False.elim q, fun ⟨c', fs', e, q, _⟩ => by cases e; rw [e2] at q; cases q⟩
    | none =>
      have key : Ok ((evs C es r h).bind fun vs h => (if clos (u :: vs) then (match srcs (u :: vs) pm with
      | some vs => pureR (C.fn c f vs []) h
      | none => .bad) else .bad)) Q ↔ Ok (evs C es r h) fun vs h => clos (u :: vs) = true ∧ SR (u :: vs) pm fun l => Ok (C.fn c f l []) fun v _ => clo v = true ∧ Q v h := by
        rw [ok_bind]
        exact ok_congr fun vs h => by
          by_cases hc : clos (u :: vs) = true
          · rw [if_pos hc]
            unfold SR
            cases srcs (u :: vs) pm with
            | none => exact ⟨fun q => False.elim q, fun ⟨_, j, e, q⟩ => nomatch e⟩
            | some l =>
              refine ⟨fun q => ⟨hc, l, rfl, ok_pure.mp q⟩, fun ⟨_, j, e, q⟩ => ?_⟩
              cases e
              exact ok_pure.mpr q
          · rw [if_neg hc]
            exact ⟨fun q => False.elim q, fun q => (hc q.1).elim⟩
      exact ⟨fun q => ⟨c, fs, rfl, e2, key.mp q⟩, fun ⟨c', fs', e, _, q⟩ => by cases e; exact key.mpr q⟩
theorem e_meth {f : String} {pm : List Src} : Ok (evM C (.meth x f es pm) false r h) Q ↔ Ok (evM C x false r h) fun u h => ∃ c fs, objOf h u = some (c, fs) ∧ getF fs f = none ∧ Ok (evs C es r h) fun vs h => SR (u :: vs) pm fun l => Ok (C.fn c f l h) Q := by
  rw [evM, asT_f, ok_bind]
  refine ok_congr fun u h => ?_
  cases objOf h u with
  | none => exact ⟨fun q => False.elim q, fun ⟨c, fs, e, q⟩ => nomatch e⟩
  | some p =>
    obtain ⟨c, fs⟩ := p
    dsimp only
    cases e2 : getF fs f with
    | some v => exact ⟨fun q => False.elim q, fun ⟨c', fs', e, q, _⟩ => by cases e; rw [e2] at q; cases q⟩
    | none =>
      have key : Ok ((evs C es r h).bind fun vs h => (match srcs (u :: vs) pm with
      | some vs => C.fn c f vs h
      | none => .bad)) Q ↔ Ok (evs C es r h) fun vs h => SR (u :: vs) pm fun l => Ok (C.fn c f l h) Q := by
        rw [ok_bind]
        exact ok_congr fun vs h => by
          unfold SR
          cases srcs (u :: vs) pm with
          | none => exact ⟨fun q => False.elim q, fun ⟨j, e, q⟩ => nomatch e⟩
          | some l => exact ⟨fun q => ⟨l, rfl, q⟩, fun ⟨j, e, q⟩ => by cases e; exact q⟩
      exact ⟨fun q => ⟨c, fs, rfl, e2, key.mp q⟩, fun ⟨c', fs', e, _, q⟩ => by cases e; exact key.mpr q⟩
theorem e_blt {f : String} : Ok (evM C (.blt f es) false r h) Q ↔ Ok (evs C es r h) fun vs h => Ok (bltC C f vs h) Q := by
  rw [evM, asT_f, ok_bind]
theorem e_bm {f : String} : Ok (evM C (.bm x f es) false r h) Q ↔ Ok (evM C x false r h) fun u h => bmChk (bmTy f es.length) u h = true ∧ Ok (evs C es r h) fun vs h => Ok (bmF f u vs h) Q := by
  rw [evM, asT_f, ok_bind]
  refine ok_congr fun u h => ?_
  by_cases hc : bmChk (bmTy f es.length) u h = true
  · rw [if_pos hc, ok_bind]
    exact ⟨fun q => ⟨hc, q⟩, fun q => q.2⟩
  · rw [if_neg hc]
    exact ⟨fun q => False.elim q, fun q => (hc q.1).elim⟩
theorem e_nil {Q : List Vl → Hm → Prop} : Ok (evs C [] r h) Q ↔ Q [] h := by
  rw [evs]
  exact Iff.rfl
theorem e_cons {Q : List Vl → Hm → Prop} : Ok (evs C (x :: es) r h) Q ↔ Ok (evM C x false r h) fun v h => Ok (evs C es r h) fun vs h => Q (v :: vs) h := by
  rw [evs, ok_bind]
  exact ok_congr fun u h => ok_bind
/-- one turn of a comprehension -/
def cBody (C : Cs) (elt : Ex) (p : Pt) (cond : Ex) (own : List Nat) (r : Rho) (x : Vl) (h : Hm) : Res (Option Vl) := lcBody C elt p cond own r x h
theorem e_lc {p : Pt} {it cond : Ex} {own : List Nat} : Ok (evM C (.lc true x p it cond own) false r h) Q ↔ Ok (evM C it false r h) fun v h => ∃ J, itOf h v = some J ∧ Ok (loopC J h.length (lcBody C x p cond own r) FUEL 0 (h ++ [.lst []])) fun _ h' => Q (.ref h.length) h' := by
  rw [evM, asT_f, ok_bind]
  refine ok_congr fun v h => ?_
  cases itOf h v with
  | none => exact ⟨fun q => False.elim q, fun ⟨j, e, q⟩ => nomatch e⟩
  | some J =>
    have key : Ok ((loopC J h.length (lcBody C x p cond own r) FUEL 0 (h ++ [.lst []])).bind fun _ h' => .ok (.ref h.length) h') Q ↔ Ok (loopC J h.length (lcBody C x p cond own r) FUEL 0 (h ++ [.lst []])) fun _ h' => Q (.ref h.length) h' := ok_bind
    exact ⟨fun q => ⟨J, rfl, key.mp q⟩, fun ⟨j, e, q⟩ => by cases e; exact key.mpr q⟩
theorem e_lcF {p : Pt} {it cond : Ex} {own : List Nat} : Ok (evM C (.lc false x p it cond own) false r h) Q ↔ Ok (evM C it false r h) fun v h => ∃ J, itOf h v = some J ∧ Ok (loopP J (lcBody C x p cond own r) FUEL 0 [] h) fun acc h' => Q (.fl acc) h' := by
  rw [evM, asT_f, ok_bind]
  refine ok_congr fun v h => ?_
  cases itOf h v with
  | none => exact ⟨fun q => False.elim q, fun ⟨j, e, q⟩ => nomatch e⟩
  | some J =>
    have key : Ok ((loopP J (lcBody C x p cond own r) FUEL 0 [] h).bind fun acc h' => .ok (.fl acc) h') Q ↔ Ok (loopP J (lcBody C x p cond own r) FUEL 0 [] h) fun acc h' => Q (.fl acc) h' := ok_bind
    exact ⟨fun q => ⟨J, rfl, key.mp q⟩, fun ⟨j, e, q⟩ => by cases e; exact key.mpr q⟩
theorem lcb {p : Pt} {cond : Ex} {own : List Nat} {v : Vl} {Q : Option Vl → Hm → Prop} : Ok (lcBody C x p cond own r v h) Q ↔ ∃ r', bindP p v (wipe r own) = some r' ∧ Ok (evM C cond true r' h) fun b h => BR b (Ok (evM C x false r' h) fun y h => Q (some y) h) (Q none h) := by
  unfold lcBody
  cases bindP p v (wipe r own) with
  | none => exact ⟨fun q => False.elim q, fun ⟨j, e, q⟩ => nomatch e⟩
  | some r' =>
    have key : Ok ((evM C cond true r' h).bind fun b h => (match b with
    | .bl true => (evM C x false r' h).bind fun y h => .ok (some y) h
    | .bl false => .ok none h
    | _ => .bad)) Q ↔ Ok (evM C cond true r' h) fun b h => BR b (Ok (evM C x false r' h) fun y h => Q (some y) h) (Q none h) := by
      rw [ok_bind]
      exact ok_congr fun u h => by
        cases u with
        | bl b =>
          cases b
          · exact Iff.rfl
          · exact ok_bind
        | _ => exact Iff.rfl
    exact ⟨fun q => ⟨r', rfl, key.mp q⟩, fun ⟨j, e, q⟩ => by cases e; exact key.mpr q⟩
end
/-! ### statements -/
section
variable {Q : Flow → Hm → Prop} {x y z : Ex} {sa sb : List Sm}
theorem x_expr : Ok (ex C (.expr x) r h) Q ↔ Ok (evM C x false r h) fun _ h => Q (.nx r) h := by
  rw [ex, ok_bind]
  exact Iff.rfl
theorem x_asg {t : Tg} : Ok (ex C (.asg t x) r h) Q ↔ Ok (evM C x false r h) fun v h => Ok (asg C t v r h) fun r h => Q (.nx r) h := by
  rw [ex, ok_bind]
  exact ok_congr fun u h => ok_bind
theorem x_ret : Ok (ex C (.ret x) r h) Q ↔ Ok (evM C x false r h) fun v h => Q (.rt v) h := by
  rw [ex, ok_bind]
  exact Iff.rfl
theorem x_ite : Ok (ex C (.ite x sa sb) r h) Q ↔ Ok (evM C x true r h) fun b h => BR b (Ok (exs C sa r h) Q) (Ok (exs C sb r h) Q) := by
  rw [ex, ok_bind]
  exact ok_congr fun u h => by
    cases u with
    | bl b => cases b <;> exact Iff.rfl
    | _ => exact Iff.rfl
theorem x_pass : Ok (ex C .pass r h) Q ↔ Q (.nx r) h := by
  rw [ex]
  exact Iff.rfl
theorem x_for {p : Pt} {it : Ex} {b : List Sm} : Ok (ex C (.for_ p it b) r h) Q ↔ Ok (evM C it false r h) fun v h => ∃ J, itOf h v = some J ∧ Ok (loopF J (fun x r h => match bindP p x r with
      | some r => exs C b r h
      | none => .bad) FUEL 0 r h) Q := by
  rw [ex, ok_bind]
  refine ok_congr fun v h => ?_
  cases itOf h v with
  | none => exact ⟨fun q => False.elim q, fun ⟨j, e, q⟩ => nomatch e⟩
  | some J => exact ⟨fun q => ⟨J, rfl, q⟩, fun ⟨j, e, q⟩ => by cases e; exact q⟩
variable {Qr : Rho → Hm → Prop}
theorem t_name {i : Nat} {v : Vl} : Ok (asg C (.name i) v r h) Qr ↔ Qr (r.set i (some v)) h := by
  rw [asg]
  exact Iff.rfl
theorem t_att {f : String} {v : Vl} : Ok (asg C (.att x f) v r h) Qr ↔ Ok (evM C x false r h) fun u h => Ok (setF u f v h) fun _ h => Qr r h := by
  rw [asg, ok_bind]
  exact ok_congr fun u h => ok_bind
theorem t_sub {v : Vl} : Ok (asg C (.sub x y) v r h) Qr ↔ Ok (evM C x false r h) fun u h => Ok (evM C y false r h) fun w h => Ok (setV u w v h) fun _ h => Qr r h := by
  rw [asg, ok_bind]
  exact ok_congr fun u h => by
    rw [ok_bind]
    exact ok_congr fun u h => ok_bind
theorem t_tup {ts : List Tg} {vs : List Vl} : Ok (asg C (.tup ts) (.tup vs) r h) Qr ↔ Ok (asgs C ts vs r h) Qr := by
  unfold asg
  exact Iff.rfl
theorem t_fl {ts : List Tg} {vs : List Vl} : Ok (asg C (.tup ts) (.fl vs) r h) Qr ↔ Ok (asgs C ts vs r h) Qr := by
  unfold asg
  exact Iff.rfl
theorem t_nil : Ok (asgs C [] [] r h) Qr ↔ Qr r h := by
  rw [asgs]
  exact Iff.rfl
theorem t_cons {t : Tg} {ts : List Tg} {v : Vl} {vs : List Vl} : Ok (asgs C (t :: ts) (v :: vs) r h) Qr ↔ Ok (asg C t v r h) fun r h => Ok (asgs C ts vs r h) Qr := by
  rw [asgs, ok_bind]
end
/-! ### operators upon values -/
section
variable {Q : Vl → Hm → Prop} {i j : Int} {s t : Tx} {a : Nat} {xs ys : List Vl}
theorem o_add : Ok (binop .add (.int i) (.int j) h) Q ↔ Q (.int (i + j)) h := Iff.rfl
theorem o_addS : Ok (binop .add (.str s) (.str t) h) Q ↔ s.length + t.length ≤ LIM ∧ Q (.str (s ++ t)) h := by
  show Ok (if s.length + t.length ≤ LIM then Res.ok (Vl.str (s ++ t)) h else .bad) Q ↔ _
  split
  · rename_i hl
    exact ⟨fun q => ⟨hl, q⟩, fun q => q.2⟩
  · rename_i hl
    exact ⟨fun q => False.elim q, fun q => (hl q.1).elim⟩
theorem o_addT : Ok (binop .add (.tup xs) (.tup ys) h) Q ↔ xs.length + ys.length ≤ LIM ∧ Q (.tup (xs ++ ys)) h := by
  show Ok (if xs.length + ys.length ≤ LIM then Res.ok (Vl.tup (xs ++ ys)) h else .bad) Q ↔ _
  split
  · rename_i hl
    exact ⟨fun q => ⟨hl, q⟩, fun q => q.2⟩
  · rename_i hl
    exact ⟨fun q => False.elim q, fun q => (hl q.1).elim⟩
theorem o_addF : Ok (binop .add (.fl xs) (.fl ys) h) Q ↔ xs.length + ys.length ≤ LIM ∧ Q (.fl (xs ++ ys)) h := by
  show Ok (if xs.length + ys.length ≤ LIM then Res.ok (Vl.fl (xs ++ ys)) h else .bad) Q ↔ _
  split
  · rename_i hl
    exact ⟨fun q => ⟨hl, q⟩, fun q => q.2⟩
  · rename_i hl
    exact ⟨fun q => False.elim q, fun q => (hl q.1).elim⟩
theorem o_sub : Ok (binop .sub (.int i) (.int j) h) Q ↔ Q (.int (i - j)) h := Iff.rfl
theorem o_mul : Ok (binop .mul (.int i) (.int j) h) Q ↔ mulOk i j = true ∧ Q (.int (i * j)) h := by
  show Ok (if mulOk i j then Res.ok (Vl.int (i * j)) h else .bad) Q ↔ _
  split
  · rename_i hl
    exact ⟨fun q => ⟨hl, q⟩, fun q => q.2⟩
  · rename_i hl
    exact ⟨fun q => False.elim q, fun q => (hl q.1).elim⟩
theorem o_div : Ok (binop .fdiv (.int i) (.int j) h) Q ↔ (0 < j ∧ j < 1073741824) ∧ Q (.int (i / j)) h := by
  show Ok (if 0 < j ∧ j < 1073741824 then Res.ok (Vl.int (i / j)) h else .bad) Q ↔ _
  split
  · rename_i hl
    exact ⟨fun q => ⟨hl, q⟩, fun q => q.2⟩
  · rename_i hl
    exact ⟨fun q => False.elim q, fun q => (hl q.1).elim⟩
theorem o_mod : Ok (binop .mod (.int i) (.int j) h) Q ↔ 0 < j ∧ Q (.int (i % j)) h := by
  show Ok (if 0 < j then Res.ok (Vl.int (i % j)) h else .bad) Q ↔ _
  split
  · rename_i hl
    exact ⟨fun q => ⟨hl, q⟩, fun q => q.2⟩
  · rename_i hl
    exact ⟨fun q => False.elim q, fun q => (hl q.1).elim⟩
theorem o_pow : Ok (binop .pow (.int i) (.int j) h) Q ↔ (0 ≤ j ∧ j ≤ 64 ∧ i.natAbs < 2 ^ 4000) ∧ Q (.int (i ^ j.toNat)) h := by
  show Ok (if 0 ≤ j ∧ j ≤ 64 ∧ i.natAbs < 2 ^ 4000 then Res.ok (Vl.int (i ^ j.toNat)) h else .bad) Q ↔ _
  split
  · rename_i hl
    exact ⟨fun q => ⟨hl, q⟩, fun q => q.2⟩
  · rename_i hl
    exact ⟨fun q => False.elim q, fun q => (hl q.1).elim⟩
theorem c_lt : Ok (cmpop .lt (.int i) (.int j) h) Q ↔ Q (.bl (decide (i < j))) h := Iff.rfl
theorem c_gt : Ok (cmpop .gt (.int i) (.int j) h) Q ↔ Q (.bl (decide (j < i))) h := Iff.rfl
theorem c_le : Ok (cmpop .le (.int i) (.int j) h) Q ↔ Q (.bl (decide (i ≤ j))) h := Iff.rfl
theorem c_ge : Ok (cmpop .ge (.int i) (.int j) h) Q ↔ Q (.bl (decide (j ≤ i))) h := Iff.rfl
theorem c_leS : Ok (cmpop .le (.str s) (.str t) h) Q ↔ Q (.bl (!decide (t < s))) h := Iff.rfl
theorem c_ltS : Ok (cmpop .lt (.str s) (.str t) h) Q ↔ Q (.bl (decide (s < t))) h := Iff.rfl
def OB (o : Option Bool) (h : Hm) (Q : Vl → Hm → Prop) : Prop := ∃ b, o = some b ∧ Q (.bl b) h
theorem bres_iff {o : Option Bool} : Ok (bres o h) Q ↔ OB o h Q := by
  cases o with
  | none => exact ⟨fun q => False.elim q, fun ⟨b, e, q⟩ => nomatch e⟩
  | some b => exact ⟨fun q => ⟨b, rfl, q⟩, fun ⟨c, e, q⟩ => by cases e; exact q⟩
theorem c_eq {u v : Vl} : Ok (cmpop .eq u v h) Q ↔ OB (eqV h u v) h Q := bres_iff
theorem c_ne {u v : Vl} : Ok (cmpop .ne u v h) Q ↔ OB ((eqV h u v).map (!·)) h Q := bres_iff
theorem c_in {u v : Vl} : Ok (cmpop .isin u v h) Q ↔ OB (inV h u v) h Q := bres_iff
theorem c_nin {u v : Vl} : Ok (cmpop .notin u v h) Q ↔ OB ((inV h u v).map (!·)) h Q := bres_iff
theorem c_is {u : Vl} : Ok (cmpop .is u .non h) Q ↔ Q (.bl (isNon u)) h := by
  cases u <;> exact Iff.rfl
theorem c_isn {u : Vl} : Ok (cmpop .isnot u .non h) Q ↔ Q (.bl (!isNon u)) h := by
  cases u <;> exact Iff.rfl
theorem s_ref : Ok (subV (.ref a) (.int i) h) Q ↔ ∃ xs, h[a]? = some (.lst xs) ∧ ∃ v, Mi.atI xs i = some v ∧ Q v h := by
  unfold subV seqOf
  dsimp only
  cases h[a]? with
  | none => exact ⟨fun q => False.elim q, fun ⟨_, e, _⟩ => nomatch e⟩
  | some o =>
    cases o with
    | lst xs =>
      dsimp only
      cases z : Mi.atI xs i with
      | none => exact ⟨fun q => False.elim q, fun ⟨_, e1, b, e, q⟩ => by cases e1; rw [z] at e; cases e⟩
      | some b => exact ⟨fun q => ⟨xs, rfl, b, z, q⟩, fun ⟨_, e1, c, e, q⟩ => by cases e1; rw [z] at e; cases e; exact q⟩
    | _ => exact ⟨fun q => False.elim q, fun ⟨_, e, _⟩ => nomatch e⟩
theorem s_tup : Ok (subV (.tup xs) (.int i) h) Q ↔ ∃ v, Mi.atI xs i = some v ∧ Q v h := by
  unfold subV seqOf
  dsimp only
  cases Mi.atI xs i with
  | none => exact ⟨fun q => False.elim q, fun ⟨b, e, q⟩ => nomatch e⟩
  | some b => exact ⟨fun q => ⟨b, rfl, q⟩, fun ⟨c, e, q⟩ => by cases e; exact q⟩
theorem s_fl : Ok (subV (.fl xs) (.int i) h) Q ↔ ∃ v, Mi.atI xs i = some v ∧ Q v h := by
  unfold subV seqOf
  dsimp only
  cases Mi.atI xs i with
  | none => exact ⟨fun q => False.elim q, fun ⟨b, e, q⟩ => nomatch e⟩
  | some b => exact ⟨fun q => ⟨b, rfl, q⟩, fun ⟨c, e, q⟩ => by cases e; exact q⟩
theorem s_scr {ns : List Int} : Ok (subV (.scr ns) (.int i) h) Q ↔ ∃ v, Mi.atI (ns.map Vl.int) i = some v ∧ Q v h := by
  unfold subV seqOf
  dsimp only
  cases Mi.atI (ns.map Vl.int) i with
  | none => exact ⟨fun q => False.elim q, fun ⟨b, e, q⟩ => nomatch e⟩
  | some b => exact ⟨fun q => ⟨b, rfl, q⟩, fun ⟨c, e, q⟩ => by cases e; exact q⟩
theorem s_str : Ok (subV (.str s) (.int i) h) Q ↔ s.length ≤ LIM ∧ ∃ c, Mi.atI s i = some c ∧ Q (.str [c]) h := by
  show Ok (if s.length ≤ LIM then (match Mi.atI s i with
    | some c => Res.ok (.str [c]) h
    | none => .bad) else .bad) Q ↔ _
  split
  · rename_i hl
    cases Mi.atI s i with
    | none => exact ⟨fun q => False.elim q, fun ⟨_, b, e, q⟩ => nomatch e⟩
    | some b => exact ⟨fun q => ⟨hl, b, rfl, q⟩, fun ⟨_, c, e, q⟩ => by cases e; exact q⟩
  · rename_i hl
    exact ⟨fun q => False.elim q, fun q => (hl q.1).elim⟩
theorem s_set {v : Vl} {Q : Unit → Hm → Prop} : Ok (setV (.ref a) (.int i) v h) Q ↔ ∃ xs, h[a]? = some (.lst xs) ∧ ∃ k, Mi.ixN xs.length i = some k ∧ Q () (h.set a (.lst (xs.set k v))) := by
  unfold setV
  dsimp only
  cases h[a]? with
  | none => exact ⟨fun q => False.elim q, fun ⟨_, e, _⟩ => nomatch e⟩
  | some o =>
    cases o with
    | lst xs =>
      dsimp only
      cases z : Mi.ixN xs.length i with
      | none => exact ⟨fun q => False.elim q, fun ⟨_, e1, b, e, q⟩ => by cases e1; rw [z] at e; cases e⟩
      | some b => exact ⟨fun q => ⟨xs, rfl, b, z, q⟩, fun ⟨_, e1, c, e, q⟩ => by cases e1; rw [z] at e; cases e; exact q⟩
    | dct kvs => exact ⟨fun q => False.elim q, fun ⟨_, e, _⟩ => nomatch e⟩
    | dead => exact ⟨fun q => False.elim q, fun ⟨_, e, _⟩ => nomatch e⟩
    | inst c fs => exact ⟨fun q => False.elim q, fun ⟨_, e, _⟩ => nomatch e⟩
theorem f_fn {P : Prg} {d : Nat} {c f : String} {vs : List Vl} : Ok ((csOf P d).fn c f vs h) Q ↔ Ok (callP P d c f vs h) Q := Iff.rfl
end
theorem eT_var {Q : Vl → Hm → Prop} {i : Nat} : Ok (evM C (.var i) true r h) Q ↔ Ok (evM C (.var i) false r h) fun v h => TR h v Q := e_T rfl
theorem eT_cst {Q : Vl → Hm → Prop} {v : Vl} : Ok (evM C (.cst v) true r h) Q ↔ Ok (evM C (.cst v) false r h) fun v h => TR h v Q := e_T rfl
theorem eT_tup {Q : Vl → Hm → Prop} {es : List Ex} : Ok (evM C (.tupE es) true r h) Q ↔ Ok (evM C (.tupE es) false r h) fun v h => TR h v Q := e_T rfl
theorem eT_lst {Q : Vl → Hm → Prop} {lv : Bool} {es : List Ex} : Ok (evM C (.lstE lv es) true r h) Q ↔ Ok (evM C (.lstE lv es) false r h) fun v h => TR h v Q := e_T rfl
theorem eT_bin {Q : Vl → Hm → Prop} {op : Bop} {x y : Ex} : Ok (evM C (.bin op x y) true r h) Q ↔ Ok (evM C (.bin op x y) false r h) fun v h => TR h v Q := e_T rfl
theorem eT_cmp {Q : Vl → Hm → Prop} {op : Cop} {x y : Ex} : Ok (evM C (.cmp op x y) true r h) Q ↔ Ok (evM C (.cmp op x y) false r h) fun v h => TR h v Q := e_T rfl
theorem eT_chain {Q : Vl → Hm → Prop} {o1 o2 : Cop} {x y z : Ex} : Ok (evM C (.chain o1 o2 x y z) true r h) Q ↔ Ok (evM C (.chain o1 o2 x y z) false r h) fun v h => TR h v Q := e_T rfl
theorem eT_att {Q : Vl → Hm → Prop} {x : Ex} {f : String} : Ok (evM C (.att x f) true r h) Q ↔ Ok (evM C (.att x f) false r h) fun v h => TR h v Q := e_T rfl
theorem eT_sub {Q : Vl → Hm → Prop} {x y : Ex} : Ok (evM C (.sub x y) true r h) Q ↔ Ok (evM C (.sub x y) false r h) fun v h => TR h v Q := e_T rfl
theorem eT_slc {Q : Vl → Hm → Prop} {lv : Bool} {x y z : Ex} : Ok (evM C (.slc lv x y z) true r h) Q ↔ Ok (evM C (.slc lv x y z) false r h) fun v h => TR h v Q := e_T rfl
theorem eT_call {Q : Vl → Hm → Prop} {f : String} {es : List Ex} {pm : List Src} : Ok (evM C (.call f es pm) true r h) Q ↔ Ok (evM C (.call f es pm) false r h) fun v h => TR h v Q := e_T rfl
theorem eT_meth {Q : Vl → Hm → Prop} {x : Ex} {f : String} {es : List Ex} {pm : List Src} : Ok (evM C (.meth x f es pm) true r h) Q ↔ Ok (evM C (.meth x f es pm) false r h) fun v h => TR h v Q := e_T rfl
theorem eT_blt {Q : Vl → Hm → Prop} {f : String} {es : List Ex} : Ok (evM C (.blt f es) true r h) Q ↔ Ok (evM C (.blt f es) false r h) fun v h => TR h v Q := e_T rfl
theorem eT_bm {Q : Vl → Hm → Prop} {x : Ex} {f : String} {es : List Ex} : Ok (evM C (.bm x f es) true r h) Q ↔ Ok (evM C (.bm x f es) false r h) fun v h => TR h v Q := e_T rfl
theorem eT_lc {Q : Vl → Hm → Prop} {lv : Bool} {x : Ex} {p : Pt} {it cond : Ex} {own : List Nat} : Ok (evM C (.lc lv x p it cond own) true r h) Q ↔ Ok (evM C (.lc lv x p it cond own) false r h) fun v h => TR h v Q := e_T rfl
theorem eT_callp {Q : Vl → Hm → Prop} {f : String} {es : List Ex} {pm : List Src} : Ok (evM C (.callp f es pm) true r h) Q ↔ Ok (evM C (.callp f es pm) false r h) fun v h => TR h v Q := e_T rfl
theorem eT_methp {Q : Vl → Hm → Prop} {x : Ex} {f : String} {es : List Ex} {pm : List Src} : Ok (evM C (.methp x f es pm) true r h) Q ↔ Ok (evM C (.methp x f es pm) false r h) fun v h => TR h v Q := e_T rfl
theorem at_nat {α : Type} (xs : List α) (n : Nat) : Mi.atI xs (n : Int) = xs[n]? := by
  unfold Mi.atI Mi.ixN
  rw [if_pos (by omega)]
  by_cases hn : n < xs.length
  · rw [if_pos (by omega)]
    show xs[(n : Int).toNat]? = _
    rw [Int.toNat_natCast]
  · rw [if_neg (by omega), List.getElem?_eq_none (by omega)]
    rfl
theorem at0 {α : Type} (xs : List α) : Mi.atI xs 0 = xs[0]? := at_nat xs 0
theorem at1 {α : Type} (xs : List α) : Mi.atI xs 1 = xs[1]? := at_nat xs 1
theorem at2 {α : Type} (xs : List α) : Mi.atI xs 2 = xs[2]? := at_nat xs 2
theorem at3 {α : Type} (xs : List α) : Mi.atI xs 3 = xs[3]? := at_nat xs 3
theorem at4 {α : Type} (xs : List α) : Mi.atI xs 4 = xs[4]? := at_nat xs 4
/-- within the bounds there is an item -/
theorem at_in {α : Type} {xs : List α} {i : Int} (h0 : 0 ≤ i) (h1 : i < xs.length) : ∃ x ∈ xs, Mi.atI xs i = some x ∧ xs[i.toNat]? = some x := by
  obtain ⟨n, rfl⟩ := Int.eq_ofNat_of_zero_le h0
  have hn : n < xs.length := by omega
  refine ⟨xs[n], List.getElem_mem hn, ?_, ?_⟩
  · rw [at_nat]
    exact List.getElem?_eq_getElem hn
  · rw [Int.toNat_natCast]
    exact List.getElem?_eq_getElem hn
section
variable {a : Nat} {xs : List Vl} {x0 x1 x2 v : Vl} {Q : Unit → Hm → Prop}
theorem ix_nat (n k : Nat) : Mi.ixN n (k : Int) = if k < n then some k else none := by
  unfold Mi.ixN
  rw [if_pos (by omega)]
  by_cases hn : k < n
  · rw [if_pos (by omega), if_pos hn, Int.toNat_natCast]
  · rw [if_neg (by omega), if_neg hn]
theorem ix0 (n : Nat) : Mi.ixN n 0 = if 0 < n then some 0 else none := ix_nat n 0
theorem ix1 (n : Nat) : Mi.ixN n 1 = if 1 < n then some 1 else none := ix_nat n 1
theorem ix2 (n : Nat) : Mi.ixN n 2 = if 2 < n then some 2 else none := ix_nat n 2
theorem ix3 (n : Nat) : Mi.ixN n 3 = if 3 < n then some 3 else none := ix_nat n 3
end
end
end Mi
/-! MINI: proofs about runs: built-ins, loops -/
namespace Mi
section
variable {α β : Type} {C : Cs} {r : Rho} {h : Hm} {Q : Vl → Hm → Prop} {i j : Int} {s t : Tx} {a : Nat} {xs ys : List Vl}
theorem opt_ok {o : Option α} {f : α → Res β} {Q : β → Hm → Prop} : Ok (match o with
    | some x => f x
    | none => .bad) Q ↔ ∃ x, o = some x ∧ Ok (f x) Q := by
  cases o with
  | none => exact ⟨fun q => False.elim q, fun ⟨b, e, q⟩ => nomatch e⟩
  | some b => exact ⟨fun q => ⟨b, rfl, q⟩, fun ⟨c, e, q⟩ => by cases e; exact q⟩
theorem if_ok {c : Prop} [Decidable c] {x : Res α} {Q : α → Hm → Prop} : Ok (if c then x else .bad) Q ↔ c ∧ Ok x Q := by
  split
  · rename_i hl
    exact ⟨fun q => ⟨hl, q⟩, fun q => q.2⟩
  · rename_i hl
    exact ⟨fun q => False.elim q, fun q => (hl q.1).elim⟩
theorem ob_some {b : Bool} : OB (some b) h Q ↔ Q (.bl b) h := ⟨fun ⟨c, e, q⟩ => by cases e; exact q, fun q => ⟨b, rfl, q⟩⟩
theorem tr_i : TR h (.int i) Q ↔ Q (.bl (i != 0)) h := ⟨fun ⟨c, e, q⟩ => by cases e; exact q, fun q => ⟨_, rfl, q⟩⟩
theorem tr_n : TR h .non Q ↔ Q (.bl false) h := ⟨fun ⟨c, e, q⟩ => by cases e; exact q, fun q => ⟨_, rfl, q⟩⟩
theorem br_nd {A B : Prop} {c : Prop} [Decidable c] : BR (.bl (!decide c)) A B ↔ if c then B else A := by
  by_cases h : c
  · rw [if_pos h, decide_eq_true h]
    exact Iff.rfl
  · rw [if_neg h, decide_eq_false h]
    exact Iff.rfl
theorem oi_var {Q : Option Int → Hm → Prop} {k : Nat} : OI C (.var k) r h Q ↔ Ok (evM C (.var k) false r h) fun v h => ∃ i, v = .int i ∧ Q (some i) h := oi_s rfl
theorem oi_bin {Q : Option Int → Hm → Prop} {op : Bop} {x y : Ex} : OI C (.bin op x y) r h Q ↔ Ok (evM C (.bin op x y) false r h) fun v h => ∃ i, v = .int i ∧ Q (some i) h := oi_s rfl
theorem oi_sub {Q : Option Int → Hm → Prop} {x y : Ex} : OI C (.sub x y) r h Q ↔ Ok (evM C (.sub x y) false r h) fun v h => ∃ i, v = .int i ∧ Q (some i) h := oi_s rfl
theorem oi_blt {Q : Option Int → Hm → Prop} {f : String} {es : List Ex} : OI C (.blt f es) r h Q ↔ Ok (evM C (.blt f es) false r h) fun v h => ∃ i, v = .int i ∧ Q (some i) h := oi_s rfl
theorem oi_neg {Q : Option Int → Hm → Prop} {x : Ex} : OI C (.neg x) r h Q ↔ Ok (evM C (.neg x) false r h) fun v h => ∃ i, v = .int i ∧ Q (some i) h := oi_s rfl
theorem oi_call {Q : Option Int → Hm → Prop} {f : String} {es : List Ex} {pm : List Src} : OI C (.call f es pm) r h Q ↔ Ok (evM C (.call f es pm) false r h) fun v h => ∃ i, v = .int i ∧ Q (some i) h := oi_s rfl
theorem oi_att {Q : Option Int → Hm → Prop} {x : Ex} {f : String} : OI C (.att x f) r h Q ↔ Ok (evM C (.att x f) false r h) fun v h => ∃ i, v = .int i ∧ Q (some i) h := oi_s rfl
theorem oi_cint {Q : Option Int → Hm → Prop} {k : Int} : OI C (.cst (.int k)) r h Q ↔ Ok (evM C (.cst (.int k)) false r h) fun v h => ∃ i, v = .int i ∧ Q (some i) h := oi_s rfl
theorem b_len {v : Vl} : Ok (bltF "len" [v] h) Q ↔ ∃ n, lenV h v = some n ∧ Q (.int n) h := by
  show Ok (bLen [v] h) Q ↔ _
  unfold bLen
  dsimp only
  cases lenV h v with
  | none => exact ⟨fun q => False.elim q, fun ⟨b, e, q⟩ => nomatch e⟩
  | some b => exact ⟨fun q => ⟨b, rfl, q⟩, fun ⟨c, e, q⟩ => by cases e; exact q⟩
theorem b_abs : Ok (bltF "abs" [.int i] h) Q ↔ Q (.int (if i < 0 then -i else i)) h := Iff.rfl
theorem b_max : Ok (bltF "max" [.int i, .int j] h) Q ↔ Q (.int (if j > i then j else i)) h := Iff.rfl
theorem b_min : Ok (bltF "min" [.int i, .int j] h) Q ↔ Q (.int (if j < i then j else i)) h := Iff.rfl
theorem b_intI : Ok (bltF "int" [.int i] h) Q ↔ Q (.int i) h := Iff.rfl
theorem b_intB {b : Bool} : Ok (bltF "int" [.bl b] h) Q ↔ Q (.int (if b then 1 else 0)) h := Iff.rfl
theorem b_isi {v : Vl} {t : String} : Ok (bltF "isinstance" [v, .ty t] h) Q ↔ OB (isi h v t) h Q := bres_iff
theorem b_rng : Ok (bltF "range" [.int j] h) Q ↔ (-4611686018427387904 ≤ j ∧ j < 4611686018427387904) ∧ Q (.rng 0 j.toNat) h := if_ok (x := Res.ok (Vl.rng 0 j.toNat) h)
theorem b_isc {v : Vl} {c : String} : Ok (bltF "isinstance" [v, .cl c] h) Q ↔ OB (isc h v c) h Q := bres_iff
theorem b_listS : Ok (bltF "list" [.str s] h) Q ↔ s.length ≤ LIM ∧ Q (.fl (s.map fun c => .str [c])) h := if_ok (x := Res.ok (Vl.fl (s.map fun c => .str [c])) h)
theorem b_listT : Ok (bltF "list" [.tup xs] h) Q ↔ Q (.fl xs) h := Iff.rfl
theorem b_listF : Ok (bltF "list" [.fl xs] h) Q ↔ Q (.fl xs) h := Iff.rfl
theorem b_lisTL : Ok (bltF "listL" [.tup xs] h) Q ↔ Q (.ref h.length) (h ++ [.lst xs]) := Iff.rfl
theorem b_lisFL : Ok (bltF "listL" [.fl xs] h) Q ↔ Q (.ref h.length) (h ++ [.lst xs]) := Iff.rfl
theorem b_tupT : Ok (bltF "tuple" [.tup xs] h) Q ↔ Q (.tup xs) h := Iff.rfl
theorem b_tupF : Ok (bltF "tuple" [.fl xs] h) Q ↔ Q (.tup xs) h := Iff.rfl
theorem b_strI : Ok (bltF "str" [.int i] h) Q ↔ i.natAbs.log2 < 1920 ∧ Q (.str (showI i)) h := if_ok (x := Res.ok (Vl.str (showI i)) h)
theorem b_strS : Ok (bltF "str" [.str s] h) Q ↔ Q (.str s) h := Iff.rfl
theorem b_anyF {bs : List Bool} (e : bolsOf xs = some bs) : Ok (bltF "any" [.fl xs] h) Q ↔ Q (.bl (bs.any id)) h := by
  show Ok (bAny [.fl xs] h) Q ↔ _
  unfold bAny lstOf
  dsimp only
  show Ok (match (some xs).bind bolsOf with
    | some bs => Res.ok (Vl.bl (bs.any id)) h
    | none => .bad) Q ↔ _
  rw [Option.bind_some, e]
  exact Iff.rfl
theorem b_allF {bs : List Bool} (e : bolsOf xs = some bs) : Ok (bltF "all" [.fl xs] h) Q ↔ Q (.bl (bs.all id)) h := by
  show Ok (bAll [.fl xs] h) Q ↔ _
  unfold bAll lstOf
  dsimp only
  show Ok (match (some xs).bind bolsOf with
    | some bs => Res.ok (Vl.bl (bs.all id)) h
    | none => .bad) Q ↔ _
  rw [Option.bind_some, e]
  exact Iff.rfl
/-! ### what is no own thing -/
section
variable {f : String} {C : Cs} {u v : Vl} {op : Cop} {b : Bool} {ns : List Int} {kvs : List (Tx × Vl)}
theorem bc_s : bltC C f [.str s] h = bltF f [.str s] h := rfl
theorem bc_i : bltC C f [.int i] h = bltF f [.int i] h := rfl
theorem bc_b : bltC C f [.bl b] h = bltF f [.bl b] h := rfl
theorem bc_n : bltC C f [.non] h = bltF f [.non] h := rfl
theorem bc_t : bltC C f [.tup xs] h = bltF f [.tup xs] h := rfl
theorem bc_f : bltC C f [.fl xs] h = bltF f [.fl xs] h := rfl
theorem bc_c : bltC C f [.scr ns] h = bltF f [.scr ns] h := rfl
theorem bc_d : bltC C f [.fd kvs] h = bltF f [.fd kvs] h := rfl
theorem bc_2 : bltC C f [u, v] h = bltF f [u, v] h := rfl
theorem bc_r (e : h[a]? = some (.lst xs)) : bltC C f [.ref a] h = bltF f [.ref a] h := by
  have : objOf h (.ref a) = none := by
    unfold objOf
    dsimp only
    rw [e]
  unfold bltC
  dsimp only
  rw [this]
theorem cc_s : cmpC C op (.str s) v h = cmpop op (.str s) v h := by cases op <;> rfl
theorem cc_i : cmpC C op (.int i) v h = cmpop op (.int i) v h := by cases op <;> rfl
theorem cc_b : cmpC C op (.bl b) v h = cmpop op (.bl b) v h := by cases op <;> rfl
theorem cc_n : cmpC C op .non v h = cmpop op .non v h := by cases op <;> rfl
theorem cc_t : cmpC C op (.tup xs) v h = cmpop op (.tup xs) v h := by cases op <;> rfl
theorem cc_f : cmpC C op (.fl xs) v h = cmpop op (.fl xs) v h := by cases op <;> rfl
theorem cc_d : cmpC C op (.fd kvs) v h = cmpop op (.fd kvs) v h := by cases op <;> rfl
theorem cc_r (e : h[a]? = some (.lst xs)) : cmpC C op (.ref a) v h = cmpop op (.ref a) v h := by
  have : objOf h (.ref a) = none := by
    unfold objOf
    dsimp only
    rw [e]
  unfold cmpC
  rw [this]
  cases op <;> rfl
/-! ### own things -/
variable {c : String} {fs : List (String × Vl)}
theorem oc_eq (ht : typed h v = true) : Ok (cmpC C .eq (.ob c fs) v h) Q ↔ Ok (C.fn c "__eq__" [.ob c fs, v] h) fun r h => ∃ b, r = .bl b ∧ Q (.bl b) h := by
  show Ok (if typed h v = true then boolR (C.fn c "__eq__" [.ob c fs, v] h) else .bad) Q ↔ _
  rw [if_pos ht]
  unfold boolR
  rw [ok_bind]
  exact ok_congr fun r h => by
    cases r with
    | bl b => exact ⟨fun q => ⟨b, rfl, q⟩, fun ⟨c, e, q⟩ => by cases e; exact q⟩
    | _ => exact ⟨fun q => False.elim q, fun ⟨j, e, q⟩ => nomatch e⟩
theorem oc_ne (ht : typed h v = true) : Ok (cmpC C .ne (.ob c fs) v h) Q ↔ Ok (C.ini c "__eq__" [.ob c fs, v] h) fun r h => ∃ b, r = .bl b ∧ Q (.bl (!b)) h := by
  show Ok (if typed h v = true then notR (C.ini c "__eq__" [.ob c fs, v] h) else .bad) Q ↔ _
  rw [if_pos ht]
  unfold notR
  rw [ok_bind]
  exact ok_congr fun r h => by
    cases r with
    | bl b => exact ⟨fun q => ⟨b, rfl, q⟩, fun ⟨c, e, q⟩ => by cases e; exact q⟩
    | _ => exact ⟨fun q => False.elim q, fun ⟨j, e, q⟩ => nomatch e⟩
theorem oc_len : Ok (bltC C "len" [.ob c fs] h) Q ↔ Ok (C.ini c "__len__" [.ob c fs] h) fun r h => ∃ i, r = .int i ∧ (0 ≤ i ∧ i < 9223372036854775808) ∧ Q (.int i) h := by
  show Ok (lenR (C.ini c "__len__" [.ob c fs] h)) Q ↔ _
  unfold lenR
  rw [ok_bind]
  exact ok_congr fun r h => by
    cases r with
    | int i => exact if_ok.trans ⟨fun q => ⟨i, rfl, q⟩, fun ⟨c, e, q⟩ => by cases e; exact q⟩
    | _ => exact ⟨fun q => False.elim q, fun ⟨j, e, q⟩ => nomatch e⟩
theorem oc_bool : Ok (bltC C "bool" [.ob c fs] h) Q ↔ Ok (C.ini c "__len__" [.ob c fs] h) fun r h => ∃ i, r = .int i ∧ (0 ≤ i ∧ i < 9223372036854775808) ∧ Q (.bl (i != 0)) h := by
  show Ok (truR (C.ini c "__len__" [.ob c fs] h)) Q ↔ _
  unfold truR
  rw [ok_bind]
  exact ok_congr fun r h => by
    cases r with
    | int i => exact if_ok.trans ⟨fun q => ⟨i, rfl, q⟩, fun ⟨c, e, q⟩ => by cases e; exact q⟩
    | _ => exact ⟨fun q => False.elim q, fun ⟨j, e, q⟩ => nomatch e⟩
theorem oc_str : Ok (bltC C "str" [.ob c fs] h) Q ↔ Ok (C.in2 c "__str__" [.ob c fs] h) fun r h => ∃ s, r = .str s ∧ Q (.str s) h := by
  show Ok (strR (C.in2 c "__str__" [.ob c fs] h)) Q ↔ _
  unfold strR
  rw [ok_bind]
  exact ok_congr fun r h => by
    cases r with
    | str i => exact ⟨fun q => ⟨i, rfl, q⟩, fun ⟨c, e, q⟩ => by cases e; exact q⟩
    | _ => exact ⟨fun q => False.elim q, fun ⟨j, e, q⟩ => nomatch e⟩
theorem oc_repr : Ok (bltC C "repr" [.ob c fs] h) Q ↔ Ok (C.ini c "__repr__" [.ob c fs] h) fun r h => ∃ s, r = .str s ∧ Q (.str s) h := by
  show Ok (strR (C.ini c "__repr__" [.ob c fs] h)) Q ↔ _
  unfold strR
  rw [ok_bind]
  exact ok_congr fun r h => by
    cases r with
    | str i => exact ⟨fun q => ⟨i, rfl, q⟩, fun ⟨c, e, q⟩ => by cases e; exact q⟩
    | _ => exact ⟨fun q => False.elim q, fun ⟨j, e, q⟩ => nomatch e⟩
theorem at_ob {f : String} : Ok (attV f (.ob c fs) h) Q ↔ ∃ v, getF fs f = some v ∧ Q v h := by
  show Ok (match getF fs f with
    | some v => Res.ok v h
    | none => .bad) Q ↔ _
  cases getF fs f with
  | none => exact ⟨fun q => False.elim q, fun ⟨j, e, q⟩ => nomatch e⟩
  | some v => exact ⟨fun q => ⟨v, rfl, q⟩, fun ⟨j, e, q⟩ => by cases e; exact q⟩
theorem f_ini {P : Prg} {d : Nat} {c f : String} {vs : List Vl} : Ok ((csOf P (d + 1)).ini c f vs h) Q ↔ Ok (callP P d c f vs h) Q := Iff.rfl
theorem f_in2 {P : Prg} {d : Nat} {c f : String} {vs : List Vl} : Ok ((csOf P (d + 2)).in2 c f vs h) Q ↔ Ok (callP P d c f vs h) Q := Iff.rfl
theorem nd_f : Ok (newD false kvs h) Q ↔ Q (.fd kvs) h := Iff.rfl
theorem nd_t : Ok (newD true kvs h) Q ↔ Q (.ref h.length) (h ++ [.dct kvs]) := Iff.rfl
theorem g_get {k : Tx} : Ok (bmF "get" (.fd kvs) [.str k, v] h) Q ↔ Q ((getK kvs k).getD v) h := Iff.rfl
theorem ob_of : objOf h (.ob c fs) = some (c, fs) := rfl
end
theorem lst_ref : lstOf h (.ref a) = some xs ↔ h[a]? = some (.lst xs) := by
  unfold lstOf
  dsimp only
  split
  · rename_i e
    rw [e]
    exact ⟨fun e => by cases e; rfl, fun e => by cases e; rfl⟩
  · rename_i e
    exact ⟨fun e => (nomatch e), fun e2 => (e _ e2).elim⟩
theorem b_all : Ok (bltF "all" [.ref a] h) Q ↔ ∃ xs, h[a]? = some (.lst xs) ∧ ∃ bs, bolsOf xs = some bs ∧ Q (.bl (bs.all id)) h := by
  show Ok (bAll [.ref a] h) Q ↔ _
  unfold bAll
  dsimp only
  constructor
  · intro q
    split at q
    · rename_i bs e
      obtain ⟨xs, e1, e2⟩ := Option.bind_eq_some_iff.mp e
      exact ⟨xs, lst_ref.mp e1, bs, e2, q⟩
    · exact False.elim q
  · rintro ⟨xs, e1, bs, e2, q⟩
    rw [Option.bind_eq_some_iff.mpr ⟨xs, lst_ref.mpr e1, e2⟩]
    exact q
theorem b_any : Ok (bltF "any" [.ref a] h) Q ↔ ∃ xs, h[a]? = some (.lst xs) ∧ ∃ bs, bolsOf xs = some bs ∧ Q (.bl (bs.any id)) h := by
  show Ok (bAny [.ref a] h) Q ↔ _
  unfold bAny
  dsimp only
  constructor
  · intro q
    split at q
    · rename_i bs e
      obtain ⟨xs, e1, e2⟩ := Option.bind_eq_some_iff.mp e
      exact ⟨xs, lst_ref.mp e1, bs, e2, q⟩
    · exact False.elim q
  · rintro ⟨xs, e1, bs, e2, q⟩
    rw [Option.bind_eq_some_iff.mpr ⟨xs, lst_ref.mpr e1, e2⟩]
    exact q
theorem seq_ref : seqOf h (.ref a) = some xs ↔ h[a]? = some (.lst xs) := lst_ref
theorem m_joinF {ss : List Tx} (e : strsOf xs = some ss) : Ok (bmF "join" (.str s) [.fl xs] h) Q ↔ (ss.map (·.length)).sum + ss.length * s.length ≤ LIM ∧ Q (.str (joinT s ss)) h := by
  show Ok (match (some xs).bind strsOf with
    | some ss => if (ss.map (·.length)).sum + ss.length * s.length ≤ LIM then Res.ok (.str (joinT s ss)) h else .bad
    | none => .bad) Q ↔ _
  rw [Option.bind_some, e]
  exact if_ok
theorem m_join : Ok (bmF "join" (.str s) [.ref a] h) Q ↔ ∃ xs, h[a]? = some (.lst xs) ∧ ∃ ss, strsOf xs = some ss ∧ (ss.map (·.length)).sum + ss.length * s.length ≤ LIM ∧ Q (.str (joinT s ss)) h := by
  show Ok (mJoin (.str s) [.ref a] h) Q ↔ _
  unfold mJoin
  dsimp only
  constructor
  · intro q
    split at q
    · rename_i bs e
      obtain ⟨xs, e1, e2⟩ := Option.bind_eq_some_iff.mp e
      exact ⟨xs, seq_ref.mp e1, bs, e2, if_ok.mp q⟩
    · exact False.elim q
  · rintro ⟨xs, e1, bs, e2, q⟩
    rw [Option.bind_eq_some_iff.mpr ⟨xs, seq_ref.mpr e1, e2⟩]
    exact if_ok.mpr q
theorem m_lower : Ok (bmF "lower" (.str s) [] h) Q ↔ (s.length ≤ 5592405 ∧ s.all (· < 128) = true) ∧ Q (.str (s.map lowerC)) h := if_ok (x := Res.ok (Vl.str (s.map lowerC)) h)
theorem sl_str {lv : Bool} {lo hi : Option Int} : Ok (slcV lv (.str s) lo hi h) Q ↔ s.length ≤ LIM ∧ Q (.str (cut s lo hi)) h := if_ok (x := Res.ok (Vl.str (cut s lo hi)) h)
theorem sl_fl {lo hi : Option Int} : Ok (slcV false (.fl xs) lo hi h) Q ↔ Q (.fl (cut xs lo hi)) h := Iff.rfl
theorem sl_tup {lv : Bool} {lo hi : Option Int} : Ok (slcV lv (.tup xs) lo hi h) Q ↔ Q (.tup (cut xs lo hi)) h := Iff.rfl
theorem m_app {v : Vl} : Ok (bmF "append" (.ref a) [v] h) Q ↔ ∃ xs, h[a]? = some (.lst xs) ∧ xs.length < LIM ∧ Q .non (h.set a (.lst (xs ++ [v]))) := by
  show Ok (match h[a]? with
    | some (.lst xs) => if xs.length < LIM then Res.ok Vl.non (h.set a (.lst (xs ++ [v]))) else .bad
    | _ => .bad) Q ↔ _
  cases h[a]? with
  | none => exact ⟨fun q => False.elim q, fun ⟨_, e, _⟩ => nomatch e⟩
  | some o =>
    cases o with
    | lst xs => exact if_ok.trans ⟨fun q => ⟨xs, rfl, q⟩, fun ⟨_, e, q⟩ => by cases e; exact q⟩
    | _ => exact ⟨fun q => False.elim q, fun ⟨_, e, _⟩ => nomatch e⟩
theorem m_ext {b : Nat} : Ok (bmF "extend" (.ref a) [.ref b] h) Q ↔ ∃ xs, h[a]? = some (.lst xs) ∧ ∃ ys, h[b]? = some (.lst ys) ∧ xs.length + ys.length ≤ LIM ∧ Q .non (h.set a (.lst (xs ++ ys))) := by
  show Ok (match h[a]?, livOf h (.ref b) with
    | some (.lst xs), some zs => if xs.length + zs.length ≤ LIM then Res.ok Vl.non (h.set a (.lst (xs ++ zs))) else .bad
    | _, _ => .bad) Q ↔ _
  unfold livOf
  dsimp only
  cases h[a]? with
  | none => exact ⟨fun q => False.elim q, fun ⟨_, e, _⟩ => nomatch e⟩
  | some o =>
    cases o with
    | lst xs =>
      cases h[b]? with
      | none => exact ⟨fun q => False.elim q, fun ⟨_, _, _, e, _⟩ => nomatch e⟩
      | some o2 =>
        cases o2 with
        | lst ys => exact if_ok.trans ⟨fun q => ⟨xs, rfl, ys, rfl, q⟩, fun ⟨_, e, _, e2, q⟩ => by cases e; cases e2; exact q⟩
        | _ => exact ⟨fun q => False.elim q, fun ⟨_, _, _, e, _⟩ => nomatch e⟩
    | _ => exact ⟨fun q => False.elim q, fun ⟨_, e, _⟩ => nomatch e⟩
theorem o_addRF : Ok (binop .add (.ref a) (.fl ys) h) Q ↔ ∃ xs, h[a]? = some (.lst xs) ∧ xs.length + ys.length ≤ LIM ∧ Q (.fl (xs ++ ys)) h := by
  show Ok (match lstOf h (.ref a), some ys with
    | some xs, some ys => if xs.length + ys.length ≤ LIM then newL false (xs ++ ys) h else .bad
    | _, _ => .bad) Q ↔ _
  unfold lstOf
  dsimp only
  cases h[a]? with
  | none => exact ⟨fun q => False.elim q, fun ⟨_, e, _⟩ => nomatch e⟩
  | some o =>
    cases o with
    | lst xs => exact if_ok.trans ⟨fun q => ⟨xs, rfl, q⟩, fun ⟨_, e, q⟩ => by cases e; exact q⟩
    | _ => exact ⟨fun q => False.elim q, fun ⟨_, e, _⟩ => nomatch e⟩
theorem o_addFL : Ok (binop .addL (.fl xs) (.fl ys) h) Q ↔ xs.length + ys.length ≤ LIM ∧ Q (.ref h.length) (h ++ [.lst (xs ++ ys)]) := by
  show Ok (if xs.length + ys.length ≤ LIM then newL true (xs ++ ys) h else .bad) Q ↔ _
  exact if_ok
theorem o_mulR {k : Int} : Ok (binop .mul (.ref a) (.int k) h) Q ↔ ∃ xs, h[a]? = some (.lst xs) ∧ (-(2 ^ 63) ≤ k ∧ k < 2 ^ 63 ∧ xs.length * k.toNat ≤ LIM) ∧ Q (.fl (List.replicate k.toNat xs).flatten) h := by
  show Ok (match livOf h (.ref a) with
    | some xs => if -(2 ^ 63) ≤ k ∧ k < 2 ^ 63 ∧ xs.length * k.toNat ≤ LIM then newL false (List.replicate k.toNat xs).flatten h else .bad
    | _ => .bad) Q ↔ _
  unfold livOf
  dsimp only
  cases h[a]? with
  | none => exact ⟨fun q => False.elim q, fun ⟨_, e, _⟩ => nomatch e⟩
  | some o =>
    cases o with
    | lst xs => exact if_ok.trans ⟨fun q => ⟨xs, rfl, q⟩, fun ⟨_, e, q⟩ => by cases e; exact q⟩
    | _ => exact ⟨fun q => False.elim q, fun ⟨_, e, _⟩ => nomatch e⟩
theorem b_tupR (e : h[a]? = some (.lst xs)) : Ok (bltF "tuple" [.ref a] h) Q ↔ Q (.tup xs) h := by
  show Ok (match lstOf h (.ref a) with
    | some xs => Res.ok (.tup xs) h
    | none => .bad) Q ↔ _
  rw [lst_ref.mpr e]
  exact Iff.rfl
theorem b_srtF {ss : List Tx} (e : strsOf xs = some ss) : Ok (bltF "sorted" [.fl xs] h) Q ↔ Q (.fl ((sortS ss).map .str)) h := by
  show Ok (match (some xs).bind strsOf with
    | some ss => newL false ((sortS ss).map .str) h
    | none => match dctOf h (.fl xs) with
      | some kvs => if kvs.length < 64 then newL false ((sortS (kvs.map (·.1))).map .str) h else .bad
      | none => .bad) Q ↔ _
  rw [Option.bind_some, e]
  exact Iff.rfl
theorem b_sruF {ss : List Tx} (e : strsOf xs = some ss) : Ok (bltF "sortedset" [.fl xs] h) Q ↔ ss.length < 4000 ∧ Q (.fl ((sortU ss).map .str)) h := by
  show Ok (match (some xs).bind strsOf with
    | some ss => if ss.length < 4000 then newL false ((sortU ss).map .str) h else .bad
    | none => .bad) Q ↔ _
  rw [Option.bind_some, e]
  exact if_ok
theorem e_mk {c : String} {es : List Ex} {pm : List Src} {fz : Bool} : Ok (evM C (.mk c es pm fz) false r h) Q ↔ Ok (evs C es r h) fun vs h => SR (.ref h.length :: vs) pm fun l => Ok (mkV C c fz l h) Q := by
  rw [evM, asT_f, ok_bind]
  exact ok_congr fun vs h => by
    unfold SR
    cases srcs (.ref h.length :: vs) pm with
    | none => exact ⟨fun q => False.elim q, fun ⟨j, e, q⟩ => nomatch e⟩
    | some l => exact ⟨fun q => ⟨l, rfl, q⟩, fun ⟨j, e, q⟩ => by cases e; exact q⟩
theorem mk_fz {c : String} {l : List Vl} : Ok (mkV C c true l h) Q ↔ Ok (C.ini c "__init__" l (h ++ [.inst c []])) fun r h' => r = .non ∧ ∃ c' fs, h'[h.length]? = some (.inst c' fs) ∧ Q (.ob c' (frzFs fs h').1) ((frzFs fs h').2.set h.length .dead) := by
  unfold mkV
  rw [ok_bind]
  exact ok_congr fun v h' => by
    cases v with
    | non =>
      dsimp only
      rw [if_pos rfl]
      cases h'[h.length]? with
      | none => exact ⟨fun q => False.elim q, fun ⟨_, _, _, e, _⟩ => nomatch e⟩
      | some o =>
        cases o with
        | inst c' fs => exact ⟨fun q => ⟨rfl, c', fs, rfl, q⟩, fun ⟨_, _, _, e, q⟩ => by cases e; exact q⟩
        | _ => exact ⟨fun q => False.elim q, fun ⟨_, _, _, e, _⟩ => nomatch e⟩
    | _ => exact ⟨fun q => False.elim q, fun ⟨e, _⟩ => nomatch e⟩
theorem frz_id : ∀ {fs : List (String × Vl)} {h : Hm}, (∀ p ∈ fs, ∀ b, p.2 ≠ .ref b) → frzFs fs h = (fs, h)
  | [], h, _ => rfl
  | (f, v) :: r, h, q => by
    have e : frzV h v = (v, h) := by
      cases v with
      | ref b => exact absurd rfl (q (f, .ref b) (List.mem_cons_self ..) b)
      | _ => rfl
    unfold frzFs
    rw [e, frz_id fun p hp => q p (List.mem_cons_of_mem _ hp)]
theorem f_set {c f : String} {fs : List (String × Vl)} {v : Vl} {Q : Unit → Hm → Prop} (e : h[a]? = some (.inst c fs)) : Ok (setF (.ref a) f v h) Q ↔ fs.length < 900 ∧ Q () (h.set a (.inst c (putF f v fs))) := by
  show Ok (match h[a]? with
    | some (.inst c fs) => if fs.length < 900 then Res.ok () (h.set a (.inst c (putF f v fs))) else .bad
    | _ => .bad) Q ↔ _
  rw [e]
  exact if_ok
theorem at_r {c f : String} {fs : List (String × Vl)} (e : h[a]? = some (.inst c fs)) : Ok (attV f (.ref a) h) Q ↔ ∃ v, getF fs f = some v ∧ Q v h := by
  unfold attV objOf
  dsimp only
  rw [e]
  dsimp only
  cases getF fs f with
  | none => exact ⟨fun q => False.elim q, fun ⟨j, e, q⟩ => nomatch e⟩
  | some v => exact ⟨fun q => ⟨v, rfl, q⟩, fun ⟨j, e, q⟩ => by cases e; exact q⟩
theorem tr_t : TR h (.tup xs) Q ↔ Q (.bl (!xs.isEmpty)) h := ⟨fun ⟨c, e, q⟩ => by cases e; exact q, fun q => ⟨_, rfl, q⟩⟩
theorem tr_f : TR h (.fl xs) Q ↔ Q (.bl (!xs.isEmpty)) h := ⟨fun ⟨c, e, q⟩ => by cases e; exact q, fun q => ⟨_, rfl, q⟩⟩
theorem strs_map : ∀ ss : List Tx, strsOf (ss.map Vl.str) = some ss
  | [] => rfl
  | s :: ss => by
    show (strsOf (ss.map Vl.str)).map (s :: ·) = _
    rw [strs_map ss]
    rfl
theorem eqDs_str : ∀ ss tt : List Tx, eqDs (ss.map Vl.str) (tt.map Vl.str) = decide (ss = tt)
  | [], [] => rfl
  | [], _ :: _ => rfl
  | _ :: _, [] => rfl
  | s :: ss, t :: tt => by
    show (s == t && eqDs (ss.map Vl.str) (tt.map Vl.str)) = _
    rw [eqDs_str ss tt, Bool.eq_iff_iff]
    simp
theorem purs_str : ∀ ss : List Tx, purs (ss.map Vl.str) = true
  | [] => rfl
  | s :: ss => by
    show (true && purs (ss.map Vl.str)) = true
    rw [purs_str ss]
    rfl
theorem deps_str : ∀ ss : List Tx, deps (ss.map Vl.str) = 0
  | [] => rfl
  | s :: ss => by
    show max 0 (deps (ss.map Vl.str)) = 0
    rw [deps_str ss]
    rfl
theorem clos_str : ∀ ss : List Tx, clos (ss.map Vl.str) = true
  | [] => rfl
  | s :: ss => by
    show (true && clos (ss.map Vl.str)) = true
    rw [clos_str ss]
    rfl
theorem mem_insS {x y : Tx} : ∀ {r : List Tx}, y ∈ insS x r → y = x ∨ y ∈ r
  | [], h => .inl (List.mem_singleton.mp h)
  | z :: r, h => by
    unfold insS at h
    split at h
    · rcases List.mem_cons.mp h with h | h
      · exact .inr (h ▸ List.mem_cons_self ..)
      · exact (mem_insS h).imp_right (List.mem_cons_of_mem _)
    · rcases List.mem_cons.mp h with h | h
      · exact .inl h
      · exact .inr h
theorem mem_sortS {y : Tx} : ∀ {r : List Tx}, y ∈ sortS r → y ∈ r
  | [], h => h
  | x :: r, h => by
    rcases mem_insS h with h | h
    · exact h ▸ List.mem_cons_self ..
    · exact List.mem_cons_of_mem _ (mem_sortS h)
theorem mem_insU {x y : Tx} : ∀ {r : List Tx}, y ∈ insU x r → y = x ∨ y ∈ r
  | [], h => .inl (List.mem_singleton.mp h)
  | z :: r, h => by
    unfold insU at h
    split at h
    · exact .inr h
    · split at h
      · rcases List.mem_cons.mp h with h | h
        · exact .inr (h ▸ List.mem_cons_self ..)
        · exact (mem_insU h).imp_right (List.mem_cons_of_mem _)
      · rcases List.mem_cons.mp h with h | h
        · exact .inl h
        · exact .inr h
theorem mem_sortU {y : Tx} : ∀ {r : List Tx}, y ∈ sortU r → y ∈ r
  | [], h => h
  | x :: r, h => by
    rcases mem_insU h with h | h
    · exact h ▸ List.mem_cons_self ..
    · exact List.mem_cons_of_mem _ (mem_sortU h)
theorem len_insS {x : Tx} : ∀ {r : List Tx}, (insS x r).length = r.length + 1
  | [] => rfl
  | z :: r => by
    unfold insS
    split
    · rw [List.length_cons, len_insS, List.length_cons]
    · rfl
theorem len_sortS : ∀ {r : List Tx}, (sortS r).length = r.length
  | [] => rfl
  | x :: r => by
    show (insS x (sortS r)).length = _
    rw [len_insS, len_sortS, List.length_cons]
theorem len_insU {x : Tx} : ∀ {r : List Tx}, (insU x r).length ≤ r.length + 1 ∧ 0 < (insU x r).length
  | [] => ⟨Nat.le_refl _, Nat.one_pos⟩
  | z :: r => by
    unfold insU
    split
    · simp only [List.length_cons]
      omega
    · split
      · have := len_insU (x := x) (r := r)
        simp only [List.length_cons]
        omega
      · simp only [List.length_cons]
        omega
theorem len_sortU : ∀ {r : List Tx}, (sortU r).length ≤ r.length
  | [] => Nat.le_refl _
  | x :: r => by
    have h1 := len_insU (x := x) (r := sortU r)
    have h2 := len_sortU (r := r)
    show (insU x (sortU r)).length ≤ _
    rw [List.length_cons]
    omega
/-! ### loops -/
theorem loopC_gen {it : Mi.It} {D : Nat} {body : Vl → Hm → Res (Option Vl)} (f : Nat → Option Vl) (n : Nat) (I : Nat → Hm → Prop) (hf : f n = none) (nx : ∀ i h, i ≤ n → I i h → it.next i h = some (f i))
    (st : ∀ i h, i < n → I i h → ∃ x, f i = some x ∧ Ok (body x h) fun y h' => (y = none ∧ I (i + 1) h') ∨ ∃ y' acc, y = some y' ∧ h'[D]? = some (.lst acc) ∧ acc.length < LIM ∧ I (i + 1) (h'.set D (.lst (acc ++ [y'])))) :
    ∀ (k i : Nat) (h : Hm), i ≤ n → n < i + k → I i h → Ok (loopC it D body k i h) fun _ h' => I n h'
  | 0, i, h, hi, hk, w => by omega
  | k + 1, i, h, hi, hk, w => by
    unfold loopC
    rw [nx i h hi w]
    by_cases hn : i < n
    · obtain ⟨x, e, o⟩ := st i h hn w
      rw [e]
      dsimp only
      rw [ok_bind]
      refine o.imp fun y h' q => ?_
      rcases q with ⟨rfl, q⟩ | ⟨y', acc, rfl, q1, q2, q3⟩
      · exact loopC_gen f n I hf nx st k (i + 1) h' hn (by omega) q
      · dsimp only
        rw [q1]
        dsimp only
        rw [if_pos q2]
        exact loopC_gen f n I hf nx st k (i + 1) _ hn (by omega) q3
    · have e : i = n := by omega
      subst e
      rw [hf]
      exact w
theorem loopF_gen {it : Mi.It} {body : Vl → Rho → Hm → Res Flow} {Q : Flow → Hm → Prop} (f : Nat → Option Vl) (n : Nat) (I : Nat → Rho → Hm → Prop) (hf : f n = none) (nx : ∀ i r h, i ≤ n → I i r h → it.next i h = some (f i))
    (st : ∀ i r h, i < n → I i r h → ∃ x, f i = some x ∧ Ok (body x r h) fun fl h' => match fl with
      | .nx r' => I (i + 1) r' h'
      | .ct r' => I (i + 1) r' h'
      | .bk r' => Q (.nx r') h'
      | .rt v => Q (.rt v) h')
    (en : ∀ r h, I n r h → Q (.nx r) h) : ∀ (k i : Nat) (r : Rho) (h : Hm), i ≤ n → n < i + k → I i r h → Ok (loopF it body k i r h) Q
  | 0, i, r, h, hi, hk, w => by omega
  | k + 1, i, r, h, hi, hk, w => by
    unfold loopF
    rw [nx i r h hi w]
    by_cases hn : i < n
    · obtain ⟨x, e, o⟩ := st i r h hn w
      rw [e]
      dsimp only
      obtain ⟨fl, h', e2, q⟩ := o.get
      rw [e2]
      cases fl with
      | nx r' => exact loopF_gen f n I hf nx st en k (i + 1) r' h' hn (by omega) q
      | ct r' => exact loopF_gen f n I hf nx st en k (i + 1) r' h' hn (by omega) q
      | bk r' => exact q
      | rt v => exact q
    · have e : i = n := by omega
      subst e
      rw [hf]
      exact en r h w
theorem set_last {o o' : Ob} : (h ++ [o]).set h.length o' = h ++ [o'] := by
  rw [List.set_append]
  simp
theorem get_last {o : Ob} : (h ++ [o])[h.length]? = some o := by simp
/-- a comprehension whose list won't be changed -/
theorem loopP_gen {it : Mi.It} {body : Vl → Hm → Res (Option Vl)} (f : Nat → Option Vl) (n : Nat) (I : Nat → List Vl → Hm → Prop) (hf : f n = none) (nx : ∀ i acc h, i ≤ n → I i acc h → it.next i h = some (f i))
    (st : ∀ i acc h, i < n → I i acc h → ∃ x, f i = some x ∧ Ok (body x h) fun y h' => (y = none ∧ I (i + 1) acc h') ∨ ∃ y', y = some y' ∧ acc.length < LIM ∧ I (i + 1) (acc ++ [y']) h') :
    ∀ (k i : Nat) (acc : List Vl) (h : Hm), i ≤ n → n < i + k → I i acc h → Ok (loopP it body k i acc h) fun acc h' => I n acc h'
  | 0, i, acc, h, hi, hk, w => by omega
  | k + 1, i, acc, h, hi, hk, w => by
    unfold loopP
    rw [nx i acc h hi w]
    by_cases hn : i < n
    · obtain ⟨x, e, o⟩ := st i acc h hn w
      rw [e]
      dsimp only
      rw [ok_bind]
      refine o.imp fun y h' q => ?_
      rcases q with ⟨rfl, q⟩ | ⟨y', rfl, q2, q3⟩
      · exact loopP_gen f n I hf nx st k (i + 1) acc h' hn (by omega) q
      · dsimp only
        rw [if_pos q2]
        exact loopP_gen f n I hf nx st k (i + 1) _ _ hn (by omega) q3
    · have e : i = n := by omega
      subst e
      rw [hf]
      exact w
/-- .. of a pure item -/
theorem loopP_map {it : Mi.It} {body : Vl → Hm → Res (Option Vl)} (xs : List Vl) (g : Vl → Vl) (hl : xs.length < 10000000) (nx : ∀ i, it.next i h = some xs[i]?)
    (st : ∀ x ∈ xs, Ok (body x h) fun y h' => y = some (g x) ∧ h' = h) : Ok (loopP it body FUEL 0 [] h) fun acc h' => acc = xs.map g ∧ h' = h := by
  have hF : FUEL = 10000000 := rfl
  have key := loopP_gen (it := it) (body := body) (fun i => xs[i]?) xs.length (fun i acc h' => acc = (xs.take i).map g ∧ h' = h) (by simp) (fun i acc h' hi e => by rw [e.2]; exact nx i) (fun i acc h' hi e => ?_) FUEL 0 [] h (Nat.zero_le _) (by omega) ⟨by simp, rfl⟩
  · refine key.imp fun acc h' e => ?_
    rw [List.take_length] at e
    exact e
  · obtain ⟨rfl, rfl⟩ := e
    refine ⟨xs[i], List.getElem?_eq_getElem hi, (st _ (List.getElem_mem hi)).imp fun y h' q => ?_⟩
    obtain ⟨rfl, rfl⟩ := q
    refine .inr ⟨_, rfl, ?_, ?_, rfl⟩
    · have hL : LIM = 16777216 := rfl
      rw [List.length_map, List.length_take]
      omega
    · rw [List.take_succ, List.getElem?_eq_getElem hi, List.map_append]
      rfl
/-- a comprehension that changes nothing -/
theorem loopC_map {it : Mi.It} {body : Vl → Hm → Res (Option Vl)} (xs : List Vl) (g : Vl → Vl) (hl : xs.length < 10000000) (nx : ∀ i h', it.next i (h ++ [h']) = some xs[i]?)
    (st : ∀ x ∈ xs, ∀ o, Ok (body x (h ++ [o])) fun y h' => y = some (g x) ∧ h' = h ++ [o]) : Ok (loopC it h.length body FUEL 0 (h ++ [.lst []])) fun _ h' => h' = h ++ [.lst (xs.map g)] := by
  have key := loopC_gen (it := it) (D := h.length) (body := body) (fun i => xs[i]?) xs.length (fun i h' => h' = h ++ [.lst ((xs.take i).map g)]) (by simp) (fun i h' hi e => by rw [e]; exact nx i _) (fun i h' hi e => ?_) FUEL 0 (h ++ [.lst []]) (Nat.zero_le _) (by
    have hF : FUEL = 10000000 := rfl
    omega) (by simp)
  · refine key.imp fun _ h' e => ?_
    rw [e, List.take_length]
  · subst e
    refine ⟨xs[i], List.getElem?_eq_getElem hi, (st _ (List.getElem_mem hi) _).imp fun y h' q => ?_⟩
    obtain ⟨rfl, rfl⟩ := q
    refine .inr ⟨_, _, rfl, get_last, ?_, ?_⟩
    · have hL : LIM = 16777216 := rfl
      rw [List.length_map, List.length_take]
      omega
    · rw [set_last, List.take_succ, List.getElem?_eq_getElem hi, List.map_append]
      rfl
end
end Mi
/-! MINI: the purse (the first kind) -/
namespace Mi
def bTakeA : List Sm := [Sm.ite (Ex.cmp Cop.gt (Ex.sub (Ex.var 0) (Ex.cst (Vl.int 0))) (Ex.cst (Vl.int 0))) [Sm.asg (Tg.name 2) (Ex.bin Bop.mod (Ex.sub (Ex.var 0) (Ex.cst (Vl.int 0))) (Ex.var 1)), Sm.asg (Tg.sub (Ex.var 0) (Ex.cst (Vl.int 0))) (Ex.bin Bop.fdiv (Ex.sub (Ex.var 0) (Ex.cst (Vl.int 0))) (Ex.var 1)), Sm.ret (Ex.var 2)] [], Sm.asg (Tg.name 3) (Ex.tupE [Ex.cst (Vl.int 2147483647), Ex.cst (Vl.int 2147483629), Ex.cst (Vl.int 2147483587), Ex.cst (Vl.int 2147483579), Ex.cst (Vl.int 2147483563), Ex.cst (Vl.int 2147483549), Ex.cst (Vl.int 2147483543)]), Sm.asg (Tg.sub (Ex.var 0) (Ex.cst (Vl.int 2))) (Ex.bin Bop.add (Ex.sub (Ex.var 0) (Ex.cst (Vl.int 2))) (Ex.cst (Vl.int 1))), Sm.asg (Tg.name 4) (Ex.sub (Ex.var 0) (Ex.cst (Vl.int 2))), Sm.asg (Tg.name 5) (Ex.bin Bop.add (Ex.bin Bop.mul (Ex.bin Bop.add (Ex.sub (Ex.var 0) (Ex.cst (Vl.int 1))) (Ex.bin Bop.mul (Ex.cst (Vl.int 104729)) (Ex.var 4))) (Ex.bin Bop.add (Ex.bin Bop.mul (Ex.cst (Vl.int 3)) (Ex.var 4)) (Ex.cst (Vl.int 4)))) (Ex.bin Bop.mul (Ex.bin Bop.mul (Ex.cst (Vl.int 7919)) (Ex.var 4)) (Ex.var 4))), Sm.asg (Tg.name 6) (Ex.bin Bop.mod (Ex.bin Bop.pow (Ex.var 5) (Ex.cst (Vl.int 3))) (Ex.sub (Ex.var 3) (Ex.bin Bop.mod (Ex.var 4) (Ex.cst (Vl.int 7))))), Sm.ret (Ex.bin Bop.mod (Ex.bin Bop.fdiv (Ex.bin Bop.mod (Ex.bin Bop.mul (Ex.var 6) (Ex.bin Bop.add (Ex.bin Bop.add (Ex.bin Bop.fdiv (Ex.var 6) (Ex.cst (Vl.int 4099))) (Ex.bin Bop.mul (Ex.cst (Vl.int 2)) (Ex.var 4))) (Ex.cst (Vl.int 3)))) (Ex.sub (Ex.var 3) (Ex.bin Bop.mod (Ex.bin Bop.add (Ex.var 4) (Ex.cst (Vl.int 3))) (Ex.cst (Vl.int 7))))) (Ex.cst (Vl.int 16))) (Ex.var 1))]
def bPurseA : List Sm := [Sm.asg (Tg.name 2) (Ex.cst (Vl.int 0)), Sm.ite (Ex.cmp Cop.lt (Ex.var 1) (Ex.blt "len" [Ex.var 0])) [Sm.asg (Tg.name 2) (Ex.sub (Ex.var 0) (Ex.var 1))] [], Sm.asg (Tg.name 3) (Ex.blt "abs" [Ex.var 2]), Sm.ret (Ex.lstE true [Ex.bin Bop.mul (Ex.var 3) (Ex.blt "int" [Ex.cmp Cop.ge (Ex.var 3) (Ex.bin Bop.pow (Ex.cst (Vl.int 10)) (Ex.cst (Vl.int 18)))]), Ex.bin Bop.add (Ex.bin Bop.add (Ex.bin Bop.mod (Ex.var 2) (Ex.cst (Vl.int 2305843009213693951))) (Ex.bin Bop.mul (Ex.cst (Vl.int 6607)) (Ex.var 1))) (Ex.cst (Vl.int 3)), Ex.cst (Vl.int 0)])]
theorem pr7 (P : Vl → Prop) (i : Int) (h : ∀ v : Int, 2147483543 ≤ v → v ≤ 2147483647 → P (.int v)) : ∃ v, Mi.atI [Vl.int 2147483647, .int 2147483629, .int 2147483587, .int 2147483579, .int 2147483563, .int 2147483549, .int 2147483543] (i % 7) = some v ∧ P v := by
  obtain ⟨x, hx, e, _⟩ := at_in (xs := [Vl.int 2147483647, .int 2147483629, .int 2147483587, .int 2147483579, .int 2147483563, .int 2147483549, .int 2147483543]) (i := i % 7) (by omega) (by simp only [List.length_cons, List.length_nil]; omega)
  refine ⟨x, e, ?_⟩
  simp only [List.mem_cons, List.not_mem_nil, or_false] at hx
  rcases hx with rfl | rfl | rfl | rfl | rfl | rfl | rfl <;> exact h _ (by omega) (by omega)
theorem mul_l {i j : Int} (h : 0 ≤ i) (h2 : i < 18446744073709551616) : mulOk i j = true := by
  unfold mulOk
  have : i.natAbs < 2 ^ 64 := by omega
  simp only [decide_eq_true this, Bool.true_or]
theorem mul_r {i j : Int} (h : 0 ≤ j) (h2 : j < 18446744073709551616) : mulOk i j = true := by
  unfold mulOk
  have : j.natAbs < 2 ^ 64 := by omega
  simp only [decide_eq_true this, Bool.true_or, Bool.or_true]
theorem small {x : Int} (h0 : 0 ≤ x) (h1 : x < 1606938044258990275541962092341162602522202993782792835301376) : x.natAbs < 2 ^ 4000 := by
  have h2 : (2 : Nat) ^ 200 ≤ 2 ^ 4000 := Nat.pow_le_pow_right (by decide) (by decide)
  have h3 : (2 : Nat) ^ 200 = 1606938044258990275541962092341162602522202993782792835301376 := by decide
  omega
theorem take_bd {b c : Int} (hb : 0 ≤ b) (hb2 : b < 9223372036854775808) (hc : 0 ≤ c) (hc2 : c < 1048577) : 0 ≤ (b + 104729 * c) * (3 * c + 4) + 7919 * c * c ∧ (b + 104729 * c) * (3 * c + 4) + 7919 * c * c < 1606938044258990275541962092341162602522202993782792835301376 := by
  have h1 : 0 ≤ (b + 104729 * c) * (3 * c + 4) := Int.mul_nonneg (by omega) (by omega)
  have h2 : 0 ≤ 7919 * c * c := Int.mul_nonneg (by omega) hc
  have h3 : (b + 104729 * c) * (3 * c + 4) ≤ 18446744073709551616 * 10000000 := Int.mul_le_mul (by omega) (by omega) (by omega) (by omega)
  have h4 : 7919 * c * c ≤ 10000000000 * 10000000 := Int.mul_le_mul (by omega) (by omega) (by omega) (by omega)
  omega
/-- a purse lies at p -/
def Pu (h : Hm) (p : Nat) (t : Int) : Prop := ∃ a b c, h[p]? = some (.lst [.int a, .int b, .int c]) ∧ 0 ≤ a ∧ 0 ≤ b ∧ b < 9223372036854775808 ∧ 0 ≤ c ∧ c ≤ t
/-- h' is h but for the purse at p -/
def Pd (p : Nat) (h h' : Hm) : Prop := ∃ o, h' = h.set p o
theorem takeA {P : Prg} (lk : P.lookup ("", "_law_take") = some ⟨2, 7, bTakeA⟩) {d : Nat} {h : Hm} {p : Nat} {m t : Int} (pu : Pu h p t) (ht : t < 1048576) (hm : 0 < m) (hm2 : m < 1000000) :
    Ok (callP P (d + 1) "" "_law_take" [.ref p, .int m] h) fun v h' => ∃ r, v = .int r ∧ 0 ≤ r ∧ r < m ∧ Pd p h h' ∧ Pu h' p (t + 1) := by
  obtain ⟨a, b, c, e, ha, hb, hb2, hc, hc2⟩ := pu
  refine ok_call lk rfl ?_
  unfold bTakeA
  have hp : p < h.length := (List.getElem?_eq_some_iff.mp e).1
  simp only [ok_cons, ok_nil, ok_ok, ok_bad, then_nx, then_rt, then_bk, then_ct, x_expr, x_asg, x_ret, x_ite, x_pass, x_for, t_name, t_att, t_sub, t_tup, t_nil, t_cons, e_var, e_cst, e_tup, e_lst, e_bin, e_cmp, e_neg, e_notF, e_notT, e_andT, e_orT, e_andF, e_orF, e_ite, e_chain, e_att, e_sub, e_slc, oi_n, oi_var, oi_bin, oi_sub, oi_blt, oi_neg, oi_call, oi_att, oi_cint, e_call, e_meth, e_blt, e_bm, e_nil, e_cons, e_lc, eT_var, eT_cst, eT_tup, eT_lst, eT_bin, eT_cmp, eT_chain, eT_att, eT_sub, eT_slc, eT_call, eT_meth, eT_blt, eT_bm, eT_lc, at0, at1, at2, at3, at4, isAbs, tr_b, br_t, br_f, br_d, o_add, o_addS, o_addT, o_sub, o_mul, o_div, o_mod, o_pow, c_lt, c_gt, c_le, c_ge, c_leS, c_ltS, c_eq, c_ne, c_in, c_nin, c_is, c_isn, s_set, ix0, ix1, ix2, ix3, Ob.lst.injEq, Vl.int.injEq, Vl.bl.injEq, Nat.reduceLT, Nat.zero_lt_succ, s_ref, s_tup, s_fl, s_scr, s_str, f_fn, start, List.map_cons, List.map_nil, List.length_cons, List.length_nil, List.replicate, List.cons_append, List.nil_append, List.set_cons_zero, List.set_cons_succ, List.getElem?_cons_zero, List.getElem?_cons_succ, Option.some.injEq, exists_eq_left', exists_eq_left, true_and, and_true, Nat.reduceAdd, Nat.reduceSub, if_true, if_false, reduceIte, Bool.false_eq_true, SR, srcs, srcV, b_len, b_abs, b_max, b_min, b_intI, b_intB, b_isi, b_rng, b_listS, b_listT, b_all, b_any, m_lower, sl_str, br_nd, Bool.not_true, Bool.not_false, ob_some, tr_i, tr_n, Vl.str.injEq, Vl.ref.injEq, Vl.tup.injEq, exists_eq_right, bmChk, bmTy, e_lstF, e_dct, PR, pairsOf, e_fstr, e_fnil, e_fcons, e_fmt, fm_str, e_slcR, e_callp, e_mkp, e_methp, e_lcF, o_addF, eT_callp, eT_methp, b_isc, b_listF, b_lisTL, b_lisFL, b_tupT, b_tupF, b_strI, b_strS, bc_s, bc_i, bc_b, bc_n, bc_t, bc_f, bc_c, bc_d, bc_2, cc_s, cc_i, cc_b, cc_n, cc_t, cc_f, cc_d, oc_len, oc_bool, oc_str, oc_repr, at_ob, f_ini, f_in2, nd_f, nd_t, g_get, ob_of, sl_fl, sl_tup, clos, clo, clof, Bool.and_self, Bool.true_and, Bool.and_true, Option.map_some, t_fl, m_app, m_ext, o_addRF, o_addFL, o_mulR, e_mk, mk_fz, tr_t, tr_f, e, List.getElem?_set_self hp, List.length_set, List.set_set]
  split
  · exact ⟨hm, ⟨hm, by omega⟩, Int.emod_nonneg _ (by omega), Int.emod_lt_of_pos _ hm, ⟨_, rfl⟩, _, _, _, List.getElem?_set_self hp, Int.ediv_nonneg ha (by omega), hb, hb2, hc, by omega⟩
  · obtain ⟨bd1, bd2⟩ := take_bd (c := c + 1) hb hb2 (by omega) (by omega)
    refine ⟨by decide, mul_l (by omega) (by omega), mul_l (by omega) (by omega), mul_r (by omega) (by omega), mul_l (by omega) (by omega), mul_r (by omega) (by omega), ⟨by omega, by omega, small bd1 bd2⟩, by omega, ?_⟩
    refine pr7 _ _ fun q1 l1 u1 => ?_
    simp only [ok_cons, ok_nil, ok_ok, ok_bad, then_nx, then_rt, then_bk, then_ct, x_expr, x_asg, x_ret, x_ite, x_pass, x_for, t_name, t_att, t_sub, t_tup, t_nil, t_cons, e_var, e_cst, e_tup, e_lst, e_bin, e_cmp, e_neg, e_notF, e_notT, e_andT, e_orT, e_andF, e_orF, e_ite, e_chain, e_att, e_sub, e_slc, oi_n, oi_var, oi_bin, oi_sub, oi_blt, oi_neg, oi_call, oi_att, oi_cint, e_call, e_meth, e_blt, e_bm, e_nil, e_cons, e_lc, eT_var, eT_cst, eT_tup, eT_lst, eT_bin, eT_cmp, eT_chain, eT_att, eT_sub, eT_slc, eT_call, eT_meth, eT_blt, eT_bm, eT_lc, at0, at1, at2, at3, at4, isAbs, tr_b, br_t, br_f, br_d, o_add, o_addS, o_addT, o_sub, o_mul, o_div, o_mod, o_pow, c_lt, c_gt, c_le, c_ge, c_leS, c_ltS, c_eq, c_ne, c_in, c_nin, c_is, c_isn, s_set, ix0, ix1, ix2, ix3, Ob.lst.injEq, Vl.int.injEq, Vl.bl.injEq, Nat.reduceLT, Nat.zero_lt_succ, s_ref, s_tup, s_fl, s_scr, s_str, f_fn, start, List.map_cons, List.map_nil, List.length_cons, List.length_nil, List.replicate, List.cons_append, List.nil_append, List.set_cons_zero, List.set_cons_succ, List.getElem?_cons_zero, List.getElem?_cons_succ, Option.some.injEq, exists_eq_left', exists_eq_left, true_and, and_true, Nat.reduceAdd, Nat.reduceSub, if_true, if_false, reduceIte, Bool.false_eq_true, SR, srcs, srcV, b_len, b_abs, b_max, b_min, b_intI, b_intB, b_isi, b_rng, b_listS, b_listT, b_all, b_any, m_lower, sl_str, br_nd, Bool.not_true, Bool.not_false, ob_some, tr_i, tr_n, Vl.str.injEq, Vl.ref.injEq, Vl.tup.injEq, exists_eq_right, bmChk, bmTy, e_lstF, e_dct, PR, pairsOf, e_fstr, e_fnil, e_fcons, e_fmt, fm_str, e_slcR, e_callp, e_mkp, e_methp, e_lcF, o_addF, eT_callp, eT_methp, b_isc, b_listF, b_lisTL, b_lisFL, b_tupT, b_tupF, b_strI, b_strS, bc_s, bc_i, bc_b, bc_n, bc_t, bc_f, bc_c, bc_d, bc_2, cc_s, cc_i, cc_b, cc_n, cc_t, cc_f, cc_d, oc_len, oc_bool, oc_str, oc_repr, at_ob, f_ini, f_in2, nd_f, nd_t, g_get, ob_of, sl_fl, sl_tup, clos, clo, clof, Bool.and_self, Bool.true_and, Bool.and_true, Option.map_some, t_fl, m_app, m_ext, o_addRF, o_addFL, o_mulR, e_mk, mk_fz, tr_t, tr_f]
    refine ⟨by omega, ⟨by omega, by omega⟩, mul_l (by omega) (by omega), mul_l (Int.emod_nonneg _ (by omega)) ?_, by omega, ?_⟩
    · have := Int.emod_lt_of_pos (((b + 104729 * (c + 1)) * (3 * (c + 1) + 4) + 7919 * (c + 1) * (c + 1)) ^ Int.toNat 3) (show 0 < q1 by omega)
      omega
    · refine pr7 _ _ fun q2 l2 u2 => ?_
      simp only [ok_cons, ok_nil, ok_ok, ok_bad, then_nx, then_rt, then_bk, then_ct, x_expr, x_asg, x_ret, x_ite, x_pass, x_for, t_name, t_att, t_sub, t_tup, t_nil, t_cons, e_var, e_cst, e_tup, e_lst, e_bin, e_cmp, e_neg, e_notF, e_notT, e_andT, e_orT, e_andF, e_orF, e_ite, e_chain, e_att, e_sub, e_slc, oi_n, oi_var, oi_bin, oi_sub, oi_blt, oi_neg, oi_call, oi_att, oi_cint, e_call, e_meth, e_blt, e_bm, e_nil, e_cons, e_lc, eT_var, eT_cst, eT_tup, eT_lst, eT_bin, eT_cmp, eT_chain, eT_att, eT_sub, eT_slc, eT_call, eT_meth, eT_blt, eT_bm, eT_lc, at0, at1, at2, at3, at4, isAbs, tr_b, br_t, br_f, br_d, o_add, o_addS, o_addT, o_sub, o_mul, o_div, o_mod, o_pow, c_lt, c_gt, c_le, c_ge, c_leS, c_ltS, c_eq, c_ne, c_in, c_nin, c_is, c_isn, s_set, ix0, ix1, ix2, ix3, Ob.lst.injEq, Vl.int.injEq, Vl.bl.injEq, Nat.reduceLT, Nat.zero_lt_succ, s_ref, s_tup, s_fl, s_scr, s_str, f_fn, start, List.map_cons, List.map_nil, List.length_cons, List.length_nil, List.replicate, List.cons_append, List.nil_append, List.set_cons_zero, List.set_cons_succ, List.getElem?_cons_zero, List.getElem?_cons_succ, Option.some.injEq, exists_eq_left', exists_eq_left, true_and, and_true, Nat.reduceAdd, Nat.reduceSub, if_true, if_false, reduceIte, Bool.false_eq_true, SR, srcs, srcV, b_len, b_abs, b_max, b_min, b_intI, b_intB, b_isi, b_rng, b_listS, b_listT, b_all, b_any, m_lower, sl_str, br_nd, Bool.not_true, Bool.not_false, ob_some, tr_i, tr_n, Vl.str.injEq, Vl.ref.injEq, Vl.tup.injEq, exists_eq_right, bmChk, bmTy, e_lstF, e_dct, PR, pairsOf, e_fstr, e_fnil, e_fcons, e_fmt, fm_str, e_slcR, e_callp, e_mkp, e_methp, e_lcF, o_addF, eT_callp, eT_methp, b_isc, b_listF, b_lisTL, b_lisFL, b_tupT, b_tupF, b_strI, b_strS, bc_s, bc_i, bc_b, bc_n, bc_t, bc_f, bc_c, bc_d, bc_2, cc_s, cc_i, cc_b, cc_n, cc_t, cc_f, cc_d, oc_len, oc_bool, oc_str, oc_repr, at_ob, f_ini, f_in2, nd_f, nd_t, g_get, ob_of, sl_fl, sl_tup, clos, clo, clof, Bool.and_self, Bool.true_and, Bool.and_true, Option.map_some, t_fl, m_app, m_ext, o_addRF, o_addFL, o_mulR, e_mk, mk_fz, tr_t, tr_f]
      exact ⟨by omega, ⟨by omega, by omega⟩, hm, Int.emod_nonneg _ (by omega), Int.emod_lt_of_pos _ hm, ⟨_, rfl⟩, _, _, _, List.getElem?_set_self hp, ha, hb, hb2, by omega, by omega⟩
theorem purseA {P : Prg} (lk : P.lookup ("", "_law_purse") = some ⟨2, 4, bPurseA⟩) {d : Nat} {h : Hm} {ns : List Int} {k : Nat} (hk : k < 1000000) :
    Ok (callP P (d + 1) "" "_law_purse" [.scr ns, .int k] h) fun v h' => ∃ o, v = .ref h.length ∧ h' = h ++ [o] ∧ Pu h' h.length 0 := by
  refine ok_call lk rfl ?_
  unfold bPurseA
  simp only [ok_cons, ok_nil, ok_ok, ok_bad, then_nx, then_rt, then_bk, then_ct, x_expr, x_asg, x_ret, x_ite, x_pass, x_for, t_name, t_att, t_sub, t_tup, t_nil, t_cons, e_var, e_cst, e_tup, e_lst, e_bin, e_cmp, e_neg, e_notF, e_notT, e_andT, e_orT, e_andF, e_orF, e_ite, e_chain, e_att, e_sub, e_slc, oi_n, oi_var, oi_bin, oi_sub, oi_blt, oi_neg, oi_call, oi_att, oi_cint, e_call, e_meth, e_blt, e_bm, e_nil, e_cons, e_lc, eT_var, eT_cst, eT_tup, eT_lst, eT_bin, eT_cmp, eT_chain, eT_att, eT_sub, eT_slc, eT_call, eT_meth, eT_blt, eT_bm, eT_lc, at0, at1, at2, at3, at4, isAbs, tr_b, br_t, br_f, br_d, o_add, o_addS, o_addT, o_sub, o_mul, o_div, o_mod, o_pow, c_lt, c_gt, c_le, c_ge, c_leS, c_ltS, c_eq, c_ne, c_in, c_nin, c_is, c_isn, s_set, ix0, ix1, ix2, ix3, Ob.lst.injEq, Vl.int.injEq, Vl.bl.injEq, Nat.reduceLT, Nat.zero_lt_succ, s_ref, s_tup, s_fl, s_scr, s_str, f_fn, start, List.map_cons, List.map_nil, List.length_cons, List.length_nil, List.replicate, List.cons_append, List.nil_append, List.set_cons_zero, List.set_cons_succ, List.getElem?_cons_zero, List.getElem?_cons_succ, Option.some.injEq, exists_eq_left', exists_eq_left, true_and, and_true, Nat.reduceAdd, Nat.reduceSub, if_true, if_false, reduceIte, Bool.false_eq_true, SR, srcs, srcV, b_len, b_abs, b_max, b_min, b_intI, b_intB, b_isi, b_rng, b_listS, b_listT, b_all, b_any, m_lower, sl_str, br_nd, Bool.not_true, Bool.not_false, ob_some, tr_i, tr_n, Vl.str.injEq, Vl.ref.injEq, Vl.tup.injEq, exists_eq_right, bmChk, bmTy, e_lstF, e_dct, PR, pairsOf, e_fstr, e_fnil, e_fcons, e_fmt, fm_str, e_slcR, e_callp, e_mkp, e_methp, e_lcF, o_addF, eT_callp, eT_methp, b_isc, b_listF, b_lisTL, b_lisFL, b_tupT, b_tupF, b_strI, b_strS, bc_s, bc_i, bc_b, bc_n, bc_t, bc_f, bc_c, bc_d, bc_2, cc_s, cc_i, cc_b, cc_n, cc_t, cc_f, cc_d, oc_len, oc_bool, oc_str, oc_repr, at_ob, f_ini, f_in2, nd_f, nd_t, g_get, ob_of, sl_fl, sl_tup, clos, clo, clof, Bool.and_self, Bool.true_and, Bool.and_true, Option.map_some, t_fl, m_app, m_ext, o_addRF, o_addFL, o_mulR, e_mk, mk_fz, tr_t, tr_f, lenV, seqOf, List.length_map]
  have key : ∀ x : Int, ∃ a b, a = (if x < 0 then -x else x) * (if decide ((10 : Int) ^ (18 : Int).toNat ≤ if x < 0 then -x else x) = true then 1 else 0) ∧ b = x % 2305843009213693951 + 6607 * (k : Int) + 3 ∧ 0 ≤ a ∧ 0 ≤ b ∧ b < 9223372036854775808 := fun x => by
    refine ⟨_, _, rfl, rfl, ?_, ?_, ?_⟩
    · exact Int.mul_nonneg (by split <;> omega) (by split <;> omega)
    · have := Int.emod_nonneg x (show (2305843009213693951 : Int) ≠ 0 by omega)
      omega
    · have := Int.emod_lt_of_pos x (show (0 : Int) < 2305843009213693951 by omega)
      omega
  split
  · rename_i hlt
    have hlt : k < ns.length := by omega
    rw [at_nat, List.getElem?_map, List.getElem?_eq_getElem hlt]
    simp only [ok_cons, ok_nil, ok_ok, ok_bad, then_nx, then_rt, then_bk, then_ct, x_expr, x_asg, x_ret, x_ite, x_pass, x_for, t_name, t_att, t_sub, t_tup, t_nil, t_cons, e_var, e_cst, e_tup, e_lst, e_bin, e_cmp, e_neg, e_notF, e_notT, e_andT, e_orT, e_andF, e_orF, e_ite, e_chain, e_att, e_sub, e_slc, oi_n, oi_var, oi_bin, oi_sub, oi_blt, oi_neg, oi_call, oi_att, oi_cint, e_call, e_meth, e_blt, e_bm, e_nil, e_cons, e_lc, eT_var, eT_cst, eT_tup, eT_lst, eT_bin, eT_cmp, eT_chain, eT_att, eT_sub, eT_slc, eT_call, eT_meth, eT_blt, eT_bm, eT_lc, at0, at1, at2, at3, at4, isAbs, tr_b, br_t, br_f, br_d, o_add, o_addS, o_addT, o_sub, o_mul, o_div, o_mod, o_pow, c_lt, c_gt, c_le, c_ge, c_leS, c_ltS, c_eq, c_ne, c_in, c_nin, c_is, c_isn, s_set, ix0, ix1, ix2, ix3, Ob.lst.injEq, Vl.int.injEq, Vl.bl.injEq, Nat.reduceLT, Nat.zero_lt_succ, s_ref, s_tup, s_fl, s_scr, s_str, f_fn, start, List.map_cons, List.map_nil, List.length_cons, List.length_nil, List.replicate, List.cons_append, List.nil_append, List.set_cons_zero, List.set_cons_succ, List.getElem?_cons_zero, List.getElem?_cons_succ, Option.some.injEq, exists_eq_left', exists_eq_left, true_and, and_true, Nat.reduceAdd, Nat.reduceSub, if_true, if_false, reduceIte, Bool.false_eq_true, SR, srcs, srcV, b_len, b_abs, b_max, b_min, b_intI, b_intB, b_isi, b_rng, b_listS, b_listT, b_all, b_any, m_lower, sl_str, br_nd, Bool.not_true, Bool.not_false, ob_some, tr_i, tr_n, Vl.str.injEq, Vl.ref.injEq, Vl.tup.injEq, exists_eq_right, bmChk, bmTy, e_lstF, e_dct, PR, pairsOf, e_fstr, e_fnil, e_fcons, e_fmt, fm_str, e_slcR, e_callp, e_mkp, e_methp, e_lcF, o_addF, eT_callp, eT_methp, b_isc, b_listF, b_lisTL, b_lisFL, b_tupT, b_tupF, b_strI, b_strS, bc_s, bc_i, bc_b, bc_n, bc_t, bc_f, bc_c, bc_d, bc_2, cc_s, cc_i, cc_b, cc_n, cc_t, cc_f, cc_d, oc_len, oc_bool, oc_str, oc_repr, at_ob, f_ini, f_in2, nd_f, nd_t, g_get, ob_of, sl_fl, sl_tup, clos, clo, clof, Bool.and_self, Bool.true_and, Bool.and_true, Option.map_some, t_fl, m_app, m_ext, o_addRF, o_addFL, o_mulR, e_mk, mk_fz, tr_t, tr_f, Option.map_some]
    obtain ⟨a, b, ea, eb, ha, hb, hb2⟩ := key ns[k]
    rw [← ea, ← eb]
    exact ⟨⟨by omega, by omega, small (x := 10) (by omega) (by omega)⟩, mul_r (by split <;> omega) (by split <;> omega), by omega, mul_l (by omega) (by omega), by decide, _, rfl, a, b, 0, get_last, ha, hb, hb2, by omega, by omega⟩
  · obtain ⟨a, b, ea, eb, ha, hb, hb2⟩ := key 0
    rw [← ea, ← eb]
    exact ⟨⟨by omega, by omega, small (x := 10) (by omega) (by omega)⟩, mul_r (by split <;> omega) (by split <;> omega), by omega, mul_l (by omega) (by omega), by decide, _, rfl, a, b, 0, get_last, ha, hb, hb2, by omega, by omega⟩
theorem Pu.mo {h : Hm} {p : Nat} {t : Int} (pu : Pu h p t) {D : Nat} {o : Ob} (hd : D ≠ p) : Pu (h.set D o) p t := by
  obtain ⟨a, b, c, e, r⟩ := pu
  exact ⟨a, b, c, by rw [List.getElem?_set_ne hd]; exact e, r⟩
theorem Pu.app {h : Hm} {p : Nat} {t : Int} (pu : Pu h p t) {g : Hm} : Pu (h ++ g) p t := by
  obtain ⟨a, b, c, e, r⟩ := pu
  exact ⟨a, b, c, by rw [List.getElem?_append_left (List.getElem?_eq_some_iff.mp e).1]; exact e, r⟩
theorem Pd.get {p D : Nat} {h h' : Hm} (pd : Pd p h h') (hd : p ≠ D) : h'[D]? = h[D]? := by
  obtain ⟨o, rfl⟩ := pd
  exact List.getElem?_set_ne hd
theorem Pd.len {p : Nat} {h h' : Hm} (pd : Pd p h h') : h'.length = h.length := by
  obtain ⟨o, rfl⟩ := pd
  exact List.length_set
theorem strs_ones (cs : List Nat) : strsOf (cs.map fun c => Vl.str [c]) = some (cs.map fun c => [c]) := by
  induction cs with
  | nil => rfl
  | cons c cs ih =>
    show (strsOf (cs.map fun c => Vl.str [c])).map ([c] :: ·) = _
    rw [ih]
    rfl
theorem join_ones (cs : List Nat) : joinT [] (cs.map fun c => [c]) = cs := by
  induction cs with
  | nil => rfl
  | cons c cs ih =>
    cases cs with
    | nil => rfl
    | cons c2 cs =>
      show [c] ++ [] ++ joinT [] ((c2 :: cs).map fun c => [c]) = _
      rw [ih]
      rfl
theorem sum_ones (cs : List Nat) : ((cs.map fun c => [c]).map fun x => x.length).sum = cs.length := by
  induction cs with
  | nil => rfl
  | cons c cs ih =>
    rw [List.map_cons, List.map_cons, List.sum_cons, ih]
    simp only [List.length_cons, List.length_nil]
    omega
theorem cut_le {α : Type} (xs : List α) (lo hi : Option Int) : (cut xs lo hi).length ≤ xs.length := by
  unfold cut
  rw [List.length_take, List.length_drop]
  omega
end Mi
/-! MINI: ints as texts -/
namespace Mi
def dg (n : Nat) : Tx := (Nat.toDigits 10 n).map Char.toNat
theorem show_nat (n : Nat) : showI n = dg n := by
  unfold showI dg
  have : toString (n : Int) = n.repr := rfl
  rw [this, Nat.toList_repr]
theorem show_neg (n : Nat) : showI (Int.negSucc n) = 45 :: dg (n + 1) := by
  unfold showI dg
  have : toString (Int.negSucc n) = "-" ++ (n + 1).repr := rfl
  rw [this, String.toList_append, Nat.toList_repr]
  rfl
theorem dg_digit {n c : Nat} (h : c ∈ dg n) : 48 ≤ c ∧ c ≤ 57 := by
  obtain ⟨x, hx, rfl⟩ := List.mem_map.mp h
  have := Nat.isDigit_of_mem_toDigits (by decide) (by decide) hx
  unfold Char.isDigit at this
  simp only [Bool.and_eq_true, decide_eq_true_eq] at this
  exact ⟨this.1, this.2⟩
theorem dg_ne {n : Nat} : dg n ≠ [] := fun e => Nat.toDigits_ne_nil (List.map_eq_nil_iff.mp e)
theorem dg_inj {m n : Nat} (h : dg m = dg n) : m = n := by
  have h1 : Nat.toDigits 10 m = Nat.toDigits 10 n := by
    have key : ∀ (a b : List Char), a.map Char.toNat = b.map Char.toNat → a = b := by
      intro a
      induction a with
      | nil =>
        intro b e
        exact (List.map_eq_nil_iff.mp e.symm).symm
      | cons x a ih =>
        intro b e
        cases b with
        | nil => cases e
        | cons y b =>
          simp only [List.map_cons, List.cons.injEq] at e
          rw [ih b e.2, Char.toNat_inj.mp e.1]
    exact key _ _ h
  rw [← Nat.ofDigitChars_ten_toDigits (n := m), h1, Nat.ofDigitChars_ten_toDigits]
theorem dg_len {n k : Nat} (hk : 0 < k) (h : n < 10 ^ k) : (dg n).length ≤ k := by
  unfold dg
  rw [List.length_map]
  exact (Nat.length_toDigits_le_iff (by decide) hk).mpr h
theorem show_c {z : Int} {c : Nat} (h : c ∈ showI z) : c = 45 ∨ (48 ≤ c ∧ c ≤ 57) := by
  cases z with
  | ofNat n =>
    rw [show Int.ofNat n = (n : Int) from rfl, show_nat] at h
    exact .inr (dg_digit h)
  | negSucc n =>
    rw [show_neg] at h
    rcases List.mem_cons.mp h with h | h
    · exact .inl h
    · exact .inr (dg_digit h)
theorem show_ne {z : Int} : showI z ≠ [] := by
  cases z with
  | ofNat n =>
    rw [show Int.ofNat n = (n : Int) from rfl, show_nat]
    exact dg_ne
  | negSucc n =>
    rw [show_neg]
    exact fun e => nomatch e
theorem show_inj {a b : Int} (h : showI a = showI b) : a = b := by
  have key : ∀ {m n : Nat}, dg m ≠ 45 :: dg n := fun {m n} e => by
    have := dg_digit (n := m) (c := 45) (by rw [e]; exact List.mem_cons_self ..)
    omega
  cases a with
  | ofNat m =>
    cases b with
    | ofNat n =>
      rw [show Int.ofNat m = (m : Int) from rfl, show Int.ofNat n = (n : Int) from rfl, show_nat, show_nat] at h
      rw [dg_inj h]
    | negSucc n =>
      rw [show Int.ofNat m = (m : Int) from rfl, show_nat, show_neg] at h
      exact (key h).elim
  | negSucc m =>
    cases b with
    | ofNat n =>
      rw [show Int.ofNat n = (n : Int) from rfl, show_nat, show_neg] at h
      exact (key h.symm).elim
    | negSucc n =>
      rw [show_neg, show_neg, List.cons.injEq] at h
      have := dg_inj h.2
      rw [show m = n by omega]
theorem show_len {z : Int} {k : Nat} (hk : 0 < k) (h : z.natAbs < 10 ^ k) : (showI z).length ≤ k + 1 := by
  cases z with
  | ofNat n =>
    rw [show Int.ofNat n = (n : Int) from rfl, show_nat]
    exact Nat.le_succ_of_le (dg_len hk h)
  | negSucc n =>
    rw [show_neg, List.length_cons]
    exact Nat.succ_le_succ (dg_len hk h)
/-! ### a text split at its spaces -/
def sp : Tx → List Tx
  | [] => [[]]
  | c :: r => if c = 32 then [] :: sp r else match sp r with
    | [] => [[c]]
    | x :: xs => (c :: x) :: xs
theorem sp_cons (c : Nat) (r : Tx) : sp (c :: r) = if c = 32 then [] :: sp r else match sp r with
    | [] => [[c]]
    | x :: xs => (c :: x) :: xs := rfl
theorem sp_ne : ∀ t : Tx, sp t ≠ []
  | [], e => nomatch e
  | c :: r, e => by
    unfold sp at e
    split at e
    · cases e
    · split at e <;> cases e
theorem sp_app (b : Tx) : ∀ a : Tx, sp (a ++ 32 :: b) = sp a ++ sp b
  | [] => by
    show (if 32 = 32 then [] :: sp b else _) = _
    rw [if_pos rfl]
    rfl
  | c :: r => by
    rw [List.cons_append, sp_cons, sp_cons, sp_app b r]
    split
    · rfl
    · cases e : sp r with
      | nil => exact (sp_ne r e).elim
      | cons x xs => rfl
theorem sp_one : ∀ a : Tx, 32 ∉ a → sp a = [a]
  | [], _ => rfl
  | c :: r, h => by
    have hc : ¬ c = 32 := fun e => h (by rw [e]; exact List.mem_cons_self ..)
    rw [sp_cons, if_neg hc, sp_one r fun q => h (List.mem_cons_of_mem _ q)]
theorem sp_join : ∀ W : List Tx, W ≠ [] → sp (joinT [32] W) = W.flatMap sp
  | [], h => (h rfl).elim
  | [s], _ => by
    show sp s = _
    simp
  | s :: t :: r, _ => by
    show sp (s ++ [32] ++ joinT [32] (t :: r)) = _
    rw [List.append_assoc, List.cons_append, List.nil_append, sp_app, sp_join (t :: r) (fun e => nomatch e)]
    rfl
theorem flat_one : ∀ W : List Tx, (∀ s ∈ W, 32 ∉ s) → W.flatMap sp = W
  | [], _ => rfl
  | s :: W, h => by
    rw [List.flatMap_cons, sp_one s (h s (List.mem_cons_self ..)), flat_one W fun t ht => h t (List.mem_cons_of_mem _ ht)]
    rfl
end Mi
/-! the law's defs, its tables -/
namespace Lw
open PySem PySem.Spec PyProof.Rows Mi
def prog : Program := PySem.Challenge.pw_unwritparts_k08_tellings_told
def top (i : Nat) : Stmt := prog.main.body.getD i (.Pass ⟨0, 0, 0, 0⟩)
def mth (i j : Nat) : Stmt := match top i with
  | .ClassDef _ _ _ b _ _ _ _ _ _ _ => b.getD j (.Pass ⟨0, 0, 0, 0⟩)
  | s => s
def cd (c f : String) (s : Stmt) (N : List Str) (dfl : List Vl) (kwd : List (Str × Vl)) : Cd := ⟨c, f, L2.defArgs s, L2.defBody s, L2.defScope s, N, dfl, kwd⟩
def cds : List Cd := [
  cd "" "shown_of" (top 2) ["kind", "what", "steps", "known", "words"] [] [],
  cd "Telling" "__init__" (mth 3 0) ["self", "kind", "what", "steps", "known"] [] [("known", .tup [])],
  cd "Telling" "is_sure" (mth 3 1) ["self"] [] [],
  cd "Telling" "__eq__" (mth 3 2) ["self", "other"] [] [],
  cd "Telling" "__len__" (mth 3 3) ["self"] [] [],
  cd "Telling" "__str__" (mth 3 4) ["self"] [] [],
  cd "Telling" "__repr__" (mth 3 5) ["self"] [] [],
  cd "" "_law_purse" (top 5) ["_law_script", "_law_at", "_law_cell", "_law_far"] [] [],
  cd "" "_law_take" (top 6) ["_law_purse_here", "_law_many", "_law_digit", "_law_primes", "_law_step", "_law_base", "_law_mixed"] [] [],
  cd "" "_law_names" (top 7) ["_law_purse_here", "_law_many", "_law_signs", "_law_wide", "_law_base", "_law_at", "_law_first", "_law_k"] [] [],
  cd "" "_law_drawn" (top 8) ["_law_purse_here", "_law_parts", "_law_word_of", "_law_knots", "_law_number", "_law_word", "_law_fault", "_law_told_of", "_law_set_of", "_law_k"] [] [],
  cd "" "_law_text" (top 9) ["_law_word_of", "_law_told_of", "_law_many", "_law_set_of", "_law_words"] [] [],
  cd "" "_law_right" (top 10) ["_law_drawn_here", "_law_word_of", "_law_told_of", "_law_many", "_law_set_of", "_law_handed", "_law_made", "_law_told", "_law_sure", "_law_text_here", "_law_thing"] [] [],
  cd "" "law" (top 11) ["_law_script", "_law_k", "_law_purse_here", "_law_one", "_law_other", "_law_first", "_law_second", "_law_more", "_law_row"] [] []]
def T : Tb where
  gv := [("SURE", .tup [.str (S "word"), .str (S "fault"), .str (S "ring")])]
  gf := [("shown_of", "shown_of"), ("_law_purse", "_law_purse"), ("_law_take", "_law_take"), ("_law_names", "_law_names"), ("_law_drawn", "_law_drawn"), ("_law_text", "_law_text"), ("_law_right", "_law_right"), ("law", "law")]
  gc := [("Telling", "Telling")]
  fl := [("kind", "kind"), ("what", "what"), ("steps", "steps"), ("known", "known"), ("shown", "shown")]
  ms := [("is_sure", "is_sure")]
  nb := [("abs", "abs"), ("any", "any"), ("bool", "bool"), ("int", "int"), ("isinstance", "isinstance"), ("len", "len"), ("list", "list"), ("max", "max"), ("min", "min"), ("range", "range"), ("repr", "repr"), ("set", "set"), ("sorted", "sorted"), ("str", "str"), ("tuple", "tuple")]
  fi := tbFi cds
  fz := ["Walk", "Telling"]
  lv := [(4, 12, 18), (8, 21, 31), (11, 16, 44), (42, 11, 106), (70, 33, 39), (73, 18, 35), (74, 16, 83)]
  pu := ["shown_of", "_law_text", "_law_right"]
  pc := ["Term", "Telling"]
  pm := ["is_sure", "form", "inner", "bound", "free_names", "part_names"]
  np := [(74, 17, 82)]
abbrev PP : Prg := prgOf T cds
def b_shown_of : List Sm := [Sm.asg (Tg.name 4) (Ex.lstE true [Ex.var 0]), Sm.ite (Ex.blt "isinstance" [Ex.var 1, Ex.cst (Vl.ty "str")]) [Sm.expr (Ex.bm (Ex.var 4) "append" [Ex.var 1])] [Sm.ite (Ex.cmp Cop.isnot (Ex.var 1) (Ex.cst Vl.non)) [Sm.expr (Ex.bm (Ex.var 4) "extend" [Ex.blt "listL" [Ex.var 1]])] []], Sm.expr (Ex.bm (Ex.var 4) "append" [Ex.blt "str" [Ex.var 2]]), Sm.ite (Ex.cmp Cop.ne (Ex.var 3) (Ex.tupE [])) [Sm.asg (Tg.name 4) (Ex.bin Bop.addL (Ex.bin Bop.add (Ex.var 4) (Ex.lstE false [Ex.cst (Vl.str (S "by"))])) (Ex.blt "list" [Ex.var 3]))] [], Sm.ret (Ex.bm (Ex.cst (Vl.str (S " "))) "join" [Ex.var 4])]
theorem lk_shown_of : PP.lookup ("", "shown_of") = some ⟨4, 5, b_shown_of⟩ := by kernel_rfl
def b_Telling___init__ : List Sm := [Sm.asg (Tg.att (Ex.var 0) "kind") (Ex.var 1), Sm.asg (Tg.att (Ex.var 0) "what") (Ex.var 2), Sm.asg (Tg.att (Ex.var 0) "steps") (Ex.var 3), Sm.asg (Tg.att (Ex.var 0) "known") (Ex.blt "tuple" [Ex.var 4]), Sm.asg (Tg.att (Ex.var 0) "shown") (Ex.callp "shown_of" [Ex.var 1, Ex.var 2, Ex.var 3, Ex.att (Ex.var 0) "known"] [Src.at 0, Src.at 1, Src.at 2, Src.at 3])]
theorem lk_Telling___init__ : PP.lookup ("Telling", "__init__") = some ⟨5, 5, b_Telling___init__⟩ := by kernel_rfl
def b_Telling_is_sure : List Sm := [Sm.ret (Ex.cmp Cop.isin (Ex.att (Ex.var 0) "kind") (Ex.cst (Vl.tup [Vl.str (S "word"), Vl.str (S "fault"), Vl.str (S "ring")])))]
theorem lk_Telling_is_sure : PP.lookup ("Telling", "is_sure") = some ⟨1, 1, b_Telling_is_sure⟩ := by kernel_rfl
def b_Telling___eq__ : List Sm := [Sm.ret (Ex.and (Ex.blt "isinstance" [Ex.var 1, Ex.cst (Vl.cl "Telling")]) (Ex.cmp Cop.eq (Ex.att (Ex.var 0) "shown") (Ex.att (Ex.var 1) "shown")))]
theorem lk_Telling___eq__ : PP.lookup ("Telling", "__eq__") = some ⟨2, 2, b_Telling___eq__⟩ := by kernel_rfl
def b_Telling___len__ : List Sm := [Sm.ret (Ex.blt "len" [Ex.att (Ex.var 0) "known"])]
theorem lk_Telling___len__ : PP.lookup ("Telling", "__len__") = some ⟨1, 1, b_Telling___len__⟩ := by kernel_rfl
def b_Telling___str__ : List Sm := [Sm.ret (Ex.fmt (Ex.att (Ex.var 0) "shown"))]
theorem lk_Telling___str__ : PP.lookup ("Telling", "__str__") = some ⟨1, 1, b_Telling___str__⟩ := by kernel_rfl
def b_Telling___repr__ : List Sm := [Sm.ret (Ex.fstr [Ex.cst (Vl.str (S "Telling('")), Ex.fmt (Ex.att (Ex.var 0) "shown"), Ex.cst (Vl.str (S "')"))])]
theorem lk_Telling___repr__ : PP.lookup ("Telling", "__repr__") = some ⟨1, 1, b_Telling___repr__⟩ := by kernel_rfl
def b__law_purse : List Sm := [Sm.asg (Tg.name 2) (Ex.cst (Vl.int 0)), Sm.ite (Ex.cmp Cop.lt (Ex.var 1) (Ex.blt "len" [Ex.var 0])) [Sm.asg (Tg.name 2) (Ex.sub (Ex.var 0) (Ex.var 1))] [], Sm.asg (Tg.name 3) (Ex.blt "abs" [Ex.var 2]), Sm.ret (Ex.lstE true [Ex.bin Bop.mul (Ex.var 3) (Ex.blt "int" [Ex.cmp Cop.ge (Ex.var 3) (Ex.bin Bop.pow (Ex.cst (Vl.int 10)) (Ex.cst (Vl.int 18)))]), Ex.bin Bop.add (Ex.bin Bop.add (Ex.bin Bop.mod (Ex.var 2) (Ex.cst (Vl.int 2305843009213693951))) (Ex.bin Bop.mul (Ex.cst (Vl.int 6607)) (Ex.var 1))) (Ex.cst (Vl.int 3)), Ex.cst (Vl.int 0)])]
theorem lk__law_purse : PP.lookup ("", "_law_purse") = some ⟨2, 4, b__law_purse⟩ := by kernel_rfl
def b__law_take : List Sm := [Sm.ite (Ex.cmp Cop.gt (Ex.sub (Ex.var 0) (Ex.cst (Vl.int 0))) (Ex.cst (Vl.int 0))) [Sm.asg (Tg.name 2) (Ex.bin Bop.mod (Ex.sub (Ex.var 0) (Ex.cst (Vl.int 0))) (Ex.var 1)), Sm.asg (Tg.sub (Ex.var 0) (Ex.cst (Vl.int 0))) (Ex.bin Bop.fdiv (Ex.sub (Ex.var 0) (Ex.cst (Vl.int 0))) (Ex.var 1)), Sm.ret (Ex.var 2)] [], Sm.asg (Tg.name 3) (Ex.tupE [Ex.cst (Vl.int 2147483647), Ex.cst (Vl.int 2147483629), Ex.cst (Vl.int 2147483587), Ex.cst (Vl.int 2147483579), Ex.cst (Vl.int 2147483563), Ex.cst (Vl.int 2147483549), Ex.cst (Vl.int 2147483543)]), Sm.asg (Tg.sub (Ex.var 0) (Ex.cst (Vl.int 2))) (Ex.bin Bop.add (Ex.sub (Ex.var 0) (Ex.cst (Vl.int 2))) (Ex.cst (Vl.int 1))), Sm.asg (Tg.name 4) (Ex.sub (Ex.var 0) (Ex.cst (Vl.int 2))), Sm.asg (Tg.name 5) (Ex.bin Bop.add (Ex.bin Bop.mul (Ex.bin Bop.add (Ex.sub (Ex.var 0) (Ex.cst (Vl.int 1))) (Ex.bin Bop.mul (Ex.cst (Vl.int 104729)) (Ex.var 4))) (Ex.bin Bop.add (Ex.bin Bop.mul (Ex.cst (Vl.int 3)) (Ex.var 4)) (Ex.cst (Vl.int 4)))) (Ex.bin Bop.mul (Ex.bin Bop.mul (Ex.cst (Vl.int 7919)) (Ex.var 4)) (Ex.var 4))), Sm.asg (Tg.name 6) (Ex.bin Bop.mod (Ex.bin Bop.pow (Ex.var 5) (Ex.cst (Vl.int 3))) (Ex.sub (Ex.var 3) (Ex.bin Bop.mod (Ex.var 4) (Ex.cst (Vl.int 7))))), Sm.ret (Ex.bin Bop.mod (Ex.bin Bop.fdiv (Ex.bin Bop.mod (Ex.bin Bop.mul (Ex.var 6) (Ex.bin Bop.add (Ex.bin Bop.add (Ex.bin Bop.fdiv (Ex.var 6) (Ex.cst (Vl.int 4099))) (Ex.bin Bop.mul (Ex.cst (Vl.int 2)) (Ex.var 4))) (Ex.cst (Vl.int 3)))) (Ex.sub (Ex.var 3) (Ex.bin Bop.mod (Ex.bin Bop.add (Ex.var 4) (Ex.cst (Vl.int 3))) (Ex.cst (Vl.int 7))))) (Ex.cst (Vl.int 16))) (Ex.var 1))]
theorem lk__law_take : PP.lookup ("", "_law_take") = some ⟨2, 7, b__law_take⟩ := by kernel_rfl
def b__law_names : List Sm := [Sm.asg (Tg.name 4) (Ex.bm (Ex.cst (Vl.str (S ""))) "join" [Ex.lc false (Ex.sub (Ex.var 2) (Ex.call "_law_take" [Ex.var 0, Ex.cst (Vl.int 26)] [Src.at 0, Src.at 1])) (Pt.name 7) (Ex.blt "range" [Ex.call "_law_take" [Ex.var 0, Ex.var 3] [Src.at 0, Src.at 1]]) (Ex.cst (Vl.bl true)) [7]]), Sm.asg (Tg.tup [Tg.name 5, Tg.name 6]) (Ex.tupE [Ex.call "_law_take" [Ex.var 0, Ex.bin Bop.add (Ex.blt "len" [Ex.var 4]) (Ex.cst (Vl.int 1))] [Src.at 0, Src.at 1], Ex.call "_law_take" [Ex.var 0, Ex.cst (Vl.int 26)] [Src.at 0, Src.at 1]]), Sm.ret (Ex.lc false (Ex.bin Bop.add (Ex.bin Bop.add (Ex.slc false (Ex.var 4) (Ex.cst Vl.non) (Ex.var 5)) (Ex.sub (Ex.var 2) (Ex.bin Bop.mod (Ex.bin Bop.add (Ex.var 6) (Ex.var 7)) (Ex.cst (Vl.int 26))))) (Ex.slc false (Ex.var 4) (Ex.var 5) (Ex.cst Vl.non))) (Pt.name 7) (Ex.blt "range" [Ex.var 1]) (Ex.cst (Vl.bl true)) [7])]
theorem lk__law_names : PP.lookup ("", "_law_names") = some ⟨4, 8, b__law_names⟩ := by kernel_rfl
def b__law_drawn : List Sm := [Sm.asg (Tg.name 1) (Ex.call "_law_names" [Ex.var 0, Ex.cst (Vl.int 6), Ex.cst (Vl.str (S "ABCDEFGHIJKLMNOPQRSTUVWXYZ")), Ex.cst (Vl.int 6)] [Src.at 0, Src.at 1, Src.at 2, Src.at 3]), Sm.asg (Tg.name 2) (Ex.sub (Ex.lstE false [Ex.cst (Vl.str (S "word")), Ex.cst (Vl.str (S "fault")), Ex.cst (Vl.str (S "ring")), Ex.cst (Vl.str (S "waits")), Ex.cst (Vl.str (S "open"))]) (Ex.call "_law_take" [Ex.var 0, Ex.cst (Vl.int 5)] [Src.at 0, Src.at 1])), Sm.asg (Tg.name 3) (Ex.lc false (Ex.bin Bop.add (Ex.bin Bop.add (Ex.sub (Ex.var 1) (Ex.call "_law_take" [Ex.var 0, Ex.cst (Vl.int 6)] [Src.at 0, Src.at 1])) (Ex.cst (Vl.str (S ".")))) (Ex.blt "str" [Ex.bin Bop.add (Ex.cst (Vl.int 1)) (Ex.call "_law_take" [Ex.var 0, Ex.cst (Vl.int 30)] [Src.at 0, Src.at 1])])) (Pt.name 9) (Ex.blt "range" [Ex.bin Bop.add (Ex.cst (Vl.int 1)) (Ex.call "_law_take" [Ex.var 0, Ex.cst (Vl.int 4)] [Src.at 0, Src.at 1])]) (Ex.cst (Vl.bl true)) [9]), Sm.asg (Tg.name 4) (Ex.blt "str" [Ex.bin Bop.sub (Ex.call "_law_take" [Ex.var 0, Ex.cst (Vl.int 2000)] [Src.at 0, Src.at 1]) (Ex.cst (Vl.int 1000))]), Sm.asg (Tg.name 5) (Ex.sub (Ex.lstE false [Ex.var 4, Ex.bin Bop.add (Ex.bin Bop.add (Ex.cst (Vl.str (S "["))) (Ex.var 4)) (Ex.cst (Vl.str (S " 0]"))), Ex.bin Bop.add (Ex.bin Bop.add (Ex.cst (Vl.str (S "[[1 "))) (Ex.var 4)) (Ex.cst (Vl.str (S "] [2 3]]")))]) (Ex.call "_law_take" [Ex.var 0, Ex.cst (Vl.int 3)] [Src.at 0, Src.at 1])), Sm.asg (Tg.name 6) (Ex.tupE [Ex.sub (Ex.lstE false [Ex.cst (Vl.str (S "number")), Ex.cst (Vl.str (S "pair")), Ex.cst (Vl.str (S "def")), Ex.cst (Vl.str (S "great")), Ex.cst (Vl.str (S "told"))]) (Ex.call "_law_take" [Ex.var 0, Ex.cst (Vl.int 5)] [Src.at 0, Src.at 1]), Ex.sub (Ex.var 3) (Ex.cst (Vl.int 0))]), Sm.asg (Tg.name 7) (Ex.bm (Ex.dctE false [Ex.cst (Vl.str (S "word")), Ex.var 5, Ex.cst (Vl.str (S "fault")), Ex.var 6, Ex.cst (Vl.str (S "ring")), Ex.blt "tuple" [Ex.blt "sortedset" [Ex.var 3]], Ex.cst (Vl.str (S "waits")), Ex.sub (Ex.var 1) (Ex.cst (Vl.int 5))]) "get" [Ex.var 2, Ex.cst Vl.non]), Sm.asg (Tg.name 8) (Ex.ite (Ex.cmp Cop.ne (Ex.var 2) (Ex.cst (Vl.str (S "open")))) (Ex.blt "tuple" [Ex.blt "sorted" [Ex.slc false (Ex.slc false (Ex.var 1) (Ex.cst Vl.non) (Ex.cst (Vl.int 5))) (Ex.cst Vl.non) (Ex.call "_law_take" [Ex.var 0, Ex.cst (Vl.int 5)] [Src.at 0, Src.at 1])]]) (Ex.tupE [])), Sm.ret (Ex.tupE [Ex.var 2, Ex.var 7, Ex.bin Bop.add (Ex.cst (Vl.int 1)) (Ex.call "_law_take" [Ex.var 0, Ex.cst (Vl.int 5000)] [Src.at 0, Src.at 1]), Ex.var 8])]
theorem lk__law_drawn : PP.lookup ("", "_law_drawn") = some ⟨1, 10, b__law_drawn⟩ := by kernel_rfl
def b__law_text : List Sm := [Sm.asg (Tg.name 4) (Ex.bin Bop.add (Ex.bin Bop.add (Ex.lstE false [Ex.var 0]) (Ex.ite (Ex.blt "isinstance" [Ex.var 1, Ex.cst (Vl.ty "str")]) (Ex.lstE false [Ex.var 1]) (Ex.blt "list" [Ex.or (Ex.var 1) (Ex.tupE [])]))) (Ex.lstE false [Ex.blt "str" [Ex.var 2]])), Sm.ret (Ex.bm (Ex.cst (Vl.str (S " "))) "join" [Ex.bin Bop.add (Ex.bin Bop.add (Ex.var 4) (Ex.bin Bop.mul (Ex.lstE true [Ex.cst (Vl.str (S "by"))]) (Ex.blt "int" [Ex.cmp Cop.ne (Ex.var 3) (Ex.tupE [])]))) (Ex.blt "list" [Ex.var 3])])]
theorem lk__law_text : PP.lookup ("", "_law_text") = some ⟨4, 5, b__law_text⟩ := by kernel_rfl
def b__law_right : List Sm := [Sm.asg (Tg.tup [Tg.name 1, Tg.name 2, Tg.name 3, Tg.name 4]) (Ex.var 0), Sm.asg (Tg.name 5) (Ex.blt "listL" [Ex.var 4]), Sm.asg (Tg.name 6) (Ex.lstE true [Ex.mk "Telling" [Ex.var 1, Ex.var 2, Ex.var 3, Ex.var 5] [Src.at 0, Src.at 1, Src.at 2, Src.at 3, Src.at 4] true]), Sm.expr (Ex.bm (Ex.var 6) "append" [Ex.mkp "Telling" [Ex.var 3, Ex.var 2, Ex.var 1, Ex.var 4] [Src.at 0, Src.at 3, Src.at 2, Src.at 1, Src.at 4]]), Sm.expr (Ex.bm (Ex.var 5) "append" [Ex.cst (Vl.str (S "Z"))]), Sm.for_ (Pt.name 7) (Ex.var 6) [Sm.ite (Ex.or (Ex.cmp Cop.ne (Ex.tupE [Ex.att (Ex.var 7) "kind", Ex.att (Ex.var 7) "what", Ex.att (Ex.var 7) "steps", Ex.att (Ex.var 7) "known"]) (Ex.var 0)) (Ex.not (Ex.blt "isinstance" [Ex.att (Ex.var 7) "known", Ex.cst (Vl.ty "tuple")]))) [Sm.ret (Ex.cst (Vl.bl false))] [], Sm.asg (Tg.name 8) (Ex.cmp Cop.isin (Ex.var 1) (Ex.tupE [Ex.cst (Vl.str (S "word")), Ex.cst (Vl.str (S "fault")), Ex.cst (Vl.str (S "ring"))])), Sm.ite (Ex.or (Ex.cmp Cop.ne (Ex.methp (Ex.var 7) "is_sure" [] [Src.at 0]) (Ex.var 8)) (Ex.or (Ex.not (Ex.blt "isinstance" [Ex.methp (Ex.var 7) "is_sure" [] [Src.at 0], Ex.cst (Vl.ty "bool")])) (Ex.cmp Cop.ne (Ex.blt "len" [Ex.var 7]) (Ex.blt "len" [Ex.var 4])))) [Sm.ret (Ex.cst (Vl.bl false))] [], Sm.asg (Tg.name 9) (Ex.callp "_law_text" [Ex.var 1, Ex.var 2, Ex.var 3, Ex.var 4] [Src.at 0, Src.at 1, Src.at 2, Src.at 3]), Sm.ite (Ex.or (Ex.cmp Cop.ne (Ex.blt "str" [Ex.var 7]) (Ex.var 9)) (Ex.or (Ex.cmp Cop.ne (Ex.blt "repr" [Ex.var 7]) (Ex.bin Bop.add (Ex.bin Bop.add (Ex.cst (Vl.str (S "Telling('"))) (Ex.var 9)) (Ex.cst (Vl.str (S "')"))))) (Ex.cmp Cop.ne (Ex.blt "bool" [Ex.var 7]) (Ex.cmp Cop.gt (Ex.blt "len" [Ex.var 4]) (Ex.cst (Vl.int 0)))))) [Sm.ret (Ex.cst (Vl.bl false))] [], Sm.ite (Ex.blt "any" [Ex.lc false (Ex.cmp Cop.eq (Ex.var 7) (Ex.var 10)) (Pt.name 10) (Ex.lstE false [Ex.var 9, Ex.var 0, Ex.cst Vl.non, Ex.var 1, Ex.lstE false [Ex.var 7]]) (Ex.cst (Vl.bl true)) [10]]) [Sm.ret (Ex.cst (Vl.bl false))] []], Sm.ret (Ex.and (Ex.cmp Cop.eq (Ex.sub (Ex.var 6) (Ex.cst (Vl.int 0))) (Ex.sub (Ex.var 6) (Ex.cst (Vl.int 1)))) (Ex.and (Ex.not (Ex.cmp Cop.ne (Ex.sub (Ex.var 6) (Ex.cst (Vl.int 0))) (Ex.sub (Ex.var 6) (Ex.cst (Vl.int 1))))) (Ex.cmp Cop.isin (Ex.sub (Ex.var 6) (Ex.cst (Vl.int 0))) (Ex.lstE false [Ex.sub (Ex.var 6) (Ex.cst (Vl.int 1))]))))]
theorem lk__law_right : PP.lookup ("", "_law_right") = some ⟨1, 11, b__law_right⟩ := by kernel_rfl
def b_law : List Sm := [Sm.for_ (Pt.name 1) (Ex.blt "range" [Ex.blt "max" [Ex.cst (Vl.int 1), Ex.blt "min" [Ex.cst (Vl.int 4), Ex.blt "len" [Ex.var 0]]]]) [Sm.asg (Tg.name 2) (Ex.call "_law_purse" [Ex.var 0, Ex.var 1] [Src.at 0, Src.at 1]), Sm.asg (Tg.tup [Tg.name 3, Tg.name 4]) (Ex.tupE [Ex.call "_law_drawn" [Ex.var 2] [Src.at 0], Ex.call "_law_drawn" [Ex.var 2] [Src.at 0]]), Sm.ite (Ex.or (Ex.not (Ex.callp "_law_right" [Ex.var 3] [Src.at 0])) (Ex.not (Ex.callp "_law_right" [Ex.var 4] [Src.at 0]))) [Sm.ret (Ex.cst (Vl.bl false))] [], Sm.asg (Tg.tup [Tg.name 5, Tg.name 6]) (Ex.lc false (Ex.mkp "Telling" [Ex.sub (Ex.var 8) (Ex.cst (Vl.int 0)), Ex.sub (Ex.var 8) (Ex.cst (Vl.int 1)), Ex.sub (Ex.var 8) (Ex.cst (Vl.int 2)), Ex.sub (Ex.var 8) (Ex.cst (Vl.int 3))] [Src.at 0, Src.at 1, Src.at 2, Src.at 3, Src.at 4]) (Pt.name 8) (Ex.lstE false [Ex.var 3, Ex.var 4]) (Ex.cst (Vl.bl true)) [8]), Sm.asg (Tg.name 7) (Ex.mkp "Telling" [Ex.sub (Ex.var 3) (Ex.cst (Vl.int 0)), Ex.sub (Ex.var 3) (Ex.cst (Vl.int 1)), Ex.bin Bop.add (Ex.sub (Ex.var 3) (Ex.cst (Vl.int 2))) (Ex.cst (Vl.int 1)), Ex.sub (Ex.var 3) (Ex.cst (Vl.int 3))] [Src.at 0, Src.at 1, Src.at 2, Src.at 3, Src.at 4]), Sm.ite (Ex.or (Ex.cmp Cop.ne (Ex.cmp Cop.eq (Ex.var 5) (Ex.var 6)) (Ex.cmp Cop.eq (Ex.var 3) (Ex.var 4))) (Ex.cmp Cop.eq (Ex.var 5) (Ex.var 7))) [Sm.ret (Ex.cst (Vl.bl false))] [], Sm.ite (Ex.and (Ex.cmp Cop.eq (Ex.sub (Ex.var 3) (Ex.cst (Vl.int 3))) (Ex.tupE [])) (Ex.cmp Cop.ne (Ex.mkp "Telling" [Ex.sub (Ex.var 3) (Ex.cst (Vl.int 0)), Ex.sub (Ex.var 3) (Ex.cst (Vl.int 1)), Ex.sub (Ex.var 3) (Ex.cst (Vl.int 2))] [Src.at 0, Src.at 1, Src.at 2, Src.at 3, Src.dfl (Vl.tup [])]) (Ex.var 5))) [Sm.ret (Ex.cst (Vl.bl false))] []], Sm.ret (Ex.cst (Vl.bl true))]
theorem lk_law : PP.lookup ("", "law") = some ⟨1, 9, b_law⟩ := by kernel_rfl
end Lw
namespace Lw
open Mi
theorem lk_takeA : PP.lookup ("", "_law_take") = some ⟨2, 7, bTakeA⟩ := by kernel_rfl
theorem lk_purseA : PP.lookup ("", "_law_purse") = some ⟨2, 4, bPurseA⟩ := by kernel_rfl
/-- what is told: a text, texts, nothing -/
inductive Wh where
  | one (s : Tx)
  | many (ss : List Tx)
  | nil
deriving DecidableEq
def vt (ss : List Tx) : Vl := .tup (ss.map .str)
def Wh.v : Wh → Vl
  | .one s => .str s
  | .many ss => vt ss
  | .nil => .non
def Wh.ws : Wh → List Tx
  | .one s => [s]
  | .many ss => ss
  | .nil => []
def tl (ks : List Tx) : List Tx := if ks = [] then [] else S "by" :: ks
def words (k : Tx) (w : Wh) (n : Int) (ks : List Tx) : List Tx := k :: (w.ws ++ showI n :: tl ks)
def shT (k : Tx) (w : Wh) (n : Int) (ks : List Tx) : Tx := joinT (S " ") (words k w n ks)
/-- within bounds -/
structure Bd (k : Tx) (w : Wh) (n : Int) (ks : List Tx) : Prop where
  sz : ((words k w n ks).map (·.length)).sum + (words k w n ks).length ≤ 1000
  lw : n.natAbs < 100000
def flds (k : Tx) (w : Wh) (n : Int) (ks : List Tx) : List (String × Vl) := [("kind", .str k), ("what", w.v), ("steps", .int n), ("known", vt ks), ("shown", .str (shT k w n ks))]
def Tl (k : Tx) (w : Wh) (n : Int) (ks : List Tx) : Vl := .ob "Telling" (flds k w n ks)
theorem lg {n : Int} (h : n.natAbs < 100000) : n.natAbs.log2 < 1920 := by
  by_cases h0 : n.natAbs = 0
  · rw [h0]
    decide
  · have : n.natAbs.log2 < 17 := (Nat.log2_lt h0).mpr (by omega)
    omega
theorem isi_s {h : Hm} {s : Tx} : isi h (.str s) "str" = some true := by
  show subT "str" "str" = some true
  decide
theorem isi_t {h : Hm} {xs : List Vl} : isi h (.tup xs) "str" = some false := by
  show subT "tuple" "str" = some false
  decide
theorem isi_n {h : Hm} : isi h .non "str" = some false := by
  show subT "NoneType" "str" = some false
  decide
theorem isi_tt {h : Hm} {xs : List Vl} : isi h (.tup xs) "tuple" = some true := by
  show subT "tuple" "tuple" = some true
  decide
theorem isi_b {h : Hm} {b : Bool} : isi h (.bl b) "bool" = some true := by
  show subT "bool" "bool" = some true
  decide
theorem eq_v0 {h : Hm} {ks : List Tx} : eqV h (.tup (ks.map Vl.str)) (.tup []) = some (decide (ks = [])) := by
  unfold eqV topV
  dsimp only
  have e1 : pur (.tup (ks.map Vl.str)) = true := purs_str ks
  have e2 : dep (.tup (ks.map Vl.str)) = 1 := congrArg (· + 1) (deps_str ks)
  rw [e1, e2]
  show some (eqDs (ks.map Vl.str) ([].map Vl.str)) = _
  rw [eqDs_str]
theorem strs_app : ∀ {xs ys : List Vl} {a b : List Tx}, strsOf xs = some a → strsOf ys = some b → strsOf (xs ++ ys) = some (a ++ b)
  | [], ys, a, b, e1, e2 => by
    cases e1
    exact e2
  | .str s :: xs, ys, a, b, e1, e2 => by
    have e1 : (strsOf xs).map (s :: ·) = some a := e1
    cases e3 : strsOf xs with
    | none =>
      rw [e3] at e1
      cases e1
    | some c =>
      rw [e3] at e1
      cases e1
      show (strsOf (xs ++ ys)).map (s :: ·) = _
      rw [strs_app e3 e2]
      rfl
theorem wsz {k : Tx} {w : Wh} {n : Int} {ks : List Tx} (b : Bd k w n ks) : ((words k w n ks).map (·.length)).sum + (words k w n ks).length * (S " ").length ≤ LIM := by
  have hL : LIM = 16777216 := rfl
  have h1 : (S " ").length = 1 := rfl
  have := b.sz
  rw [h1]
  omega
theorem wln {k : Tx} {w : Wh} {n : Int} {ks : List Tx} (b : Bd k w n ks) : w.ws.length + ks.length + 2 ≤ 1000 := by
  have := b.sz
  have h2 : (words k w n ks).length = w.ws.length + (tl ks).length + 2 := by
    unfold words
    simp only [List.length_cons, List.length_append]
    omega
  have h3 : ks.length ≤ (tl ks).length := by
    unfold tl
    split
    · rename_i e
      rw [e]
      exact Nat.le_refl _
    · simp
  omega
theorem jn {h : Hm} {a : Nat} {xs : List Vl} {W : List Tx} (e : h[a]? = some (.lst xs)) (e2 : xs = W.map .str) (hs : (W.map (·.length)).sum + W.length * (S " ").length ≤ LIM) : Ok (bmF "join" (.str (S " ")) [.ref a] h) fun v _ => v = .str (joinT (S " ") W) :=
  m_join.mpr ⟨xs, e, W, by rw [e2]; exact strs_map W, hs, rfl⟩
theorem shown_ok {d : Nat} {k : Tx} {w : Wh} {n : Int} {ks : List Tx} (b : Bd k w n ks) : Ok (callP PP (d + 1) "" "shown_of" [.str k, w.v, .int n, vt ks] []) fun v _ => v = .str (shT k w n ks) := by
  refine ok_call lk_shown_of rfl ?_
  have hL : LIM = 16777216 := rfl
  have hw := wln b
  have hsz := wsz b
  have hlg := lg b.lw
  unfold shT
  unfold b_shown_of vt
  simp only [ok_cons, ok_nil, ok_ok, ok_bad, then_nx, then_rt, then_bk, then_ct, x_expr, x_asg, x_ret, x_ite, x_pass, x_for, t_name, t_att, t_sub, t_tup, t_nil, t_cons, e_var, e_cst, e_tup, e_lst, e_bin, e_cmp, e_neg, e_notF, e_notT, e_andT, e_orT, e_andF, e_orF, e_ite, e_chain, e_att, e_sub, e_slc, oi_n, oi_var, oi_bin, oi_sub, oi_blt, oi_neg, oi_call, oi_att, oi_cint, e_call, e_meth, e_blt, e_bm, e_nil, e_cons, e_lc, eT_var, eT_cst, eT_tup, eT_lst, eT_bin, eT_cmp, eT_chain, eT_att, eT_sub, eT_slc, eT_call, eT_meth, eT_blt, eT_bm, eT_lc, at0, at1, at2, at3, at4, isAbs, tr_b, br_t, br_f, br_d, o_add, o_addS, o_addT, o_sub, o_mul, o_div, o_mod, o_pow, c_lt, c_gt, c_le, c_ge, c_leS, c_ltS, c_eq, c_ne, c_in, c_nin, c_is, c_isn, s_set, ix0, ix1, ix2, ix3, Ob.lst.injEq, Vl.int.injEq, Vl.bl.injEq, Nat.reduceLT, Nat.zero_lt_succ, s_ref, s_tup, s_fl, s_scr, s_str, f_fn, start, List.map_cons, List.map_nil, List.length_cons, List.length_nil, List.replicate, List.cons_append, List.nil_append, List.set_cons_zero, List.set_cons_succ, List.getElem?_cons_zero, List.getElem?_cons_succ, Option.some.injEq, exists_eq_left', exists_eq_left, true_and, and_true, Nat.reduceAdd, Nat.reduceSub, if_true, if_false, reduceIte, Bool.false_eq_true, SR, srcs, srcV, b_len, b_abs, b_max, b_min, b_intI, b_intB, b_isi, b_rng, b_listS, b_listT, b_all, b_any, m_lower, sl_str, br_nd, Bool.not_true, Bool.not_false, ob_some, tr_i, tr_n, Vl.str.injEq, Vl.ref.injEq, Vl.tup.injEq, exists_eq_right, bmChk, bmTy, e_lstF, e_dct, PR, pairsOf, e_fstr, e_fnil, e_fcons, e_fmt, fm_str, e_slcR, e_callp, e_mkp, e_methp, e_lcF, o_addF, eT_callp, eT_methp, b_isc, b_listF, b_lisTL, b_lisFL, b_tupT, b_tupF, b_strI, b_strS, bc_s, bc_i, bc_b, bc_n, bc_t, bc_f, bc_c, bc_d, bc_2, cc_s, cc_i, cc_b, cc_n, cc_t, cc_f, cc_d, oc_len, oc_bool, oc_str, oc_repr, at_ob, f_ini, f_in2, nd_f, nd_t, g_get, ob_of, sl_fl, sl_tup, clos, clo, clof, Bool.and_self, Bool.true_and, Bool.and_true, Option.map_some, t_fl, m_app, m_ext, o_addRF, o_addFL, o_mulR, e_mk, mk_fz, tr_t, tr_f]
  cases w with
  | one s =>
    simp only [Wh.v, isi_s, ok_cons, ok_nil, ok_ok, ok_bad, then_nx, then_rt, then_bk, then_ct, x_expr, x_asg, x_ret, x_ite, x_pass, x_for, t_name, t_att, t_sub, t_tup, t_nil, t_cons, e_var, e_cst, e_tup, e_lst, e_bin, e_cmp, e_neg, e_notF, e_notT, e_andT, e_orT, e_andF, e_orF, e_ite, e_chain, e_att, e_sub, e_slc, oi_n, oi_var, oi_bin, oi_sub, oi_blt, oi_neg, oi_call, oi_att, oi_cint, e_call, e_meth, e_blt, e_bm, e_nil, e_cons, e_lc, eT_var, eT_cst, eT_tup, eT_lst, eT_bin, eT_cmp, eT_chain, eT_att, eT_sub, eT_slc, eT_call, eT_meth, eT_blt, eT_bm, eT_lc, at0, at1, at2, at3, at4, isAbs, tr_b, br_t, br_f, br_d, o_add, o_addS, o_addT, o_sub, o_mul, o_div, o_mod, o_pow, c_lt, c_gt, c_le, c_ge, c_leS, c_ltS, c_eq, c_ne, c_in, c_nin, c_is, c_isn, s_set, ix0, ix1, ix2, ix3, Ob.lst.injEq, Vl.int.injEq, Vl.bl.injEq, Nat.reduceLT, Nat.zero_lt_succ, s_ref, s_tup, s_fl, s_scr, s_str, f_fn, start, List.map_cons, List.map_nil, List.length_cons, List.length_nil, List.replicate, List.cons_append, List.nil_append, List.set_cons_zero, List.set_cons_succ, List.getElem?_cons_zero, List.getElem?_cons_succ, Option.some.injEq, exists_eq_left', exists_eq_left, true_and, and_true, Nat.reduceAdd, Nat.reduceSub, if_true, if_false, reduceIte, Bool.false_eq_true, SR, srcs, srcV, b_len, b_abs, b_max, b_min, b_intI, b_intB, b_isi, b_rng, b_listS, b_listT, b_all, b_any, m_lower, sl_str, br_nd, Bool.not_true, Bool.not_false, ob_some, tr_i, tr_n, Vl.str.injEq, Vl.ref.injEq, Vl.tup.injEq, exists_eq_right, bmChk, bmTy, e_lstF, e_dct, PR, pairsOf, e_fstr, e_fnil, e_fcons, e_fmt, fm_str, e_slcR, e_callp, e_mkp, e_methp, e_lcF, o_addF, eT_callp, eT_methp, b_isc, b_listF, b_lisTL, b_lisFL, b_tupT, b_tupF, b_strI, b_strS, bc_s, bc_i, bc_b, bc_n, bc_t, bc_f, bc_c, bc_d, bc_2, cc_s, cc_i, cc_b, cc_n, cc_t, cc_f, cc_d, oc_len, oc_bool, oc_str, oc_repr, at_ob, f_ini, f_in2, nd_f, nd_t, g_get, ob_of, sl_fl, sl_tup, clos, clo, clof, Bool.and_self, Bool.true_and, Bool.and_true, Option.map_some, t_fl, m_app, m_ext, o_addRF, o_addFL, o_mulR, e_mk, mk_fz, tr_t, tr_f, eq_v0, lstOf]
    have hw : 1 + ks.length + 2 ≤ 1000 := hw
    refine ⟨by omega, rfl, by omega, rfl, hlg, by omega, by omega, ?_⟩
    split
    · rename_i e
      exact jn rfl (by simp [words, Wh.ws, tl, e]) hsz
    · rename_i e
      exact ⟨by omega, by omega, by rw [List.length_map]; omega, jn rfl (by simp [words, Wh.ws, tl, e]) hsz⟩
  | many ss =>
    simp only [Wh.v, isi_t, ok_cons, ok_nil, ok_ok, ok_bad, then_nx, then_rt, then_bk, then_ct, x_expr, x_asg, x_ret, x_ite, x_pass, x_for, t_name, t_att, t_sub, t_tup, t_nil, t_cons, e_var, e_cst, e_tup, e_lst, e_bin, e_cmp, e_neg, e_notF, e_notT, e_andT, e_orT, e_andF, e_orF, e_ite, e_chain, e_att, e_sub, e_slc, oi_n, oi_var, oi_bin, oi_sub, oi_blt, oi_neg, oi_call, oi_att, oi_cint, e_call, e_meth, e_blt, e_bm, e_nil, e_cons, e_lc, eT_var, eT_cst, eT_tup, eT_lst, eT_bin, eT_cmp, eT_chain, eT_att, eT_sub, eT_slc, eT_call, eT_meth, eT_blt, eT_bm, eT_lc, at0, at1, at2, at3, at4, isAbs, tr_b, br_t, br_f, br_d, o_add, o_addS, o_addT, o_sub, o_mul, o_div, o_mod, o_pow, c_lt, c_gt, c_le, c_ge, c_leS, c_ltS, c_eq, c_ne, c_in, c_nin, c_is, c_isn, s_set, ix0, ix1, ix2, ix3, Ob.lst.injEq, Vl.int.injEq, Vl.bl.injEq, Nat.reduceLT, Nat.zero_lt_succ, s_ref, s_tup, s_fl, s_scr, s_str, f_fn, start, List.map_cons, List.map_nil, List.length_cons, List.length_nil, List.replicate, List.cons_append, List.nil_append, List.set_cons_zero, List.set_cons_succ, List.getElem?_cons_zero, List.getElem?_cons_succ, Option.some.injEq, exists_eq_left', exists_eq_left, true_and, and_true, Nat.reduceAdd, Nat.reduceSub, if_true, if_false, reduceIte, Bool.false_eq_true, SR, srcs, srcV, b_len, b_abs, b_max, b_min, b_intI, b_intB, b_isi, b_rng, b_listS, b_listT, b_all, b_any, m_lower, sl_str, br_nd, Bool.not_true, Bool.not_false, ob_some, tr_i, tr_n, Vl.str.injEq, Vl.ref.injEq, Vl.tup.injEq, exists_eq_right, bmChk, bmTy, e_lstF, e_dct, PR, pairsOf, e_fstr, e_fnil, e_fcons, e_fmt, fm_str, e_slcR, e_callp, e_mkp, e_methp, e_lcF, o_addF, eT_callp, eT_methp, b_isc, b_listF, b_lisTL, b_lisFL, b_tupT, b_tupF, b_strI, b_strS, bc_s, bc_i, bc_b, bc_n, bc_t, bc_f, bc_c, bc_d, bc_2, cc_s, cc_i, cc_b, cc_n, cc_t, cc_f, cc_d, oc_len, oc_bool, oc_str, oc_repr, at_ob, f_ini, f_in2, nd_f, nd_t, g_get, ob_of, sl_fl, sl_tup, clos, clo, clof, Bool.and_self, Bool.true_and, Bool.and_true, Option.map_some, t_fl, m_app, m_ext, o_addRF, o_addFL, o_mulR, e_mk, mk_fz, tr_t, tr_f, eq_v0, lstOf, vt, isNon]
    have hw : ss.length + ks.length + 2 ≤ 1000 := hw
    refine ⟨by omega, rfl, by rw [List.length_map]; omega, rfl, hlg, by rw [List.length_map]; omega, by omega, ?_⟩
    split
    · rename_i e
      exact jn rfl (by simp [words, Wh.ws, tl, e]) hsz
    · rename_i e
      exact ⟨by omega, by simp only [List.length_append, List.length_map, List.length_cons, List.length_nil]; omega, by simp only [List.length_append, List.length_map, List.length_cons, List.length_nil]; omega, jn rfl (by simp [words, Wh.ws, tl, e]) hsz⟩
  | nil =>
    simp only [Wh.v, isi_n, ok_cons, ok_nil, ok_ok, ok_bad, then_nx, then_rt, then_bk, then_ct, x_expr, x_asg, x_ret, x_ite, x_pass, x_for, t_name, t_att, t_sub, t_tup, t_nil, t_cons, e_var, e_cst, e_tup, e_lst, e_bin, e_cmp, e_neg, e_notF, e_notT, e_andT, e_orT, e_andF, e_orF, e_ite, e_chain, e_att, e_sub, e_slc, oi_n, oi_var, oi_bin, oi_sub, oi_blt, oi_neg, oi_call, oi_att, oi_cint, e_call, e_meth, e_blt, e_bm, e_nil, e_cons, e_lc, eT_var, eT_cst, eT_tup, eT_lst, eT_bin, eT_cmp, eT_chain, eT_att, eT_sub, eT_slc, eT_call, eT_meth, eT_blt, eT_bm, eT_lc, at0, at1, at2, at3, at4, isAbs, tr_b, br_t, br_f, br_d, o_add, o_addS, o_addT, o_sub, o_mul, o_div, o_mod, o_pow, c_lt, c_gt, c_le, c_ge, c_leS, c_ltS, c_eq, c_ne, c_in, c_nin, c_is, c_isn, s_set, ix0, ix1, ix2, ix3, Ob.lst.injEq, Vl.int.injEq, Vl.bl.injEq, Nat.reduceLT, Nat.zero_lt_succ, s_ref, s_tup, s_fl, s_scr, s_str, f_fn, start, List.map_cons, List.map_nil, List.length_cons, List.length_nil, List.replicate, List.cons_append, List.nil_append, List.set_cons_zero, List.set_cons_succ, List.getElem?_cons_zero, List.getElem?_cons_succ, Option.some.injEq, exists_eq_left', exists_eq_left, true_and, and_true, Nat.reduceAdd, Nat.reduceSub, if_true, if_false, reduceIte, Bool.false_eq_true, SR, srcs, srcV, b_len, b_abs, b_max, b_min, b_intI, b_intB, b_isi, b_rng, b_listS, b_listT, b_all, b_any, m_lower, sl_str, br_nd, Bool.not_true, Bool.not_false, ob_some, tr_i, tr_n, Vl.str.injEq, Vl.ref.injEq, Vl.tup.injEq, exists_eq_right, bmChk, bmTy, e_lstF, e_dct, PR, pairsOf, e_fstr, e_fnil, e_fcons, e_fmt, fm_str, e_slcR, e_callp, e_mkp, e_methp, e_lcF, o_addF, eT_callp, eT_methp, b_isc, b_listF, b_lisTL, b_lisFL, b_tupT, b_tupF, b_strI, b_strS, bc_s, bc_i, bc_b, bc_n, bc_t, bc_f, bc_c, bc_d, bc_2, cc_s, cc_i, cc_b, cc_n, cc_t, cc_f, cc_d, oc_len, oc_bool, oc_str, oc_repr, at_ob, f_ini, f_in2, nd_f, nd_t, g_get, ob_of, sl_fl, sl_tup, clos, clo, clof, Bool.and_self, Bool.true_and, Bool.and_true, Option.map_some, t_fl, m_app, m_ext, o_addRF, o_addFL, o_mulR, e_mk, mk_fz, tr_t, tr_f, eq_v0, lstOf, isNon]
    have hw : 0 + ks.length + 2 ≤ 1000 := hw
    refine ⟨by omega, rfl, hlg, by omega, by omega, ?_⟩
    split
    · rename_i e
      exact jn rfl (by simp [words, Wh.ws, tl, e]) hsz
    · rename_i e
      exact ⟨by omega, by omega, by rw [List.length_map]; omega, jn rfl (by simp [words, Wh.ws, tl, e]) hsz⟩
theorem gf_n {g : String} : getF [] g = none := rfl
theorem gf_c {f g : String} {v : Vl} {r : List (String × Vl)} : getF ((f, v) :: r) g = if g = f then some v else getF r g := by
  unfold getF
  rw [List.lookup_cons]
  by_cases e : g = f
  · subst e
    simp
  · rw [if_neg e, show (g == f) = false from by simp [e]]
theorem clo_w (w : Wh) : clo w.v = true := by
  cases w with
  | one s => rfl
  | many ss => exact clos_str ss
  | nil => rfl
theorem clo_vt (ks : List Tx) : clo (vt ks) = true := clos_str ks
theorem w_ref (w : Wh) (b : Nat) : w.v ≠ .ref b := by
  cases w <;> exact fun e => nomatch e
/-- a Telling is made -/
theorem init_ok {d : Nat} {h : Hm} {k : Tx} {w : Wh} {n : Int} {ks : List Tx} {kn : Vl} (b : Bd k w n ks) (hk : ∀ (o : Ob) (C : Cs) (Q : Vl → Hm → Prop), Q (vt ks) (h ++ [o]) → Ok (bltC C "tuple" [kn] (h ++ [o])) Q) :
    Ok (callP PP (d + 2) "Telling" "__init__" [.ref h.length, .str k, w.v, .int n, kn] (h ++ [.inst "Telling" []])) fun v h' => v = .non ∧ h' = h ++ [.inst "Telling" (flds k w n ks)] := by
  refine ok_call lk_Telling___init__ rfl ?_
  unfold b_Telling___init__
  simp only [ok_cons, ok_nil, ok_ok, ok_bad, then_nx, then_rt, then_bk, then_ct, x_expr, x_asg, x_ret, x_ite, x_pass, x_for, t_name, t_att, t_sub, t_tup, t_nil, t_cons, e_var, e_cst, e_tup, e_lst, e_bin, e_cmp, e_neg, e_notF, e_notT, e_andT, e_orT, e_andF, e_orF, e_ite, e_chain, e_att, e_sub, e_slc, oi_n, oi_var, oi_bin, oi_sub, oi_blt, oi_neg, oi_call, oi_att, oi_cint, e_call, e_meth, e_blt, e_bm, e_nil, e_cons, e_lc, eT_var, eT_cst, eT_tup, eT_lst, eT_bin, eT_cmp, eT_chain, eT_att, eT_sub, eT_slc, eT_call, eT_meth, eT_blt, eT_bm, eT_lc, at0, at1, at2, at3, at4, isAbs, tr_b, br_t, br_f, br_d, o_add, o_addS, o_addT, o_sub, o_mul, o_div, o_mod, o_pow, c_lt, c_gt, c_le, c_ge, c_leS, c_ltS, c_eq, c_ne, c_in, c_nin, c_is, c_isn, s_set, ix0, ix1, ix2, ix3, Ob.lst.injEq, Vl.int.injEq, Vl.bl.injEq, Nat.reduceLT, Nat.zero_lt_succ, s_ref, s_tup, s_fl, s_scr, s_str, f_fn, start, List.map_cons, List.map_nil, List.length_cons, List.length_nil, List.replicate, List.cons_append, List.nil_append, List.set_cons_zero, List.set_cons_succ, List.getElem?_cons_zero, List.getElem?_cons_succ, Option.some.injEq, exists_eq_left', exists_eq_left, true_and, and_true, Nat.reduceAdd, Nat.reduceSub, if_true, if_false, reduceIte, Bool.false_eq_true, SR, srcs, srcV, b_len, b_abs, b_max, b_min, b_intI, b_intB, b_isi, b_rng, b_listS, b_listT, b_all, b_any, m_lower, sl_str, br_nd, Bool.not_true, Bool.not_false, ob_some, tr_i, tr_n, Vl.str.injEq, Vl.ref.injEq, Vl.tup.injEq, exists_eq_right, bmChk, bmTy, e_lstF, e_dct, PR, pairsOf, e_fstr, e_fnil, e_fcons, e_fmt, fm_str, e_slcR, e_callp, e_mkp, e_methp, e_lcF, o_addF, eT_callp, eT_methp, b_isc, b_listF, b_lisTL, b_lisFL, b_tupT, b_tupF, b_strI, b_strS, bc_s, bc_i, bc_b, bc_n, bc_t, bc_f, bc_c, bc_d, bc_2, cc_s, cc_i, cc_b, cc_n, cc_t, cc_f, cc_d, oc_len, oc_bool, oc_str, oc_repr, at_ob, f_ini, f_in2, nd_f, nd_t, g_get, ob_of, sl_fl, sl_tup, clos, clo, clof, Bool.and_self, Bool.true_and, Bool.and_true, Option.map_some, t_fl, m_app, m_ext, o_addRF, o_addFL, o_mulR, e_mk, mk_fz, tr_t, tr_f, f_set get_last, set_last, putF, String.reduceEq]
  refine hk _ _ _ ?_
  simp only [ok_cons, ok_nil, ok_ok, ok_bad, then_nx, then_rt, then_bk, then_ct, x_expr, x_asg, x_ret, x_ite, x_pass, x_for, t_name, t_att, t_sub, t_tup, t_nil, t_cons, e_var, e_cst, e_tup, e_lst, e_bin, e_cmp, e_neg, e_notF, e_notT, e_andT, e_orT, e_andF, e_orF, e_ite, e_chain, e_att, e_sub, e_slc, oi_n, oi_var, oi_bin, oi_sub, oi_blt, oi_neg, oi_call, oi_att, oi_cint, e_call, e_meth, e_blt, e_bm, e_nil, e_cons, e_lc, eT_var, eT_cst, eT_tup, eT_lst, eT_bin, eT_cmp, eT_chain, eT_att, eT_sub, eT_slc, eT_call, eT_meth, eT_blt, eT_bm, eT_lc, at0, at1, at2, at3, at4, isAbs, tr_b, br_t, br_f, br_d, o_add, o_addS, o_addT, o_sub, o_mul, o_div, o_mod, o_pow, c_lt, c_gt, c_le, c_ge, c_leS, c_ltS, c_eq, c_ne, c_in, c_nin, c_is, c_isn, s_set, ix0, ix1, ix2, ix3, Ob.lst.injEq, Vl.int.injEq, Vl.bl.injEq, Nat.reduceLT, Nat.zero_lt_succ, s_ref, s_tup, s_fl, s_scr, s_str, f_fn, start, List.map_cons, List.map_nil, List.length_cons, List.length_nil, List.replicate, List.cons_append, List.nil_append, List.set_cons_zero, List.set_cons_succ, List.getElem?_cons_zero, List.getElem?_cons_succ, Option.some.injEq, exists_eq_left', exists_eq_left, true_and, and_true, Nat.reduceAdd, Nat.reduceSub, if_true, if_false, reduceIte, Bool.false_eq_true, SR, srcs, srcV, b_len, b_abs, b_max, b_min, b_intI, b_intB, b_isi, b_rng, b_listS, b_listT, b_all, b_any, m_lower, sl_str, br_nd, Bool.not_true, Bool.not_false, ob_some, tr_i, tr_n, Vl.str.injEq, Vl.ref.injEq, Vl.tup.injEq, exists_eq_right, bmChk, bmTy, e_lstF, e_dct, PR, pairsOf, e_fstr, e_fnil, e_fcons, e_fmt, fm_str, e_slcR, e_callp, e_mkp, e_methp, e_lcF, o_addF, eT_callp, eT_methp, b_isc, b_listF, b_lisTL, b_lisFL, b_tupT, b_tupF, b_strI, b_strS, bc_s, bc_i, bc_b, bc_n, bc_t, bc_f, bc_c, bc_d, bc_2, cc_s, cc_i, cc_b, cc_n, cc_t, cc_f, cc_d, oc_len, oc_bool, oc_str, oc_repr, at_ob, f_ini, f_in2, nd_f, nd_t, g_get, ob_of, sl_fl, sl_tup, clos, clo, clof, Bool.and_self, Bool.true_and, Bool.and_true, Option.map_some, t_fl, m_app, m_ext, o_addRF, o_addFL, o_mulR, e_mk, mk_fz, tr_t, tr_f, f_set get_last, set_last, putF, String.reduceEq, at_r get_last, gf_c, clo_w, clo_vt]
  refine Ok.imp (shown_ok b) fun v _ e => ?_
  subst e
  simp only [ok_cons, ok_nil, ok_ok, ok_bad, then_nx, then_rt, then_bk, then_ct, x_expr, x_asg, x_ret, x_ite, x_pass, x_for, t_name, t_att, t_sub, t_tup, t_nil, t_cons, e_var, e_cst, e_tup, e_lst, e_bin, e_cmp, e_neg, e_notF, e_notT, e_andT, e_orT, e_andF, e_orF, e_ite, e_chain, e_att, e_sub, e_slc, oi_n, oi_var, oi_bin, oi_sub, oi_blt, oi_neg, oi_call, oi_att, oi_cint, e_call, e_meth, e_blt, e_bm, e_nil, e_cons, e_lc, eT_var, eT_cst, eT_tup, eT_lst, eT_bin, eT_cmp, eT_chain, eT_att, eT_sub, eT_slc, eT_call, eT_meth, eT_blt, eT_bm, eT_lc, at0, at1, at2, at3, at4, isAbs, tr_b, br_t, br_f, br_d, o_add, o_addS, o_addT, o_sub, o_mul, o_div, o_mod, o_pow, c_lt, c_gt, c_le, c_ge, c_leS, c_ltS, c_eq, c_ne, c_in, c_nin, c_is, c_isn, s_set, ix0, ix1, ix2, ix3, Ob.lst.injEq, Vl.int.injEq, Vl.bl.injEq, Nat.reduceLT, Nat.zero_lt_succ, s_ref, s_tup, s_fl, s_scr, s_str, f_fn, start, List.map_cons, List.map_nil, List.length_cons, List.length_nil, List.replicate, List.cons_append, List.nil_append, List.set_cons_zero, List.set_cons_succ, List.getElem?_cons_zero, List.getElem?_cons_succ, Option.some.injEq, exists_eq_left', exists_eq_left, true_and, and_true, Nat.reduceAdd, Nat.reduceSub, if_true, if_false, reduceIte, Bool.false_eq_true, SR, srcs, srcV, b_len, b_abs, b_max, b_min, b_intI, b_intB, b_isi, b_rng, b_listS, b_listT, b_all, b_any, m_lower, sl_str, br_nd, Bool.not_true, Bool.not_false, ob_some, tr_i, tr_n, Vl.str.injEq, Vl.ref.injEq, Vl.tup.injEq, exists_eq_right, bmChk, bmTy, e_lstF, e_dct, PR, pairsOf, e_fstr, e_fnil, e_fcons, e_fmt, fm_str, e_slcR, e_callp, e_mkp, e_methp, e_lcF, o_addF, eT_callp, eT_methp, b_isc, b_listF, b_lisTL, b_lisFL, b_tupT, b_tupF, b_strI, b_strS, bc_s, bc_i, bc_b, bc_n, bc_t, bc_f, bc_c, bc_d, bc_2, cc_s, cc_i, cc_b, cc_n, cc_t, cc_f, cc_d, oc_len, oc_bool, oc_str, oc_repr, at_ob, f_ini, f_in2, nd_f, nd_t, g_get, ob_of, sl_fl, sl_tup, clos, clo, clof, Bool.and_self, Bool.true_and, Bool.and_true, Option.map_some, t_fl, m_app, m_ext, o_addRF, o_addFL, o_mulR, e_mk, mk_fz, tr_t, tr_f, f_set get_last, set_last, putF, String.reduceEq, at_r get_last, gf_c, clo_w, clo_vt]
  rfl
theorem mk_ok {d : Nat} {h : Hm} {k : Tx} {w : Wh} {n : Int} {ks : List Tx} {kn : Vl} {Q : Vl → Hm → Prop} (b : Bd k w n ks) (hk : ∀ (o : Ob) (C : Cs) (Q : Vl → Hm → Prop), Q (vt ks) (h ++ [o]) → Ok (bltC C "tuple" [kn] (h ++ [o])) Q) (q : Q (Tl k w n ks) (h ++ [.dead])) :
    Ok (callP PP (d + 2) "Telling" "__init__" [.ref h.length, .str k, w.v, .int n, kn] (h ++ [.inst "Telling" []])) fun r h' => r = .non ∧ ∃ c' fs, h'[h.length]? = some (.inst c' fs) ∧ Q (.ob c' (frzFs fs h').1) ((frzFs fs h').2.set h.length .dead) := by
  refine Ok.imp (init_ok b hk) fun v h' e => ?_
  obtain ⟨rfl, rfl⟩ := e
  refine ⟨rfl, _, _, get_last, ?_⟩
  rw [frz_id, set_last]
  · exact q
  · intro p hp b e
    simp only [flds, List.mem_cons, List.not_mem_nil, or_false] at hp
    rcases hp with rfl | rfl | rfl | rfl | rfl
    · cases e
    · exact w_ref _ _ e
    · cases e
    · cases e
    · cases e
theorem hkT (h : Hm) (ks : List Tx) : ∀ (o : Ob) (C : Cs) (Q : Vl → Hm → Prop), Q (vt ks) (h ++ [o]) → Ok (bltC C "tuple" [vt ks] (h ++ [o])) Q := fun o C Q q => q
theorem hkR (h : Hm) {a : Nat} {ks : List Tx} (e : h[a]? = some (.lst (ks.map .str))) : ∀ (o : Ob) (C : Cs) (Q : Vl → Hm → Prop), Q (vt ks) (h ++ [o]) → Ok (bltC C "tuple" [.ref a] (h ++ [o])) Q := fun o C Q q => by
  have e2 : (h ++ [o])[a]? = some (.lst (ks.map .str)) := by
    rw [List.getElem?_append_left (List.getElem?_eq_some_iff.mp e).1]
    exact e
  rw [bc_r e2]
  exact (b_tupR e2).mpr q
theorem eq_ss {h : Hm} {s t : Tx} : eqV h (.str s) (.str t) = some (decide (s = t)) := by
  unfold eqV topV
  dsimp only
  show some (s == t) = _
  rw [Option.some.injEq, Bool.eq_iff_iff]
  simp
theorem in_s {h : Hm} {k : Tx} : inV h (.str k) (.tup [.str (S "word"), .str (S "fault"), .str (S "ring")]) = some (decide (k ∈ [S "word", S "fault", S "ring"])) := by
  show some ([S "word", S "fault", S "ring"].any fun z => z == k) = _
  rw [Option.some.injEq, Bool.eq_iff_iff]
  simp only [List.any_eq_true, beq_iff_eq, decide_eq_true_eq]
  exact ⟨fun ⟨z, hz, e⟩ => e ▸ hz, fun h => ⟨k, h, rfl⟩⟩
theorem sure_ok {d : Nat} {h : Hm} {k : Tx} {w : Wh} {n : Int} {ks : List Tx} : Ok (callP PP (d + 1) "Telling" "is_sure" [Tl k w n ks] h) fun v h' => v = .bl (decide (k ∈ [S "word", S "fault", S "ring"])) ∧ h' = h := by
  refine ok_call lk_Telling_is_sure rfl ?_
  unfold b_Telling_is_sure Tl flds
  simp only [ok_cons, ok_nil, ok_ok, ok_bad, then_nx, then_rt, then_bk, then_ct, x_expr, x_asg, x_ret, x_ite, x_pass, x_for, t_name, t_att, t_sub, t_tup, t_nil, t_cons, e_var, e_cst, e_tup, e_lst, e_bin, e_cmp, e_neg, e_notF, e_notT, e_andT, e_orT, e_andF, e_orF, e_ite, e_chain, e_att, e_sub, e_slc, oi_n, oi_var, oi_bin, oi_sub, oi_blt, oi_neg, oi_call, oi_att, oi_cint, e_call, e_meth, e_blt, e_bm, e_nil, e_cons, e_lc, eT_var, eT_cst, eT_tup, eT_lst, eT_bin, eT_cmp, eT_chain, eT_att, eT_sub, eT_slc, eT_call, eT_meth, eT_blt, eT_bm, eT_lc, at0, at1, at2, at3, at4, isAbs, tr_b, br_t, br_f, br_d, o_add, o_addS, o_addT, o_sub, o_mul, o_div, o_mod, o_pow, c_lt, c_gt, c_le, c_ge, c_leS, c_ltS, c_eq, c_ne, c_in, c_nin, c_is, c_isn, s_set, ix0, ix1, ix2, ix3, Ob.lst.injEq, Vl.int.injEq, Vl.bl.injEq, Nat.reduceLT, Nat.zero_lt_succ, s_ref, s_tup, s_fl, s_scr, s_str, f_fn, start, List.map_cons, List.map_nil, List.length_cons, List.length_nil, List.replicate, List.cons_append, List.nil_append, List.set_cons_zero, List.set_cons_succ, List.getElem?_cons_zero, List.getElem?_cons_succ, Option.some.injEq, exists_eq_left', exists_eq_left, true_and, and_true, Nat.reduceAdd, Nat.reduceSub, if_true, if_false, reduceIte, Bool.false_eq_true, SR, srcs, srcV, b_len, b_abs, b_max, b_min, b_intI, b_intB, b_isi, b_rng, b_listS, b_listT, b_all, b_any, m_lower, sl_str, br_nd, Bool.not_true, Bool.not_false, ob_some, tr_i, tr_n, Vl.str.injEq, Vl.ref.injEq, Vl.tup.injEq, exists_eq_right, bmChk, bmTy, e_lstF, e_dct, PR, pairsOf, e_fstr, e_fnil, e_fcons, e_fmt, fm_str, e_slcR, e_callp, e_mkp, e_methp, e_lcF, o_addF, eT_callp, eT_methp, b_isc, b_listF, b_lisTL, b_lisFL, b_tupT, b_tupF, b_strI, b_strS, bc_s, bc_i, bc_b, bc_n, bc_t, bc_f, bc_c, bc_d, bc_2, cc_s, cc_i, cc_b, cc_n, cc_t, cc_f, cc_d, oc_len, oc_bool, oc_str, oc_repr, at_ob, f_ini, f_in2, nd_f, nd_t, g_get, ob_of, sl_fl, sl_tup, clos, clo, clof, Bool.and_self, Bool.true_and, Bool.and_true, Option.map_some, t_fl, m_app, m_ext, o_addRF, o_addFL, o_mulR, e_mk, mk_fz, tr_t, tr_f, String.reduceEq, gf_c, in_s]
theorem eq_ok {d : Nat} {h : Hm} {k k' : Tx} {w w' : Wh} {n n' : Int} {ks ks' : List Tx} : Ok (callP PP (d + 1) "Telling" "__eq__" [Tl k w n ks, Tl k' w' n' ks'] h) fun v h' => v = .bl (decide (shT k w n ks = shT k' w' n' ks')) ∧ h' = h := by
  refine ok_call lk_Telling___eq__ rfl ?_
  unfold b_Telling___eq__ Tl flds
  simp only [ok_cons, ok_nil, ok_ok, ok_bad, then_nx, then_rt, then_bk, then_ct, x_expr, x_asg, x_ret, x_ite, x_pass, x_for, t_name, t_att, t_sub, t_tup, t_nil, t_cons, e_var, e_cst, e_tup, e_lst, e_bin, e_cmp, e_neg, e_notF, e_notT, e_andT, e_orT, e_andF, e_orF, e_ite, e_chain, e_att, e_sub, e_slc, oi_n, oi_var, oi_bin, oi_sub, oi_blt, oi_neg, oi_call, oi_att, oi_cint, e_call, e_meth, e_blt, e_bm, e_nil, e_cons, e_lc, eT_var, eT_cst, eT_tup, eT_lst, eT_bin, eT_cmp, eT_chain, eT_att, eT_sub, eT_slc, eT_call, eT_meth, eT_blt, eT_bm, eT_lc, at0, at1, at2, at3, at4, isAbs, tr_b, br_t, br_f, br_d, o_add, o_addS, o_addT, o_sub, o_mul, o_div, o_mod, o_pow, c_lt, c_gt, c_le, c_ge, c_leS, c_ltS, c_eq, c_ne, c_in, c_nin, c_is, c_isn, s_set, ix0, ix1, ix2, ix3, Ob.lst.injEq, Vl.int.injEq, Vl.bl.injEq, Nat.reduceLT, Nat.zero_lt_succ, s_ref, s_tup, s_fl, s_scr, s_str, f_fn, start, List.map_cons, List.map_nil, List.length_cons, List.length_nil, List.replicate, List.cons_append, List.nil_append, List.set_cons_zero, List.set_cons_succ, List.getElem?_cons_zero, List.getElem?_cons_succ, Option.some.injEq, exists_eq_left', exists_eq_left, true_and, and_true, Nat.reduceAdd, Nat.reduceSub, if_true, if_false, reduceIte, Bool.false_eq_true, SR, srcs, srcV, b_len, b_abs, b_max, b_min, b_intI, b_intB, b_isi, b_rng, b_listS, b_listT, b_all, b_any, m_lower, sl_str, br_nd, Bool.not_true, Bool.not_false, ob_some, tr_i, tr_n, Vl.str.injEq, Vl.ref.injEq, Vl.tup.injEq, exists_eq_right, bmChk, bmTy, e_lstF, e_dct, PR, pairsOf, e_fstr, e_fnil, e_fcons, e_fmt, fm_str, e_slcR, e_callp, e_mkp, e_methp, e_lcF, o_addF, eT_callp, eT_methp, b_isc, b_listF, b_lisTL, b_lisFL, b_tupT, b_tupF, b_strI, b_strS, bc_s, bc_i, bc_b, bc_n, bc_t, bc_f, bc_c, bc_d, bc_2, cc_s, cc_i, cc_b, cc_n, cc_t, cc_f, cc_d, oc_len, oc_bool, oc_str, oc_repr, at_ob, f_ini, f_in2, nd_f, nd_t, g_get, ob_of, sl_fl, sl_tup, clos, clo, clof, Bool.and_self, Bool.true_and, Bool.and_true, Option.map_some, t_fl, m_app, m_ext, o_addRF, o_addFL, o_mulR, e_mk, mk_fz, tr_t, tr_f, String.reduceEq, gf_c, isc, eq_ss]
theorem eqN_ok {d : Nat} {h : Hm} {k : Tx} {w : Wh} {n : Int} {ks : List Tx} {v : Vl} (hv : isc h v "Telling" = some false) : Ok (callP PP (d + 1) "Telling" "__eq__" [Tl k w n ks, v] h) fun v h' => v = .bl false ∧ h' = h := by
  refine ok_call lk_Telling___eq__ rfl ?_
  unfold b_Telling___eq__ Tl flds
  simp only [ok_cons, ok_nil, ok_ok, ok_bad, then_nx, then_rt, then_bk, then_ct, x_expr, x_asg, x_ret, x_ite, x_pass, x_for, t_name, t_att, t_sub, t_tup, t_nil, t_cons, e_var, e_cst, e_tup, e_lst, e_bin, e_cmp, e_neg, e_notF, e_notT, e_andT, e_orT, e_andF, e_orF, e_ite, e_chain, e_att, e_sub, e_slc, oi_n, oi_var, oi_bin, oi_sub, oi_blt, oi_neg, oi_call, oi_att, oi_cint, e_call, e_meth, e_blt, e_bm, e_nil, e_cons, e_lc, eT_var, eT_cst, eT_tup, eT_lst, eT_bin, eT_cmp, eT_chain, eT_att, eT_sub, eT_slc, eT_call, eT_meth, eT_blt, eT_bm, eT_lc, at0, at1, at2, at3, at4, isAbs, tr_b, br_t, br_f, br_d, o_add, o_addS, o_addT, o_sub, o_mul, o_div, o_mod, o_pow, c_lt, c_gt, c_le, c_ge, c_leS, c_ltS, c_eq, c_ne, c_in, c_nin, c_is, c_isn, s_set, ix0, ix1, ix2, ix3, Ob.lst.injEq, Vl.int.injEq, Vl.bl.injEq, Nat.reduceLT, Nat.zero_lt_succ, s_ref, s_tup, s_fl, s_scr, s_str, f_fn, start, List.map_cons, List.map_nil, List.length_cons, List.length_nil, List.replicate, List.cons_append, List.nil_append, List.set_cons_zero, List.set_cons_succ, List.getElem?_cons_zero, List.getElem?_cons_succ, Option.some.injEq, exists_eq_left', exists_eq_left, true_and, and_true, Nat.reduceAdd, Nat.reduceSub, if_true, if_false, reduceIte, Bool.false_eq_true, SR, srcs, srcV, b_len, b_abs, b_max, b_min, b_intI, b_intB, b_isi, b_rng, b_listS, b_listT, b_all, b_any, m_lower, sl_str, br_nd, Bool.not_true, Bool.not_false, ob_some, tr_i, tr_n, Vl.str.injEq, Vl.ref.injEq, Vl.tup.injEq, exists_eq_right, bmChk, bmTy, e_lstF, e_dct, PR, pairsOf, e_fstr, e_fnil, e_fcons, e_fmt, fm_str, e_slcR, e_callp, e_mkp, e_methp, e_lcF, o_addF, eT_callp, eT_methp, b_isc, b_listF, b_lisTL, b_lisFL, b_tupT, b_tupF, b_strI, b_strS, bc_s, bc_i, bc_b, bc_n, bc_t, bc_f, bc_c, bc_d, bc_2, cc_s, cc_i, cc_b, cc_n, cc_t, cc_f, cc_d, oc_len, oc_bool, oc_str, oc_repr, at_ob, f_ini, f_in2, nd_f, nd_t, g_get, ob_of, sl_fl, sl_tup, clos, clo, clof, Bool.and_self, Bool.true_and, Bool.and_true, Option.map_some, t_fl, m_app, m_ext, o_addRF, o_addFL, o_mulR, e_mk, mk_fz, tr_t, tr_f, hv]
theorem len_ok {d : Nat} {h : Hm} {k : Tx} {w : Wh} {n : Int} {ks : List Tx} : Ok (callP PP (d + 1) "Telling" "__len__" [Tl k w n ks] h) fun v h' => v = .int ks.length ∧ h' = h := by
  refine ok_call lk_Telling___len__ rfl ?_
  unfold b_Telling___len__ Tl flds vt
  simp only [ok_cons, ok_nil, ok_ok, ok_bad, then_nx, then_rt, then_bk, then_ct, x_expr, x_asg, x_ret, x_ite, x_pass, x_for, t_name, t_att, t_sub, t_tup, t_nil, t_cons, e_var, e_cst, e_tup, e_lst, e_bin, e_cmp, e_neg, e_notF, e_notT, e_andT, e_orT, e_andF, e_orF, e_ite, e_chain, e_att, e_sub, e_slc, oi_n, oi_var, oi_bin, oi_sub, oi_blt, oi_neg, oi_call, oi_att, oi_cint, e_call, e_meth, e_blt, e_bm, e_nil, e_cons, e_lc, eT_var, eT_cst, eT_tup, eT_lst, eT_bin, eT_cmp, eT_chain, eT_att, eT_sub, eT_slc, eT_call, eT_meth, eT_blt, eT_bm, eT_lc, at0, at1, at2, at3, at4, isAbs, tr_b, br_t, br_f, br_d, o_add, o_addS, o_addT, o_sub, o_mul, o_div, o_mod, o_pow, c_lt, c_gt, c_le, c_ge, c_leS, c_ltS, c_eq, c_ne, c_in, c_nin, c_is, c_isn, s_set, ix0, ix1, ix2, ix3, Ob.lst.injEq, Vl.int.injEq, Vl.bl.injEq, Nat.reduceLT, Nat.zero_lt_succ, s_ref, s_tup, s_fl, s_scr, s_str, f_fn, start, List.map_cons, List.map_nil, List.length_cons, List.length_nil, List.replicate, List.cons_append, List.nil_append, List.set_cons_zero, List.set_cons_succ, List.getElem?_cons_zero, List.getElem?_cons_succ, Option.some.injEq, exists_eq_left', exists_eq_left, true_and, and_true, Nat.reduceAdd, Nat.reduceSub, if_true, if_false, reduceIte, Bool.false_eq_true, SR, srcs, srcV, b_len, b_abs, b_max, b_min, b_intI, b_intB, b_isi, b_rng, b_listS, b_listT, b_all, b_any, m_lower, sl_str, br_nd, Bool.not_true, Bool.not_false, ob_some, tr_i, tr_n, Vl.str.injEq, Vl.ref.injEq, Vl.tup.injEq, exists_eq_right, bmChk, bmTy, e_lstF, e_dct, PR, pairsOf, e_fstr, e_fnil, e_fcons, e_fmt, fm_str, e_slcR, e_callp, e_mkp, e_methp, e_lcF, o_addF, eT_callp, eT_methp, b_isc, b_listF, b_lisTL, b_lisFL, b_tupT, b_tupF, b_strI, b_strS, bc_s, bc_i, bc_b, bc_n, bc_t, bc_f, bc_c, bc_d, bc_2, cc_s, cc_i, cc_b, cc_n, cc_t, cc_f, cc_d, oc_len, oc_bool, oc_str, oc_repr, at_ob, f_ini, f_in2, nd_f, nd_t, g_get, ob_of, sl_fl, sl_tup, clos, clo, clof, Bool.and_self, Bool.true_and, Bool.and_true, Option.map_some, t_fl, m_app, m_ext, o_addRF, o_addFL, o_mulR, e_mk, mk_fz, tr_t, tr_f, String.reduceEq, gf_c, lenV, seqOf, List.length_map]
theorem sh_le {k : Tx} {w : Wh} {n : Int} {ks : List Tx} (b : Bd k w n ks) : (shT k w n ks).length ≤ 1000 := by
  have key : ∀ W : List Tx, (joinT (S " ") W).length ≤ (W.map (·.length)).sum + W.length := by
    intro W
    induction W with
    | nil => exact Nat.le_refl _
    | cons s W ih =>
      cases W with
      | nil =>
        show s.length ≤ _
        simp
      | cons t W =>
        show (s ++ S " " ++ joinT (S " ") (t :: W)).length ≤ _
        have h1 : (S " ").length = 1 := rfl
        rw [List.length_append, List.length_append, h1, List.map_cons, List.sum_cons, List.length_cons (a := s)]
        omega
  have := key (words k w n ks)
  have := b.sz
  unfold shT
  omega
theorem str_ok {d : Nat} {h : Hm} {k : Tx} {w : Wh} {n : Int} {ks : List Tx} (b : Bd k w n ks) : Ok (callP PP (d + 1) "Telling" "__str__" [Tl k w n ks] h) fun v h' => v = .str (shT k w n ks) ∧ h' = h := by
  refine ok_call lk_Telling___str__ rfl ?_
  have hL : LIM = 16777216 := rfl
  have := sh_le b
  unfold b_Telling___str__ Tl flds vt
  simp only [ok_cons, ok_nil, ok_ok, ok_bad, then_nx, then_rt, then_bk, then_ct, x_expr, x_asg, x_ret, x_ite, x_pass, x_for, t_name, t_att, t_sub, t_tup, t_nil, t_cons, e_var, e_cst, e_tup, e_lst, e_bin, e_cmp, e_neg, e_notF, e_notT, e_andT, e_orT, e_andF, e_orF, e_ite, e_chain, e_att, e_sub, e_slc, oi_n, oi_var, oi_bin, oi_sub, oi_blt, oi_neg, oi_call, oi_att, oi_cint, e_call, e_meth, e_blt, e_bm, e_nil, e_cons, e_lc, eT_var, eT_cst, eT_tup, eT_lst, eT_bin, eT_cmp, eT_chain, eT_att, eT_sub, eT_slc, eT_call, eT_meth, eT_blt, eT_bm, eT_lc, at0, at1, at2, at3, at4, isAbs, tr_b, br_t, br_f, br_d, o_add, o_addS, o_addT, o_sub, o_mul, o_div, o_mod, o_pow, c_lt, c_gt, c_le, c_ge, c_leS, c_ltS, c_eq, c_ne, c_in, c_nin, c_is, c_isn, s_set, ix0, ix1, ix2, ix3, Ob.lst.injEq, Vl.int.injEq, Vl.bl.injEq, Nat.reduceLT, Nat.zero_lt_succ, s_ref, s_tup, s_fl, s_scr, s_str, f_fn, start, List.map_cons, List.map_nil, List.length_cons, List.length_nil, List.replicate, List.cons_append, List.nil_append, List.set_cons_zero, List.set_cons_succ, List.getElem?_cons_zero, List.getElem?_cons_succ, Option.some.injEq, exists_eq_left', exists_eq_left, true_and, and_true, Nat.reduceAdd, Nat.reduceSub, if_true, if_false, reduceIte, Bool.false_eq_true, SR, srcs, srcV, b_len, b_abs, b_max, b_min, b_intI, b_intB, b_isi, b_rng, b_listS, b_listT, b_all, b_any, m_lower, sl_str, br_nd, Bool.not_true, Bool.not_false, ob_some, tr_i, tr_n, Vl.str.injEq, Vl.ref.injEq, Vl.tup.injEq, exists_eq_right, bmChk, bmTy, e_lstF, e_dct, PR, pairsOf, e_fstr, e_fnil, e_fcons, e_fmt, fm_str, e_slcR, e_callp, e_mkp, e_methp, e_lcF, o_addF, eT_callp, eT_methp, b_isc, b_listF, b_lisTL, b_lisFL, b_tupT, b_tupF, b_strI, b_strS, bc_s, bc_i, bc_b, bc_n, bc_t, bc_f, bc_c, bc_d, bc_2, cc_s, cc_i, cc_b, cc_n, cc_t, cc_f, cc_d, oc_len, oc_bool, oc_str, oc_repr, at_ob, f_ini, f_in2, nd_f, nd_t, g_get, ob_of, sl_fl, sl_tup, clos, clo, clof, Bool.and_self, Bool.true_and, Bool.and_true, Option.map_some, t_fl, m_app, m_ext, o_addRF, o_addFL, o_mulR, e_mk, mk_fz, tr_t, tr_f, String.reduceEq, gf_c]
  omega
theorem repr_ok {d : Nat} {h : Hm} {k : Tx} {w : Wh} {n : Int} {ks : List Tx} (b : Bd k w n ks) : Ok (callP PP (d + 1) "Telling" "__repr__" [Tl k w n ks] h) fun v h' => v = .str (S "Telling('" ++ shT k w n ks ++ S "')") ∧ h' = h := by
  refine ok_call lk_Telling___repr__ rfl ?_
  have hL : LIM = 16777216 := rfl
  have := sh_le b
  have h1 : (S "Telling('").length = 9 := by decide
  have h2 : (S "')").length = 2 := by decide
  unfold b_Telling___repr__ Tl flds vt
  simp only [ok_cons, ok_nil, ok_ok, ok_bad, then_nx, then_rt, then_bk, then_ct, x_expr, x_asg, x_ret, x_ite, x_pass, x_for, t_name, t_att, t_sub, t_tup, t_nil, t_cons, e_var, e_cst, e_tup, e_lst, e_bin, e_cmp, e_neg, e_notF, e_notT, e_andT, e_orT, e_andF, e_orF, e_ite, e_chain, e_att, e_sub, e_slc, oi_n, oi_var, oi_bin, oi_sub, oi_blt, oi_neg, oi_call, oi_att, oi_cint, e_call, e_meth, e_blt, e_bm, e_nil, e_cons, e_lc, eT_var, eT_cst, eT_tup, eT_lst, eT_bin, eT_cmp, eT_chain, eT_att, eT_sub, eT_slc, eT_call, eT_meth, eT_blt, eT_bm, eT_lc, at0, at1, at2, at3, at4, isAbs, tr_b, br_t, br_f, br_d, o_add, o_addS, o_addT, o_sub, o_mul, o_div, o_mod, o_pow, c_lt, c_gt, c_le, c_ge, c_leS, c_ltS, c_eq, c_ne, c_in, c_nin, c_is, c_isn, s_set, ix0, ix1, ix2, ix3, Ob.lst.injEq, Vl.int.injEq, Vl.bl.injEq, Nat.reduceLT, Nat.zero_lt_succ, s_ref, s_tup, s_fl, s_scr, s_str, f_fn, start, List.map_cons, List.map_nil, List.length_cons, List.length_nil, List.replicate, List.cons_append, List.nil_append, List.set_cons_zero, List.set_cons_succ, List.getElem?_cons_zero, List.getElem?_cons_succ, Option.some.injEq, exists_eq_left', exists_eq_left, true_and, and_true, Nat.reduceAdd, Nat.reduceSub, if_true, if_false, reduceIte, Bool.false_eq_true, SR, srcs, srcV, b_len, b_abs, b_max, b_min, b_intI, b_intB, b_isi, b_rng, b_listS, b_listT, b_all, b_any, m_lower, sl_str, br_nd, Bool.not_true, Bool.not_false, ob_some, tr_i, tr_n, Vl.str.injEq, Vl.ref.injEq, Vl.tup.injEq, exists_eq_right, bmChk, bmTy, e_lstF, e_dct, PR, pairsOf, e_fstr, e_fnil, e_fcons, e_fmt, fm_str, e_slcR, e_callp, e_mkp, e_methp, e_lcF, o_addF, eT_callp, eT_methp, b_isc, b_listF, b_lisTL, b_lisFL, b_tupT, b_tupF, b_strI, b_strS, bc_s, bc_i, bc_b, bc_n, bc_t, bc_f, bc_c, bc_d, bc_2, cc_s, cc_i, cc_b, cc_n, cc_t, cc_f, cc_d, oc_len, oc_bool, oc_str, oc_repr, at_ob, f_ini, f_in2, nd_f, nd_t, g_get, ob_of, sl_fl, sl_tup, clos, clo, clof, Bool.and_self, Bool.true_and, Bool.and_true, Option.map_some, t_fl, m_app, m_ext, o_addRF, o_addFL, o_mulR, e_mk, mk_fz, tr_t, tr_f, String.reduceEq, gf_c, List.length_append]
  omega
/-- the law's own text -/
theorem text_ok {d : Nat} {k : Tx} {w : Wh} {n : Int} {ks : List Tx} (b : Bd k w n ks) : Ok (callP PP (d + 1) "" "_law_text" [.str k, w.v, .int n, vt ks] []) fun v _ => v = .str (shT k w n ks) := by
  refine ok_call lk__law_text rfl ?_
  have hL : LIM = 16777216 := rfl
  have hw := wln b
  have hsz := wsz b
  have hlg := lg b.lw
  have e0 : ∃ c, ∀ h, eqV h (.tup (ks.map Vl.str)) (.tup []) = some c ∧ (if (!c) = true then (1 : Int) else 0) = if ks = [] then 0 else 1 := ⟨decide (ks = []), fun h => ⟨eq_v0, by by_cases e : ks = [] <;> simp [e]⟩⟩
  obtain ⟨c, hc⟩ := e0
  have e1 : ∀ h, eqV h (.tup (ks.map Vl.str)) (.tup []) = some c := fun h => (hc h).1
  have e2 := (hc []).2
  have e3 : (List.replicate (if (!c) = true then (1 : Int) else 0).toNat [Vl.str (S "by")]).flatten ++ ks.map Vl.str = (tl ks).map Vl.str := by
    rw [e2]
    unfold tl
    split
    · rename_i e
      rw [e]
      rfl
    · rfl
  have e4 : (List.replicate (if (!c) = true then (1 : Int) else 0).toNat [Vl.str (S "by")]).flatten.length ≤ 1 := by
    rw [e2]
    split <;> decide
  have e5 : (-2 ^ 63 ≤ if (!c) = true then (1 : Int) else 0) ∧ (if (!c) = true then (1 : Int) else 0) < 2 ^ 63 ∧ 1 * (if (!c) = true then (1 : Int) else 0).toNat ≤ LIM := by
    rw [e2]
    split <;> decide
  have jo : ∀ {h : Hm} {xs : List Vl}, xs = (words k w n ks).map .str → Ok (bmF "join" (.str (S " ")) [.fl xs] h) fun v _ => v = .str (joinT (S " ") (words k w n ks)) := fun {h xs} e => (m_joinF (by rw [e]; exact strs_map _)).mpr ⟨hsz, rfl⟩
  unfold shT
  unfold b__law_text vt
  simp only [ok_cons, ok_nil, ok_ok, ok_bad, then_nx, then_rt, then_bk, then_ct, x_expr, x_asg, x_ret, x_ite, x_pass, x_for, t_name, t_att, t_sub, t_tup, t_nil, t_cons, e_var, e_cst, e_tup, e_lst, e_bin, e_cmp, e_neg, e_notF, e_notT, e_andT, e_orT, e_andF, e_orF, e_ite, e_chain, e_att, e_sub, e_slc, oi_n, oi_var, oi_bin, oi_sub, oi_blt, oi_neg, oi_call, oi_att, oi_cint, e_call, e_meth, e_blt, e_bm, e_nil, e_cons, e_lc, eT_var, eT_cst, eT_tup, eT_lst, eT_bin, eT_cmp, eT_chain, eT_att, eT_sub, eT_slc, eT_call, eT_meth, eT_blt, eT_bm, eT_lc, at0, at1, at2, at3, at4, isAbs, tr_b, br_t, br_f, br_d, o_add, o_addS, o_addT, o_sub, o_mul, o_div, o_mod, o_pow, c_lt, c_gt, c_le, c_ge, c_leS, c_ltS, c_eq, c_ne, c_in, c_nin, c_is, c_isn, s_set, ix0, ix1, ix2, ix3, Ob.lst.injEq, Vl.int.injEq, Vl.bl.injEq, Nat.reduceLT, Nat.zero_lt_succ, s_ref, s_tup, s_fl, s_scr, s_str, f_fn, start, List.map_cons, List.map_nil, List.length_cons, List.length_nil, List.replicate, List.cons_append, List.nil_append, List.set_cons_zero, List.set_cons_succ, List.getElem?_cons_zero, List.getElem?_cons_succ, Option.some.injEq, exists_eq_left', exists_eq_left, true_and, and_true, Nat.reduceAdd, Nat.reduceSub, if_true, if_false, reduceIte, Bool.false_eq_true, SR, srcs, srcV, b_len, b_abs, b_max, b_min, b_intI, b_intB, b_isi, b_rng, b_listS, b_listT, b_all, b_any, m_lower, sl_str, br_nd, Bool.not_true, Bool.not_false, ob_some, tr_i, tr_n, Vl.str.injEq, Vl.ref.injEq, Vl.tup.injEq, exists_eq_right, bmChk, bmTy, e_lstF, e_dct, PR, pairsOf, e_fstr, e_fnil, e_fcons, e_fmt, fm_str, e_slcR, e_callp, e_mkp, e_methp, e_lcF, o_addF, eT_callp, eT_methp, b_isc, b_listF, b_lisTL, b_lisFL, b_tupT, b_tupF, b_strI, b_strS, bc_s, bc_i, bc_b, bc_n, bc_t, bc_f, bc_c, bc_d, bc_2, cc_s, cc_i, cc_b, cc_n, cc_t, cc_f, cc_d, oc_len, oc_bool, oc_str, oc_repr, at_ob, f_ini, f_in2, nd_f, nd_t, g_get, ob_of, sl_fl, sl_tup, clos, clo, clof, Bool.and_self, Bool.true_and, Bool.and_true, Option.map_some, t_fl, m_app, m_ext, o_addRF, o_addFL, o_mulR, e_mk, mk_fz, tr_t, tr_f]
  cases w with
  | one s =>
    have hw : 1 + ks.length + 2 ≤ 1000 := hw
    simp only [Wh.v, isi_s, ok_cons, ok_nil, ok_ok, ok_bad, then_nx, then_rt, then_bk, then_ct, x_expr, x_asg, x_ret, x_ite, x_pass, x_for, t_name, t_att, t_sub, t_tup, t_nil, t_cons, e_var, e_cst, e_tup, e_lst, e_bin, e_cmp, e_neg, e_notF, e_notT, e_andT, e_orT, e_andF, e_orF, e_ite, e_chain, e_att, e_sub, e_slc, oi_n, oi_var, oi_bin, oi_sub, oi_blt, oi_neg, oi_call, oi_att, oi_cint, e_call, e_meth, e_blt, e_bm, e_nil, e_cons, e_lc, eT_var, eT_cst, eT_tup, eT_lst, eT_bin, eT_cmp, eT_chain, eT_att, eT_sub, eT_slc, eT_call, eT_meth, eT_blt, eT_bm, eT_lc, at0, at1, at2, at3, at4, isAbs, tr_b, br_t, br_f, br_d, o_add, o_addS, o_addT, o_sub, o_mul, o_div, o_mod, o_pow, c_lt, c_gt, c_le, c_ge, c_leS, c_ltS, c_eq, c_ne, c_in, c_nin, c_is, c_isn, s_set, ix0, ix1, ix2, ix3, Ob.lst.injEq, Vl.int.injEq, Vl.bl.injEq, Nat.reduceLT, Nat.zero_lt_succ, s_ref, s_tup, s_fl, s_scr, s_str, f_fn, start, List.map_cons, List.map_nil, List.length_cons, List.length_nil, List.replicate, List.cons_append, List.nil_append, List.set_cons_zero, List.set_cons_succ, List.getElem?_cons_zero, List.getElem?_cons_succ, Option.some.injEq, exists_eq_left', exists_eq_left, true_and, and_true, Nat.reduceAdd, Nat.reduceSub, if_true, if_false, reduceIte, Bool.false_eq_true, SR, srcs, srcV, b_len, b_abs, b_max, b_min, b_intI, b_intB, b_isi, b_rng, b_listS, b_listT, b_all, b_any, m_lower, sl_str, br_nd, Bool.not_true, Bool.not_false, ob_some, tr_i, tr_n, Vl.str.injEq, Vl.ref.injEq, Vl.tup.injEq, exists_eq_right, bmChk, bmTy, e_lstF, e_dct, PR, pairsOf, e_fstr, e_fnil, e_fcons, e_fmt, fm_str, e_slcR, e_callp, e_mkp, e_methp, e_lcF, o_addF, eT_callp, eT_methp, b_isc, b_listF, b_lisTL, b_lisFL, b_tupT, b_tupF, b_strI, b_strS, bc_s, bc_i, bc_b, bc_n, bc_t, bc_f, bc_c, bc_d, bc_2, cc_s, cc_i, cc_b, cc_n, cc_t, cc_f, cc_d, oc_len, oc_bool, oc_str, oc_repr, at_ob, f_ini, f_in2, nd_f, nd_t, g_get, ob_of, sl_fl, sl_tup, clos, clo, clof, Bool.and_self, Bool.true_and, Bool.and_true, Option.map_some, t_fl, m_app, m_ext, o_addRF, o_addFL, o_mulR, e_mk, mk_fz, tr_t, tr_f, e1, lstOf]
    refine ⟨by omega, by omega, by omega, hlg, by omega, by omega, by omega, by omega, e5, by omega, by rw [List.length_map]; omega, jo ?_⟩
    rw [e3]
    simp only [words, Wh.ws, List.map_cons, List.map_append, List.map_nil, List.cons_append, List.nil_append]
  | many ss =>
    have hw : ss.length + ks.length + 2 ≤ 1000 := hw
    cases ss with
    | nil =>
      simp only [Wh.v, isi_t, ok_cons, ok_nil, ok_ok, ok_bad, then_nx, then_rt, then_bk, then_ct, x_expr, x_asg, x_ret, x_ite, x_pass, x_for, t_name, t_att, t_sub, t_tup, t_nil, t_cons, e_var, e_cst, e_tup, e_lst, e_bin, e_cmp, e_neg, e_notF, e_notT, e_andT, e_orT, e_andF, e_orF, e_ite, e_chain, e_att, e_sub, e_slc, oi_n, oi_var, oi_bin, oi_sub, oi_blt, oi_neg, oi_call, oi_att, oi_cint, e_call, e_meth, e_blt, e_bm, e_nil, e_cons, e_lc, eT_var, eT_cst, eT_tup, eT_lst, eT_bin, eT_cmp, eT_chain, eT_att, eT_sub, eT_slc, eT_call, eT_meth, eT_blt, eT_bm, eT_lc, at0, at1, at2, at3, at4, isAbs, tr_b, br_t, br_f, br_d, o_add, o_addS, o_addT, o_sub, o_mul, o_div, o_mod, o_pow, c_lt, c_gt, c_le, c_ge, c_leS, c_ltS, c_eq, c_ne, c_in, c_nin, c_is, c_isn, s_set, ix0, ix1, ix2, ix3, Ob.lst.injEq, Vl.int.injEq, Vl.bl.injEq, Nat.reduceLT, Nat.zero_lt_succ, s_ref, s_tup, s_fl, s_scr, s_str, f_fn, start, List.map_cons, List.map_nil, List.length_cons, List.length_nil, List.replicate, List.cons_append, List.nil_append, List.set_cons_zero, List.set_cons_succ, List.getElem?_cons_zero, List.getElem?_cons_succ, Option.some.injEq, exists_eq_left', exists_eq_left, true_and, and_true, Nat.reduceAdd, Nat.reduceSub, if_true, if_false, reduceIte, Bool.false_eq_true, SR, srcs, srcV, b_len, b_abs, b_max, b_min, b_intI, b_intB, b_isi, b_rng, b_listS, b_listT, b_all, b_any, m_lower, sl_str, br_nd, Bool.not_true, Bool.not_false, ob_some, tr_i, tr_n, Vl.str.injEq, Vl.ref.injEq, Vl.tup.injEq, exists_eq_right, bmChk, bmTy, e_lstF, e_dct, PR, pairsOf, e_fstr, e_fnil, e_fcons, e_fmt, fm_str, e_slcR, e_callp, e_mkp, e_methp, e_lcF, o_addF, eT_callp, eT_methp, b_isc, b_listF, b_lisTL, b_lisFL, b_tupT, b_tupF, b_strI, b_strS, bc_s, bc_i, bc_b, bc_n, bc_t, bc_f, bc_c, bc_d, bc_2, cc_s, cc_i, cc_b, cc_n, cc_t, cc_f, cc_d, oc_len, oc_bool, oc_str, oc_repr, at_ob, f_ini, f_in2, nd_f, nd_t, g_get, ob_of, sl_fl, sl_tup, clos, clo, clof, Bool.and_self, Bool.true_and, Bool.and_true, Option.map_some, t_fl, m_app, m_ext, o_addRF, o_addFL, o_mulR, e_mk, mk_fz, tr_t, tr_f, e1, lstOf, vt, isNon, List.isEmpty_nil]
      refine ⟨by omega, by omega, by omega, hlg, by omega, by omega, by omega, by omega, e5, by omega, by rw [List.length_map]; omega, jo ?_⟩
      rw [e3]
      simp only [words, Wh.ws, List.map_cons, List.map_append, List.map_nil, List.cons_append, List.nil_append]
    | cons s ss =>
      have hw : (ss.length + 1) + ks.length + 2 ≤ 1000 := hw
      simp only [Wh.v, isi_t, ok_cons, ok_nil, ok_ok, ok_bad, then_nx, then_rt, then_bk, then_ct, x_expr, x_asg, x_ret, x_ite, x_pass, x_for, t_name, t_att, t_sub, t_tup, t_nil, t_cons, e_var, e_cst, e_tup, e_lst, e_bin, e_cmp, e_neg, e_notF, e_notT, e_andT, e_orT, e_andF, e_orF, e_ite, e_chain, e_att, e_sub, e_slc, oi_n, oi_var, oi_bin, oi_sub, oi_blt, oi_neg, oi_call, oi_att, oi_cint, e_call, e_meth, e_blt, e_bm, e_nil, e_cons, e_lc, eT_var, eT_cst, eT_tup, eT_lst, eT_bin, eT_cmp, eT_chain, eT_att, eT_sub, eT_slc, eT_call, eT_meth, eT_blt, eT_bm, eT_lc, at0, at1, at2, at3, at4, isAbs, tr_b, br_t, br_f, br_d, o_add, o_addS, o_addT, o_sub, o_mul, o_div, o_mod, o_pow, c_lt, c_gt, c_le, c_ge, c_leS, c_ltS, c_eq, c_ne, c_in, c_nin, c_is, c_isn, s_set, ix0, ix1, ix2, ix3, Ob.lst.injEq, Vl.int.injEq, Vl.bl.injEq, Nat.reduceLT, Nat.zero_lt_succ, s_ref, s_tup, s_fl, s_scr, s_str, f_fn, start, List.map_cons, List.map_nil, List.length_cons, List.length_nil, List.replicate, List.cons_append, List.nil_append, List.set_cons_zero, List.set_cons_succ, List.getElem?_cons_zero, List.getElem?_cons_succ, Option.some.injEq, exists_eq_left', exists_eq_left, true_and, and_true, Nat.reduceAdd, Nat.reduceSub, if_true, if_false, reduceIte, Bool.false_eq_true, SR, srcs, srcV, b_len, b_abs, b_max, b_min, b_intI, b_intB, b_isi, b_rng, b_listS, b_listT, b_all, b_any, m_lower, sl_str, br_nd, Bool.not_true, Bool.not_false, ob_some, tr_i, tr_n, Vl.str.injEq, Vl.ref.injEq, Vl.tup.injEq, exists_eq_right, bmChk, bmTy, e_lstF, e_dct, PR, pairsOf, e_fstr, e_fnil, e_fcons, e_fmt, fm_str, e_slcR, e_callp, e_mkp, e_methp, e_lcF, o_addF, eT_callp, eT_methp, b_isc, b_listF, b_lisTL, b_lisFL, b_tupT, b_tupF, b_strI, b_strS, bc_s, bc_i, bc_b, bc_n, bc_t, bc_f, bc_c, bc_d, bc_2, cc_s, cc_i, cc_b, cc_n, cc_t, cc_f, cc_d, oc_len, oc_bool, oc_str, oc_repr, at_ob, f_ini, f_in2, nd_f, nd_t, g_get, ob_of, sl_fl, sl_tup, clos, clo, clof, Bool.and_self, Bool.true_and, Bool.and_true, Option.map_some, t_fl, m_app, m_ext, o_addRF, o_addFL, o_mulR, e_mk, mk_fz, tr_t, tr_f, e1, lstOf, vt, isNon, List.isEmpty_cons]
      simp only [List.length_append, List.length_map, List.length_cons, List.length_nil, List.append_assoc, List.cons_append, List.nil_append, e3]
      refine ⟨by omega, by omega, hlg, by omega, by omega, by omega, by omega, e5, by omega, by omega, jo ?_⟩
      simp only [words, Wh.ws, List.map_cons, List.map_append, List.map_nil, List.cons_append, List.nil_append]
  | nil =>
    have hw : 0 + ks.length + 2 ≤ 1000 := hw
    simp only [Wh.v, isi_n, ok_cons, ok_nil, ok_ok, ok_bad, then_nx, then_rt, then_bk, then_ct, x_expr, x_asg, x_ret, x_ite, x_pass, x_for, t_name, t_att, t_sub, t_tup, t_nil, t_cons, e_var, e_cst, e_tup, e_lst, e_bin, e_cmp, e_neg, e_notF, e_notT, e_andT, e_orT, e_andF, e_orF, e_ite, e_chain, e_att, e_sub, e_slc, oi_n, oi_var, oi_bin, oi_sub, oi_blt, oi_neg, oi_call, oi_att, oi_cint, e_call, e_meth, e_blt, e_bm, e_nil, e_cons, e_lc, eT_var, eT_cst, eT_tup, eT_lst, eT_bin, eT_cmp, eT_chain, eT_att, eT_sub, eT_slc, eT_call, eT_meth, eT_blt, eT_bm, eT_lc, at0, at1, at2, at3, at4, isAbs, tr_b, br_t, br_f, br_d, o_add, o_addS, o_addT, o_sub, o_mul, o_div, o_mod, o_pow, c_lt, c_gt, c_le, c_ge, c_leS, c_ltS, c_eq, c_ne, c_in, c_nin, c_is, c_isn, s_set, ix0, ix1, ix2, ix3, Ob.lst.injEq, Vl.int.injEq, Vl.bl.injEq, Nat.reduceLT, Nat.zero_lt_succ, s_ref, s_tup, s_fl, s_scr, s_str, f_fn, start, List.map_cons, List.map_nil, List.length_cons, List.length_nil, List.replicate, List.cons_append, List.nil_append, List.set_cons_zero, List.set_cons_succ, List.getElem?_cons_zero, List.getElem?_cons_succ, Option.some.injEq, exists_eq_left', exists_eq_left, true_and, and_true, Nat.reduceAdd, Nat.reduceSub, if_true, if_false, reduceIte, Bool.false_eq_true, SR, srcs, srcV, b_len, b_abs, b_max, b_min, b_intI, b_intB, b_isi, b_rng, b_listS, b_listT, b_all, b_any, m_lower, sl_str, br_nd, Bool.not_true, Bool.not_false, ob_some, tr_i, tr_n, Vl.str.injEq, Vl.ref.injEq, Vl.tup.injEq, exists_eq_right, bmChk, bmTy, e_lstF, e_dct, PR, pairsOf, e_fstr, e_fnil, e_fcons, e_fmt, fm_str, e_slcR, e_callp, e_mkp, e_methp, e_lcF, o_addF, eT_callp, eT_methp, b_isc, b_listF, b_lisTL, b_lisFL, b_tupT, b_tupF, b_strI, b_strS, bc_s, bc_i, bc_b, bc_n, bc_t, bc_f, bc_c, bc_d, bc_2, cc_s, cc_i, cc_b, cc_n, cc_t, cc_f, cc_d, oc_len, oc_bool, oc_str, oc_repr, at_ob, f_ini, f_in2, nd_f, nd_t, g_get, ob_of, sl_fl, sl_tup, clos, clo, clof, Bool.and_self, Bool.true_and, Bool.and_true, Option.map_some, t_fl, m_app, m_ext, o_addRF, o_addFL, o_mulR, e_mk, mk_fz, tr_t, tr_f, e1, lstOf, isNon]
    refine ⟨by omega, by omega, by omega, hlg, by omega, by omega, by omega, by omega, e5, by omega, by rw [List.length_map]; omega, jo ?_⟩
    rw [e3]
    simp only [words, Wh.ws, List.map_cons, List.map_append, List.map_nil, List.cons_append, List.nil_append]
end Lw
namespace Lw
open Mi
def dr (k : Tx) (w : Wh) (n : Int) (ks : List Tx) : Vl := .tup [.str k, w.v, .int n, vt ks]
theorem eq_bb {h : Hm} {a b : Bool} : eqV h (.bl a) (.bl b) = some (a == b) := by
  unfold eqV topV
  rfl
theorem eq_ii {h : Hm} {a b : Int} : eqV h (.int a) (.int b) = some (decide (a = b)) := by
  unfold eqV topV
  show some (a == b) = _
  rw [Option.some.injEq, Bool.eq_iff_iff]
  simp
theorem pur_w (w : Wh) : pur w.v = true := by
  cases w with
  | one s => rfl
  | many ss => exact purs_str ss
  | nil => rfl
theorem dep_w (w : Wh) : dep w.v ≤ 1 := by
  cases w with
  | one s => exact Nat.zero_le _
  | many ss => exact Nat.le_of_eq (congrArg (· + 1) (deps_str ss))
  | nil => exact Nat.zero_le _
theorem eqD_w (w w' : Wh) : eqD w.v w'.v = decide (w = w') := by
  cases w <;> cases w'
  · show (_ == _) = _
    rw [Bool.eq_iff_iff]
    simp
  · exact (decide_eq_false (by simp)).symm
  · exact (decide_eq_false (by simp)).symm
  · exact (decide_eq_false (by simp)).symm
  · show eqDs _ _ = _
    rw [eqDs_str]
    simp
  · exact (decide_eq_false (by simp)).symm
  · exact (decide_eq_false (by simp)).symm
  · exact (decide_eq_false (by simp)).symm
  · exact (decide_eq_true rfl).symm
theorem eq_dr {h : Hm} {k k' : Tx} {w w' : Wh} {n n' : Int} {ks ks' : List Tx} : eqV h (.tup [.str k, w.v, .int n, .tup (ks.map .str)]) (.tup [.str k', w'.v, .int n', .tup (ks'.map .str)]) = some (decide (k = k' ∧ w = w' ∧ n = n' ∧ ks = ks')) := by
  have p : ∀ (k : Tx) (w : Wh) (n : Int) (ks : List Tx), pur (.tup [.str k, w.v, .int n, .tup (ks.map .str)]) = true := fun k w n ks => by
    show (true && (pur w.v && (true && (purs (ks.map .str) && true)))) = true
    rw [pur_w, purs_str]
    rfl
  have q : ∀ (k : Tx) (w : Wh) (n : Int) (ks : List Tx), dep (.tup [.str k, w.v, .int n, .tup (ks.map .str)]) ≤ 60 := fun k w n ks => by
    show max 0 (max (dep w.v) (max 0 (max (deps (ks.map .str) + 1) 0))) + 1 ≤ 60
    rw [deps_str]
    have := dep_w w
    omega
  unfold eqV topV
  dsimp only
  rw [p, p, decide_eq_true (q ..), decide_eq_true (q ..)]
  show some (k == k' && (eqD w.v w'.v && (n == n' && (eqDs (ks.map .str) (ks'.map .str) && true)))) = _
  rw [eqD_w, eqDs_str, Option.some.injEq, Bool.eq_iff_iff]
  simp
theorem typ_s {h : Hm} {s : Tx} : typed h (.str s) = true := rfl
theorem typ_t {h : Hm} {s : List Vl} : typed h (.tup s) = true := rfl
theorem typ_f {h : Hm} {s : List Vl} : typed h (.fl s) = true := rfl
theorem typ_n {h : Hm} : typed h .non = true := rfl
theorem clo_dr {k : Tx} {w : Wh} {n : Int} {ks : List Tx} : clo (dr k w n ks) = true := by
  show (true && (clo w.v && (true && (clos (ks.map .str) && true)))) = true
  rw [clo_w, clos_str]
  rfl
theorem clo_tl {k : Tx} {w : Wh} {n : Int} {ks : List Tx} : clo (Tl k w n ks) = true := by
  show (true && (clo w.v && (true && (clos (ks.map .str) && (true && true))))) = true
  rw [clo_w, clos_str]
  rfl
theorem at_tl {f : String} {h : Hm} {Q : Vl → Hm → Prop} {k : Tx} {w : Wh} {n : Int} {ks : List Tx} : Ok (attV f (Tl k w n ks) h) Q ↔ ∃ v, getF (flds k w n ks) f = some v ∧ Q v h := at_ob
theorem ob_tl {h : Hm} {k : Tx} {w : Wh} {n : Int} {ks : List Tx} : objOf h (Tl k w n ks) = some ("Telling", flds k w n ks) := rfl
theorem frz_fl {h : Hm} {k : Tx} {w : Wh} {n : Int} {ks : List Tx} : frzFs (flds k w n ks) h = (flds k w n ks, h) := by
  refine frz_id ?_
  intro p hp b e
  simp only [flds, List.mem_cons, List.not_mem_nil, or_false] at hp
  rcases hp with rfl | rfl | rfl | rfl | rfl
  · cases e
  · exact w_ref _ _ e
  · cases e
  · cases e
  · cases e
theorem clof_fl {k : Tx} {w : Wh} {n : Int} {ks : List Tx} : clof (flds k w n ks) = true := clo_tl (k := k) (w := w) (n := n) (ks := ks)
theorem ex2 {α β : Type} {a : α} {b : β} {P : α → β → Prop} : (∃ c d, (a, b) = (c, d) ∧ P c d) ↔ P a b := ⟨fun ⟨_, _, e, q⟩ => by cases e; exact q, fun q => ⟨a, b, rfl, q⟩⟩
theorem exI {a : String} {b : List (String × Vl)} {P : String → List (String × Vl) → Prop} : (∃ c d, Ob.inst a b = .inst c d ∧ P c d) ↔ P a b := ⟨fun ⟨_, _, e, q⟩ => by cases e; exact q, fun q => ⟨a, b, rfl, q⟩⟩
theorem oc_in1 {C : Cs} {h : Hm} {Q : Vl → Hm → Prop} {c c2 : String} {fs fs2 : List (String × Vl)} (h1 : clof fs = true) (h2 : clof fs2 = true) (w : Ok (C.ini c2 "__eq__" [.ob c2 fs2, .ob c fs] []) fun b _ => b = .bl true) (q : Q (.bl true) h) : Ok (cmpC C .isin (.ob c fs) (.fl [.ob c2 fs2]) h) Q := by
  show Ok (if (clof fs && (clof fs2 && true)) = true then (pureR (C.ini c2 "__eq__" [.ob c2 fs2, .ob c fs] []) h).bind (fun b h => (match b with
      | .bl true => Res.ok (Vl.bl true) h
      | _ => .bad)) else .bad) Q
  rw [h1, h2, if_pos (show (true && (true && true)) = true from rfl), ok_bind, ok_pure]
  refine Ok.imp w fun b _ e => ?_
  subst e
  exact ⟨rfl, q⟩
theorem gk {k : Tx} {w : Wh} {n : Int} {ks : List Tx} : getF (flds k w n ks) "kind" = some (.str k) := rfl
theorem gw {k : Tx} {w : Wh} {n : Int} {ks : List Tx} : getF (flds k w n ks) "what" = some w.v := rfl
theorem gs {k : Tx} {w : Wh} {n : Int} {ks : List Tx} : getF (flds k w n ks) "steps" = some (.int n) := rfl
theorem gn {k : Tx} {w : Wh} {n : Int} {ks : List Tx} : getF (flds k w n ks) "known" = some (.tup (ks.map .str)) := rfl
theorem gi {k : Tx} {w : Wh} {n : Int} {ks : List Tx} : getF (flds k w n ks) "is_sure" = none := rfl
/-- a telling says what was told -/
theorem right_ok {d : Nat} {k : Tx} {w : Wh} {n : Int} {ks : List Tx} (b : Bd k w n ks) : Ok (callP PP (d + 5) "" "_law_right" [dr k w n ks] []) fun v _ => v = .bl true := by
  refine ok_call lk__law_right rfl ?_
  have hL : LIM = 16777216 := rfl
  have hw := wln b
  have hsh := sh_le b
  unfold b__law_right dr
  simp only [vt, ok_cons, ok_nil, ok_ok, ok_bad, then_nx, then_rt, then_bk, then_ct, x_expr, x_asg, x_ret, x_ite, x_pass, x_for, t_name, t_att, t_sub, t_tup, t_nil, t_cons, e_var, e_cst, e_tup, e_lst, e_bin, e_cmp, e_neg, e_notF, e_notT, e_andT, e_orT, e_andF, e_orF, e_ite, e_chain, e_att, e_sub, e_slc, oi_n, oi_var, oi_bin, oi_sub, oi_blt, oi_neg, oi_call, oi_att, oi_cint, e_call, e_meth, e_blt, e_bm, e_nil, e_cons, e_lc, eT_var, eT_cst, eT_tup, eT_lst, eT_bin, eT_cmp, eT_chain, eT_att, eT_sub, eT_slc, eT_call, eT_meth, eT_blt, eT_bm, eT_lc, at0, at1, at2, at3, at4, isAbs, tr_b, br_t, br_f, br_d, o_add, o_addS, o_addT, o_sub, o_mul, o_div, o_mod, o_pow, c_lt, c_gt, c_le, c_ge, c_leS, c_ltS, c_eq, c_ne, c_in, c_nin, c_is, c_isn, s_set, ix0, ix1, ix2, ix3, Ob.lst.injEq, Vl.int.injEq, Vl.bl.injEq, Nat.reduceLT, Nat.zero_lt_succ, s_ref, s_tup, s_fl, s_scr, s_str, f_fn, start, List.map_cons, List.map_nil, List.length_cons, List.length_nil, List.replicate, List.cons_append, List.nil_append, List.set_cons_zero, List.set_cons_succ, List.getElem?_cons_zero, List.getElem?_cons_succ, Option.some.injEq, exists_eq_left', exists_eq_left, true_and, and_true, Nat.reduceAdd, Nat.reduceSub, if_true, if_false, reduceIte, Bool.false_eq_true, SR, srcs, srcV, b_len, b_abs, b_max, b_min, b_intI, b_intB, b_isi, b_rng, b_listS, b_listT, b_all, b_any, m_lower, sl_str, br_nd, Bool.not_true, Bool.not_false, ob_some, tr_i, tr_n, Vl.str.injEq, Vl.ref.injEq, Vl.tup.injEq, exists_eq_right, bmChk, bmTy, e_lstF, e_dct, PR, pairsOf, e_fstr, e_fnil, e_fcons, e_fmt, fm_str, e_slcR, e_callp, e_mkp, e_methp, e_lcF, o_addF, eT_callp, eT_methp, b_isc, b_listF, b_lisTL, b_lisFL, b_tupT, b_tupF, b_strI, b_strS, bc_s, bc_i, bc_b, bc_n, bc_t, bc_f, bc_c, bc_d, bc_2, cc_s, cc_i, cc_b, cc_n, cc_t, cc_f, cc_d, oc_len, oc_bool, oc_str, oc_repr, at_ob, f_ini, f_in2, nd_f, nd_t, g_get, ob_of, sl_fl, sl_tup, clos, clo, clof, Bool.and_self, Bool.true_and, Bool.and_true, Option.map_some, t_fl, m_app, m_ext, o_addRF, o_addFL, o_mulR, e_mk, mk_fz, tr_t, tr_f]
  refine Ok.imp (init_ok (d := d + 1) (h := [.lst (ks.map .str)]) b (hkR (a := 0) _ rfl)) fun v h' e => ?_
  obtain ⟨rfl, rfl⟩ := e
  refine ⟨rfl, ?_⟩
  simp only [ok_cons, ok_nil, ok_ok, ok_bad, then_nx, then_rt, then_bk, then_ct, x_expr, x_asg, x_ret, x_ite, x_pass, x_for, t_name, t_att, t_sub, t_tup, t_nil, t_cons, e_var, e_cst, e_tup, e_lst, e_bin, e_cmp, e_neg, e_notF, e_notT, e_andT, e_orT, e_andF, e_orF, e_ite, e_chain, e_att, e_sub, e_slc, oi_n, oi_var, oi_bin, oi_sub, oi_blt, oi_neg, oi_call, oi_att, oi_cint, e_call, e_meth, e_blt, e_bm, e_nil, e_cons, e_lc, eT_var, eT_cst, eT_tup, eT_lst, eT_bin, eT_cmp, eT_chain, eT_att, eT_sub, eT_slc, eT_call, eT_meth, eT_blt, eT_bm, eT_lc, at0, at1, at2, at3, at4, isAbs, tr_b, br_t, br_f, br_d, o_add, o_addS, o_addT, o_sub, o_mul, o_div, o_mod, o_pow, c_lt, c_gt, c_le, c_ge, c_leS, c_ltS, c_eq, c_ne, c_in, c_nin, c_is, c_isn, s_set, ix0, ix1, ix2, ix3, Ob.lst.injEq, Vl.int.injEq, Vl.bl.injEq, Nat.reduceLT, Nat.zero_lt_succ, s_ref, s_tup, s_fl, s_scr, s_str, f_fn, start, List.map_cons, List.map_nil, List.length_cons, List.length_nil, List.replicate, List.cons_append, List.nil_append, List.set_cons_zero, List.set_cons_succ, List.getElem?_cons_zero, List.getElem?_cons_succ, Option.some.injEq, exists_eq_left', exists_eq_left, true_and, and_true, Nat.reduceAdd, Nat.reduceSub, if_true, if_false, reduceIte, Bool.false_eq_true, SR, srcs, srcV, b_len, b_abs, b_max, b_min, b_intI, b_intB, b_isi, b_rng, b_listS, b_listT, b_all, b_any, m_lower, sl_str, br_nd, Bool.not_true, Bool.not_false, ob_some, tr_i, tr_n, Vl.str.injEq, Vl.ref.injEq, Vl.tup.injEq, exists_eq_right, bmChk, bmTy, e_lstF, e_dct, PR, pairsOf, e_fstr, e_fnil, e_fcons, e_fmt, fm_str, e_slcR, e_callp, e_mkp, e_methp, e_lcF, o_addF, eT_callp, eT_methp, b_isc, b_listF, b_lisTL, b_lisFL, b_tupT, b_tupF, b_strI, b_strS, bc_s, bc_i, bc_b, bc_n, bc_t, bc_f, bc_c, bc_d, bc_2, cc_s, cc_i, cc_b, cc_n, cc_t, cc_f, cc_d, oc_len, oc_bool, oc_str, oc_repr, at_ob, f_ini, f_in2, nd_f, nd_t, g_get, ob_of, sl_fl, sl_tup, clos, clo, clof, Bool.and_self, Bool.true_and, Bool.and_true, Option.map_some, t_fl, m_app, m_ext, o_addRF, o_addFL, o_mulR, e_mk, mk_fz, tr_t, tr_f, clo_w, clos_str, frz_fl, exI, lstOf]
  simp only [ok_cons, ok_nil, ok_ok, ok_bad, then_nx, then_rt, then_bk, then_ct, x_expr, x_asg, x_ret, x_ite, x_pass, x_for, t_name, t_att, t_sub, t_tup, t_nil, t_cons, e_var, e_cst, e_tup, e_lst, e_bin, e_cmp, e_neg, e_notF, e_notT, e_andT, e_orT, e_andF, e_orF, e_ite, e_chain, e_att, e_sub, e_slc, oi_n, oi_var, oi_bin, oi_sub, oi_blt, oi_neg, oi_call, oi_att, oi_cint, e_call, e_meth, e_blt, e_bm, e_nil, e_cons, e_lc, eT_var, eT_cst, eT_tup, eT_lst, eT_bin, eT_cmp, eT_chain, eT_att, eT_sub, eT_slc, eT_call, eT_meth, eT_blt, eT_bm, eT_lc, at0, at1, at2, at3, at4, isAbs, tr_b, br_t, br_f, br_d, o_add, o_addS, o_addT, o_sub, o_mul, o_div, o_mod, o_pow, c_lt, c_gt, c_le, c_ge, c_leS, c_ltS, c_eq, c_ne, c_in, c_nin, c_is, c_isn, s_set, ix0, ix1, ix2, ix3, Ob.lst.injEq, Vl.int.injEq, Vl.bl.injEq, Nat.reduceLT, Nat.zero_lt_succ, s_ref, s_tup, s_fl, s_scr, s_str, f_fn, start, List.map_cons, List.map_nil, List.length_cons, List.length_nil, List.replicate, List.cons_append, List.nil_append, List.set_cons_zero, List.set_cons_succ, List.getElem?_cons_zero, List.getElem?_cons_succ, Option.some.injEq, exists_eq_left', exists_eq_left, true_and, and_true, Nat.reduceAdd, Nat.reduceSub, if_true, if_false, reduceIte, Bool.false_eq_true, SR, srcs, srcV, b_len, b_abs, b_max, b_min, b_intI, b_intB, b_isi, b_rng, b_listS, b_listT, b_all, b_any, m_lower, sl_str, br_nd, Bool.not_true, Bool.not_false, ob_some, tr_i, tr_n, Vl.str.injEq, Vl.ref.injEq, Vl.tup.injEq, exists_eq_right, bmChk, bmTy, e_lstF, e_dct, PR, pairsOf, e_fstr, e_fnil, e_fcons, e_fmt, fm_str, e_slcR, e_callp, e_mkp, e_methp, e_lcF, o_addF, eT_callp, eT_methp, b_isc, b_listF, b_lisTL, b_lisFL, b_tupT, b_tupF, b_strI, b_strS, bc_s, bc_i, bc_b, bc_n, bc_t, bc_f, bc_c, bc_d, bc_2, cc_s, cc_i, cc_b, cc_n, cc_t, cc_f, cc_d, oc_len, oc_bool, oc_str, oc_repr, at_ob, f_ini, f_in2, nd_f, nd_t, g_get, ob_of, sl_fl, sl_tup, clos, clo, clof, Bool.and_self, Bool.true_and, Bool.and_true, Option.map_some, t_fl, m_app, m_ext, o_addRF, o_addFL, o_mulR, e_mk, mk_fz, tr_t, tr_f, clo_w, clos_str, frz_fl, exI, lstOf, Option.isSome_some]
  refine ⟨by omega, ?_⟩
  refine Ok.imp (init_ok (d := d + 1) (h := []) b (hkT _ _)) fun v h' e => ?_
  obtain ⟨rfl, rfl⟩ := e
  refine ⟨rfl, ?_⟩
  simp only [ok_cons, ok_nil, ok_ok, ok_bad, then_nx, then_rt, then_bk, then_ct, x_expr, x_asg, x_ret, x_ite, x_pass, x_for, t_name, t_att, t_sub, t_tup, t_nil, t_cons, e_var, e_cst, e_tup, e_lst, e_bin, e_cmp, e_neg, e_notF, e_notT, e_andT, e_orT, e_andF, e_orF, e_ite, e_chain, e_att, e_sub, e_slc, oi_n, oi_var, oi_bin, oi_sub, oi_blt, oi_neg, oi_call, oi_att, oi_cint, e_call, e_meth, e_blt, e_bm, e_nil, e_cons, e_lc, eT_var, eT_cst, eT_tup, eT_lst, eT_bin, eT_cmp, eT_chain, eT_att, eT_sub, eT_slc, eT_call, eT_meth, eT_blt, eT_bm, eT_lc, at0, at1, at2, at3, at4, isAbs, tr_b, br_t, br_f, br_d, o_add, o_addS, o_addT, o_sub, o_mul, o_div, o_mod, o_pow, c_lt, c_gt, c_le, c_ge, c_leS, c_ltS, c_eq, c_ne, c_in, c_nin, c_is, c_isn, s_set, ix0, ix1, ix2, ix3, Ob.lst.injEq, Vl.int.injEq, Vl.bl.injEq, Nat.reduceLT, Nat.zero_lt_succ, s_ref, s_tup, s_fl, s_scr, s_str, f_fn, start, List.map_cons, List.map_nil, List.length_cons, List.length_nil, List.replicate, List.cons_append, List.nil_append, List.set_cons_zero, List.set_cons_succ, List.getElem?_cons_zero, List.getElem?_cons_succ, Option.some.injEq, exists_eq_left', exists_eq_left, true_and, and_true, Nat.reduceAdd, Nat.reduceSub, if_true, if_false, reduceIte, Bool.false_eq_true, SR, srcs, srcV, b_len, b_abs, b_max, b_min, b_intI, b_intB, b_isi, b_rng, b_listS, b_listT, b_all, b_any, m_lower, sl_str, br_nd, Bool.not_true, Bool.not_false, ob_some, tr_i, tr_n, Vl.str.injEq, Vl.ref.injEq, Vl.tup.injEq, exists_eq_right, bmChk, bmTy, e_lstF, e_dct, PR, pairsOf, e_fstr, e_fnil, e_fcons, e_fmt, fm_str, e_slcR, e_callp, e_mkp, e_methp, e_lcF, o_addF, eT_callp, eT_methp, b_isc, b_listF, b_lisTL, b_lisFL, b_tupT, b_tupF, b_strI, b_strS, bc_s, bc_i, bc_b, bc_n, bc_t, bc_f, bc_c, bc_d, bc_2, cc_s, cc_i, cc_b, cc_n, cc_t, cc_f, cc_d, oc_len, oc_bool, oc_str, oc_repr, at_ob, f_ini, f_in2, nd_f, nd_t, g_get, ob_of, sl_fl, sl_tup, clos, clo, clof, Bool.and_self, Bool.true_and, Bool.and_true, Option.map_some, t_fl, m_app, m_ext, o_addRF, o_addFL, o_mulR, e_mk, mk_fz, tr_t, tr_f, clo_w, clos_str, frz_fl, exI, lstOf]
  simp only [ok_cons, ok_nil, ok_ok, ok_bad, then_nx, then_rt, then_bk, then_ct, x_expr, x_asg, x_ret, x_ite, x_pass, x_for, t_name, t_att, t_sub, t_tup, t_nil, t_cons, e_var, e_cst, e_tup, e_lst, e_bin, e_cmp, e_neg, e_notF, e_notT, e_andT, e_orT, e_andF, e_orF, e_ite, e_chain, e_att, e_sub, e_slc, oi_n, oi_var, oi_bin, oi_sub, oi_blt, oi_neg, oi_call, oi_att, oi_cint, e_call, e_meth, e_blt, e_bm, e_nil, e_cons, e_lc, eT_var, eT_cst, eT_tup, eT_lst, eT_bin, eT_cmp, eT_chain, eT_att, eT_sub, eT_slc, eT_call, eT_meth, eT_blt, eT_bm, eT_lc, at0, at1, at2, at3, at4, isAbs, tr_b, br_t, br_f, br_d, o_add, o_addS, o_addT, o_sub, o_mul, o_div, o_mod, o_pow, c_lt, c_gt, c_le, c_ge, c_leS, c_ltS, c_eq, c_ne, c_in, c_nin, c_is, c_isn, s_set, ix0, ix1, ix2, ix3, Ob.lst.injEq, Vl.int.injEq, Vl.bl.injEq, Nat.reduceLT, Nat.zero_lt_succ, s_ref, s_tup, s_fl, s_scr, s_str, f_fn, start, List.map_cons, List.map_nil, List.length_cons, List.length_nil, List.replicate, List.cons_append, List.nil_append, List.set_cons_zero, List.set_cons_succ, List.getElem?_cons_zero, List.getElem?_cons_succ, Option.some.injEq, exists_eq_left', exists_eq_left, true_and, and_true, Nat.reduceAdd, Nat.reduceSub, if_true, if_false, reduceIte, Bool.false_eq_true, SR, srcs, srcV, b_len, b_abs, b_max, b_min, b_intI, b_intB, b_isi, b_rng, b_listS, b_listT, b_all, b_any, m_lower, sl_str, br_nd, Bool.not_true, Bool.not_false, ob_some, tr_i, tr_n, Vl.str.injEq, Vl.ref.injEq, Vl.tup.injEq, exists_eq_right, bmChk, bmTy, e_lstF, e_dct, PR, pairsOf, e_fstr, e_fnil, e_fcons, e_fmt, fm_str, e_slcR, e_callp, e_mkp, e_methp, e_lcF, o_addF, eT_callp, eT_methp, b_isc, b_listF, b_lisTL, b_lisFL, b_tupT, b_tupF, b_strI, b_strS, bc_s, bc_i, bc_b, bc_n, bc_t, bc_f, bc_c, bc_d, bc_2, cc_s, cc_i, cc_b, cc_n, cc_t, cc_f, cc_d, oc_len, oc_bool, oc_str, oc_repr, at_ob, f_ini, f_in2, nd_f, nd_t, g_get, ob_of, sl_fl, sl_tup, clos, clo, clof, Bool.and_self, Bool.true_and, Bool.and_true, Option.map_some, t_fl, m_app, m_ext, o_addRF, o_addFL, o_mulR, e_mk, mk_fz, tr_t, tr_f, clo_w, clos_str, frz_fl, clof_fl, exI, lstOf, Option.isSome_some, itOf, List.length_map]
  refine ⟨by omega, by omega, ?_⟩
  generalize hH : [Ob.lst (List.map Vl.str ks ++ [Vl.str (S "Z")]), Ob.dead, Ob.lst [Vl.ob "Telling" (flds k w n ks), Vl.ob "Telling" (flds k w n ks)]] = H
  have h2 : H[2]? = some (.lst [Vl.ob "Telling" (flds k w n ks), Vl.ob "Telling" (flds k w n ks)]) := by
    rw [← hH]
    rfl
  clear hH
  refine loopF_gen (fun i => [Vl.ob "Telling" (flds k w n ks), Vl.ob "Telling" (flds k w n ks)][i]?) 2 (fun _ r h' => h' = H ∧ ∃ a7 a8 a9 a10, r = [some (.tup [.str k, w.v, .int n, .tup (ks.map .str)]), some (.str k), some w.v, some (.int n), some (.tup (ks.map .str)), some (.ref 0), some (.ref 2), a7, a8, a9, a10]) rfl (fun i r h hi I => by
        show (match h[2]? with
          | some (.lst xs) => some xs[i]?
          | _ => none) = _
        rw [I.1, h2]) (fun i r h1 hi I => ?_) (fun r h1 I => ?_) FUEL 0 _ H (by omega) (by decide) ⟨rfl, none, none, none, none, rfl⟩
  · obtain ⟨rfl, a7, a8, a9, a10, rfl⟩ := I
    refine ⟨.ob "Telling" (flds k w n ks), ?_, ?_⟩
    · match i, hi with
      | 0, _ => rfl
      | 1, _ => rfl
    simp only [ok_cons, ok_nil, ok_ok, ok_bad, then_nx, then_rt, then_bk, then_ct, x_expr, x_asg, x_ret, x_ite, x_pass, x_for, t_name, t_att, t_sub, t_tup, t_nil, t_cons, e_var, e_cst, e_tup, e_lst, e_bin, e_cmp, e_neg, e_notF, e_notT, e_andT, e_orT, e_andF, e_orF, e_ite, e_chain, e_att, e_sub, e_slc, oi_n, oi_var, oi_bin, oi_sub, oi_blt, oi_neg, oi_call, oi_att, oi_cint, e_call, e_meth, e_blt, e_bm, e_nil, e_cons, e_lc, eT_var, eT_cst, eT_tup, eT_lst, eT_bin, eT_cmp, eT_chain, eT_att, eT_sub, eT_slc, eT_call, eT_meth, eT_blt, eT_bm, eT_lc, at0, at1, at2, at3, at4, isAbs, tr_b, br_t, br_f, br_d, o_add, o_addS, o_addT, o_sub, o_mul, o_div, o_mod, o_pow, c_lt, c_gt, c_le, c_ge, c_leS, c_ltS, c_eq, c_ne, c_in, c_nin, c_is, c_isn, s_set, ix0, ix1, ix2, ix3, Ob.lst.injEq, Vl.int.injEq, Vl.bl.injEq, Nat.reduceLT, Nat.zero_lt_succ, s_ref, s_tup, s_fl, s_scr, s_str, f_fn, start, List.map_cons, List.map_nil, List.length_cons, List.length_nil, List.replicate, List.cons_append, List.nil_append, List.set_cons_zero, List.set_cons_succ, List.getElem?_cons_zero, List.getElem?_cons_succ, Option.some.injEq, exists_eq_left', exists_eq_left, true_and, and_true, Nat.reduceAdd, Nat.reduceSub, if_true, if_false, reduceIte, Bool.false_eq_true, SR, srcs, srcV, b_len, b_abs, b_max, b_min, b_intI, b_intB, b_isi, b_rng, b_listS, b_listT, b_all, b_any, m_lower, sl_str, br_nd, Bool.not_true, Bool.not_false, ob_some, tr_i, tr_n, Vl.str.injEq, Vl.ref.injEq, Vl.tup.injEq, exists_eq_right, bmChk, bmTy, e_lstF, e_dct, PR, pairsOf, e_fstr, e_fnil, e_fcons, e_fmt, fm_str, e_slcR, e_callp, e_mkp, e_methp, e_lcF, o_addF, eT_callp, eT_methp, b_isc, b_listF, b_lisTL, b_lisFL, b_tupT, b_tupF, b_strI, b_strS, bc_s, bc_i, bc_b, bc_n, bc_t, bc_f, bc_c, bc_d, bc_2, cc_s, cc_i, cc_b, cc_n, cc_t, cc_f, cc_d, oc_len, oc_bool, oc_str, oc_repr, at_ob, f_ini, f_in2, nd_f, nd_t, g_get, ob_of, sl_fl, sl_tup, clos, clo, clof, Bool.and_self, Bool.true_and, Bool.and_true, Option.map_some, t_fl, m_app, m_ext, o_addRF, o_addFL, o_mulR, e_mk, mk_fz, tr_t, tr_f, ex2, bindP, gk, gw, gs, gn, gi, eq_dr, and_self, decide_true, isi_tt, in_s, ob_of, clof_fl]
    refine ⟨by omega, by omega, ?_⟩
    refine Ok.imp sure_ok fun v h' e => ?_
    obtain ⟨rfl, rfl⟩ := e
    simp only [ok_cons, ok_nil, ok_ok, ok_bad, then_nx, then_rt, then_bk, then_ct, x_expr, x_asg, x_ret, x_ite, x_pass, x_for, t_name, t_att, t_sub, t_tup, t_nil, t_cons, e_var, e_cst, e_tup, e_lst, e_bin, e_cmp, e_neg, e_notF, e_notT, e_andT, e_orT, e_andF, e_orF, e_ite, e_chain, e_att, e_sub, e_slc, oi_n, oi_var, oi_bin, oi_sub, oi_blt, oi_neg, oi_call, oi_att, oi_cint, e_call, e_meth, e_blt, e_bm, e_nil, e_cons, e_lc, eT_var, eT_cst, eT_tup, eT_lst, eT_bin, eT_cmp, eT_chain, eT_att, eT_sub, eT_slc, eT_call, eT_meth, eT_blt, eT_bm, eT_lc, at0, at1, at2, at3, at4, isAbs, tr_b, br_t, br_f, br_d, o_add, o_addS, o_addT, o_sub, o_mul, o_div, o_mod, o_pow, c_lt, c_gt, c_le, c_ge, c_leS, c_ltS, c_eq, c_ne, c_in, c_nin, c_is, c_isn, s_set, ix0, ix1, ix2, ix3, Ob.lst.injEq, Vl.int.injEq, Vl.bl.injEq, Nat.reduceLT, Nat.zero_lt_succ, s_ref, s_tup, s_fl, s_scr, s_str, f_fn, start, List.map_cons, List.map_nil, List.length_cons, List.length_nil, List.replicate, List.cons_append, List.nil_append, List.set_cons_zero, List.set_cons_succ, List.getElem?_cons_zero, List.getElem?_cons_succ, Option.some.injEq, exists_eq_left', exists_eq_left, true_and, and_true, Nat.reduceAdd, Nat.reduceSub, if_true, if_false, reduceIte, Bool.false_eq_true, SR, srcs, srcV, b_len, b_abs, b_max, b_min, b_intI, b_intB, b_isi, b_rng, b_listS, b_listT, b_all, b_any, m_lower, sl_str, br_nd, Bool.not_true, Bool.not_false, ob_some, tr_i, tr_n, Vl.str.injEq, Vl.ref.injEq, Vl.tup.injEq, exists_eq_right, bmChk, bmTy, e_lstF, e_dct, PR, pairsOf, e_fstr, e_fnil, e_fcons, e_fmt, fm_str, e_slcR, e_callp, e_mkp, e_methp, e_lcF, o_addF, eT_callp, eT_methp, b_isc, b_listF, b_lisTL, b_lisFL, b_tupT, b_tupF, b_strI, b_strS, bc_s, bc_i, bc_b, bc_n, bc_t, bc_f, bc_c, bc_d, bc_2, cc_s, cc_i, cc_b, cc_n, cc_t, cc_f, cc_d, oc_len, oc_bool, oc_str, oc_repr, at_ob, f_ini, f_in2, nd_f, nd_t, g_get, ob_of, sl_fl, sl_tup, clos, clo, clof, Bool.and_self, Bool.true_and, Bool.and_true, Option.map_some, t_fl, m_app, m_ext, o_addRF, o_addFL, o_mulR, e_mk, mk_fz, tr_t, tr_f, eq_bb, beq_self_eq_true]
    refine Ok.imp sure_ok fun v h' e => ?_
    obtain ⟨rfl, rfl⟩ := e
    simp only [ok_cons, ok_nil, ok_ok, ok_bad, then_nx, then_rt, then_bk, then_ct, x_expr, x_asg, x_ret, x_ite, x_pass, x_for, t_name, t_att, t_sub, t_tup, t_nil, t_cons, e_var, e_cst, e_tup, e_lst, e_bin, e_cmp, e_neg, e_notF, e_notT, e_andT, e_orT, e_andF, e_orF, e_ite, e_chain, e_att, e_sub, e_slc, oi_n, oi_var, oi_bin, oi_sub, oi_blt, oi_neg, oi_call, oi_att, oi_cint, e_call, e_meth, e_blt, e_bm, e_nil, e_cons, e_lc, eT_var, eT_cst, eT_tup, eT_lst, eT_bin, eT_cmp, eT_chain, eT_att, eT_sub, eT_slc, eT_call, eT_meth, eT_blt, eT_bm, eT_lc, at0, at1, at2, at3, at4, isAbs, tr_b, br_t, br_f, br_d, o_add, o_addS, o_addT, o_sub, o_mul, o_div, o_mod, o_pow, c_lt, c_gt, c_le, c_ge, c_leS, c_ltS, c_eq, c_ne, c_in, c_nin, c_is, c_isn, s_set, ix0, ix1, ix2, ix3, Ob.lst.injEq, Vl.int.injEq, Vl.bl.injEq, Nat.reduceLT, Nat.zero_lt_succ, s_ref, s_tup, s_fl, s_scr, s_str, f_fn, start, List.map_cons, List.map_nil, List.length_cons, List.length_nil, List.replicate, List.cons_append, List.nil_append, List.set_cons_zero, List.set_cons_succ, List.getElem?_cons_zero, List.getElem?_cons_succ, Option.some.injEq, exists_eq_left', exists_eq_left, true_and, and_true, Nat.reduceAdd, Nat.reduceSub, if_true, if_false, reduceIte, Bool.false_eq_true, SR, srcs, srcV, b_len, b_abs, b_max, b_min, b_intI, b_intB, b_isi, b_rng, b_listS, b_listT, b_all, b_any, m_lower, sl_str, br_nd, Bool.not_true, Bool.not_false, ob_some, tr_i, tr_n, Vl.str.injEq, Vl.ref.injEq, Vl.tup.injEq, exists_eq_right, bmChk, bmTy, e_lstF, e_dct, PR, pairsOf, e_fstr, e_fnil, e_fcons, e_fmt, fm_str, e_slcR, e_callp, e_mkp, e_methp, e_lcF, o_addF, eT_callp, eT_methp, b_isc, b_listF, b_lisTL, b_lisFL, b_tupT, b_tupF, b_strI, b_strS, bc_s, bc_i, bc_b, bc_n, bc_t, bc_f, bc_c, bc_d, bc_2, cc_s, cc_i, cc_b, cc_n, cc_t, cc_f, cc_d, oc_len, oc_bool, oc_str, oc_repr, at_ob, f_ini, f_in2, nd_f, nd_t, g_get, ob_of, sl_fl, sl_tup, clos, clo, clof, Bool.and_self, Bool.true_and, Bool.and_true, Option.map_some, t_fl, m_app, m_ext, o_addRF, o_addFL, o_mulR, e_mk, mk_fz, tr_t, tr_f, isi_b]
    refine Ok.imp len_ok fun v h' e => ?_
    obtain ⟨rfl, rfl⟩ := e
    simp only [ok_cons, ok_nil, ok_ok, ok_bad, then_nx, then_rt, then_bk, then_ct, x_expr, x_asg, x_ret, x_ite, x_pass, x_for, t_name, t_att, t_sub, t_tup, t_nil, t_cons, e_var, e_cst, e_tup, e_lst, e_bin, e_cmp, e_neg, e_notF, e_notT, e_andT, e_orT, e_andF, e_orF, e_ite, e_chain, e_att, e_sub, e_slc, oi_n, oi_var, oi_bin, oi_sub, oi_blt, oi_neg, oi_call, oi_att, oi_cint, e_call, e_meth, e_blt, e_bm, e_nil, e_cons, e_lc, eT_var, eT_cst, eT_tup, eT_lst, eT_bin, eT_cmp, eT_chain, eT_att, eT_sub, eT_slc, eT_call, eT_meth, eT_blt, eT_bm, eT_lc, at0, at1, at2, at3, at4, isAbs, tr_b, br_t, br_f, br_d, o_add, o_addS, o_addT, o_sub, o_mul, o_div, o_mod, o_pow, c_lt, c_gt, c_le, c_ge, c_leS, c_ltS, c_eq, c_ne, c_in, c_nin, c_is, c_isn, s_set, ix0, ix1, ix2, ix3, Ob.lst.injEq, Vl.int.injEq, Vl.bl.injEq, Nat.reduceLT, Nat.zero_lt_succ, s_ref, s_tup, s_fl, s_scr, s_str, f_fn, start, List.map_cons, List.map_nil, List.length_cons, List.length_nil, List.replicate, List.cons_append, List.nil_append, List.set_cons_zero, List.set_cons_succ, List.getElem?_cons_zero, List.getElem?_cons_succ, Option.some.injEq, exists_eq_left', exists_eq_left, true_and, and_true, Nat.reduceAdd, Nat.reduceSub, if_true, if_false, reduceIte, Bool.false_eq_true, SR, srcs, srcV, b_len, b_abs, b_max, b_min, b_intI, b_intB, b_isi, b_rng, b_listS, b_listT, b_all, b_any, m_lower, sl_str, br_nd, Bool.not_true, Bool.not_false, ob_some, tr_i, tr_n, Vl.str.injEq, Vl.ref.injEq, Vl.tup.injEq, exists_eq_right, bmChk, bmTy, e_lstF, e_dct, PR, pairsOf, e_fstr, e_fnil, e_fcons, e_fmt, fm_str, e_slcR, e_callp, e_mkp, e_methp, e_lcF, o_addF, eT_callp, eT_methp, b_isc, b_listF, b_lisTL, b_lisFL, b_tupT, b_tupF, b_strI, b_strS, bc_s, bc_i, bc_b, bc_n, bc_t, bc_f, bc_c, bc_d, bc_2, cc_s, cc_i, cc_b, cc_n, cc_t, cc_f, cc_d, oc_len, oc_bool, oc_str, oc_repr, at_ob, f_ini, f_in2, nd_f, nd_t, g_get, ob_of, sl_fl, sl_tup, clos, clo, clof, Bool.and_self, Bool.true_and, Bool.and_true, Option.map_some, t_fl, m_app, m_ext, o_addRF, o_addFL, o_mulR, e_mk, mk_fz, tr_t, tr_f, lenV, seqOf, List.length_map, eq_ii, decide_true, clo_w, clos_str]
    refine ⟨by omega, Ok.imp (text_ok b) fun v h' e => ?_⟩
    subst e
    simp only [ok_cons, ok_nil, ok_ok, ok_bad, then_nx, then_rt, then_bk, then_ct, x_expr, x_asg, x_ret, x_ite, x_pass, x_for, t_name, t_att, t_sub, t_tup, t_nil, t_cons, e_var, e_cst, e_tup, e_lst, e_bin, e_cmp, e_neg, e_notF, e_notT, e_andT, e_orT, e_andF, e_orF, e_ite, e_chain, e_att, e_sub, e_slc, oi_n, oi_var, oi_bin, oi_sub, oi_blt, oi_neg, oi_call, oi_att, oi_cint, e_call, e_meth, e_blt, e_bm, e_nil, e_cons, e_lc, eT_var, eT_cst, eT_tup, eT_lst, eT_bin, eT_cmp, eT_chain, eT_att, eT_sub, eT_slc, eT_call, eT_meth, eT_blt, eT_bm, eT_lc, at0, at1, at2, at3, at4, isAbs, tr_b, br_t, br_f, br_d, o_add, o_addS, o_addT, o_sub, o_mul, o_div, o_mod, o_pow, c_lt, c_gt, c_le, c_ge, c_leS, c_ltS, c_eq, c_ne, c_in, c_nin, c_is, c_isn, s_set, ix0, ix1, ix2, ix3, Ob.lst.injEq, Vl.int.injEq, Vl.bl.injEq, Nat.reduceLT, Nat.zero_lt_succ, s_ref, s_tup, s_fl, s_scr, s_str, f_fn, start, List.map_cons, List.map_nil, List.length_cons, List.length_nil, List.replicate, List.cons_append, List.nil_append, List.set_cons_zero, List.set_cons_succ, List.getElem?_cons_zero, List.getElem?_cons_succ, Option.some.injEq, exists_eq_left', exists_eq_left, true_and, and_true, Nat.reduceAdd, Nat.reduceSub, if_true, if_false, reduceIte, Bool.false_eq_true, SR, srcs, srcV, b_len, b_abs, b_max, b_min, b_intI, b_intB, b_isi, b_rng, b_listS, b_listT, b_all, b_any, m_lower, sl_str, br_nd, Bool.not_true, Bool.not_false, ob_some, tr_i, tr_n, Vl.str.injEq, Vl.ref.injEq, Vl.tup.injEq, exists_eq_right, bmChk, bmTy, e_lstF, e_dct, PR, pairsOf, e_fstr, e_fnil, e_fcons, e_fmt, fm_str, e_slcR, e_callp, e_mkp, e_methp, e_lcF, o_addF, eT_callp, eT_methp, b_isc, b_listF, b_lisTL, b_lisFL, b_tupT, b_tupF, b_strI, b_strS, bc_s, bc_i, bc_b, bc_n, bc_t, bc_f, bc_c, bc_d, bc_2, cc_s, cc_i, cc_b, cc_n, cc_t, cc_f, cc_d, oc_len, oc_bool, oc_str, oc_repr, at_ob, f_ini, f_in2, nd_f, nd_t, g_get, ob_of, sl_fl, sl_tup, clos, clo, clof, Bool.and_self, Bool.true_and, Bool.and_true, Option.map_some, t_fl, m_app, m_ext, o_addRF, o_addFL, o_mulR, e_mk, mk_fz, tr_t, tr_f]
    refine Ok.imp (str_ok b) fun v h' e => ?_
    obtain ⟨rfl, rfl⟩ := e
    simp only [ok_cons, ok_nil, ok_ok, ok_bad, then_nx, then_rt, then_bk, then_ct, x_expr, x_asg, x_ret, x_ite, x_pass, x_for, t_name, t_att, t_sub, t_tup, t_nil, t_cons, e_var, e_cst, e_tup, e_lst, e_bin, e_cmp, e_neg, e_notF, e_notT, e_andT, e_orT, e_andF, e_orF, e_ite, e_chain, e_att, e_sub, e_slc, oi_n, oi_var, oi_bin, oi_sub, oi_blt, oi_neg, oi_call, oi_att, oi_cint, e_call, e_meth, e_blt, e_bm, e_nil, e_cons, e_lc, eT_var, eT_cst, eT_tup, eT_lst, eT_bin, eT_cmp, eT_chain, eT_att, eT_sub, eT_slc, eT_call, eT_meth, eT_blt, eT_bm, eT_lc, at0, at1, at2, at3, at4, isAbs, tr_b, br_t, br_f, br_d, o_add, o_addS, o_addT, o_sub, o_mul, o_div, o_mod, o_pow, c_lt, c_gt, c_le, c_ge, c_leS, c_ltS, c_eq, c_ne, c_in, c_nin, c_is, c_isn, s_set, ix0, ix1, ix2, ix3, Ob.lst.injEq, Vl.int.injEq, Vl.bl.injEq, Nat.reduceLT, Nat.zero_lt_succ, s_ref, s_tup, s_fl, s_scr, s_str, f_fn, start, List.map_cons, List.map_nil, List.length_cons, List.length_nil, List.replicate, List.cons_append, List.nil_append, List.set_cons_zero, List.set_cons_succ, List.getElem?_cons_zero, List.getElem?_cons_succ, Option.some.injEq, exists_eq_left', exists_eq_left, true_and, and_true, Nat.reduceAdd, Nat.reduceSub, if_true, if_false, reduceIte, Bool.false_eq_true, SR, srcs, srcV, b_len, b_abs, b_max, b_min, b_intI, b_intB, b_isi, b_rng, b_listS, b_listT, b_all, b_any, m_lower, sl_str, br_nd, Bool.not_true, Bool.not_false, ob_some, tr_i, tr_n, Vl.str.injEq, Vl.ref.injEq, Vl.tup.injEq, exists_eq_right, bmChk, bmTy, e_lstF, e_dct, PR, pairsOf, e_fstr, e_fnil, e_fcons, e_fmt, fm_str, e_slcR, e_callp, e_mkp, e_methp, e_lcF, o_addF, eT_callp, eT_methp, b_isc, b_listF, b_lisTL, b_lisFL, b_tupT, b_tupF, b_strI, b_strS, bc_s, bc_i, bc_b, bc_n, bc_t, bc_f, bc_c, bc_d, bc_2, cc_s, cc_i, cc_b, cc_n, cc_t, cc_f, cc_d, oc_len, oc_bool, oc_str, oc_repr, at_ob, f_ini, f_in2, nd_f, nd_t, g_get, ob_of, sl_fl, sl_tup, clos, clo, clof, Bool.and_self, Bool.true_and, Bool.and_true, Option.map_some, t_fl, m_app, m_ext, o_addRF, o_addFL, o_mulR, e_mk, mk_fz, tr_t, tr_f, eq_ss, decide_true]
    refine Ok.imp (repr_ok b) fun v h' e => ?_
    obtain ⟨rfl, rfl⟩ := e
    simp only [ok_cons, ok_nil, ok_ok, ok_bad, then_nx, then_rt, then_bk, then_ct, x_expr, x_asg, x_ret, x_ite, x_pass, x_for, t_name, t_att, t_sub, t_tup, t_nil, t_cons, e_var, e_cst, e_tup, e_lst, e_bin, e_cmp, e_neg, e_notF, e_notT, e_andT, e_orT, e_andF, e_orF, e_ite, e_chain, e_att, e_sub, e_slc, oi_n, oi_var, oi_bin, oi_sub, oi_blt, oi_neg, oi_call, oi_att, oi_cint, e_call, e_meth, e_blt, e_bm, e_nil, e_cons, e_lc, eT_var, eT_cst, eT_tup, eT_lst, eT_bin, eT_cmp, eT_chain, eT_att, eT_sub, eT_slc, eT_call, eT_meth, eT_blt, eT_bm, eT_lc, at0, at1, at2, at3, at4, isAbs, tr_b, br_t, br_f, br_d, o_add, o_addS, o_addT, o_sub, o_mul, o_div, o_mod, o_pow, c_lt, c_gt, c_le, c_ge, c_leS, c_ltS, c_eq, c_ne, c_in, c_nin, c_is, c_isn, s_set, ix0, ix1, ix2, ix3, Ob.lst.injEq, Vl.int.injEq, Vl.bl.injEq, Nat.reduceLT, Nat.zero_lt_succ, s_ref, s_tup, s_fl, s_scr, s_str, f_fn, start, List.map_cons, List.map_nil, List.length_cons, List.length_nil, List.replicate, List.cons_append, List.nil_append, List.set_cons_zero, List.set_cons_succ, List.getElem?_cons_zero, List.getElem?_cons_succ, Option.some.injEq, exists_eq_left', exists_eq_left, true_and, and_true, Nat.reduceAdd, Nat.reduceSub, if_true, if_false, reduceIte, Bool.false_eq_true, SR, srcs, srcV, b_len, b_abs, b_max, b_min, b_intI, b_intB, b_isi, b_rng, b_listS, b_listT, b_all, b_any, m_lower, sl_str, br_nd, Bool.not_true, Bool.not_false, ob_some, tr_i, tr_n, Vl.str.injEq, Vl.ref.injEq, Vl.tup.injEq, exists_eq_right, bmChk, bmTy, e_lstF, e_dct, PR, pairsOf, e_fstr, e_fnil, e_fcons, e_fmt, fm_str, e_slcR, e_callp, e_mkp, e_methp, e_lcF, o_addF, eT_callp, eT_methp, b_isc, b_listF, b_lisTL, b_lisFL, b_tupT, b_tupF, b_strI, b_strS, bc_s, bc_i, bc_b, bc_n, bc_t, bc_f, bc_c, bc_d, bc_2, cc_s, cc_i, cc_b, cc_n, cc_t, cc_f, cc_d, oc_len, oc_bool, oc_str, oc_repr, at_ob, f_ini, f_in2, nd_f, nd_t, g_get, ob_of, sl_fl, sl_tup, clos, clo, clof, Bool.and_self, Bool.true_and, Bool.and_true, Option.map_some, t_fl, m_app, m_ext, o_addRF, o_addFL, o_mulR, e_mk, mk_fz, tr_t, tr_f, eq_ss, decide_true, List.length_append]
    have h9 : (S "Telling('").length = 9 := by decide
    have h22 : (S "')").length = 2 := by decide
    refine ⟨by omega, by omega, Ok.imp len_ok fun v h'' e => ?_⟩
    obtain ⟨rfl, rfl⟩ := e
    refine ⟨_, rfl, by omega, ?_⟩
    have e1 : ((ks.length : Int) != 0) = decide (0 < (ks.length : Int)) := by
      rw [Bool.eq_iff_iff]
      simp only [bne_iff_ne, decide_eq_true_eq]
      omega
    rw [e1, beq_self_eq_true]
    simp only [ok_cons, ok_nil, ok_ok, ok_bad, then_nx, then_rt, then_bk, then_ct, x_expr, x_asg, x_ret, x_ite, x_pass, x_for, t_name, t_att, t_sub, t_tup, t_nil, t_cons, e_var, e_cst, e_tup, e_lst, e_bin, e_cmp, e_neg, e_notF, e_notT, e_andT, e_orT, e_andF, e_orF, e_ite, e_chain, e_att, e_sub, e_slc, oi_n, oi_var, oi_bin, oi_sub, oi_blt, oi_neg, oi_call, oi_att, oi_cint, e_call, e_meth, e_blt, e_bm, e_nil, e_cons, e_lc, eT_var, eT_cst, eT_tup, eT_lst, eT_bin, eT_cmp, eT_chain, eT_att, eT_sub, eT_slc, eT_call, eT_meth, eT_blt, eT_bm, eT_lc, at0, at1, at2, at3, at4, isAbs, tr_b, br_t, br_f, br_d, o_add, o_addS, o_addT, o_sub, o_mul, o_div, o_mod, o_pow, c_lt, c_gt, c_le, c_ge, c_leS, c_ltS, c_eq, c_ne, c_in, c_nin, c_is, c_isn, s_set, ix0, ix1, ix2, ix3, Ob.lst.injEq, Vl.int.injEq, Vl.bl.injEq, Nat.reduceLT, Nat.zero_lt_succ, s_ref, s_tup, s_fl, s_scr, s_str, f_fn, start, List.map_cons, List.map_nil, List.length_cons, List.length_nil, List.replicate, List.cons_append, List.nil_append, List.set_cons_zero, List.set_cons_succ, List.getElem?_cons_zero, List.getElem?_cons_succ, Option.some.injEq, exists_eq_left', exists_eq_left, true_and, and_true, Nat.reduceAdd, Nat.reduceSub, if_true, if_false, reduceIte, Bool.false_eq_true, SR, srcs, srcV, b_len, b_abs, b_max, b_min, b_intI, b_intB, b_isi, b_rng, b_listS, b_listT, b_all, b_any, m_lower, sl_str, br_nd, Bool.not_true, Bool.not_false, ob_some, tr_i, tr_n, Vl.str.injEq, Vl.ref.injEq, Vl.tup.injEq, exists_eq_right, bmChk, bmTy, e_lstF, e_dct, PR, pairsOf, e_fstr, e_fnil, e_fcons, e_fmt, fm_str, e_slcR, e_callp, e_mkp, e_methp, e_lcF, o_addF, eT_callp, eT_methp, b_isc, b_listF, b_lisTL, b_lisFL, b_tupT, b_tupF, b_strI, b_strS, bc_s, bc_i, bc_b, bc_n, bc_t, bc_f, bc_c, bc_d, bc_2, cc_s, cc_i, cc_b, cc_n, cc_t, cc_f, cc_d, oc_len, oc_bool, oc_str, oc_repr, at_ob, f_ini, f_in2, nd_f, nd_t, g_get, ob_of, sl_fl, sl_tup, clos, clo, clof, Bool.and_self, Bool.true_and, Bool.and_true, Option.map_some, t_fl, m_app, m_ext, o_addRF, o_addFL, o_mulR, e_mk, mk_fz, tr_t, tr_f, itOf]
    refine ⟨by omega, by omega, ?_⟩
    refine Ok.imp (loopP_map _ (fun _ => .bl false) (by simp only [List.length_cons, List.length_nil]; omega) (fun i => rfl) (fun x hx => ?_)) fun acc h3 e => ?_
    · have ht : typed h'' x = true ∧ isc h'' x "Telling" = some false := by
        simp only [List.mem_cons, List.not_mem_nil, or_false] at hx
        rcases hx with rfl | rfl | rfl | rfl | rfl <;> exact ⟨rfl, rfl⟩
      simp only [ok_cons, ok_nil, ok_ok, ok_bad, then_nx, then_rt, then_bk, then_ct, x_expr, x_asg, x_ret, x_ite, x_pass, x_for, t_name, t_att, t_sub, t_tup, t_nil, t_cons, e_var, e_cst, e_tup, e_lst, e_bin, e_cmp, e_neg, e_notF, e_notT, e_andT, e_orT, e_andF, e_orF, e_ite, e_chain, e_att, e_sub, e_slc, oi_n, oi_var, oi_bin, oi_sub, oi_blt, oi_neg, oi_call, oi_att, oi_cint, e_call, e_meth, e_blt, e_bm, e_nil, e_cons, e_lc, eT_var, eT_cst, eT_tup, eT_lst, eT_bin, eT_cmp, eT_chain, eT_att, eT_sub, eT_slc, eT_call, eT_meth, eT_blt, eT_bm, eT_lc, at0, at1, at2, at3, at4, isAbs, tr_b, br_t, br_f, br_d, o_add, o_addS, o_addT, o_sub, o_mul, o_div, o_mod, o_pow, c_lt, c_gt, c_le, c_ge, c_leS, c_ltS, c_eq, c_ne, c_in, c_nin, c_is, c_isn, s_set, ix0, ix1, ix2, ix3, Ob.lst.injEq, Vl.int.injEq, Vl.bl.injEq, Nat.reduceLT, Nat.zero_lt_succ, s_ref, s_tup, s_fl, s_scr, s_str, f_fn, start, List.map_cons, List.map_nil, List.length_cons, List.length_nil, List.replicate, List.cons_append, List.nil_append, List.set_cons_zero, List.set_cons_succ, List.getElem?_cons_zero, List.getElem?_cons_succ, Option.some.injEq, exists_eq_left', exists_eq_left, true_and, and_true, Nat.reduceAdd, Nat.reduceSub, if_true, if_false, reduceIte, Bool.false_eq_true, SR, srcs, srcV, b_len, b_abs, b_max, b_min, b_intI, b_intB, b_isi, b_rng, b_listS, b_listT, b_all, b_any, m_lower, sl_str, br_nd, Bool.not_true, Bool.not_false, ob_some, tr_i, tr_n, Vl.str.injEq, Vl.ref.injEq, Vl.tup.injEq, exists_eq_right, bmChk, bmTy, e_lstF, e_dct, PR, pairsOf, e_fstr, e_fnil, e_fcons, e_fmt, fm_str, e_slcR, e_callp, e_mkp, e_methp, e_lcF, o_addF, eT_callp, eT_methp, b_isc, b_listF, b_lisTL, b_lisFL, b_tupT, b_tupF, b_strI, b_strS, bc_s, bc_i, bc_b, bc_n, bc_t, bc_f, bc_c, bc_d, bc_2, cc_s, cc_i, cc_b, cc_n, cc_t, cc_f, cc_d, oc_len, oc_bool, oc_str, oc_repr, at_ob, f_ini, f_in2, nd_f, nd_t, g_get, ob_of, sl_fl, sl_tup, clos, clo, clof, Bool.and_self, Bool.true_and, Bool.and_true, Option.map_some, t_fl, m_app, m_ext, o_addRF, o_addFL, o_mulR, e_mk, mk_fz, tr_t, tr_f, lcb, bindP, wipe, oc_eq ht.1]
      refine Ok.imp (eqN_ok ht.2) fun v h4 e => ?_
      obtain ⟨rfl, rfl⟩ := e
      simp only [ok_cons, ok_nil, ok_ok, ok_bad, then_nx, then_rt, then_bk, then_ct, x_expr, x_asg, x_ret, x_ite, x_pass, x_for, t_name, t_att, t_sub, t_tup, t_nil, t_cons, e_var, e_cst, e_tup, e_lst, e_bin, e_cmp, e_neg, e_notF, e_notT, e_andT, e_orT, e_andF, e_orF, e_ite, e_chain, e_att, e_sub, e_slc, oi_n, oi_var, oi_bin, oi_sub, oi_blt, oi_neg, oi_call, oi_att, oi_cint, e_call, e_meth, e_blt, e_bm, e_nil, e_cons, e_lc, eT_var, eT_cst, eT_tup, eT_lst, eT_bin, eT_cmp, eT_chain, eT_att, eT_sub, eT_slc, eT_call, eT_meth, eT_blt, eT_bm, eT_lc, at0, at1, at2, at3, at4, isAbs, tr_b, br_t, br_f, br_d, o_add, o_addS, o_addT, o_sub, o_mul, o_div, o_mod, o_pow, c_lt, c_gt, c_le, c_ge, c_leS, c_ltS, c_eq, c_ne, c_in, c_nin, c_is, c_isn, s_set, ix0, ix1, ix2, ix3, Ob.lst.injEq, Vl.int.injEq, Vl.bl.injEq, Nat.reduceLT, Nat.zero_lt_succ, s_ref, s_tup, s_fl, s_scr, s_str, f_fn, start, List.map_cons, List.map_nil, List.length_cons, List.length_nil, List.replicate, List.cons_append, List.nil_append, List.set_cons_zero, List.set_cons_succ, List.getElem?_cons_zero, List.getElem?_cons_succ, Option.some.injEq, exists_eq_left', exists_eq_left, true_and, and_true, Nat.reduceAdd, Nat.reduceSub, if_true, if_false, reduceIte, Bool.false_eq_true, SR, srcs, srcV, b_len, b_abs, b_max, b_min, b_intI, b_intB, b_isi, b_rng, b_listS, b_listT, b_all, b_any, m_lower, sl_str, br_nd, Bool.not_true, Bool.not_false, ob_some, tr_i, tr_n, Vl.str.injEq, Vl.ref.injEq, Vl.tup.injEq, exists_eq_right, bmChk, bmTy, e_lstF, e_dct, PR, pairsOf, e_fstr, e_fnil, e_fcons, e_fmt, fm_str, e_slcR, e_callp, e_mkp, e_methp, e_lcF, o_addF, eT_callp, eT_methp, b_isc, b_listF, b_lisTL, b_lisFL, b_tupT, b_tupF, b_strI, b_strS, bc_s, bc_i, bc_b, bc_n, bc_t, bc_f, bc_c, bc_d, bc_2, cc_s, cc_i, cc_b, cc_n, cc_t, cc_f, cc_d, oc_len, oc_bool, oc_str, oc_repr, at_ob, f_ini, f_in2, nd_f, nd_t, g_get, ob_of, sl_fl, sl_tup, clos, clo, clof, Bool.and_self, Bool.true_and, Bool.and_true, Option.map_some, t_fl, m_app, m_ext, o_addRF, o_addFL, o_mulR, e_mk, mk_fz, tr_t, tr_f]
    · obtain ⟨rfl, rfl⟩ := e
      rw [b_anyF (bs := [false, false, false, false, false]) rfl]
      simp only [ok_cons, ok_nil, ok_ok, ok_bad, then_nx, then_rt, then_bk, then_ct, x_expr, x_asg, x_ret, x_ite, x_pass, x_for, t_name, t_att, t_sub, t_tup, t_nil, t_cons, e_var, e_cst, e_tup, e_lst, e_bin, e_cmp, e_neg, e_notF, e_notT, e_andT, e_orT, e_andF, e_orF, e_ite, e_chain, e_att, e_sub, e_slc, oi_n, oi_var, oi_bin, oi_sub, oi_blt, oi_neg, oi_call, oi_att, oi_cint, e_call, e_meth, e_blt, e_bm, e_nil, e_cons, e_lc, eT_var, eT_cst, eT_tup, eT_lst, eT_bin, eT_cmp, eT_chain, eT_att, eT_sub, eT_slc, eT_call, eT_meth, eT_blt, eT_bm, eT_lc, at0, at1, at2, at3, at4, isAbs, tr_b, br_t, br_f, br_d, o_add, o_addS, o_addT, o_sub, o_mul, o_div, o_mod, o_pow, c_lt, c_gt, c_le, c_ge, c_leS, c_ltS, c_eq, c_ne, c_in, c_nin, c_is, c_isn, s_set, ix0, ix1, ix2, ix3, Ob.lst.injEq, Vl.int.injEq, Vl.bl.injEq, Nat.reduceLT, Nat.zero_lt_succ, s_ref, s_tup, s_fl, s_scr, s_str, f_fn, start, List.map_cons, List.map_nil, List.length_cons, List.length_nil, List.replicate, List.cons_append, List.nil_append, List.set_cons_zero, List.set_cons_succ, List.getElem?_cons_zero, List.getElem?_cons_succ, Option.some.injEq, exists_eq_left', exists_eq_left, true_and, and_true, Nat.reduceAdd, Nat.reduceSub, if_true, if_false, reduceIte, Bool.false_eq_true, SR, srcs, srcV, b_len, b_abs, b_max, b_min, b_intI, b_intB, b_isi, b_rng, b_listS, b_listT, b_all, b_any, m_lower, sl_str, br_nd, Bool.not_true, Bool.not_false, ob_some, tr_i, tr_n, Vl.str.injEq, Vl.ref.injEq, Vl.tup.injEq, exists_eq_right, bmChk, bmTy, e_lstF, e_dct, PR, pairsOf, e_fstr, e_fnil, e_fcons, e_fmt, fm_str, e_slcR, e_callp, e_mkp, e_methp, e_lcF, o_addF, eT_callp, eT_methp, b_isc, b_listF, b_lisTL, b_lisFL, b_tupT, b_tupF, b_strI, b_strS, bc_s, bc_i, bc_b, bc_n, bc_t, bc_f, bc_c, bc_d, bc_2, cc_s, cc_i, cc_b, cc_n, cc_t, cc_f, cc_d, oc_len, oc_bool, oc_str, oc_repr, at_ob, f_ini, f_in2, nd_f, nd_t, g_get, ob_of, sl_fl, sl_tup, clos, clo, clof, Bool.and_self, Bool.true_and, Bool.and_true, Option.map_some, t_fl, m_app, m_ext, o_addRF, o_addFL, o_mulR, e_mk, mk_fz, tr_t, tr_f, List.any_cons, List.any_nil, id, Bool.or_self]
      exact ⟨_, _, _, _, rfl⟩
  · obtain ⟨rfl, a7, a8, a9, a10, rfl⟩ := I
    have ty : typed h1 (Vl.ob "Telling" (flds k w n ks)) = true := rfl
    simp only [ok_cons, ok_nil, ok_ok, ok_bad, then_nx, then_rt, then_bk, then_ct, x_expr, x_asg, x_ret, x_ite, x_pass, x_for, t_name, t_att, t_sub, t_tup, t_nil, t_cons, e_var, e_cst, e_tup, e_lst, e_bin, e_cmp, e_neg, e_notF, e_notT, e_andT, e_orT, e_andF, e_orF, e_ite, e_chain, e_att, e_sub, e_slc, oi_n, oi_var, oi_bin, oi_sub, oi_blt, oi_neg, oi_call, oi_att, oi_cint, e_call, e_meth, e_blt, e_bm, e_nil, e_cons, e_lc, eT_var, eT_cst, eT_tup, eT_lst, eT_bin, eT_cmp, eT_chain, eT_att, eT_sub, eT_slc, eT_call, eT_meth, eT_blt, eT_bm, eT_lc, at0, at1, at2, at3, at4, isAbs, tr_b, br_t, br_f, br_d, o_add, o_addS, o_addT, o_sub, o_mul, o_div, o_mod, o_pow, c_lt, c_gt, c_le, c_ge, c_leS, c_ltS, c_eq, c_ne, c_in, c_nin, c_is, c_isn, s_set, ix0, ix1, ix2, ix3, Ob.lst.injEq, Vl.int.injEq, Vl.bl.injEq, Nat.reduceLT, Nat.zero_lt_succ, s_ref, s_tup, s_fl, s_scr, s_str, f_fn, start, List.map_cons, List.map_nil, List.length_cons, List.length_nil, List.replicate, List.cons_append, List.nil_append, List.set_cons_zero, List.set_cons_succ, List.getElem?_cons_zero, List.getElem?_cons_succ, Option.some.injEq, exists_eq_left', exists_eq_left, true_and, and_true, Nat.reduceAdd, Nat.reduceSub, if_true, if_false, reduceIte, Bool.false_eq_true, SR, srcs, srcV, b_len, b_abs, b_max, b_min, b_intI, b_intB, b_isi, b_rng, b_listS, b_listT, b_all, b_any, m_lower, sl_str, br_nd, Bool.not_true, Bool.not_false, ob_some, tr_i, tr_n, Vl.str.injEq, Vl.ref.injEq, Vl.tup.injEq, exists_eq_right, bmChk, bmTy, e_lstF, e_dct, PR, pairsOf, e_fstr, e_fnil, e_fcons, e_fmt, fm_str, e_slcR, e_callp, e_mkp, e_methp, e_lcF, o_addF, eT_callp, eT_methp, b_isc, b_listF, b_lisTL, b_lisFL, b_tupT, b_tupF, b_strI, b_strS, bc_s, bc_i, bc_b, bc_n, bc_t, bc_f, bc_c, bc_d, bc_2, cc_s, cc_i, cc_b, cc_n, cc_t, cc_f, cc_d, oc_len, oc_bool, oc_str, oc_repr, at_ob, f_ini, f_in2, nd_f, nd_t, g_get, ob_of, sl_fl, sl_tup, clos, clo, clof, Bool.and_self, Bool.true_and, Bool.and_true, Option.map_some, t_fl, m_app, m_ext, o_addRF, o_addFL, o_mulR, e_mk, mk_fz, tr_t, tr_f, h2, oc_eq ty]
    refine Ok.imp eq_ok fun v h4 e => ?_
    obtain ⟨rfl, rfl⟩ := e
    simp only [ok_cons, ok_nil, ok_ok, ok_bad, then_nx, then_rt, then_bk, then_ct, x_expr, x_asg, x_ret, x_ite, x_pass, x_for, t_name, t_att, t_sub, t_tup, t_nil, t_cons, e_var, e_cst, e_tup, e_lst, e_bin, e_cmp, e_neg, e_notF, e_notT, e_andT, e_orT, e_andF, e_orF, e_ite, e_chain, e_att, e_sub, e_slc, oi_n, oi_var, oi_bin, oi_sub, oi_blt, oi_neg, oi_call, oi_att, oi_cint, e_call, e_meth, e_blt, e_bm, e_nil, e_cons, e_lc, eT_var, eT_cst, eT_tup, eT_lst, eT_bin, eT_cmp, eT_chain, eT_att, eT_sub, eT_slc, eT_call, eT_meth, eT_blt, eT_bm, eT_lc, at0, at1, at2, at3, at4, isAbs, tr_b, br_t, br_f, br_d, o_add, o_addS, o_addT, o_sub, o_mul, o_div, o_mod, o_pow, c_lt, c_gt, c_le, c_ge, c_leS, c_ltS, c_eq, c_ne, c_in, c_nin, c_is, c_isn, s_set, ix0, ix1, ix2, ix3, Ob.lst.injEq, Vl.int.injEq, Vl.bl.injEq, Nat.reduceLT, Nat.zero_lt_succ, s_ref, s_tup, s_fl, s_scr, s_str, f_fn, start, List.map_cons, List.map_nil, List.length_cons, List.length_nil, List.replicate, List.cons_append, List.nil_append, List.set_cons_zero, List.set_cons_succ, List.getElem?_cons_zero, List.getElem?_cons_succ, Option.some.injEq, exists_eq_left', exists_eq_left, true_and, and_true, Nat.reduceAdd, Nat.reduceSub, if_true, if_false, reduceIte, Bool.false_eq_true, SR, srcs, srcV, b_len, b_abs, b_max, b_min, b_intI, b_intB, b_isi, b_rng, b_listS, b_listT, b_all, b_any, m_lower, sl_str, br_nd, Bool.not_true, Bool.not_false, ob_some, tr_i, tr_n, Vl.str.injEq, Vl.ref.injEq, Vl.tup.injEq, exists_eq_right, bmChk, bmTy, e_lstF, e_dct, PR, pairsOf, e_fstr, e_fnil, e_fcons, e_fmt, fm_str, e_slcR, e_callp, e_mkp, e_methp, e_lcF, o_addF, eT_callp, eT_methp, b_isc, b_listF, b_lisTL, b_lisFL, b_tupT, b_tupF, b_strI, b_strS, bc_s, bc_i, bc_b, bc_n, bc_t, bc_f, bc_c, bc_d, bc_2, cc_s, cc_i, cc_b, cc_n, cc_t, cc_f, cc_d, oc_len, oc_bool, oc_str, oc_repr, at_ob, f_ini, f_in2, nd_f, nd_t, g_get, ob_of, sl_fl, sl_tup, clos, clo, clof, Bool.and_self, Bool.true_and, Bool.and_true, Option.map_some, t_fl, m_app, m_ext, o_addRF, o_addFL, o_mulR, e_mk, mk_fz, tr_t, tr_f, h2, oc_ne ty, decide_true]
    refine Ok.imp eq_ok fun v h4 e => ?_
    obtain ⟨rfl, rfl⟩ := e
    simp only [ok_cons, ok_nil, ok_ok, ok_bad, then_nx, then_rt, then_bk, then_ct, x_expr, x_asg, x_ret, x_ite, x_pass, x_for, t_name, t_att, t_sub, t_tup, t_nil, t_cons, e_var, e_cst, e_tup, e_lst, e_bin, e_cmp, e_neg, e_notF, e_notT, e_andT, e_orT, e_andF, e_orF, e_ite, e_chain, e_att, e_sub, e_slc, oi_n, oi_var, oi_bin, oi_sub, oi_blt, oi_neg, oi_call, oi_att, oi_cint, e_call, e_meth, e_blt, e_bm, e_nil, e_cons, e_lc, eT_var, eT_cst, eT_tup, eT_lst, eT_bin, eT_cmp, eT_chain, eT_att, eT_sub, eT_slc, eT_call, eT_meth, eT_blt, eT_bm, eT_lc, at0, at1, at2, at3, at4, isAbs, tr_b, br_t, br_f, br_d, o_add, o_addS, o_addT, o_sub, o_mul, o_div, o_mod, o_pow, c_lt, c_gt, c_le, c_ge, c_leS, c_ltS, c_eq, c_ne, c_in, c_nin, c_is, c_isn, s_set, ix0, ix1, ix2, ix3, Ob.lst.injEq, Vl.int.injEq, Vl.bl.injEq, Nat.reduceLT, Nat.zero_lt_succ, s_ref, s_tup, s_fl, s_scr, s_str, f_fn, start, List.map_cons, List.map_nil, List.length_cons, List.length_nil, List.replicate, List.cons_append, List.nil_append, List.set_cons_zero, List.set_cons_succ, List.getElem?_cons_zero, List.getElem?_cons_succ, Option.some.injEq, exists_eq_left', exists_eq_left, true_and, and_true, Nat.reduceAdd, Nat.reduceSub, if_true, if_false, reduceIte, Bool.false_eq_true, SR, srcs, srcV, b_len, b_abs, b_max, b_min, b_intI, b_intB, b_isi, b_rng, b_listS, b_listT, b_all, b_any, m_lower, sl_str, br_nd, Bool.not_true, Bool.not_false, ob_some, tr_i, tr_n, Vl.str.injEq, Vl.ref.injEq, Vl.tup.injEq, exists_eq_right, bmChk, bmTy, e_lstF, e_dct, PR, pairsOf, e_fstr, e_fnil, e_fcons, e_fmt, fm_str, e_slcR, e_callp, e_mkp, e_methp, e_lcF, o_addF, eT_callp, eT_methp, b_isc, b_listF, b_lisTL, b_lisFL, b_tupT, b_tupF, b_strI, b_strS, bc_s, bc_i, bc_b, bc_n, bc_t, bc_f, bc_c, bc_d, bc_2, cc_s, cc_i, cc_b, cc_n, cc_t, cc_f, cc_d, oc_len, oc_bool, oc_str, oc_repr, at_ob, f_ini, f_in2, nd_f, nd_t, g_get, ob_of, sl_fl, sl_tup, clos, clo, clof, Bool.and_self, Bool.true_and, Bool.and_true, Option.map_some, t_fl, m_app, m_ext, o_addRF, o_addFL, o_mulR, e_mk, mk_fz, tr_t, tr_f, h2, decide_true]
    refine ⟨by omega, oc_in1 clof_fl clof_fl ?_ rfl⟩
    refine Ok.imp (eq_ok (d := d + 2)) fun v h4 e => ?_
    rw [e.1]
    simp only [decide_true]
end Lw
namespace Lw
open Mi
/-- capital letters -/
def Cap (s : Tx) : Prop := s ≠ [] ∧ s.length ≤ 6 ∧ ∀ c ∈ s, 65 ≤ c ∧ c ≤ 90
/-- a knot's name -/
def Knot (s : Tx) : Prop := 32 ∉ s ∧ 46 ∈ s ∧ s.length ≤ 20
def WordT (s : Tx) : Prop := ∃ z : Int, z.natAbs ≤ 1000 ∧ (s = showI z ∨ s = S "[" ++ showI z ++ S " 0]" ∨ s = S "[[1 " ++ showI z ++ S "] [2 3]]")
inductive Shp : Tx → Wh → Prop where
  | word {s : Tx} (h : WordT s) : Shp (S "word") (.one s)
  | fault {f s : Tx} (hf : f ∈ [S "number", S "pair", S "def", S "great", S "told"]) (h : Knot s) : Shp (S "fault") (.many [f, s])
  | ring {ss : List Tx} (h : ∀ s ∈ ss, Knot s) (hl : ss.length ≤ 4) : Shp (S "ring") (.many ss)
  | waits {s : Tx} (h : Cap s) : Shp (S "waits") (.one s)
  | opn : Shp (S "open") .nil
structure Drw (k : Tx) (w : Wh) (n : Int) (ks : List Tx) : Prop where
  sh : Shp k w
  lo : 1 ≤ n
  hi : n ≤ 5001
  kc : ∀ s ∈ ks, Cap s
  kl : ks.length ≤ 5
theorem Cap.sp {s : Tx} (h : Cap s) : 32 ∉ s := fun q => by
  have := h.2.2 _ q
  omega
theorem show_sp {z : Int} : 32 ∉ showI z := fun q => by
  have := show_c q
  omega
theorem show_dot {z : Int} : 46 ∉ showI z := fun q => by
  have := show_c q
  omega
theorem show_br {z : Int} : 91 ∉ showI z := fun q => by
  have := show_c q
  omega
theorem tl_sp {ks : List Tx} (h : ∀ s ∈ ks, Cap s) : ∀ s ∈ tl ks, 32 ∉ s := fun s hs => by
  unfold tl at hs
  split at hs
  · cases hs
  · rcases List.mem_cons.mp hs with rfl | hs
    · decide
    · exact (h s hs).sp
theorem tl_inj {ks ks' : List Tx} (h : tl ks = tl ks') : ks = ks' := by
  unfold tl at h
  split at h
  · split at h
    · rename_i a b
      rw [a, b]
    · cases h
  · split at h
    · cases h
    · exact (List.cons.inj h).2
theorem Shp.ksp {k : Tx} {w : Wh} (h : Shp k w) : 32 ∉ k := by
  cases h <;> decide
theorem toks {k : Tx} {w : Wh} {n : Int} {ks : List Tx} (h : Drw k w n ks) : sp (shT k w n ks) = k :: (w.ws.flatMap sp ++ showI n :: tl ks) := by
  unfold shT
  rw [show S " " = [32] from rfl, sp_join _ (by unfold words; exact fun e => nomatch e)]
  unfold words
  rw [List.flatMap_cons, sp_one _ h.sh.ksp, List.flatMap_append, List.flatMap_cons, sp_one _ show_sp, flat_one _ (tl_sp h.kc)]
  rfl
theorem dots {n n' : Int} {t t' : List Tx} : ∀ {a b : List Tx}, (∀ s ∈ a, Knot s) → (∀ s ∈ b, Knot s) → a ++ showI n :: t = b ++ showI n' :: t' → a = b ∧ showI n :: t = showI n' :: t'
  | [], [], _, _, e => ⟨rfl, e⟩
  | [], y :: b, _, hb, e => by
    have := (hb y (List.mem_cons_self ..)).2.1
    rw [← (List.cons.inj e).1] at this
    exact (show_dot this).elim
  | x :: a, [], ha, _, e => by
    have := (ha x (List.mem_cons_self ..)).2.1
    rw [(List.cons.inj e).1] at this
    exact (show_dot this).elim
  | x :: a, y :: b, ha, hb, e => by
    have e := List.cons.inj e
    have := dots (fun s hs => ha s (List.mem_cons_of_mem _ hs)) (fun s hs => hb s (List.mem_cons_of_mem _ hs)) e.2
    exact ⟨by rw [e.1, this.1], this.2⟩
theorem sp_b (z : Int) : sp (S "[" ++ showI z ++ S " 0]") = [91 :: showI z, [48, 93]] := by
  have e : S "[" ++ showI z ++ S " 0]" = (91 :: showI z) ++ 32 :: [48, 93] := by
    rw [show S "[" = [91] from rfl, show S " 0]" = 32 :: [48, 93] from rfl]
    rfl
  rw [e, sp_app, sp_one, sp_one]
  · rfl
  · decide
  · intro q
    rcases List.mem_cons.mp q with q | q
    · cases q
    · exact show_sp q
theorem sp_c (z : Int) : sp (S "[[1 " ++ showI z ++ S "] [2 3]]") = [[91, 91, 49], showI z ++ [93], [91, 50], [51, 93, 93]] := by
  have e : S "[[1 " ++ showI z ++ S "] [2 3]]" = [91, 91, 49] ++ 32 :: ((showI z ++ [93]) ++ 32 :: ([91, 50] ++ 32 :: [51, 93, 93])) := by
    rw [show S "[[1 " = [91, 91, 49, 32] from rfl, show S "] [2 3]]" = [93, 32, 91, 50, 32, 51, 93, 93] from rfl]
    simp
  rw [e, sp_app, sp_app, sp_app, sp_one, sp_one, sp_one, sp_one]
  · rfl
  · decide
  · decide
  · intro q
    rcases List.mem_append.mp q with q | q
    · exact show_sp q
    · rcases List.mem_cons.mp q with q | q
      · cases q
      · cases q
  · decide
theorem word_inj {s s' : Tx} {t t' : List Tx} (h : WordT s) (h' : WordT s') (e : sp s ++ t = sp s' ++ t') : s = s' ∧ t = t' := by
  obtain ⟨z, _, h⟩ := h
  obtain ⟨z', _, h'⟩ := h'
  rcases h with rfl | rfl | rfl <;> rcases h' with rfl | rfl | rfl
  · rw [sp_one _ show_sp, sp_one _ show_sp] at e
    have e := List.cons.inj e
    exact e
  · rw [sp_one _ show_sp, sp_b] at e
    have e := (List.cons.inj e).1
    exact (show_br (z := z) (by rw [e]; exact List.mem_cons_self ..)).elim
  · rw [sp_one _ show_sp, sp_c] at e
    have e := (List.cons.inj e).1
    exact (show_br (z := z) (by rw [e]; exact List.mem_cons_self ..)).elim
  · rw [sp_one _ show_sp, sp_b] at e
    have e := (List.cons.inj e).1
    exact (show_br (z := z') (by rw [← e]; exact List.mem_cons_self ..)).elim
  · rw [sp_b, sp_b] at e
    have e := List.cons.inj e
    have e1 := (List.cons.inj e.1).2
    have e2 := (List.cons.inj e.2).2
    exact ⟨by rw [e1], e2⟩
  · rw [sp_b, sp_c] at e
    have e := (List.cons.inj (List.cons.inj e).1).2
    exact (show_br (z := z) (by rw [e]; exact List.mem_cons_self ..)).elim
  · rw [sp_one _ show_sp, sp_c] at e
    have e := (List.cons.inj e).1
    exact (show_br (z := z') (by rw [← e]; exact List.mem_cons_self ..)).elim
  · rw [sp_b, sp_c] at e
    have e := (List.cons.inj (List.cons.inj e).1).2
    exact (show_br (z := z') (by rw [← e]; exact List.mem_cons_self ..)).elim
  · rw [sp_c, sp_c] at e
    have e := (List.cons.inj e).2
    have e1 := (List.cons.inj e).1
    have e2 := (List.cons.inj (List.cons.inj (List.cons.inj e).2).2).2
    exact ⟨by rw [List.append_cancel_right e1], e2⟩
theorem tail_inj {n n' : Int} {ks ks' : List Tx} (e : showI n :: tl ks = showI n' :: tl ks') : n = n' ∧ ks = ks' := by
  have e := List.cons.inj e
  exact ⟨show_inj e.1, tl_inj e.2⟩
theorem flt_sp {f : Tx} (hf : f ∈ [S "number", S "pair", S "def", S "great", S "told"]) : 32 ∉ f := by
  simp only [List.mem_cons, List.not_mem_nil, or_false] at hf
  rcases hf with rfl | rfl | rfl | rfl | rfl <;> decide
theorem sh_inj {k k' : Tx} {w w' : Wh} {n n' : Int} {ks ks' : List Tx} (h : Drw k w n ks) (h' : Drw k' w' n' ks') (e : shT k w n ks = shT k' w' n' ks') : k = k' ∧ w = w' ∧ n = n' ∧ ks = ks' := by
  have e0 := congrArg sp e
  rw [toks h, toks h'] at e0
  clear e
  have e1 := List.cons.inj e0
  clear e0
  have ek := e1.1
  have e := e1.2
  clear e1
  refine ⟨ek, ?_⟩
  have s := h.sh
  have s' := h'.sh
  cases s with
  | word hw =>
    cases s' with
    | word hw' =>
      simp only [Wh.ws, List.flatMap_cons, List.flatMap_nil, List.append_nil] at e
      have e8 := word_inj hw hw' e
      exact ⟨by rw [e8.1], tail_inj e8.2⟩
    | _ => exact absurd ek (by decide)
  | fault hf hk =>
    cases s' with
    | fault hf' hk' =>
      simp only [Wh.ws, List.flatMap_cons, List.flatMap_nil, List.append_nil, sp_one _ (flt_sp hf), sp_one _ (flt_sp hf'), sp_one _ hk.1, sp_one _ hk'.1, List.cons_append, List.nil_append] at e
      have e := List.cons.inj e
      have e2 := List.cons.inj e.2
      exact ⟨by rw [e.1, e2.1], tail_inj e2.2⟩
    | _ => exact absurd ek (by decide)
  | ring hs hl =>
    cases s' with
    | ring hs' hl' =>
      simp only [Wh.ws] at e
      rw [flat_one _ fun s q => (hs s q).1, flat_one _ fun s q => (hs' s q).1] at e
      have e8 := dots hs hs' e
      exact ⟨by rw [e8.1], tail_inj e8.2⟩
    | _ => exact absurd ek (by decide)
  | waits hc =>
    cases s' with
    | waits hc' =>
      simp only [Wh.ws, List.flatMap_cons, List.flatMap_nil, List.append_nil, sp_one _ hc.sp, sp_one _ hc'.sp, List.cons_append, List.nil_append] at e
      have e := List.cons.inj e
      exact ⟨by rw [e.1], tail_inj e.2⟩
    | _ => exact absurd ek (by decide)
  | opn =>
    cases s' with
    | opn =>
      exact ⟨rfl, tail_inj e⟩
    | _ => exact absurd ek (by decide)
end Lw
namespace Lw
open Mi
def AZ : Tx := S "ABCDEFGHIJKLMNOPQRSTUVWXYZ"
theorem az_mem {c : Nat} (h : c ∈ AZ) : 65 ≤ c ∧ c ≤ 90 := by
  have e : AZ = List.range' 65 26 := by decide
  rw [e, List.mem_range'_1] at h
  omega
theorem cut_take {α : Type} (xs : List α) (a : Nat) : cut xs none (some (a : Int)) = xs.take a := by
  unfold cut sIx
  dsimp only
  rw [if_neg (by omega)]
  simp
theorem cut_drop {α : Type} (xs : List α) (a : Nat) (h : a ≤ xs.length) : cut xs (some (a : Int)) none = xs.drop a := by
  unfold cut sIx
  dsimp only
  rw [if_neg (by omega), Int.toNat_natCast, Nat.min_eq_left h, List.take_of_length_le (by rw [List.length_drop]; exact Nat.le_refl _)]
theorem names_ok {d : Nat} {h : Hm} {p : Nat} {t : Int} (pu : Pu h p t) (ht : t < 1000000) : Ok (callP PP (d + 2) "" "_law_names" [.ref p, .int 6, .str (S "ABCDEFGHIJKLMNOPQRSTUVWXYZ"), .int 6] h) fun v h' => ∃ ss : List Tx, v = .fl (ss.map .str) ∧ ss.length = 6 ∧ (∀ s ∈ ss, Cap s) ∧ Pu h' p (t + 10) := by
  refine ok_call lk__law_names rfl ?_
  have hL : LIM = 16777216 := rfl
  have hF : FUEL = 10000000 := rfl
  unfold b__law_names
  simp only [ok_cons, ok_nil, ok_ok, ok_bad, then_nx, then_rt, then_bk, then_ct, x_expr, x_asg, x_ret, x_ite, x_pass, x_for, t_name, t_att, t_sub, t_tup, t_nil, t_cons, e_var, e_cst, e_tup, e_lst, e_bin, e_cmp, e_neg, e_notF, e_notT, e_andT, e_orT, e_andF, e_orF, e_ite, e_chain, e_att, e_sub, e_slc, oi_n, oi_var, oi_bin, oi_sub, oi_blt, oi_neg, oi_call, oi_att, oi_cint, e_call, e_meth, e_blt, e_bm, e_nil, e_cons, e_lc, eT_var, eT_cst, eT_tup, eT_lst, eT_bin, eT_cmp, eT_chain, eT_att, eT_sub, eT_slc, eT_call, eT_meth, eT_blt, eT_bm, eT_lc, at0, at1, at2, at3, at4, isAbs, tr_b, br_t, br_f, br_d, o_add, o_addS, o_addT, o_sub, o_mul, o_div, o_mod, o_pow, c_lt, c_gt, c_le, c_ge, c_leS, c_ltS, c_eq, c_ne, c_in, c_nin, c_is, c_isn, s_set, ix0, ix1, ix2, ix3, Ob.lst.injEq, Vl.int.injEq, Vl.bl.injEq, Nat.reduceLT, Nat.zero_lt_succ, s_ref, s_tup, s_fl, s_scr, s_str, f_fn, start, List.map_cons, List.map_nil, List.length_cons, List.length_nil, List.replicate, List.cons_append, List.nil_append, List.set_cons_zero, List.set_cons_succ, List.getElem?_cons_zero, List.getElem?_cons_succ, Option.some.injEq, exists_eq_left', exists_eq_left, true_and, and_true, Nat.reduceAdd, Nat.reduceSub, if_true, if_false, reduceIte, Bool.false_eq_true, SR, srcs, srcV, b_len, b_abs, b_max, b_min, b_intI, b_intB, b_isi, b_rng, b_listS, b_listT, b_all, b_any, m_lower, sl_str, br_nd, Bool.not_true, Bool.not_false, ob_some, tr_i, tr_n, Vl.str.injEq, Vl.ref.injEq, Vl.tup.injEq, exists_eq_right, bmChk, bmTy, e_lstF, e_dct, PR, pairsOf, e_fstr, e_fnil, e_fcons, e_fmt, fm_str, e_slcR, e_callp, e_mkp, e_methp, e_lcF, o_addF, eT_callp, eT_methp, b_isc, b_listF, b_lisTL, b_lisFL, b_tupT, b_tupF, b_strI, b_strS, bc_s, bc_i, bc_b, bc_n, bc_t, bc_f, bc_c, bc_d, bc_2, cc_s, cc_i, cc_b, cc_n, cc_t, cc_f, cc_d, oc_len, oc_bool, oc_str, oc_repr, at_ob, f_ini, f_in2, nd_f, nd_t, g_get, ob_of, sl_fl, sl_tup, clos, clo, clof, Bool.and_self, Bool.true_and, Bool.and_true, Option.map_some, t_fl, m_app, m_ext, o_addRF, o_addFL, o_mulR, e_mk, mk_fz, tr_t, tr_f, show S "" = [] from rfl]
  refine Ok.imp (takeA lk_takeA pu (by omega) (by omega) (by omega)) fun u h3 q => ?_
  obtain ⟨r1, rfl, l1, u1, pd3, pu3⟩ := q
  simp only [ok_cons, ok_nil, ok_ok, ok_bad, then_nx, then_rt, then_bk, then_ct, x_expr, x_asg, x_ret, x_ite, x_pass, x_for, t_name, t_att, t_sub, t_tup, t_nil, t_cons, e_var, e_cst, e_tup, e_lst, e_bin, e_cmp, e_neg, e_notF, e_notT, e_andT, e_orT, e_andF, e_orF, e_ite, e_chain, e_att, e_sub, e_slc, oi_n, oi_var, oi_bin, oi_sub, oi_blt, oi_neg, oi_call, oi_att, oi_cint, e_call, e_meth, e_blt, e_bm, e_nil, e_cons, e_lc, eT_var, eT_cst, eT_tup, eT_lst, eT_bin, eT_cmp, eT_chain, eT_att, eT_sub, eT_slc, eT_call, eT_meth, eT_blt, eT_bm, eT_lc, at0, at1, at2, at3, at4, isAbs, tr_b, br_t, br_f, br_d, o_add, o_addS, o_addT, o_sub, o_mul, o_div, o_mod, o_pow, c_lt, c_gt, c_le, c_ge, c_leS, c_ltS, c_eq, c_ne, c_in, c_nin, c_is, c_isn, s_set, ix0, ix1, ix2, ix3, Ob.lst.injEq, Vl.int.injEq, Vl.bl.injEq, Nat.reduceLT, Nat.zero_lt_succ, s_ref, s_tup, s_fl, s_scr, s_str, f_fn, start, List.map_cons, List.map_nil, List.length_cons, List.length_nil, List.replicate, List.cons_append, List.nil_append, List.set_cons_zero, List.set_cons_succ, List.getElem?_cons_zero, List.getElem?_cons_succ, Option.some.injEq, exists_eq_left', exists_eq_left, true_and, and_true, Nat.reduceAdd, Nat.reduceSub, if_true, if_false, reduceIte, Bool.false_eq_true, SR, srcs, srcV, b_len, b_abs, b_max, b_min, b_intI, b_intB, b_isi, b_rng, b_listS, b_listT, b_all, b_any, m_lower, sl_str, br_nd, Bool.not_true, Bool.not_false, ob_some, tr_i, tr_n, Vl.str.injEq, Vl.ref.injEq, Vl.tup.injEq, exists_eq_right, bmChk, bmTy, e_lstF, e_dct, PR, pairsOf, e_fstr, e_fnil, e_fcons, e_fmt, fm_str, e_slcR, e_callp, e_mkp, e_methp, e_lcF, o_addF, eT_callp, eT_methp, b_isc, b_listF, b_lisTL, b_lisFL, b_tupT, b_tupF, b_strI, b_strS, bc_s, bc_i, bc_b, bc_n, bc_t, bc_f, bc_c, bc_d, bc_2, cc_s, cc_i, cc_b, cc_n, cc_t, cc_f, cc_d, oc_len, oc_bool, oc_str, oc_repr, at_ob, f_ini, f_in2, nd_f, nd_t, g_get, ob_of, sl_fl, sl_tup, clos, clo, clof, Bool.and_self, Bool.true_and, Bool.and_true, Option.map_some, t_fl, m_app, m_ext, o_addRF, o_addFL, o_mulR, e_mk, mk_fz, tr_t, tr_f, itOf]
  refine ⟨by omega, ?_⟩
  obtain ⟨n, rfl⟩ : ∃ n : Nat, r1 = n := ⟨r1.toNat, by omega⟩
  rw [Int.toNat_natCast]
  refine Ok.imp (loopP_gen (fun i => if i < n then some (.int (0 + i)) else none) n (fun i acc h' => ∃ cs : List Nat, cs.length = i ∧ (∀ c ∈ cs, 65 ≤ c ∧ c ≤ 90) ∧ acc = cs.map (fun c => .str [c]) ∧ Pu h' p (t + 1 + i)) (by simp) (fun i acc h hi _ => rfl) (fun i acc h4 hi I => ?_) FUEL 0 [] h3 (by omega) (by omega) ⟨[], rfl, by simp, rfl, by simpa using pu3⟩) fun acc h4 I => ?_
  · obtain ⟨cs, hcs, hc, rfl, pu4⟩ := I
    refine ⟨_, if_pos hi, ?_⟩
    simp only [ok_cons, ok_nil, ok_ok, ok_bad, then_nx, then_rt, then_bk, then_ct, x_expr, x_asg, x_ret, x_ite, x_pass, x_for, t_name, t_att, t_sub, t_tup, t_nil, t_cons, e_var, e_cst, e_tup, e_lst, e_bin, e_cmp, e_neg, e_notF, e_notT, e_andT, e_orT, e_andF, e_orF, e_ite, e_chain, e_att, e_sub, e_slc, oi_n, oi_var, oi_bin, oi_sub, oi_blt, oi_neg, oi_call, oi_att, oi_cint, e_call, e_meth, e_blt, e_bm, e_nil, e_cons, e_lc, eT_var, eT_cst, eT_tup, eT_lst, eT_bin, eT_cmp, eT_chain, eT_att, eT_sub, eT_slc, eT_call, eT_meth, eT_blt, eT_bm, eT_lc, at0, at1, at2, at3, at4, isAbs, tr_b, br_t, br_f, br_d, o_add, o_addS, o_addT, o_sub, o_mul, o_div, o_mod, o_pow, c_lt, c_gt, c_le, c_ge, c_leS, c_ltS, c_eq, c_ne, c_in, c_nin, c_is, c_isn, s_set, ix0, ix1, ix2, ix3, Ob.lst.injEq, Vl.int.injEq, Vl.bl.injEq, Nat.reduceLT, Nat.zero_lt_succ, s_ref, s_tup, s_fl, s_scr, s_str, f_fn, start, List.map_cons, List.map_nil, List.length_cons, List.length_nil, List.replicate, List.cons_append, List.nil_append, List.set_cons_zero, List.set_cons_succ, List.getElem?_cons_zero, List.getElem?_cons_succ, Option.some.injEq, exists_eq_left', exists_eq_left, true_and, and_true, Nat.reduceAdd, Nat.reduceSub, if_true, if_false, reduceIte, Bool.false_eq_true, SR, srcs, srcV, b_len, b_abs, b_max, b_min, b_intI, b_intB, b_isi, b_rng, b_listS, b_listT, b_all, b_any, m_lower, sl_str, br_nd, Bool.not_true, Bool.not_false, ob_some, tr_i, tr_n, Vl.str.injEq, Vl.ref.injEq, Vl.tup.injEq, exists_eq_right, bmChk, bmTy, e_lstF, e_dct, PR, pairsOf, e_fstr, e_fnil, e_fcons, e_fmt, fm_str, e_slcR, e_callp, e_mkp, e_methp, e_lcF, o_addF, eT_callp, eT_methp, b_isc, b_listF, b_lisTL, b_lisFL, b_tupT, b_tupF, b_strI, b_strS, bc_s, bc_i, bc_b, bc_n, bc_t, bc_f, bc_c, bc_d, bc_2, cc_s, cc_i, cc_b, cc_n, cc_t, cc_f, cc_d, oc_len, oc_bool, oc_str, oc_repr, at_ob, f_ini, f_in2, nd_f, nd_t, g_get, ob_of, sl_fl, sl_tup, clos, clo, clof, Bool.and_self, Bool.true_and, Bool.and_true, Option.map_some, t_fl, m_app, m_ext, o_addRF, o_addFL, o_mulR, e_mk, mk_fz, tr_t, tr_f, lcb, bindP, wipe]
    refine Ok.imp (takeA lk_takeA pu4 (by omega) (by omega) (by omega)) fun u h5 q => ?_
    obtain ⟨r2, rfl, l2, u2, pd5, pu5⟩ := q
    obtain ⟨x, hx, e, _⟩ := at_in (xs := S "ABCDEFGHIJKLMNOPQRSTUVWXYZ") (i := r2) l2 (by exact u2)
    simp only [ok_cons, ok_nil, ok_ok, ok_bad, then_nx, then_rt, then_bk, then_ct, x_expr, x_asg, x_ret, x_ite, x_pass, x_for, t_name, t_att, t_sub, t_tup, t_nil, t_cons, e_var, e_cst, e_tup, e_lst, e_bin, e_cmp, e_neg, e_notF, e_notT, e_andT, e_orT, e_andF, e_orF, e_ite, e_chain, e_att, e_sub, e_slc, oi_n, oi_var, oi_bin, oi_sub, oi_blt, oi_neg, oi_call, oi_att, oi_cint, e_call, e_meth, e_blt, e_bm, e_nil, e_cons, e_lc, eT_var, eT_cst, eT_tup, eT_lst, eT_bin, eT_cmp, eT_chain, eT_att, eT_sub, eT_slc, eT_call, eT_meth, eT_blt, eT_bm, eT_lc, at0, at1, at2, at3, at4, isAbs, tr_b, br_t, br_f, br_d, o_add, o_addS, o_addT, o_sub, o_mul, o_div, o_mod, o_pow, c_lt, c_gt, c_le, c_ge, c_leS, c_ltS, c_eq, c_ne, c_in, c_nin, c_is, c_isn, s_set, ix0, ix1, ix2, ix3, Ob.lst.injEq, Vl.int.injEq, Vl.bl.injEq, Nat.reduceLT, Nat.zero_lt_succ, s_ref, s_tup, s_fl, s_scr, s_str, f_fn, start, List.map_cons, List.map_nil, List.length_cons, List.length_nil, List.replicate, List.cons_append, List.nil_append, List.set_cons_zero, List.set_cons_succ, List.getElem?_cons_zero, List.getElem?_cons_succ, Option.some.injEq, exists_eq_left', exists_eq_left, true_and, and_true, Nat.reduceAdd, Nat.reduceSub, if_true, if_false, reduceIte, Bool.false_eq_true, SR, srcs, srcV, b_len, b_abs, b_max, b_min, b_intI, b_intB, b_isi, b_rng, b_listS, b_listT, b_all, b_any, m_lower, sl_str, br_nd, Bool.not_true, Bool.not_false, ob_some, tr_i, tr_n, Vl.str.injEq, Vl.ref.injEq, Vl.tup.injEq, exists_eq_right, bmChk, bmTy, e_lstF, e_dct, PR, pairsOf, e_fstr, e_fnil, e_fcons, e_fmt, fm_str, e_slcR, e_callp, e_mkp, e_methp, e_lcF, o_addF, eT_callp, eT_methp, b_isc, b_listF, b_lisTL, b_lisFL, b_tupT, b_tupF, b_strI, b_strS, bc_s, bc_i, bc_b, bc_n, bc_t, bc_f, bc_c, bc_d, bc_2, cc_s, cc_i, cc_b, cc_n, cc_t, cc_f, cc_d, oc_len, oc_bool, oc_str, oc_repr, at_ob, f_ini, f_in2, nd_f, nd_t, g_get, ob_of, sl_fl, sl_tup, clos, clo, clof, Bool.and_self, Bool.true_and, Bool.and_true, Option.map_some, t_fl, m_app, m_ext, o_addRF, o_addFL, o_mulR, e_mk, mk_fz, tr_t, tr_f, e]
    refine ⟨by decide, .inr ⟨by rw [List.length_map]; omega, cs ++ [x], by simp [hcs], ?_, by simp, ?_⟩⟩
    · intro c hc2
      rcases List.mem_append.mp hc2 with hc2 | hc2
      · exact hc c hc2
      · rw [List.mem_singleton.mp hc2]
        exact az_mem hx
    · rw [show t + 1 + ((i + 1 : Nat) : Int) = t + 1 + i + 1 by omega]
      exact pu5
  · obtain ⟨cs, hcs, hc, rfl, pu4⟩ := I
    rw [m_joinF (strs_ones cs), join_ones, sum_ones]
    simp only [ok_cons, ok_nil, ok_ok, ok_bad, then_nx, then_rt, then_bk, then_ct, x_expr, x_asg, x_ret, x_ite, x_pass, x_for, t_name, t_att, t_sub, t_tup, t_nil, t_cons, e_var, e_cst, e_tup, e_lst, e_bin, e_cmp, e_neg, e_notF, e_notT, e_andT, e_orT, e_andF, e_orF, e_ite, e_chain, e_att, e_sub, e_slc, oi_n, oi_var, oi_bin, oi_sub, oi_blt, oi_neg, oi_call, oi_att, oi_cint, e_call, e_meth, e_blt, e_bm, e_nil, e_cons, e_lc, eT_var, eT_cst, eT_tup, eT_lst, eT_bin, eT_cmp, eT_chain, eT_att, eT_sub, eT_slc, eT_call, eT_meth, eT_blt, eT_bm, eT_lc, at0, at1, at2, at3, at4, isAbs, tr_b, br_t, br_f, br_d, o_add, o_addS, o_addT, o_sub, o_mul, o_div, o_mod, o_pow, c_lt, c_gt, c_le, c_ge, c_leS, c_ltS, c_eq, c_ne, c_in, c_nin, c_is, c_isn, s_set, ix0, ix1, ix2, ix3, Ob.lst.injEq, Vl.int.injEq, Vl.bl.injEq, Nat.reduceLT, Nat.zero_lt_succ, s_ref, s_tup, s_fl, s_scr, s_str, f_fn, start, List.map_cons, List.map_nil, List.length_cons, List.length_nil, List.replicate, List.cons_append, List.nil_append, List.set_cons_zero, List.set_cons_succ, List.getElem?_cons_zero, List.getElem?_cons_succ, Option.some.injEq, exists_eq_left', exists_eq_left, true_and, and_true, Nat.reduceAdd, Nat.reduceSub, if_true, if_false, reduceIte, Bool.false_eq_true, SR, srcs, srcV, b_len, b_abs, b_max, b_min, b_intI, b_intB, b_isi, b_rng, b_listS, b_listT, b_all, b_any, m_lower, sl_str, br_nd, Bool.not_true, Bool.not_false, ob_some, tr_i, tr_n, Vl.str.injEq, Vl.ref.injEq, Vl.tup.injEq, exists_eq_right, bmChk, bmTy, e_lstF, e_dct, PR, pairsOf, e_fstr, e_fnil, e_fcons, e_fmt, fm_str, e_slcR, e_callp, e_mkp, e_methp, e_lcF, o_addF, eT_callp, eT_methp, b_isc, b_listF, b_lisTL, b_lisFL, b_tupT, b_tupF, b_strI, b_strS, bc_s, bc_i, bc_b, bc_n, bc_t, bc_f, bc_c, bc_d, bc_2, cc_s, cc_i, cc_b, cc_n, cc_t, cc_f, cc_d, oc_len, oc_bool, oc_str, oc_repr, at_ob, f_ini, f_in2, nd_f, nd_t, g_get, ob_of, sl_fl, sl_tup, clos, clo, clof, Bool.and_self, Bool.true_and, Bool.and_true, Option.map_some, t_fl, m_app, m_ext, o_addRF, o_addFL, o_mulR, e_mk, mk_fz, tr_t, tr_f, List.length_map, lenV, Nat.mul_zero, Nat.add_zero]
    refine ⟨by omega, ?_⟩
    rw [if_pos (by omega)]
    simp only [ok_cons, ok_nil, ok_ok, ok_bad, then_nx, then_rt, then_bk, then_ct, x_expr, x_asg, x_ret, x_ite, x_pass, x_for, t_name, t_att, t_sub, t_tup, t_nil, t_cons, e_var, e_cst, e_tup, e_lst, e_bin, e_cmp, e_neg, e_notF, e_notT, e_andT, e_orT, e_andF, e_orF, e_ite, e_chain, e_att, e_sub, e_slc, oi_n, oi_var, oi_bin, oi_sub, oi_blt, oi_neg, oi_call, oi_att, oi_cint, e_call, e_meth, e_blt, e_bm, e_nil, e_cons, e_lc, eT_var, eT_cst, eT_tup, eT_lst, eT_bin, eT_cmp, eT_chain, eT_att, eT_sub, eT_slc, eT_call, eT_meth, eT_blt, eT_bm, eT_lc, at0, at1, at2, at3, at4, isAbs, tr_b, br_t, br_f, br_d, o_add, o_addS, o_addT, o_sub, o_mul, o_div, o_mod, o_pow, c_lt, c_gt, c_le, c_ge, c_leS, c_ltS, c_eq, c_ne, c_in, c_nin, c_is, c_isn, s_set, ix0, ix1, ix2, ix3, Ob.lst.injEq, Vl.int.injEq, Vl.bl.injEq, Nat.reduceLT, Nat.zero_lt_succ, s_ref, s_tup, s_fl, s_scr, s_str, f_fn, start, List.map_cons, List.map_nil, List.length_cons, List.length_nil, List.replicate, List.cons_append, List.nil_append, List.set_cons_zero, List.set_cons_succ, List.getElem?_cons_zero, List.getElem?_cons_succ, Option.some.injEq, exists_eq_left', exists_eq_left, true_and, and_true, Nat.reduceAdd, Nat.reduceSub, if_true, if_false, reduceIte, Bool.false_eq_true, SR, srcs, srcV, b_len, b_abs, b_max, b_min, b_intI, b_intB, b_isi, b_rng, b_listS, b_listT, b_all, b_any, m_lower, sl_str, br_nd, Bool.not_true, Bool.not_false, ob_some, tr_i, tr_n, Vl.str.injEq, Vl.ref.injEq, Vl.tup.injEq, exists_eq_right, bmChk, bmTy, e_lstF, e_dct, PR, pairsOf, e_fstr, e_fnil, e_fcons, e_fmt, fm_str, e_slcR, e_callp, e_mkp, e_methp, e_lcF, o_addF, eT_callp, eT_methp, b_isc, b_listF, b_lisTL, b_lisFL, b_tupT, b_tupF, b_strI, b_strS, bc_s, bc_i, bc_b, bc_n, bc_t, bc_f, bc_c, bc_d, bc_2, cc_s, cc_i, cc_b, cc_n, cc_t, cc_f, cc_d, oc_len, oc_bool, oc_str, oc_repr, at_ob, f_ini, f_in2, nd_f, nd_t, g_get, ob_of, sl_fl, sl_tup, clos, clo, clof, Bool.and_self, Bool.true_and, Bool.and_true, Option.map_some, t_fl, m_app, m_ext, o_addRF, o_addFL, o_mulR, e_mk, mk_fz, tr_t, tr_f]
    refine Ok.imp (takeA lk_takeA pu4 (by omega) (by omega) (by omega)) fun u h5 q => ?_
    obtain ⟨r2, rfl, l2, u2, pd5, pu5⟩ := q
    refine Ok.imp (takeA lk_takeA pu5 (by omega) (by omega) (by omega)) fun u h6 q => ?_
    obtain ⟨r3, rfl, l3, u3, pd6, pu6⟩ := q
    obtain ⟨a, rfl⟩ : ∃ n : Nat, r2 = n := ⟨r2.toNat, by omega⟩
    refine ⟨by omega, by omega, ?_⟩
    refine Ok.imp (loopP_gen (fun i => if i < 6 then some (.int (0 + i)) else none) 6 (fun i acc h' => h' = h6 ∧ ∃ ss : List Tx, ss.length = i ∧ (∀ s ∈ ss, Cap s) ∧ acc = ss.map .str) (by simp) (fun i acc h hi _ => rfl) (fun i acc h7 hi I => ?_) FUEL 0 [] h6 (by omega) (by omega) ⟨rfl, [], rfl, by simp, rfl⟩) fun acc h7 I => ?_
    · obtain ⟨rfl, ss, hss, hcap, rfl⟩ := I
      refine ⟨_, if_pos hi, ?_⟩
      obtain ⟨x, hx, e, _⟩ := at_in (xs := S "ABCDEFGHIJKLMNOPQRSTUVWXYZ") (i := (r3 + (0 + (i : Int))) % 26) (by omega) (show _ < ((26 : Nat) : Int) by omega)
      simp only [ok_cons, ok_nil, ok_ok, ok_bad, then_nx, then_rt, then_bk, then_ct, x_expr, x_asg, x_ret, x_ite, x_pass, x_for, t_name, t_att, t_sub, t_tup, t_nil, t_cons, e_var, e_cst, e_tup, e_lst, e_bin, e_cmp, e_neg, e_notF, e_notT, e_andT, e_orT, e_andF, e_orF, e_ite, e_chain, e_att, e_sub, e_slc, oi_n, oi_var, oi_bin, oi_sub, oi_blt, oi_neg, oi_call, oi_att, oi_cint, e_call, e_meth, e_blt, e_bm, e_nil, e_cons, e_lc, eT_var, eT_cst, eT_tup, eT_lst, eT_bin, eT_cmp, eT_chain, eT_att, eT_sub, eT_slc, eT_call, eT_meth, eT_blt, eT_bm, eT_lc, at0, at1, at2, at3, at4, isAbs, tr_b, br_t, br_f, br_d, o_add, o_addS, o_addT, o_sub, o_mul, o_div, o_mod, o_pow, c_lt, c_gt, c_le, c_ge, c_leS, c_ltS, c_eq, c_ne, c_in, c_nin, c_is, c_isn, s_set, ix0, ix1, ix2, ix3, Ob.lst.injEq, Vl.int.injEq, Vl.bl.injEq, Nat.reduceLT, Nat.zero_lt_succ, s_ref, s_tup, s_fl, s_scr, s_str, f_fn, start, List.map_cons, List.map_nil, List.length_cons, List.length_nil, List.replicate, List.cons_append, List.nil_append, List.set_cons_zero, List.set_cons_succ, List.getElem?_cons_zero, List.getElem?_cons_succ, Option.some.injEq, exists_eq_left', exists_eq_left, true_and, and_true, Nat.reduceAdd, Nat.reduceSub, if_true, if_false, reduceIte, Bool.false_eq_true, SR, srcs, srcV, b_len, b_abs, b_max, b_min, b_intI, b_intB, b_isi, b_rng, b_listS, b_listT, b_all, b_any, m_lower, sl_str, br_nd, Bool.not_true, Bool.not_false, ob_some, tr_i, tr_n, Vl.str.injEq, Vl.ref.injEq, Vl.tup.injEq, exists_eq_right, bmChk, bmTy, e_lstF, e_dct, PR, pairsOf, e_fstr, e_fnil, e_fcons, e_fmt, fm_str, e_slcR, e_callp, e_mkp, e_methp, e_lcF, o_addF, eT_callp, eT_methp, b_isc, b_listF, b_lisTL, b_lisFL, b_tupT, b_tupF, b_strI, b_strS, bc_s, bc_i, bc_b, bc_n, bc_t, bc_f, bc_c, bc_d, bc_2, cc_s, cc_i, cc_b, cc_n, cc_t, cc_f, cc_d, oc_len, oc_bool, oc_str, oc_repr, at_ob, f_ini, f_in2, nd_f, nd_t, g_get, ob_of, sl_fl, sl_tup, clos, clo, clof, Bool.and_self, Bool.true_and, Bool.and_true, Option.map_some, t_fl, m_app, m_ext, o_addRF, o_addFL, o_mulR, e_mk, mk_fz, tr_t, tr_f, lcb, bindP, wipe, e, cut_take, cut_drop _ _ (show a ≤ cs.length by omega), List.length_append, List.length_take, List.length_drop]
      refine ⟨by omega, by omega, by decide, by omega, by omega, by omega, .inr ⟨by rw [List.length_map]; omega, ss ++ [cs.take a ++ [x] ++ cs.drop a], by simp [hss], ?_, by simp⟩⟩
      intro s hs
      rcases List.mem_append.mp hs with hs | hs
      · exact hcap s hs
      · rw [List.mem_singleton.mp hs]
        refine ⟨by simp, by simp only [List.length_append, List.length_take, List.length_drop, List.length_cons, List.length_nil]; omega, fun c hc2 => ?_⟩
        rcases List.mem_append.mp hc2 with hc2 | hc2
        · rcases List.mem_append.mp hc2 with hc2 | hc2
          · exact hc c (List.mem_of_mem_take hc2)
          · rw [List.mem_singleton.mp hc2]
            exact az_mem hx
        · exact hc c (List.mem_of_mem_drop hc2)
    · obtain ⟨rfl, ss, hss, hcap, rfl⟩ := I
      obtain ⟨a1, b1, c1, e1, g1, g2, g3, g4, g5⟩ := pu6
      exact ⟨ss, rfl, hss, hcap, a1, b1, c1, e1, g1, g2, g3, g4, by omega⟩
end Lw
namespace Lw
open Mi
theorem b_sruM {h : Hm} {Q : Vl → Hm → Prop} {ss : List Tx} : Ok (bltF "sortedset" [.fl (ss.map Vl.str)] h) Q ↔ ss.length < 4000 ∧ Q (.fl ((sortU ss).map .str)) h := b_sruF (strs_map ss)
theorem b_srtM {h : Hm} {Q : Vl → Hm → Prop} {ss : List Tx} : Ok (bltF "sorted" [.fl (ss.map Vl.str)] h) Q ↔ Q (.fl ((sortS ss).map .str)) h := b_srtF (strs_map ss)
theorem at5 {α : Type} (xs : List α) : Mi.atI xs 5 = xs[5]? := at_nat xs 5
theorem cut_map {α β : Type} (f : α → β) (xs : List α) (lo hi : Option Int) : cut (xs.map f) lo hi = (cut xs lo hi).map f := by
  unfold cut
  rw [List.length_map, List.map_take, List.map_drop]
theorem cut_mem {α : Type} {xs : List α} {lo hi : Option Int} {x : α} (h : x ∈ cut xs lo hi) : x ∈ xs := List.mem_of_mem_drop (List.mem_of_mem_take h)
theorem sum_le {b : Nat} : ∀ {W : List Tx}, (∀ s ∈ W, s.length ≤ b) → (W.map (·.length)).sum ≤ b * W.length
  | [], _ => Nat.zero_le _
  | s :: W, h => by
    have h1 := h s (List.mem_cons_self ..)
    have h2 := sum_le fun t ht => h t (List.mem_cons_of_mem _ ht)
    rw [List.map_cons, List.sum_cons, List.length_cons, Nat.mul_add]
    omega
theorem word_len {s : Tx} (h : WordT s) : s.length ≤ 30 := by
  obtain ⟨z, hz, h⟩ := h
  have h1 := show_len (z := z) (k := 4) (by decide) (by omega)
  have e1 : (S "[").length = 1 := by decide
  have e2 : (S " 0]").length = 3 := by decide
  have e3 : (S "[[1 ").length = 4 := by decide
  have e4 : (S "] [2 3]]").length = 8 := by decide
  rcases h with rfl | rfl | rfl
  · omega
  · simp only [List.length_append]
    omega
  · simp only [List.length_append]
    omega
theorem Shp.len {k : Tx} {w : Wh} (h : Shp k w) : k.length ≤ 30 ∧ w.ws.length ≤ 4 ∧ ∀ s ∈ w.ws, s.length ≤ 30 := by
  cases h with
  | word hw => exact ⟨by decide, by simp [Wh.ws], fun s hs => by rw [List.mem_singleton.mp hs]; exact word_len hw⟩
  | fault hf hk =>
    refine ⟨by decide, by simp [Wh.ws], fun s hs => ?_⟩
    rcases List.mem_cons.mp hs with rfl | hs
    · simp only [List.mem_cons, List.not_mem_nil, or_false] at hf
      rcases hf with rfl | rfl | rfl | rfl | rfl <;> decide
    · rw [List.mem_singleton.mp hs]
      exact Nat.le_trans hk.2.2 (by decide)
  | ring hs hl => exact ⟨by decide, hl, fun s q => Nat.le_trans (hs s q).2.2 (by decide)⟩
  | waits hc => exact ⟨by decide, by simp [Wh.ws], fun s hs => by rw [List.mem_singleton.mp hs]; exact Nat.le_trans hc.2.1 (by decide)⟩
  | opn => exact ⟨by decide, by decide, fun s hs => nomatch hs⟩
theorem Drw.bd {k : Tx} {w : Wh} {n : Int} {ks : List Tx} (h : Drw k w n ks) : Bd k w n ks := by
  have hn : n.natAbs < 10000 := by
    have := h.lo
    have := h.hi
    omega
  obtain ⟨l1, l2, l3⟩ := h.sh.len
  have h1 : ∀ s ∈ words k w n ks, s.length ≤ 30 := fun s hs => by
    unfold words at hs
    rcases List.mem_cons.mp hs with rfl | hs
    · exact l1
    · rcases List.mem_append.mp hs with hs | hs
      · exact l3 s hs
      · rcases List.mem_cons.mp hs with rfl | hs
        · exact Nat.le_trans (show_len (k := 4) (by decide) hn) (by decide)
        · unfold tl at hs
          split at hs
          · cases hs
          · rcases List.mem_cons.mp hs with rfl | hs
            · decide
            · exact Nat.le_trans (h.kc s hs).2.1 (by decide)
  have h2 : (words k w n ks).length ≤ 12 := by
    unfold words
    have h3 : (tl ks).length ≤ ks.length + 1 := by
      unfold tl
      split
      · exact Nat.zero_le _
      · exact Nat.le_refl _
    have := h.kl
    simp only [List.length_cons, List.length_append]
    omega
  have h3 := sum_le h1
  exact ⟨by omega, by omega⟩
theorem pule {h : Hm} {p : Nat} {t t' : Int} (pu : Pu h p t) (ht : t ≤ t') : Pu h p t' := by
  obtain ⟨a1, b1, c1, e1, g1, g2, g3, g4, g5⟩ := pu
  exact ⟨a1, b1, c1, e1, g1, g2, g3, g4, by omega⟩
/-- an item of a written list -/
theorem at_str {P : Vl → Prop} {i : Int} {ss : List Tx} (h0 : 0 ≤ i) (h1 : i < ss.length) (h : ∀ s ∈ ss, P (.str s)) : ∃ v, Mi.atI (ss.map Vl.str) i = some v ∧ P v := by
  obtain ⟨x, hx, e, _⟩ := at_in (xs := ss.map Vl.str) (i := i) h0 (by rw [List.length_map]; exact h1)
  obtain ⟨s, hs, rfl⟩ := List.mem_map.mp hx
  exact ⟨_, e, h s hs⟩
theorem drawn_ok {d : Nat} {h : Hm} {p : Nat} {t : Int} (pu : Pu h p t) (ht : t < 1000) : Ok (callP PP (d + 3) "" "_law_drawn" [.ref p] h) fun v h' => ∃ k w n ks, v = dr k w n ks ∧ Drw k w n ks ∧ n ≤ 5000 ∧ Pu h' p (t + 50) := by
  refine ok_call lk__law_drawn rfl ?_
  have hL : LIM = 16777216 := rfl
  have hF : FUEL = 10000000 := rfl
  unfold b__law_drawn
  simp only [ok_cons, ok_nil, ok_ok, ok_bad, then_nx, then_rt, then_bk, then_ct, x_expr, x_asg, x_ret, x_ite, x_pass, x_for, t_name, t_att, t_sub, t_tup, t_nil, t_cons, e_var, e_cst, e_tup, e_lst, e_bin, e_cmp, e_neg, e_notF, e_notT, e_andT, e_orT, e_andF, e_orF, e_ite, e_chain, e_att, e_sub, e_slc, oi_n, oi_var, oi_bin, oi_sub, oi_blt, oi_neg, oi_call, oi_att, oi_cint, e_call, e_meth, e_blt, e_bm, e_nil, e_cons, e_lc, eT_var, eT_cst, eT_tup, eT_lst, eT_bin, eT_cmp, eT_chain, eT_att, eT_sub, eT_slc, eT_call, eT_meth, eT_blt, eT_bm, eT_lc, at0, at1, at2, at3, at4, isAbs, tr_b, br_t, br_f, br_d, o_add, o_addS, o_addT, o_sub, o_mul, o_div, o_mod, o_pow, c_lt, c_gt, c_le, c_ge, c_leS, c_ltS, c_eq, c_ne, c_in, c_nin, c_is, c_isn, s_set, ix0, ix1, ix2, ix3, Ob.lst.injEq, Vl.int.injEq, Vl.bl.injEq, Nat.reduceLT, Nat.zero_lt_succ, s_ref, s_tup, s_fl, s_scr, s_str, f_fn, start, List.map_cons, List.map_nil, List.length_cons, List.length_nil, List.replicate, List.cons_append, List.nil_append, List.set_cons_zero, List.set_cons_succ, List.getElem?_cons_zero, List.getElem?_cons_succ, Option.some.injEq, exists_eq_left', exists_eq_left, true_and, and_true, Nat.reduceAdd, Nat.reduceSub, if_true, if_false, reduceIte, Bool.false_eq_true, SR, srcs, srcV, b_len, b_abs, b_max, b_min, b_intI, b_intB, b_isi, b_rng, b_listS, b_listT, b_all, b_any, m_lower, sl_str, br_nd, Bool.not_true, Bool.not_false, ob_some, tr_i, tr_n, Vl.str.injEq, Vl.ref.injEq, Vl.tup.injEq, exists_eq_right, bmChk, bmTy, e_lstF, e_dct, PR, pairsOf, e_fstr, e_fnil, e_fcons, e_fmt, fm_str, e_slcR, e_callp, e_mkp, e_methp, e_lcF, o_addF, eT_callp, eT_methp, b_isc, b_listF, b_lisTL, b_lisFL, b_tupT, b_tupF, b_strI, b_strS, bc_s, bc_i, bc_b, bc_n, bc_t, bc_f, bc_c, bc_d, bc_2, cc_s, cc_i, cc_b, cc_n, cc_t, cc_f, cc_d, oc_len, oc_bool, oc_str, oc_repr, at_ob, f_ini, f_in2, nd_f, nd_t, g_get, ob_of, sl_fl, sl_tup, clos, clo, clof, Bool.and_self, Bool.true_and, Bool.and_true, Option.map_some, t_fl, m_app, m_ext, o_addRF, o_addFL, o_mulR, e_mk, mk_fz, tr_t, tr_f]
  refine Ok.imp (names_ok pu (by omega)) fun u h2 q => ?_
  obtain ⟨ss, rfl, hss, hcap, pu2⟩ := q
  simp only [ok_cons, ok_nil, ok_ok, ok_bad, then_nx, then_rt, then_bk, then_ct, x_expr, x_asg, x_ret, x_ite, x_pass, x_for, t_name, t_att, t_sub, t_tup, t_nil, t_cons, e_var, e_cst, e_tup, e_lst, e_bin, e_cmp, e_neg, e_notF, e_notT, e_andT, e_orT, e_andF, e_orF, e_ite, e_chain, e_att, e_sub, e_slc, oi_n, oi_var, oi_bin, oi_sub, oi_blt, oi_neg, oi_call, oi_att, oi_cint, e_call, e_meth, e_blt, e_bm, e_nil, e_cons, e_lc, eT_var, eT_cst, eT_tup, eT_lst, eT_bin, eT_cmp, eT_chain, eT_att, eT_sub, eT_slc, eT_call, eT_meth, eT_blt, eT_bm, eT_lc, at0, at1, at2, at3, at4, isAbs, tr_b, br_t, br_f, br_d, o_add, o_addS, o_addT, o_sub, o_mul, o_div, o_mod, o_pow, c_lt, c_gt, c_le, c_ge, c_leS, c_ltS, c_eq, c_ne, c_in, c_nin, c_is, c_isn, s_set, ix0, ix1, ix2, ix3, Ob.lst.injEq, Vl.int.injEq, Vl.bl.injEq, Nat.reduceLT, Nat.zero_lt_succ, s_ref, s_tup, s_fl, s_scr, s_str, f_fn, start, List.map_cons, List.map_nil, List.length_cons, List.length_nil, List.replicate, List.cons_append, List.nil_append, List.set_cons_zero, List.set_cons_succ, List.getElem?_cons_zero, List.getElem?_cons_succ, Option.some.injEq, exists_eq_left', exists_eq_left, true_and, and_true, Nat.reduceAdd, Nat.reduceSub, if_true, if_false, reduceIte, Bool.false_eq_true, SR, srcs, srcV, b_len, b_abs, b_max, b_min, b_intI, b_intB, b_isi, b_rng, b_listS, b_listT, b_all, b_any, m_lower, sl_str, br_nd, Bool.not_true, Bool.not_false, ob_some, tr_i, tr_n, Vl.str.injEq, Vl.ref.injEq, Vl.tup.injEq, exists_eq_right, bmChk, bmTy, e_lstF, e_dct, PR, pairsOf, e_fstr, e_fnil, e_fcons, e_fmt, fm_str, e_slcR, e_callp, e_mkp, e_methp, e_lcF, o_addF, eT_callp, eT_methp, b_isc, b_listF, b_lisTL, b_lisFL, b_tupT, b_tupF, b_strI, b_strS, bc_s, bc_i, bc_b, bc_n, bc_t, bc_f, bc_c, bc_d, bc_2, cc_s, cc_i, cc_b, cc_n, cc_t, cc_f, cc_d, oc_len, oc_bool, oc_str, oc_repr, at_ob, f_ini, f_in2, nd_f, nd_t, g_get, ob_of, sl_fl, sl_tup, clos, clo, clof, Bool.and_self, Bool.true_and, Bool.and_true, Option.map_some, t_fl, m_app, m_ext, o_addRF, o_addFL, o_mulR, e_mk, mk_fz, tr_t, tr_f]
  refine ⟨by omega, Ok.imp (takeA lk_takeA pu2 (by omega) (by omega) (by omega)) fun u h3 q => ?_⟩
  obtain ⟨r1, rfl, l1, u1, _, pu3⟩ := q
  simp only [ok_cons, ok_nil, ok_ok, ok_bad, then_nx, then_rt, then_bk, then_ct, x_expr, x_asg, x_ret, x_ite, x_pass, x_for, t_name, t_att, t_sub, t_tup, t_nil, t_cons, e_var, e_cst, e_tup, e_lst, e_bin, e_cmp, e_neg, e_notF, e_notT, e_andT, e_orT, e_andF, e_orF, e_ite, e_chain, e_att, e_sub, e_slc, oi_n, oi_var, oi_bin, oi_sub, oi_blt, oi_neg, oi_call, oi_att, oi_cint, e_call, e_meth, e_blt, e_bm, e_nil, e_cons, e_lc, eT_var, eT_cst, eT_tup, eT_lst, eT_bin, eT_cmp, eT_chain, eT_att, eT_sub, eT_slc, eT_call, eT_meth, eT_blt, eT_bm, eT_lc, at0, at1, at2, at3, at4, isAbs, tr_b, br_t, br_f, br_d, o_add, o_addS, o_addT, o_sub, o_mul, o_div, o_mod, o_pow, c_lt, c_gt, c_le, c_ge, c_leS, c_ltS, c_eq, c_ne, c_in, c_nin, c_is, c_isn, s_set, ix0, ix1, ix2, ix3, Ob.lst.injEq, Vl.int.injEq, Vl.bl.injEq, Nat.reduceLT, Nat.zero_lt_succ, s_ref, s_tup, s_fl, s_scr, s_str, f_fn, start, List.map_cons, List.map_nil, List.length_cons, List.length_nil, List.replicate, List.cons_append, List.nil_append, List.set_cons_zero, List.set_cons_succ, List.getElem?_cons_zero, List.getElem?_cons_succ, Option.some.injEq, exists_eq_left', exists_eq_left, true_and, and_true, Nat.reduceAdd, Nat.reduceSub, if_true, if_false, reduceIte, Bool.false_eq_true, SR, srcs, srcV, b_len, b_abs, b_max, b_min, b_intI, b_intB, b_isi, b_rng, b_listS, b_listT, b_all, b_any, m_lower, sl_str, br_nd, Bool.not_true, Bool.not_false, ob_some, tr_i, tr_n, Vl.str.injEq, Vl.ref.injEq, Vl.tup.injEq, exists_eq_right, bmChk, bmTy, e_lstF, e_dct, PR, pairsOf, e_fstr, e_fnil, e_fcons, e_fmt, fm_str, e_slcR, e_callp, e_mkp, e_methp, e_lcF, o_addF, eT_callp, eT_methp, b_isc, b_listF, b_lisTL, b_lisFL, b_tupT, b_tupF, b_strI, b_strS, bc_s, bc_i, bc_b, bc_n, bc_t, bc_f, bc_c, bc_d, bc_2, cc_s, cc_i, cc_b, cc_n, cc_t, cc_f, cc_d, oc_len, oc_bool, oc_str, oc_repr, at_ob, f_ini, f_in2, nd_f, nd_t, g_get, ob_of, sl_fl, sl_tup, clos, clo, clof, Bool.and_self, Bool.true_and, Bool.and_true, Option.map_some, t_fl, m_app, m_ext, o_addRF, o_addFL, o_mulR, e_mk, mk_fz, tr_t, tr_f]
  refine at_str (ss := [S "word", S "fault", S "ring", S "waits", S "open"]) l1 u1 fun k hk => ?_
  refine Ok.imp (takeA lk_takeA pu3 (by omega) (by omega) (by omega)) fun u h4 q => ?_
  obtain ⟨r2, rfl, l2, u2, _, pu4⟩ := q
  simp only [ok_cons, ok_nil, ok_ok, ok_bad, then_nx, then_rt, then_bk, then_ct, x_expr, x_asg, x_ret, x_ite, x_pass, x_for, t_name, t_att, t_sub, t_tup, t_nil, t_cons, e_var, e_cst, e_tup, e_lst, e_bin, e_cmp, e_neg, e_notF, e_notT, e_andT, e_orT, e_andF, e_orF, e_ite, e_chain, e_att, e_sub, e_slc, oi_n, oi_var, oi_bin, oi_sub, oi_blt, oi_neg, oi_call, oi_att, oi_cint, e_call, e_meth, e_blt, e_bm, e_nil, e_cons, e_lc, eT_var, eT_cst, eT_tup, eT_lst, eT_bin, eT_cmp, eT_chain, eT_att, eT_sub, eT_slc, eT_call, eT_meth, eT_blt, eT_bm, eT_lc, at0, at1, at2, at3, at4, isAbs, tr_b, br_t, br_f, br_d, o_add, o_addS, o_addT, o_sub, o_mul, o_div, o_mod, o_pow, c_lt, c_gt, c_le, c_ge, c_leS, c_ltS, c_eq, c_ne, c_in, c_nin, c_is, c_isn, s_set, ix0, ix1, ix2, ix3, Ob.lst.injEq, Vl.int.injEq, Vl.bl.injEq, Nat.reduceLT, Nat.zero_lt_succ, s_ref, s_tup, s_fl, s_scr, s_str, f_fn, start, List.map_cons, List.map_nil, List.length_cons, List.length_nil, List.replicate, List.cons_append, List.nil_append, List.set_cons_zero, List.set_cons_succ, List.getElem?_cons_zero, List.getElem?_cons_succ, Option.some.injEq, exists_eq_left', exists_eq_left, true_and, and_true, Nat.reduceAdd, Nat.reduceSub, if_true, if_false, reduceIte, Bool.false_eq_true, SR, srcs, srcV, b_len, b_abs, b_max, b_min, b_intI, b_intB, b_isi, b_rng, b_listS, b_listT, b_all, b_any, m_lower, sl_str, br_nd, Bool.not_true, Bool.not_false, ob_some, tr_i, tr_n, Vl.str.injEq, Vl.ref.injEq, Vl.tup.injEq, exists_eq_right, bmChk, bmTy, e_lstF, e_dct, PR, pairsOf, e_fstr, e_fnil, e_fcons, e_fmt, fm_str, e_slcR, e_callp, e_mkp, e_methp, e_lcF, o_addF, eT_callp, eT_methp, b_isc, b_listF, b_lisTL, b_lisFL, b_tupT, b_tupF, b_strI, b_strS, bc_s, bc_i, bc_b, bc_n, bc_t, bc_f, bc_c, bc_d, bc_2, cc_s, cc_i, cc_b, cc_n, cc_t, cc_f, cc_d, oc_len, oc_bool, oc_str, oc_repr, at_ob, f_ini, f_in2, nd_f, nd_t, g_get, ob_of, sl_fl, sl_tup, clos, clo, clof, Bool.and_self, Bool.true_and, Bool.and_true, Option.map_some, t_fl, m_app, m_ext, o_addRF, o_addFL, o_mulR, e_mk, mk_fz, tr_t, tr_f, itOf]
  refine ⟨by omega, ?_⟩
  obtain ⟨n, hn⟩ : ∃ n : Nat, 1 + r2 = n := ⟨(1 + r2).toNat, by omega⟩
  rw [hn, Int.toNat_natCast]
  refine Ok.imp (loopP_gen (fun i => if i < n then some (.int (0 + i)) else none) n (fun i acc h' => ∃ cs : List Tx, cs.length = i ∧ (∀ c ∈ cs, Knot c) ∧ acc = cs.map .str ∧ Pu h' p (t + 12 + 2 * i)) (by simp) (fun i acc h hi _ => rfl) (fun i acc h4 hi I => ?_) FUEL 0 [] h4 (by omega) (by omega) ⟨[], rfl, by simp, rfl, pule pu4 (by omega)⟩) fun acc h5 I => ?_
  · obtain ⟨cs, hcs, hc, rfl, pu5⟩ := I
    refine ⟨_, if_pos hi, ?_⟩
    simp only [ok_cons, ok_nil, ok_ok, ok_bad, then_nx, then_rt, then_bk, then_ct, x_expr, x_asg, x_ret, x_ite, x_pass, x_for, t_name, t_att, t_sub, t_tup, t_nil, t_cons, e_var, e_cst, e_tup, e_lst, e_bin, e_cmp, e_neg, e_notF, e_notT, e_andT, e_orT, e_andF, e_orF, e_ite, e_chain, e_att, e_sub, e_slc, oi_n, oi_var, oi_bin, oi_sub, oi_blt, oi_neg, oi_call, oi_att, oi_cint, e_call, e_meth, e_blt, e_bm, e_nil, e_cons, e_lc, eT_var, eT_cst, eT_tup, eT_lst, eT_bin, eT_cmp, eT_chain, eT_att, eT_sub, eT_slc, eT_call, eT_meth, eT_blt, eT_bm, eT_lc, at0, at1, at2, at3, at4, isAbs, tr_b, br_t, br_f, br_d, o_add, o_addS, o_addT, o_sub, o_mul, o_div, o_mod, o_pow, c_lt, c_gt, c_le, c_ge, c_leS, c_ltS, c_eq, c_ne, c_in, c_nin, c_is, c_isn, s_set, ix0, ix1, ix2, ix3, Ob.lst.injEq, Vl.int.injEq, Vl.bl.injEq, Nat.reduceLT, Nat.zero_lt_succ, s_ref, s_tup, s_fl, s_scr, s_str, f_fn, start, List.map_cons, List.map_nil, List.length_cons, List.length_nil, List.replicate, List.cons_append, List.nil_append, List.set_cons_zero, List.set_cons_succ, List.getElem?_cons_zero, List.getElem?_cons_succ, Option.some.injEq, exists_eq_left', exists_eq_left, true_and, and_true, Nat.reduceAdd, Nat.reduceSub, if_true, if_false, reduceIte, Bool.false_eq_true, SR, srcs, srcV, b_len, b_abs, b_max, b_min, b_intI, b_intB, b_isi, b_rng, b_listS, b_listT, b_all, b_any, m_lower, sl_str, br_nd, Bool.not_true, Bool.not_false, ob_some, tr_i, tr_n, Vl.str.injEq, Vl.ref.injEq, Vl.tup.injEq, exists_eq_right, bmChk, bmTy, e_lstF, e_dct, PR, pairsOf, e_fstr, e_fnil, e_fcons, e_fmt, fm_str, e_slcR, e_callp, e_mkp, e_methp, e_lcF, o_addF, eT_callp, eT_methp, b_isc, b_listF, b_lisTL, b_lisFL, b_tupT, b_tupF, b_strI, b_strS, bc_s, bc_i, bc_b, bc_n, bc_t, bc_f, bc_c, bc_d, bc_2, cc_s, cc_i, cc_b, cc_n, cc_t, cc_f, cc_d, oc_len, oc_bool, oc_str, oc_repr, at_ob, f_ini, f_in2, nd_f, nd_t, g_get, ob_of, sl_fl, sl_tup, clos, clo, clof, Bool.and_self, Bool.true_and, Bool.and_true, Option.map_some, t_fl, m_app, m_ext, o_addRF, o_addFL, o_mulR, e_mk, mk_fz, tr_t, tr_f, lcb, bindP, wipe]
    refine Ok.imp (takeA lk_takeA pu5 (by omega) (by omega) (by omega)) fun u h6 q => ?_
    obtain ⟨r3, rfl, l3, u3, _, pu6⟩ := q
    simp only [ok_cons, ok_nil, ok_ok, ok_bad, then_nx, then_rt, then_bk, then_ct, x_expr, x_asg, x_ret, x_ite, x_pass, x_for, t_name, t_att, t_sub, t_tup, t_nil, t_cons, e_var, e_cst, e_tup, e_lst, e_bin, e_cmp, e_neg, e_notF, e_notT, e_andT, e_orT, e_andF, e_orF, e_ite, e_chain, e_att, e_sub, e_slc, oi_n, oi_var, oi_bin, oi_sub, oi_blt, oi_neg, oi_call, oi_att, oi_cint, e_call, e_meth, e_blt, e_bm, e_nil, e_cons, e_lc, eT_var, eT_cst, eT_tup, eT_lst, eT_bin, eT_cmp, eT_chain, eT_att, eT_sub, eT_slc, eT_call, eT_meth, eT_blt, eT_bm, eT_lc, at0, at1, at2, at3, at4, isAbs, tr_b, br_t, br_f, br_d, o_add, o_addS, o_addT, o_sub, o_mul, o_div, o_mod, o_pow, c_lt, c_gt, c_le, c_ge, c_leS, c_ltS, c_eq, c_ne, c_in, c_nin, c_is, c_isn, s_set, ix0, ix1, ix2, ix3, Ob.lst.injEq, Vl.int.injEq, Vl.bl.injEq, Nat.reduceLT, Nat.zero_lt_succ, s_ref, s_tup, s_fl, s_scr, s_str, f_fn, start, List.map_cons, List.map_nil, List.length_cons, List.length_nil, List.replicate, List.cons_append, List.nil_append, List.set_cons_zero, List.set_cons_succ, List.getElem?_cons_zero, List.getElem?_cons_succ, Option.some.injEq, exists_eq_left', exists_eq_left, true_and, and_true, Nat.reduceAdd, Nat.reduceSub, if_true, if_false, reduceIte, Bool.false_eq_true, SR, srcs, srcV, b_len, b_abs, b_max, b_min, b_intI, b_intB, b_isi, b_rng, b_listS, b_listT, b_all, b_any, m_lower, sl_str, br_nd, Bool.not_true, Bool.not_false, ob_some, tr_i, tr_n, Vl.str.injEq, Vl.ref.injEq, Vl.tup.injEq, exists_eq_right, bmChk, bmTy, e_lstF, e_dct, PR, pairsOf, e_fstr, e_fnil, e_fcons, e_fmt, fm_str, e_slcR, e_callp, e_mkp, e_methp, e_lcF, o_addF, eT_callp, eT_methp, b_isc, b_listF, b_lisTL, b_lisFL, b_tupT, b_tupF, b_strI, b_strS, bc_s, bc_i, bc_b, bc_n, bc_t, bc_f, bc_c, bc_d, bc_2, cc_s, cc_i, cc_b, cc_n, cc_t, cc_f, cc_d, oc_len, oc_bool, oc_str, oc_repr, at_ob, f_ini, f_in2, nd_f, nd_t, g_get, ob_of, sl_fl, sl_tup, clos, clo, clof, Bool.and_self, Bool.true_and, Bool.and_true, Option.map_some, t_fl, m_app, m_ext, o_addRF, o_addFL, o_mulR, e_mk, mk_fz, tr_t, tr_f]
    refine at_str l3 (by omega) fun s hs => ?_
    simp only [ok_cons, ok_nil, ok_ok, ok_bad, then_nx, then_rt, then_bk, then_ct, x_expr, x_asg, x_ret, x_ite, x_pass, x_for, t_name, t_att, t_sub, t_tup, t_nil, t_cons, e_var, e_cst, e_tup, e_lst, e_bin, e_cmp, e_neg, e_notF, e_notT, e_andT, e_orT, e_andF, e_orF, e_ite, e_chain, e_att, e_sub, e_slc, oi_n, oi_var, oi_bin, oi_sub, oi_blt, oi_neg, oi_call, oi_att, oi_cint, e_call, e_meth, e_blt, e_bm, e_nil, e_cons, e_lc, eT_var, eT_cst, eT_tup, eT_lst, eT_bin, eT_cmp, eT_chain, eT_att, eT_sub, eT_slc, eT_call, eT_meth, eT_blt, eT_bm, eT_lc, at0, at1, at2, at3, at4, isAbs, tr_b, br_t, br_f, br_d, o_add, o_addS, o_addT, o_sub, o_mul, o_div, o_mod, o_pow, c_lt, c_gt, c_le, c_ge, c_leS, c_ltS, c_eq, c_ne, c_in, c_nin, c_is, c_isn, s_set, ix0, ix1, ix2, ix3, Ob.lst.injEq, Vl.int.injEq, Vl.bl.injEq, Nat.reduceLT, Nat.zero_lt_succ, s_ref, s_tup, s_fl, s_scr, s_str, f_fn, start, List.map_cons, List.map_nil, List.length_cons, List.length_nil, List.replicate, List.cons_append, List.nil_append, List.set_cons_zero, List.set_cons_succ, List.getElem?_cons_zero, List.getElem?_cons_succ, Option.some.injEq, exists_eq_left', exists_eq_left, true_and, and_true, Nat.reduceAdd, Nat.reduceSub, if_true, if_false, reduceIte, Bool.false_eq_true, SR, srcs, srcV, b_len, b_abs, b_max, b_min, b_intI, b_intB, b_isi, b_rng, b_listS, b_listT, b_all, b_any, m_lower, sl_str, br_nd, Bool.not_true, Bool.not_false, ob_some, tr_i, tr_n, Vl.str.injEq, Vl.ref.injEq, Vl.tup.injEq, exists_eq_right, bmChk, bmTy, e_lstF, e_dct, PR, pairsOf, e_fstr, e_fnil, e_fcons, e_fmt, fm_str, e_slcR, e_callp, e_mkp, e_methp, e_lcF, o_addF, eT_callp, eT_methp, b_isc, b_listF, b_lisTL, b_lisFL, b_tupT, b_tupF, b_strI, b_strS, bc_s, bc_i, bc_b, bc_n, bc_t, bc_f, bc_c, bc_d, bc_2, cc_s, cc_i, cc_b, cc_n, cc_t, cc_f, cc_d, oc_len, oc_bool, oc_str, oc_repr, at_ob, f_ini, f_in2, nd_f, nd_t, g_get, ob_of, sl_fl, sl_tup, clos, clo, clof, Bool.and_self, Bool.true_and, Bool.and_true, Option.map_some, t_fl, m_app, m_ext, o_addRF, o_addFL, o_mulR, e_mk, mk_fz, tr_t, tr_f]
    have hd : (S ".").length = 1 := by decide
    have hs' := hcap s hs
    have hsl := hs'.2.1
    refine ⟨by omega, ?_⟩
    refine Ok.imp (takeA lk_takeA pu6 (by omega) (by omega) (by omega)) fun u h7 q => ?_
    obtain ⟨r4, rfl, l4, u4, _, pu7⟩ := q
    have hsh := show_len (z := 1 + r4) (k := 2) (by decide) (by omega)
    simp only [ok_cons, ok_nil, ok_ok, ok_bad, then_nx, then_rt, then_bk, then_ct, x_expr, x_asg, x_ret, x_ite, x_pass, x_for, t_name, t_att, t_sub, t_tup, t_nil, t_cons, e_var, e_cst, e_tup, e_lst, e_bin, e_cmp, e_neg, e_notF, e_notT, e_andT, e_orT, e_andF, e_orF, e_ite, e_chain, e_att, e_sub, e_slc, oi_n, oi_var, oi_bin, oi_sub, oi_blt, oi_neg, oi_call, oi_att, oi_cint, e_call, e_meth, e_blt, e_bm, e_nil, e_cons, e_lc, eT_var, eT_cst, eT_tup, eT_lst, eT_bin, eT_cmp, eT_chain, eT_att, eT_sub, eT_slc, eT_call, eT_meth, eT_blt, eT_bm, eT_lc, at0, at1, at2, at3, at4, isAbs, tr_b, br_t, br_f, br_d, o_add, o_addS, o_addT, o_sub, o_mul, o_div, o_mod, o_pow, c_lt, c_gt, c_le, c_ge, c_leS, c_ltS, c_eq, c_ne, c_in, c_nin, c_is, c_isn, s_set, ix0, ix1, ix2, ix3, Ob.lst.injEq, Vl.int.injEq, Vl.bl.injEq, Nat.reduceLT, Nat.zero_lt_succ, s_ref, s_tup, s_fl, s_scr, s_str, f_fn, start, List.map_cons, List.map_nil, List.length_cons, List.length_nil, List.replicate, List.cons_append, List.nil_append, List.set_cons_zero, List.set_cons_succ, List.getElem?_cons_zero, List.getElem?_cons_succ, Option.some.injEq, exists_eq_left', exists_eq_left, true_and, and_true, Nat.reduceAdd, Nat.reduceSub, if_true, if_false, reduceIte, Bool.false_eq_true, SR, srcs, srcV, b_len, b_abs, b_max, b_min, b_intI, b_intB, b_isi, b_rng, b_listS, b_listT, b_all, b_any, m_lower, sl_str, br_nd, Bool.not_true, Bool.not_false, ob_some, tr_i, tr_n, Vl.str.injEq, Vl.ref.injEq, Vl.tup.injEq, exists_eq_right, bmChk, bmTy, e_lstF, e_dct, PR, pairsOf, e_fstr, e_fnil, e_fcons, e_fmt, fm_str, e_slcR, e_callp, e_mkp, e_methp, e_lcF, o_addF, eT_callp, eT_methp, b_isc, b_listF, b_lisTL, b_lisFL, b_tupT, b_tupF, b_strI, b_strS, bc_s, bc_i, bc_b, bc_n, bc_t, bc_f, bc_c, bc_d, bc_2, cc_s, cc_i, cc_b, cc_n, cc_t, cc_f, cc_d, oc_len, oc_bool, oc_str, oc_repr, at_ob, f_ini, f_in2, nd_f, nd_t, g_get, ob_of, sl_fl, sl_tup, clos, clo, clof, Bool.and_self, Bool.true_and, Bool.and_true, Option.map_some, t_fl, m_app, m_ext, o_addRF, o_addFL, o_mulR, e_mk, mk_fz, tr_t, tr_f, List.length_append]
    refine ⟨lg (by omega), by omega, .inr ⟨by rw [List.length_map]; omega, cs ++ [s ++ S "." ++ showI (1 + r4)], by simp [hcs], ?_, by simp, pule pu7 (by omega)⟩⟩
    intro c hc2
    rcases List.mem_append.mp hc2 with hc2 | hc2
    · exact hc c hc2
    · rw [List.mem_singleton.mp hc2]
      refine ⟨fun q => ?_, List.mem_append_left _ (List.mem_append_right _ (List.mem_cons_self ..)), by simp only [List.length_append]; omega⟩
      rcases List.mem_append.mp q with q | q
      · rcases List.mem_append.mp q with q | q
        · exact hs'.sp q
        · exact absurd q (by decide)
      · exact show_sp q
  · obtain ⟨cs, hcs, hc, rfl, pu5⟩ := I
    refine Ok.imp (takeA lk_takeA pu5 (by omega) (by omega) (by omega)) fun u h6 q => ?_
    obtain ⟨r3, rfl, l3, u3, _, pu6⟩ := q
    have hsh := show_len (z := r3 - 1000) (k := 4) (by decide) (by omega)
    have e1 : (S "[").length = 1 := by decide
    have e2 : (S " 0]").length = 3 := by decide
    have e3 : (S "[[1 ").length = 4 := by decide
    have e4 : (S "] [2 3]]").length = 8 := by decide
    simp only [ok_cons, ok_nil, ok_ok, ok_bad, then_nx, then_rt, then_bk, then_ct, x_expr, x_asg, x_ret, x_ite, x_pass, x_for, t_name, t_att, t_sub, t_tup, t_nil, t_cons, e_var, e_cst, e_tup, e_lst, e_bin, e_cmp, e_neg, e_notF, e_notT, e_andT, e_orT, e_andF, e_orF, e_ite, e_chain, e_att, e_sub, e_slc, oi_n, oi_var, oi_bin, oi_sub, oi_blt, oi_neg, oi_call, oi_att, oi_cint, e_call, e_meth, e_blt, e_bm, e_nil, e_cons, e_lc, eT_var, eT_cst, eT_tup, eT_lst, eT_bin, eT_cmp, eT_chain, eT_att, eT_sub, eT_slc, eT_call, eT_meth, eT_blt, eT_bm, eT_lc, at0, at1, at2, at3, at4, isAbs, tr_b, br_t, br_f, br_d, o_add, o_addS, o_addT, o_sub, o_mul, o_div, o_mod, o_pow, c_lt, c_gt, c_le, c_ge, c_leS, c_ltS, c_eq, c_ne, c_in, c_nin, c_is, c_isn, s_set, ix0, ix1, ix2, ix3, Ob.lst.injEq, Vl.int.injEq, Vl.bl.injEq, Nat.reduceLT, Nat.zero_lt_succ, s_ref, s_tup, s_fl, s_scr, s_str, f_fn, start, List.map_cons, List.map_nil, List.length_cons, List.length_nil, List.replicate, List.cons_append, List.nil_append, List.set_cons_zero, List.set_cons_succ, List.getElem?_cons_zero, List.getElem?_cons_succ, Option.some.injEq, exists_eq_left', exists_eq_left, true_and, and_true, Nat.reduceAdd, Nat.reduceSub, if_true, if_false, reduceIte, Bool.false_eq_true, SR, srcs, srcV, b_len, b_abs, b_max, b_min, b_intI, b_intB, b_isi, b_rng, b_listS, b_listT, b_all, b_any, m_lower, sl_str, br_nd, Bool.not_true, Bool.not_false, ob_some, tr_i, tr_n, Vl.str.injEq, Vl.ref.injEq, Vl.tup.injEq, exists_eq_right, bmChk, bmTy, e_lstF, e_dct, PR, pairsOf, e_fstr, e_fnil, e_fcons, e_fmt, fm_str, e_slcR, e_callp, e_mkp, e_methp, e_lcF, o_addF, eT_callp, eT_methp, b_isc, b_listF, b_lisTL, b_lisFL, b_tupT, b_tupF, b_strI, b_strS, bc_s, bc_i, bc_b, bc_n, bc_t, bc_f, bc_c, bc_d, bc_2, cc_s, cc_i, cc_b, cc_n, cc_t, cc_f, cc_d, oc_len, oc_bool, oc_str, oc_repr, at_ob, f_ini, f_in2, nd_f, nd_t, g_get, ob_of, sl_fl, sl_tup, clos, clo, clof, Bool.and_self, Bool.true_and, Bool.and_true, Option.map_some, t_fl, m_app, m_ext, o_addRF, o_addFL, o_mulR, e_mk, mk_fz, tr_t, tr_f, List.length_append]
    refine ⟨lg (by omega), by omega, by omega, by omega, by omega, by omega, ?_⟩
    refine Ok.imp (takeA lk_takeA pu6 (by omega) (by omega) (by omega)) fun u h7 q => ?_
    obtain ⟨r4, rfl, l4, u4, _, pu7⟩ := q
    simp only [ok_cons, ok_nil, ok_ok, ok_bad, then_nx, then_rt, then_bk, then_ct, x_expr, x_asg, x_ret, x_ite, x_pass, x_for, t_name, t_att, t_sub, t_tup, t_nil, t_cons, e_var, e_cst, e_tup, e_lst, e_bin, e_cmp, e_neg, e_notF, e_notT, e_andT, e_orT, e_andF, e_orF, e_ite, e_chain, e_att, e_sub, e_slc, oi_n, oi_var, oi_bin, oi_sub, oi_blt, oi_neg, oi_call, oi_att, oi_cint, e_call, e_meth, e_blt, e_bm, e_nil, e_cons, e_lc, eT_var, eT_cst, eT_tup, eT_lst, eT_bin, eT_cmp, eT_chain, eT_att, eT_sub, eT_slc, eT_call, eT_meth, eT_blt, eT_bm, eT_lc, at0, at1, at2, at3, at4, isAbs, tr_b, br_t, br_f, br_d, o_add, o_addS, o_addT, o_sub, o_mul, o_div, o_mod, o_pow, c_lt, c_gt, c_le, c_ge, c_leS, c_ltS, c_eq, c_ne, c_in, c_nin, c_is, c_isn, s_set, ix0, ix1, ix2, ix3, Ob.lst.injEq, Vl.int.injEq, Vl.bl.injEq, Nat.reduceLT, Nat.zero_lt_succ, s_ref, s_tup, s_fl, s_scr, s_str, f_fn, start, List.map_cons, List.map_nil, List.length_cons, List.length_nil, List.replicate, List.cons_append, List.nil_append, List.set_cons_zero, List.set_cons_succ, List.getElem?_cons_zero, List.getElem?_cons_succ, Option.some.injEq, exists_eq_left', exists_eq_left, true_and, and_true, Nat.reduceAdd, Nat.reduceSub, if_true, if_false, reduceIte, Bool.false_eq_true, SR, srcs, srcV, b_len, b_abs, b_max, b_min, b_intI, b_intB, b_isi, b_rng, b_listS, b_listT, b_all, b_any, m_lower, sl_str, br_nd, Bool.not_true, Bool.not_false, ob_some, tr_i, tr_n, Vl.str.injEq, Vl.ref.injEq, Vl.tup.injEq, exists_eq_right, bmChk, bmTy, e_lstF, e_dct, PR, pairsOf, e_fstr, e_fnil, e_fcons, e_fmt, fm_str, e_slcR, e_callp, e_mkp, e_methp, e_lcF, o_addF, eT_callp, eT_methp, b_isc, b_listF, b_lisTL, b_lisFL, b_tupT, b_tupF, b_strI, b_strS, bc_s, bc_i, bc_b, bc_n, bc_t, bc_f, bc_c, bc_d, bc_2, cc_s, cc_i, cc_b, cc_n, cc_t, cc_f, cc_d, oc_len, oc_bool, oc_str, oc_repr, at_ob, f_ini, f_in2, nd_f, nd_t, g_get, ob_of, sl_fl, sl_tup, clos, clo, clof, Bool.and_self, Bool.true_and, Bool.and_true, Option.map_some, t_fl, m_app, m_ext, o_addRF, o_addFL, o_mulR, e_mk, mk_fz, tr_t, tr_f]
    refine at_str (ss := [showI (r3 - 1000), S "[" ++ showI (r3 - 1000) ++ S " 0]", S "[[1 " ++ showI (r3 - 1000) ++ S "] [2 3]]"]) l4 u4 fun wd hwd => ?_
    refine ⟨by omega, Ok.imp (takeA lk_takeA pu7 (by omega) (by omega) (by omega)) fun u h8 q => ?_⟩
    obtain ⟨r5, rfl, l5, u5, _, pu8⟩ := q
    simp only [ok_cons, ok_nil, ok_ok, ok_bad, then_nx, then_rt, then_bk, then_ct, x_expr, x_asg, x_ret, x_ite, x_pass, x_for, t_name, t_att, t_sub, t_tup, t_nil, t_cons, e_var, e_cst, e_tup, e_lst, e_bin, e_cmp, e_neg, e_notF, e_notT, e_andT, e_orT, e_andF, e_orF, e_ite, e_chain, e_att, e_sub, e_slc, oi_n, oi_var, oi_bin, oi_sub, oi_blt, oi_neg, oi_call, oi_att, oi_cint, e_call, e_meth, e_blt, e_bm, e_nil, e_cons, e_lc, eT_var, eT_cst, eT_tup, eT_lst, eT_bin, eT_cmp, eT_chain, eT_att, eT_sub, eT_slc, eT_call, eT_meth, eT_blt, eT_bm, eT_lc, at0, at1, at2, at3, at4, isAbs, tr_b, br_t, br_f, br_d, o_add, o_addS, o_addT, o_sub, o_mul, o_div, o_mod, o_pow, c_lt, c_gt, c_le, c_ge, c_leS, c_ltS, c_eq, c_ne, c_in, c_nin, c_is, c_isn, s_set, ix0, ix1, ix2, ix3, Ob.lst.injEq, Vl.int.injEq, Vl.bl.injEq, Nat.reduceLT, Nat.zero_lt_succ, s_ref, s_tup, s_fl, s_scr, s_str, f_fn, start, List.map_cons, List.map_nil, List.length_cons, List.length_nil, List.replicate, List.cons_append, List.nil_append, List.set_cons_zero, List.set_cons_succ, List.getElem?_cons_zero, List.getElem?_cons_succ, Option.some.injEq, exists_eq_left', exists_eq_left, true_and, and_true, Nat.reduceAdd, Nat.reduceSub, if_true, if_false, reduceIte, Bool.false_eq_true, SR, srcs, srcV, b_len, b_abs, b_max, b_min, b_intI, b_intB, b_isi, b_rng, b_listS, b_listT, b_all, b_any, m_lower, sl_str, br_nd, Bool.not_true, Bool.not_false, ob_some, tr_i, tr_n, Vl.str.injEq, Vl.ref.injEq, Vl.tup.injEq, exists_eq_right, bmChk, bmTy, e_lstF, e_dct, PR, pairsOf, e_fstr, e_fnil, e_fcons, e_fmt, fm_str, e_slcR, e_callp, e_mkp, e_methp, e_lcF, o_addF, eT_callp, eT_methp, b_isc, b_listF, b_lisTL, b_lisFL, b_tupT, b_tupF, b_strI, b_strS, bc_s, bc_i, bc_b, bc_n, bc_t, bc_f, bc_c, bc_d, bc_2, cc_s, cc_i, cc_b, cc_n, cc_t, cc_f, cc_d, oc_len, oc_bool, oc_str, oc_repr, at_ob, f_ini, f_in2, nd_f, nd_t, g_get, ob_of, sl_fl, sl_tup, clos, clo, clof, Bool.and_self, Bool.true_and, Bool.and_true, Option.map_some, t_fl, m_app, m_ext, o_addRF, o_addFL, o_mulR, e_mk, mk_fz, tr_t, tr_f]
    refine at_str (ss := [S "number", S "pair", S "def", S "great", S "told"]) l5 u5 fun ft hft => ?_
    obtain ⟨c0, cr, rfl⟩ : ∃ c0 cr, cs = c0 :: cr := by
      cases cs with
      | nil =>
        simp only [List.length_nil] at hcs
        omega
      | cons c r => exact ⟨c, r, rfl⟩
    have h5s : 5 < ss.length := by omega
    have told : ∃ w : Wh, (getK (mkD [(S "word", Vl.str wd), (S "fault", Vl.tup [Vl.str ft, .str c0]), (S "ring", .tup ((sortU (c0 :: cr)).map .str)), (S "waits", .str ss[5])]) k).getD Vl.non = w.v ∧ Shp k w := by
      simp only [List.mem_cons, List.not_mem_nil, or_false] at hk
      rcases hk with rfl | rfl | rfl | rfl | rfl
      · refine ⟨.one wd, rfl, .word ⟨r3 - 1000, by omega, ?_⟩⟩
        simpa only [List.mem_cons, List.not_mem_nil, or_false] using hwd
      · exact ⟨.many [ft, c0], rfl, .fault hft (hc c0 (List.mem_cons_self ..))⟩
      · exact ⟨.many (sortU (c0 :: cr)), rfl, .ring (fun s q => hc s (mem_sortU q)) (Nat.le_trans len_sortU (by omega))⟩
      · exact ⟨.one ss[5], rfl, .waits (hcap _ (List.getElem_mem h5s))⟩
      · exact ⟨.nil, rfl, .opn⟩
    obtain ⟨w, ew, hw⟩ := told
    refine ⟨.str c0, rfl, by omega, b_sruM.mpr ⟨by omega, ?_⟩⟩
    simp only [ok_cons, ok_nil, ok_ok, ok_bad, then_nx, then_rt, then_bk, then_ct, x_expr, x_asg, x_ret, x_ite, x_pass, x_for, t_name, t_att, t_sub, t_tup, t_nil, t_cons, e_var, e_cst, e_tup, e_lst, e_bin, e_cmp, e_neg, e_notF, e_notT, e_andT, e_orT, e_andF, e_orF, e_ite, e_chain, e_att, e_sub, e_slc, oi_n, oi_var, oi_bin, oi_sub, oi_blt, oi_neg, oi_call, oi_att, oi_cint, e_call, e_meth, e_blt, e_bm, e_nil, e_cons, e_lc, eT_var, eT_cst, eT_tup, eT_lst, eT_bin, eT_cmp, eT_chain, eT_att, eT_sub, eT_slc, eT_call, eT_meth, eT_blt, eT_bm, eT_lc, at0, at1, at2, at3, at4, isAbs, tr_b, br_t, br_f, br_d, o_add, o_addS, o_addT, o_sub, o_mul, o_div, o_mod, o_pow, c_lt, c_gt, c_le, c_ge, c_leS, c_ltS, c_eq, c_ne, c_in, c_nin, c_is, c_isn, s_set, ix0, ix1, ix2, ix3, Ob.lst.injEq, Vl.int.injEq, Vl.bl.injEq, Nat.reduceLT, Nat.zero_lt_succ, s_ref, s_tup, s_fl, s_scr, s_str, f_fn, start, List.map_cons, List.map_nil, List.length_cons, List.length_nil, List.replicate, List.cons_append, List.nil_append, List.set_cons_zero, List.set_cons_succ, List.getElem?_cons_zero, List.getElem?_cons_succ, Option.some.injEq, exists_eq_left', exists_eq_left, true_and, and_true, Nat.reduceAdd, Nat.reduceSub, if_true, if_false, reduceIte, Bool.false_eq_true, SR, srcs, srcV, b_len, b_abs, b_max, b_min, b_intI, b_intB, b_isi, b_rng, b_listS, b_listT, b_all, b_any, m_lower, sl_str, br_nd, Bool.not_true, Bool.not_false, ob_some, tr_i, tr_n, Vl.str.injEq, Vl.ref.injEq, Vl.tup.injEq, exists_eq_right, bmChk, bmTy, e_lstF, e_dct, PR, pairsOf, e_fstr, e_fnil, e_fcons, e_fmt, fm_str, e_slcR, e_callp, e_mkp, e_methp, e_lcF, o_addF, eT_callp, eT_methp, b_isc, b_listF, b_lisTL, b_lisFL, b_tupT, b_tupF, b_strI, b_strS, bc_s, bc_i, bc_b, bc_n, bc_t, bc_f, bc_c, bc_d, bc_2, cc_s, cc_i, cc_b, cc_n, cc_t, cc_f, cc_d, oc_len, oc_bool, oc_str, oc_repr, at_ob, f_ini, f_in2, nd_f, nd_t, g_get, ob_of, sl_fl, sl_tup, clos, clo, clof, Bool.and_self, Bool.true_and, Bool.and_true, Option.map_some, t_fl, m_app, m_ext, o_addRF, o_addFL, o_mulR, e_mk, mk_fz, tr_t, tr_f, at5, List.getElem?_map, List.getElem?_eq_getElem h5s, eq_ss, dctOf, Option.isSome_some, ew]
    refine ⟨by omega, ?_⟩
    split
    · refine ⟨by omega, Ok.imp (takeA lk_takeA pu8 (by omega) (by omega) (by omega)) fun u h9 q => ?_⟩
      obtain ⟨r6, rfl, l6, u6, _, pu9⟩ := q
      simp only [ok_cons, ok_nil, ok_ok, ok_bad, then_nx, then_rt, then_bk, then_ct, x_expr, x_asg, x_ret, x_ite, x_pass, x_for, t_name, t_att, t_sub, t_tup, t_nil, t_cons, e_var, e_cst, e_tup, e_lst, e_bin, e_cmp, e_neg, e_notF, e_notT, e_andT, e_orT, e_andF, e_orF, e_ite, e_chain, e_att, e_sub, e_slc, oi_n, oi_var, oi_bin, oi_sub, oi_blt, oi_neg, oi_call, oi_att, oi_cint, e_call, e_meth, e_blt, e_bm, e_nil, e_cons, e_lc, eT_var, eT_cst, eT_tup, eT_lst, eT_bin, eT_cmp, eT_chain, eT_att, eT_sub, eT_slc, eT_call, eT_meth, eT_blt, eT_bm, eT_lc, at0, at1, at2, at3, at4, isAbs, tr_b, br_t, br_f, br_d, o_add, o_addS, o_addT, o_sub, o_mul, o_div, o_mod, o_pow, c_lt, c_gt, c_le, c_ge, c_leS, c_ltS, c_eq, c_ne, c_in, c_nin, c_is, c_isn, s_set, ix0, ix1, ix2, ix3, Ob.lst.injEq, Vl.int.injEq, Vl.bl.injEq, Nat.reduceLT, Nat.zero_lt_succ, s_ref, s_tup, s_fl, s_scr, s_str, f_fn, start, List.map_cons, List.map_nil, List.length_cons, List.length_nil, List.replicate, List.cons_append, List.nil_append, List.set_cons_zero, List.set_cons_succ, List.getElem?_cons_zero, List.getElem?_cons_succ, Option.some.injEq, exists_eq_left', exists_eq_left, true_and, and_true, Nat.reduceAdd, Nat.reduceSub, if_true, if_false, reduceIte, Bool.false_eq_true, SR, srcs, srcV, b_len, b_abs, b_max, b_min, b_intI, b_intB, b_isi, b_rng, b_listS, b_listT, b_all, b_any, m_lower, sl_str, br_nd, Bool.not_true, Bool.not_false, ob_some, tr_i, tr_n, Vl.str.injEq, Vl.ref.injEq, Vl.tup.injEq, exists_eq_right, bmChk, bmTy, e_lstF, e_dct, PR, pairsOf, e_fstr, e_fnil, e_fcons, e_fmt, fm_str, e_slcR, e_callp, e_mkp, e_methp, e_lcF, o_addF, eT_callp, eT_methp, b_isc, b_listF, b_lisTL, b_lisFL, b_tupT, b_tupF, b_strI, b_strS, bc_s, bc_i, bc_b, bc_n, bc_t, bc_f, bc_c, bc_d, bc_2, cc_s, cc_i, cc_b, cc_n, cc_t, cc_f, cc_d, oc_len, oc_bool, oc_str, oc_repr, at_ob, f_ini, f_in2, nd_f, nd_t, g_get, ob_of, sl_fl, sl_tup, clos, clo, clof, Bool.and_self, Bool.true_and, Bool.and_true, Option.map_some, t_fl, m_app, m_ext, o_addRF, o_addFL, o_mulR, e_mk, mk_fz, tr_t, tr_f]
      exact ⟨by omega, k, w, 1 + r6, [], rfl, ⟨hw, by omega, by omega, by simp, by simp⟩, by omega, pule pu9 (by omega)⟩
    · refine Ok.imp (takeA lk_takeA pu8 (by omega) (by omega) (by omega)) fun u h9 q => ?_
      obtain ⟨r6, rfl, l6, u6, _, pu9⟩ := q
      refine ⟨_, rfl, ?_⟩
      rw [cut_map, cut_map, b_srtM]
      simp only [ok_cons, ok_nil, ok_ok, ok_bad, then_nx, then_rt, then_bk, then_ct, x_expr, x_asg, x_ret, x_ite, x_pass, x_for, t_name, t_att, t_sub, t_tup, t_nil, t_cons, e_var, e_cst, e_tup, e_lst, e_bin, e_cmp, e_neg, e_notF, e_notT, e_andT, e_orT, e_andF, e_orF, e_ite, e_chain, e_att, e_sub, e_slc, oi_n, oi_var, oi_bin, oi_sub, oi_blt, oi_neg, oi_call, oi_att, oi_cint, e_call, e_meth, e_blt, e_bm, e_nil, e_cons, e_lc, eT_var, eT_cst, eT_tup, eT_lst, eT_bin, eT_cmp, eT_chain, eT_att, eT_sub, eT_slc, eT_call, eT_meth, eT_blt, eT_bm, eT_lc, at0, at1, at2, at3, at4, isAbs, tr_b, br_t, br_f, br_d, o_add, o_addS, o_addT, o_sub, o_mul, o_div, o_mod, o_pow, c_lt, c_gt, c_le, c_ge, c_leS, c_ltS, c_eq, c_ne, c_in, c_nin, c_is, c_isn, s_set, ix0, ix1, ix2, ix3, Ob.lst.injEq, Vl.int.injEq, Vl.bl.injEq, Nat.reduceLT, Nat.zero_lt_succ, s_ref, s_tup, s_fl, s_scr, s_str, f_fn, start, List.map_cons, List.map_nil, List.length_cons, List.length_nil, List.replicate, List.cons_append, List.nil_append, List.set_cons_zero, List.set_cons_succ, List.getElem?_cons_zero, List.getElem?_cons_succ, Option.some.injEq, exists_eq_left', exists_eq_left, true_and, and_true, Nat.reduceAdd, Nat.reduceSub, if_true, if_false, reduceIte, Bool.false_eq_true, SR, srcs, srcV, b_len, b_abs, b_max, b_min, b_intI, b_intB, b_isi, b_rng, b_listS, b_listT, b_all, b_any, m_lower, sl_str, br_nd, Bool.not_true, Bool.not_false, ob_some, tr_i, tr_n, Vl.str.injEq, Vl.ref.injEq, Vl.tup.injEq, exists_eq_right, bmChk, bmTy, e_lstF, e_dct, PR, pairsOf, e_fstr, e_fnil, e_fcons, e_fmt, fm_str, e_slcR, e_callp, e_mkp, e_methp, e_lcF, o_addF, eT_callp, eT_methp, b_isc, b_listF, b_lisTL, b_lisFL, b_tupT, b_tupF, b_strI, b_strS, bc_s, bc_i, bc_b, bc_n, bc_t, bc_f, bc_c, bc_d, bc_2, cc_s, cc_i, cc_b, cc_n, cc_t, cc_f, cc_d, oc_len, oc_bool, oc_str, oc_repr, at_ob, f_ini, f_in2, nd_f, nd_t, g_get, ob_of, sl_fl, sl_tup, clos, clo, clof, Bool.and_self, Bool.true_and, Bool.and_true, Option.map_some, t_fl, m_app, m_ext, o_addRF, o_addFL, o_mulR, e_mk, mk_fz, tr_t, tr_f]
      refine Ok.imp (takeA lk_takeA pu9 (by omega) (by omega) (by omega)) fun u h10 q => ?_
      obtain ⟨r7, rfl, l7, u7, _, pu10⟩ := q
      simp only [ok_cons, ok_nil, ok_ok, ok_bad, then_nx, then_rt, then_bk, then_ct, x_expr, x_asg, x_ret, x_ite, x_pass, x_for, t_name, t_att, t_sub, t_tup, t_nil, t_cons, e_var, e_cst, e_tup, e_lst, e_bin, e_cmp, e_neg, e_notF, e_notT, e_andT, e_orT, e_andF, e_orF, e_ite, e_chain, e_att, e_sub, e_slc, oi_n, oi_var, oi_bin, oi_sub, oi_blt, oi_neg, oi_call, oi_att, oi_cint, e_call, e_meth, e_blt, e_bm, e_nil, e_cons, e_lc, eT_var, eT_cst, eT_tup, eT_lst, eT_bin, eT_cmp, eT_chain, eT_att, eT_sub, eT_slc, eT_call, eT_meth, eT_blt, eT_bm, eT_lc, at0, at1, at2, at3, at4, isAbs, tr_b, br_t, br_f, br_d, o_add, o_addS, o_addT, o_sub, o_mul, o_div, o_mod, o_pow, c_lt, c_gt, c_le, c_ge, c_leS, c_ltS, c_eq, c_ne, c_in, c_nin, c_is, c_isn, s_set, ix0, ix1, ix2, ix3, Ob.lst.injEq, Vl.int.injEq, Vl.bl.injEq, Nat.reduceLT, Nat.zero_lt_succ, s_ref, s_tup, s_fl, s_scr, s_str, f_fn, start, List.map_cons, List.map_nil, List.length_cons, List.length_nil, List.replicate, List.cons_append, List.nil_append, List.set_cons_zero, List.set_cons_succ, List.getElem?_cons_zero, List.getElem?_cons_succ, Option.some.injEq, exists_eq_left', exists_eq_left, true_and, and_true, Nat.reduceAdd, Nat.reduceSub, if_true, if_false, reduceIte, Bool.false_eq_true, SR, srcs, srcV, b_len, b_abs, b_max, b_min, b_intI, b_intB, b_isi, b_rng, b_listS, b_listT, b_all, b_any, m_lower, sl_str, br_nd, Bool.not_true, Bool.not_false, ob_some, tr_i, tr_n, Vl.str.injEq, Vl.ref.injEq, Vl.tup.injEq, exists_eq_right, bmChk, bmTy, e_lstF, e_dct, PR, pairsOf, e_fstr, e_fnil, e_fcons, e_fmt, fm_str, e_slcR, e_callp, e_mkp, e_methp, e_lcF, o_addF, eT_callp, eT_methp, b_isc, b_listF, b_lisTL, b_lisFL, b_tupT, b_tupF, b_strI, b_strS, bc_s, bc_i, bc_b, bc_n, bc_t, bc_f, bc_c, bc_d, bc_2, cc_s, cc_i, cc_b, cc_n, cc_t, cc_f, cc_d, oc_len, oc_bool, oc_str, oc_repr, at_ob, f_ini, f_in2, nd_f, nd_t, g_get, ob_of, sl_fl, sl_tup, clos, clo, clof, Bool.and_self, Bool.true_and, Bool.and_true, Option.map_some, t_fl, m_app, m_ext, o_addRF, o_addFL, o_mulR, e_mk, mk_fz, tr_t, tr_f]
      refine ⟨by omega, k, w, 1 + r7, _, rfl, ⟨hw, by omega, by omega, fun s q => hcap s (cut_mem (cut_mem (mem_sortS q))), ?_⟩, by omega, pule pu10 (by omega)⟩
      rw [len_sortS]
      refine Nat.le_trans (cut_le _ _ _) ?_
      rw [show (5 : Int) = ((5 : Nat) : Int) from rfl, cut_take, List.length_take]
      omega
end Lw
namespace Lw
open Mi
theorem pn {h : Hm} {p : Nat} {t : Int} (pu : Pu h p t) : Pu h p t := pu
theorem row_ok {k : Tx} {w : Wh} {n : Int} {ks : List Tx} {h : Hm} {b0 b1 b2 b3 b4 b5 b6 b7 b8 : Option Vl} (b : Bd k w n ks) : Ok (lcBody (csOf PP 8) (Ex.mkp "Telling" [Ex.sub (Ex.var 8) (Ex.cst (Vl.int 0)), Ex.sub (Ex.var 8) (Ex.cst (Vl.int 1)), Ex.sub (Ex.var 8) (Ex.cst (Vl.int 2)), Ex.sub (Ex.var 8) (Ex.cst (Vl.int 3))] [Src.at 0, Src.at 1, Src.at 2, Src.at 3, Src.at 4]) (Pt.name 8) (Ex.cst (Vl.bl true)) [8] [b0, b1, b2, b3, b4, b5, b6, b7, b8] (dr k w n ks) h) fun y h' => y = some (Tl k w n ks) ∧ h' = h := by
  simp only [ok_cons, ok_nil, ok_ok, ok_bad, then_nx, then_rt, then_bk, then_ct, x_expr, x_asg, x_ret, x_ite, x_pass, x_for, t_name, t_att, t_sub, t_tup, t_nil, t_cons, e_var, e_cst, e_tup, e_lst, e_bin, e_cmp, e_neg, e_notF, e_notT, e_andT, e_orT, e_andF, e_orF, e_ite, e_chain, e_att, e_sub, e_slc, oi_n, oi_var, oi_bin, oi_sub, oi_blt, oi_neg, oi_call, oi_att, oi_cint, e_call, e_meth, e_blt, e_bm, e_nil, e_cons, e_lc, eT_var, eT_cst, eT_tup, eT_lst, eT_bin, eT_cmp, eT_chain, eT_att, eT_sub, eT_slc, eT_call, eT_meth, eT_blt, eT_bm, eT_lc, at0, at1, at2, at3, at4, isAbs, tr_b, br_t, br_f, br_d, o_add, o_addS, o_addT, o_sub, o_mul, o_div, o_mod, o_pow, c_lt, c_gt, c_le, c_ge, c_leS, c_ltS, c_eq, c_ne, c_in, c_nin, c_is, c_isn, s_set, ix0, ix1, ix2, ix3, Ob.lst.injEq, Vl.int.injEq, Vl.bl.injEq, Nat.reduceLT, Nat.zero_lt_succ, s_ref, s_tup, s_fl, s_scr, s_str, f_fn, start, List.map_cons, List.map_nil, List.length_cons, List.length_nil, List.replicate, List.cons_append, List.nil_append, List.set_cons_zero, List.set_cons_succ, List.getElem?_cons_zero, List.getElem?_cons_succ, Option.some.injEq, exists_eq_left', exists_eq_left, true_and, and_true, Nat.reduceAdd, Nat.reduceSub, if_true, if_false, reduceIte, Bool.false_eq_true, SR, srcs, srcV, b_len, b_abs, b_max, b_min, b_intI, b_intB, b_isi, b_rng, b_listS, b_listT, b_all, b_any, m_lower, sl_str, br_nd, Bool.not_true, Bool.not_false, ob_some, tr_i, tr_n, Vl.str.injEq, Vl.ref.injEq, Vl.tup.injEq, exists_eq_right, bmChk, bmTy, e_lstF, e_dct, PR, pairsOf, e_fstr, e_fnil, e_fcons, e_fmt, fm_str, e_slcR, e_callp, e_mkp, e_methp, e_lcF, o_addF, eT_callp, eT_methp, b_isc, b_listF, b_lisTL, b_lisFL, b_tupT, b_tupF, b_strI, b_strS, bc_s, bc_i, bc_b, bc_n, bc_t, bc_f, bc_c, bc_d, bc_2, cc_s, cc_i, cc_b, cc_n, cc_t, cc_f, cc_d, oc_len, oc_bool, oc_str, oc_repr, at_ob, f_ini, f_in2, nd_f, nd_t, g_get, ob_of, sl_fl, sl_tup, clos, clo, clof, Bool.and_self, Bool.true_and, Bool.and_true, Option.map_some, t_fl, m_app, m_ext, o_addRF, o_addFL, o_mulR, e_mk, mk_fz, tr_t, tr_f, lcb, bindP, wipe, dr, vt, clo_w, clos_str]
  refine Ok.imp (init_ok (d := 5) (h := []) b (hkT _ _)) fun v h' e => ?_
  obtain ⟨rfl, rfl⟩ := e
  refine ⟨rfl, ?_⟩
  simp only [ok_cons, ok_nil, ok_ok, ok_bad, then_nx, then_rt, then_bk, then_ct, x_expr, x_asg, x_ret, x_ite, x_pass, x_for, t_name, t_att, t_sub, t_tup, t_nil, t_cons, e_var, e_cst, e_tup, e_lst, e_bin, e_cmp, e_neg, e_notF, e_notT, e_andT, e_orT, e_andF, e_orF, e_ite, e_chain, e_att, e_sub, e_slc, oi_n, oi_var, oi_bin, oi_sub, oi_blt, oi_neg, oi_call, oi_att, oi_cint, e_call, e_meth, e_blt, e_bm, e_nil, e_cons, e_lc, eT_var, eT_cst, eT_tup, eT_lst, eT_bin, eT_cmp, eT_chain, eT_att, eT_sub, eT_slc, eT_call, eT_meth, eT_blt, eT_bm, eT_lc, at0, at1, at2, at3, at4, isAbs, tr_b, br_t, br_f, br_d, o_add, o_addS, o_addT, o_sub, o_mul, o_div, o_mod, o_pow, c_lt, c_gt, c_le, c_ge, c_leS, c_ltS, c_eq, c_ne, c_in, c_nin, c_is, c_isn, s_set, ix0, ix1, ix2, ix3, Ob.lst.injEq, Vl.int.injEq, Vl.bl.injEq, Nat.reduceLT, Nat.zero_lt_succ, s_ref, s_tup, s_fl, s_scr, s_str, f_fn, start, List.map_cons, List.map_nil, List.length_cons, List.length_nil, List.replicate, List.cons_append, List.nil_append, List.set_cons_zero, List.set_cons_succ, List.getElem?_cons_zero, List.getElem?_cons_succ, Option.some.injEq, exists_eq_left', exists_eq_left, true_and, and_true, Nat.reduceAdd, Nat.reduceSub, if_true, if_false, reduceIte, Bool.false_eq_true, SR, srcs, srcV, b_len, b_abs, b_max, b_min, b_intI, b_intB, b_isi, b_rng, b_listS, b_listT, b_all, b_any, m_lower, sl_str, br_nd, Bool.not_true, Bool.not_false, ob_some, tr_i, tr_n, Vl.str.injEq, Vl.ref.injEq, Vl.tup.injEq, exists_eq_right, bmChk, bmTy, e_lstF, e_dct, PR, pairsOf, e_fstr, e_fnil, e_fcons, e_fmt, fm_str, e_slcR, e_callp, e_mkp, e_methp, e_lcF, o_addF, eT_callp, eT_methp, b_isc, b_listF, b_lisTL, b_lisFL, b_tupT, b_tupF, b_strI, b_strS, bc_s, bc_i, bc_b, bc_n, bc_t, bc_f, bc_c, bc_d, bc_2, cc_s, cc_i, cc_b, cc_n, cc_t, cc_f, cc_d, oc_len, oc_bool, oc_str, oc_repr, at_ob, f_ini, f_in2, nd_f, nd_t, g_get, ob_of, sl_fl, sl_tup, clos, clo, clof, Bool.and_self, Bool.true_and, Bool.and_true, Option.map_some, t_fl, m_app, m_ext, o_addRF, o_addFL, o_mulR, e_mk, mk_fz, tr_t, tr_f, frz_fl, clof_fl, exI, Tl]
theorem law_ok (ns : List Int) : Ok (callP PP 9 "" "law" [.scr ns] []) fun u _ => u = .bl true := by
  refine ok_call lk_law rfl ?_
  have hL : LIM = 16777216 := rfl
  have hF : FUEL = 10000000 := rfl
  unfold b_law
  simp only [ok_cons, ok_nil, ok_ok, ok_bad, then_nx, then_rt, then_bk, then_ct, x_expr, x_asg, x_ret, x_ite, x_pass, x_for, t_name, t_att, t_sub, t_tup, t_nil, t_cons, e_var, e_cst, e_tup, e_lst, e_bin, e_cmp, e_neg, e_notF, e_notT, e_andT, e_orT, e_andF, e_orF, e_ite, e_chain, e_att, e_sub, e_slc, oi_n, oi_var, oi_bin, oi_sub, oi_blt, oi_neg, oi_call, oi_att, oi_cint, e_call, e_meth, e_blt, e_bm, e_nil, e_cons, e_lc, eT_var, eT_cst, eT_tup, eT_lst, eT_bin, eT_cmp, eT_chain, eT_att, eT_sub, eT_slc, eT_call, eT_meth, eT_blt, eT_bm, eT_lc, at0, at1, at2, at3, at4, isAbs, tr_b, br_t, br_f, br_d, o_add, o_addS, o_addT, o_sub, o_mul, o_div, o_mod, o_pow, c_lt, c_gt, c_le, c_ge, c_leS, c_ltS, c_eq, c_ne, c_in, c_nin, c_is, c_isn, s_set, ix0, ix1, ix2, ix3, Ob.lst.injEq, Vl.int.injEq, Vl.bl.injEq, Nat.reduceLT, Nat.zero_lt_succ, s_ref, s_tup, s_fl, s_scr, s_str, f_fn, start, List.map_cons, List.map_nil, List.length_cons, List.length_nil, List.replicate, List.cons_append, List.nil_append, List.set_cons_zero, List.set_cons_succ, List.getElem?_cons_zero, List.getElem?_cons_succ, Option.some.injEq, exists_eq_left', exists_eq_left, true_and, and_true, Nat.reduceAdd, Nat.reduceSub, if_true, if_false, reduceIte, Bool.false_eq_true, SR, srcs, srcV, b_len, b_abs, b_max, b_min, b_intI, b_intB, b_isi, b_rng, b_listS, b_listT, b_all, b_any, m_lower, sl_str, br_nd, Bool.not_true, Bool.not_false, ob_some, tr_i, tr_n, Vl.str.injEq, Vl.ref.injEq, Vl.tup.injEq, exists_eq_right, bmChk, bmTy, e_lstF, e_dct, PR, pairsOf, e_fstr, e_fnil, e_fcons, e_fmt, fm_str, e_slcR, e_callp, e_mkp, e_methp, e_lcF, o_addF, eT_callp, eT_methp, b_isc, b_listF, b_lisTL, b_lisFL, b_tupT, b_tupF, b_strI, b_strS, bc_s, bc_i, bc_b, bc_n, bc_t, bc_f, bc_c, bc_d, bc_2, cc_s, cc_i, cc_b, cc_n, cc_t, cc_f, cc_d, oc_len, oc_bool, oc_str, oc_repr, at_ob, f_ini, f_in2, nd_f, nd_t, g_get, ob_of, sl_fl, sl_tup, clos, clo, clof, Bool.and_self, Bool.true_and, Bool.and_true, Option.map_some, t_fl, m_app, m_ext, o_addRF, o_addFL, o_mulR, e_mk, mk_fz, tr_t, tr_f, itOf, lenV, seqOf, List.length_map]
  refine ⟨by split <;> split <;> omega, ?_⟩
  generalize hN : Int.toNat _ = N
  have hN4 : N ≤ 4 := by
    rw [← hN]
    split <;> split <;> omega
  refine loopF_gen (fun i => if i < N then some (.int (0 + i)) else none) N (fun _ r h' => ∃ a1 a2 a3 a4 a5 a6 a7 a8, r = [some (.scr ns), a1, a2, a3, a4, a5, a6, a7, a8]) (by simp) (fun i r h hi _ => rfl) (fun i r h1 hi I => ?_) (fun r h1 I => ?_) FUEL 0 _ _ (by omega) (by omega) ⟨none, none, none, none, none, none, none, none, rfl⟩
  · obtain ⟨a1, a2, a3, a4, a5, a6, a7, a8, rfl⟩ := I
    refine ⟨_, if_pos hi, ?_⟩
    simp only [ok_cons, ok_nil, ok_ok, ok_bad, then_nx, then_rt, then_bk, then_ct, x_expr, x_asg, x_ret, x_ite, x_pass, x_for, t_name, t_att, t_sub, t_tup, t_nil, t_cons, e_var, e_cst, e_tup, e_lst, e_bin, e_cmp, e_neg, e_notF, e_notT, e_andT, e_orT, e_andF, e_orF, e_ite, e_chain, e_att, e_sub, e_slc, oi_n, oi_var, oi_bin, oi_sub, oi_blt, oi_neg, oi_call, oi_att, oi_cint, e_call, e_meth, e_blt, e_bm, e_nil, e_cons, e_lc, eT_var, eT_cst, eT_tup, eT_lst, eT_bin, eT_cmp, eT_chain, eT_att, eT_sub, eT_slc, eT_call, eT_meth, eT_blt, eT_bm, eT_lc, at0, at1, at2, at3, at4, isAbs, tr_b, br_t, br_f, br_d, o_add, o_addS, o_addT, o_sub, o_mul, o_div, o_mod, o_pow, c_lt, c_gt, c_le, c_ge, c_leS, c_ltS, c_eq, c_ne, c_in, c_nin, c_is, c_isn, s_set, ix0, ix1, ix2, ix3, Ob.lst.injEq, Vl.int.injEq, Vl.bl.injEq, Nat.reduceLT, Nat.zero_lt_succ, s_ref, s_tup, s_fl, s_scr, s_str, f_fn, start, List.map_cons, List.map_nil, List.length_cons, List.length_nil, List.replicate, List.cons_append, List.nil_append, List.set_cons_zero, List.set_cons_succ, List.getElem?_cons_zero, List.getElem?_cons_succ, Option.some.injEq, exists_eq_left', exists_eq_left, true_and, and_true, Nat.reduceAdd, Nat.reduceSub, if_true, if_false, reduceIte, Bool.false_eq_true, SR, srcs, srcV, b_len, b_abs, b_max, b_min, b_intI, b_intB, b_isi, b_rng, b_listS, b_listT, b_all, b_any, m_lower, sl_str, br_nd, Bool.not_true, Bool.not_false, ob_some, tr_i, tr_n, Vl.str.injEq, Vl.ref.injEq, Vl.tup.injEq, exists_eq_right, bmChk, bmTy, e_lstF, e_dct, PR, pairsOf, e_fstr, e_fnil, e_fcons, e_fmt, fm_str, e_slcR, e_callp, e_mkp, e_methp, e_lcF, o_addF, eT_callp, eT_methp, b_isc, b_listF, b_lisTL, b_lisFL, b_tupT, b_tupF, b_strI, b_strS, bc_s, bc_i, bc_b, bc_n, bc_t, bc_f, bc_c, bc_d, bc_2, cc_s, cc_i, cc_b, cc_n, cc_t, cc_f, cc_d, oc_len, oc_bool, oc_str, oc_repr, at_ob, f_ini, f_in2, nd_f, nd_t, g_get, ob_of, sl_fl, sl_tup, clos, clo, clof, Bool.and_self, Bool.true_and, Bool.and_true, Option.map_some, t_fl, m_app, m_ext, o_addRF, o_addFL, o_mulR, e_mk, mk_fz, tr_t, tr_f, bindP, Int.zero_add]
    refine Ok.imp (purseA lk_purseA (by omega)) fun u h2 q => ?_
    obtain ⟨o, rfl, eh2, pu⟩ := q
    refine Ok.imp (drawn_ok pu (by omega)) fun u h3 q => ?_
    obtain ⟨k, w, n, ks, rfl, hd, hn, pu3⟩ := q
    refine Ok.imp (drawn_ok pu3 (by omega)) fun u h4 q => ?_
    obtain ⟨k', w', n', ks', rfl, hd', hn', pu4⟩ := q
    simp only [ok_cons, ok_nil, ok_ok, ok_bad, then_nx, then_rt, then_bk, then_ct, x_expr, x_asg, x_ret, x_ite, x_pass, x_for, t_name, t_att, t_sub, t_tup, t_nil, t_cons, e_var, e_cst, e_tup, e_lst, e_bin, e_cmp, e_neg, e_notF, e_notT, e_andT, e_orT, e_andF, e_orF, e_ite, e_chain, e_att, e_sub, e_slc, oi_n, oi_var, oi_bin, oi_sub, oi_blt, oi_neg, oi_call, oi_att, oi_cint, e_call, e_meth, e_blt, e_bm, e_nil, e_cons, e_lc, eT_var, eT_cst, eT_tup, eT_lst, eT_bin, eT_cmp, eT_chain, eT_att, eT_sub, eT_slc, eT_call, eT_meth, eT_blt, eT_bm, eT_lc, at0, at1, at2, at3, at4, isAbs, tr_b, br_t, br_f, br_d, o_add, o_addS, o_addT, o_sub, o_mul, o_div, o_mod, o_pow, c_lt, c_gt, c_le, c_ge, c_leS, c_ltS, c_eq, c_ne, c_in, c_nin, c_is, c_isn, s_set, ix0, ix1, ix2, ix3, Ob.lst.injEq, Vl.int.injEq, Vl.bl.injEq, Nat.reduceLT, Nat.zero_lt_succ, s_ref, s_tup, s_fl, s_scr, s_str, f_fn, start, List.map_cons, List.map_nil, List.length_cons, List.length_nil, List.replicate, List.cons_append, List.nil_append, List.set_cons_zero, List.set_cons_succ, List.getElem?_cons_zero, List.getElem?_cons_succ, Option.some.injEq, exists_eq_left', exists_eq_left, true_and, and_true, Nat.reduceAdd, Nat.reduceSub, if_true, if_false, reduceIte, Bool.false_eq_true, SR, srcs, srcV, b_len, b_abs, b_max, b_min, b_intI, b_intB, b_isi, b_rng, b_listS, b_listT, b_all, b_any, m_lower, sl_str, br_nd, Bool.not_true, Bool.not_false, ob_some, tr_i, tr_n, Vl.str.injEq, Vl.ref.injEq, Vl.tup.injEq, exists_eq_right, bmChk, bmTy, e_lstF, e_dct, PR, pairsOf, e_fstr, e_fnil, e_fcons, e_fmt, fm_str, e_slcR, e_callp, e_mkp, e_methp, e_lcF, o_addF, eT_callp, eT_methp, b_isc, b_listF, b_lisTL, b_lisFL, b_tupT, b_tupF, b_strI, b_strS, bc_s, bc_i, bc_b, bc_n, bc_t, bc_f, bc_c, bc_d, bc_2, cc_s, cc_i, cc_b, cc_n, cc_t, cc_f, cc_d, oc_len, oc_bool, oc_str, oc_repr, at_ob, f_ini, f_in2, nd_f, nd_t, g_get, ob_of, sl_fl, sl_tup, clos, clo, clof, Bool.and_self, Bool.true_and, Bool.and_true, Option.map_some, t_fl, m_app, m_ext, o_addRF, o_addFL, o_mulR, e_mk, mk_fz, tr_t, tr_f, clo_dr]
    refine ⟨by omega, Ok.imp (right_ok hd.bd) fun v _ e => ?_⟩
    subst e
    simp only [ok_cons, ok_nil, ok_ok, ok_bad, then_nx, then_rt, then_bk, then_ct, x_expr, x_asg, x_ret, x_ite, x_pass, x_for, t_name, t_att, t_sub, t_tup, t_nil, t_cons, e_var, e_cst, e_tup, e_lst, e_bin, e_cmp, e_neg, e_notF, e_notT, e_andT, e_orT, e_andF, e_orF, e_ite, e_chain, e_att, e_sub, e_slc, oi_n, oi_var, oi_bin, oi_sub, oi_blt, oi_neg, oi_call, oi_att, oi_cint, e_call, e_meth, e_blt, e_bm, e_nil, e_cons, e_lc, eT_var, eT_cst, eT_tup, eT_lst, eT_bin, eT_cmp, eT_chain, eT_att, eT_sub, eT_slc, eT_call, eT_meth, eT_blt, eT_bm, eT_lc, at0, at1, at2, at3, at4, isAbs, tr_b, br_t, br_f, br_d, o_add, o_addS, o_addT, o_sub, o_mul, o_div, o_mod, o_pow, c_lt, c_gt, c_le, c_ge, c_leS, c_ltS, c_eq, c_ne, c_in, c_nin, c_is, c_isn, s_set, ix0, ix1, ix2, ix3, Ob.lst.injEq, Vl.int.injEq, Vl.bl.injEq, Nat.reduceLT, Nat.zero_lt_succ, s_ref, s_tup, s_fl, s_scr, s_str, f_fn, start, List.map_cons, List.map_nil, List.length_cons, List.length_nil, List.replicate, List.cons_append, List.nil_append, List.set_cons_zero, List.set_cons_succ, List.getElem?_cons_zero, List.getElem?_cons_succ, Option.some.injEq, exists_eq_left', exists_eq_left, true_and, and_true, Nat.reduceAdd, Nat.reduceSub, if_true, if_false, reduceIte, Bool.false_eq_true, SR, srcs, srcV, b_len, b_abs, b_max, b_min, b_intI, b_intB, b_isi, b_rng, b_listS, b_listT, b_all, b_any, m_lower, sl_str, br_nd, Bool.not_true, Bool.not_false, ob_some, tr_i, tr_n, Vl.str.injEq, Vl.ref.injEq, Vl.tup.injEq, exists_eq_right, bmChk, bmTy, e_lstF, e_dct, PR, pairsOf, e_fstr, e_fnil, e_fcons, e_fmt, fm_str, e_slcR, e_callp, e_mkp, e_methp, e_lcF, o_addF, eT_callp, eT_methp, b_isc, b_listF, b_lisTL, b_lisFL, b_tupT, b_tupF, b_strI, b_strS, bc_s, bc_i, bc_b, bc_n, bc_t, bc_f, bc_c, bc_d, bc_2, cc_s, cc_i, cc_b, cc_n, cc_t, cc_f, cc_d, oc_len, oc_bool, oc_str, oc_repr, at_ob, f_ini, f_in2, nd_f, nd_t, g_get, ob_of, sl_fl, sl_tup, clos, clo, clof, Bool.and_self, Bool.true_and, Bool.and_true, Option.map_some, t_fl, m_app, m_ext, o_addRF, o_addFL, o_mulR, e_mk, mk_fz, tr_t, tr_f]
    refine Ok.imp (right_ok hd'.bd) fun v _ e => ?_
    subst e
    simp only [ok_cons, ok_nil, ok_ok, ok_bad, then_nx, then_rt, then_bk, then_ct, x_expr, x_asg, x_ret, x_ite, x_pass, x_for, t_name, t_att, t_sub, t_tup, t_nil, t_cons, e_var, e_cst, e_tup, e_lst, e_bin, e_cmp, e_neg, e_notF, e_notT, e_andT, e_orT, e_andF, e_orF, e_ite, e_chain, e_att, e_sub, e_slc, oi_n, oi_var, oi_bin, oi_sub, oi_blt, oi_neg, oi_call, oi_att, oi_cint, e_call, e_meth, e_blt, e_bm, e_nil, e_cons, e_lc, eT_var, eT_cst, eT_tup, eT_lst, eT_bin, eT_cmp, eT_chain, eT_att, eT_sub, eT_slc, eT_call, eT_meth, eT_blt, eT_bm, eT_lc, at0, at1, at2, at3, at4, isAbs, tr_b, br_t, br_f, br_d, o_add, o_addS, o_addT, o_sub, o_mul, o_div, o_mod, o_pow, c_lt, c_gt, c_le, c_ge, c_leS, c_ltS, c_eq, c_ne, c_in, c_nin, c_is, c_isn, s_set, ix0, ix1, ix2, ix3, Ob.lst.injEq, Vl.int.injEq, Vl.bl.injEq, Nat.reduceLT, Nat.zero_lt_succ, s_ref, s_tup, s_fl, s_scr, s_str, f_fn, start, List.map_cons, List.map_nil, List.length_cons, List.length_nil, List.replicate, List.cons_append, List.nil_append, List.set_cons_zero, List.set_cons_succ, List.getElem?_cons_zero, List.getElem?_cons_succ, Option.some.injEq, exists_eq_left', exists_eq_left, true_and, and_true, Nat.reduceAdd, Nat.reduceSub, if_true, if_false, reduceIte, Bool.false_eq_true, SR, srcs, srcV, b_len, b_abs, b_max, b_min, b_intI, b_intB, b_isi, b_rng, b_listS, b_listT, b_all, b_any, m_lower, sl_str, br_nd, Bool.not_true, Bool.not_false, ob_some, tr_i, tr_n, Vl.str.injEq, Vl.ref.injEq, Vl.tup.injEq, exists_eq_right, bmChk, bmTy, e_lstF, e_dct, PR, pairsOf, e_fstr, e_fnil, e_fcons, e_fmt, fm_str, e_slcR, e_callp, e_mkp, e_methp, e_lcF, o_addF, eT_callp, eT_methp, b_isc, b_listF, b_lisTL, b_lisFL, b_tupT, b_tupF, b_strI, b_strS, bc_s, bc_i, bc_b, bc_n, bc_t, bc_f, bc_c, bc_d, bc_2, cc_s, cc_i, cc_b, cc_n, cc_t, cc_f, cc_d, oc_len, oc_bool, oc_str, oc_repr, at_ob, f_ini, f_in2, nd_f, nd_t, g_get, ob_of, sl_fl, sl_tup, clos, clo, clof, Bool.and_self, Bool.true_and, Bool.and_true, Option.map_some, t_fl, m_app, m_ext, o_addRF, o_addFL, o_mulR, e_mk, mk_fz, tr_t, tr_f, itOf]
    refine ⟨by omega, ?_⟩
    refine Ok.imp (loopP_gen (fun i => [dr k w n ks, dr k' w' n' ks'][i]?) 2 (fun i acc h' => h' = h4 ∧ acc = [Tl k w n ks, Tl k' w' n' ks'].take i) rfl (fun i acc h hi _ => rfl) (fun i acc h5 hi I => ?_) FUEL 0 [] h4 (by omega) (by omega) ⟨rfl, rfl⟩) fun acc h5 e => ?_
    · obtain ⟨rfl, rfl⟩ := I
      match i, hi with
      | 0, _ => exact ⟨_, rfl, (row_ok hd.bd).imp fun y h' e => .inr ⟨_, e.1, by simp only [List.take_zero, List.length_nil]; omega, e.2, rfl⟩⟩
      | 1, _ => exact ⟨_, rfl, (row_ok hd'.bd).imp fun y h' e => .inr ⟨_, e.1, by simp only [List.take_succ_cons, List.take_zero, List.length_cons, List.length_nil]; omega, e.2, rfl⟩⟩
    · obtain ⟨rfl, rfl⟩ := e
      simp only [List.take, dr, vt, Tl, ok_cons, ok_nil, ok_ok, ok_bad, then_nx, then_rt, then_bk, then_ct, x_expr, x_asg, x_ret, x_ite, x_pass, x_for, t_name, t_att, t_sub, t_tup, t_nil, t_cons, e_var, e_cst, e_tup, e_lst, e_bin, e_cmp, e_neg, e_notF, e_notT, e_andT, e_orT, e_andF, e_orF, e_ite, e_chain, e_att, e_sub, e_slc, oi_n, oi_var, oi_bin, oi_sub, oi_blt, oi_neg, oi_call, oi_att, oi_cint, e_call, e_meth, e_blt, e_bm, e_nil, e_cons, e_lc, eT_var, eT_cst, eT_tup, eT_lst, eT_bin, eT_cmp, eT_chain, eT_att, eT_sub, eT_slc, eT_call, eT_meth, eT_blt, eT_bm, eT_lc, at0, at1, at2, at3, at4, isAbs, tr_b, br_t, br_f, br_d, o_add, o_addS, o_addT, o_sub, o_mul, o_div, o_mod, o_pow, c_lt, c_gt, c_le, c_ge, c_leS, c_ltS, c_eq, c_ne, c_in, c_nin, c_is, c_isn, s_set, ix0, ix1, ix2, ix3, Ob.lst.injEq, Vl.int.injEq, Vl.bl.injEq, Nat.reduceLT, Nat.zero_lt_succ, s_ref, s_tup, s_fl, s_scr, s_str, f_fn, start, List.map_cons, List.map_nil, List.length_cons, List.length_nil, List.replicate, List.cons_append, List.nil_append, List.set_cons_zero, List.set_cons_succ, List.getElem?_cons_zero, List.getElem?_cons_succ, Option.some.injEq, exists_eq_left', exists_eq_left, true_and, and_true, Nat.reduceAdd, Nat.reduceSub, if_true, if_false, reduceIte, Bool.false_eq_true, SR, srcs, srcV, b_len, b_abs, b_max, b_min, b_intI, b_intB, b_isi, b_rng, b_listS, b_listT, b_all, b_any, m_lower, sl_str, br_nd, Bool.not_true, Bool.not_false, ob_some, tr_i, tr_n, Vl.str.injEq, Vl.ref.injEq, Vl.tup.injEq, exists_eq_right, bmChk, bmTy, e_lstF, e_dct, PR, pairsOf, e_fstr, e_fnil, e_fcons, e_fmt, fm_str, e_slcR, e_callp, e_mkp, e_methp, e_lcF, o_addF, eT_callp, eT_methp, b_isc, b_listF, b_lisTL, b_lisFL, b_tupT, b_tupF, b_strI, b_strS, bc_s, bc_i, bc_b, bc_n, bc_t, bc_f, bc_c, bc_d, bc_2, cc_s, cc_i, cc_b, cc_n, cc_t, cc_f, cc_d, oc_len, oc_bool, oc_str, oc_repr, at_ob, f_ini, f_in2, nd_f, nd_t, g_get, ob_of, sl_fl, sl_tup, clos, clo, clof, Bool.and_self, Bool.true_and, Bool.and_true, Option.map_some, t_fl, m_app, m_ext, o_addRF, o_addFL, o_mulR, e_mk, mk_fz, tr_t, tr_f, clo_w, clos_str]
      have hb : Bd k w (n + 1) ks := Drw.bd ⟨hd.sh, by have := hd.lo; omega, by omega, hd.kc, hd.kl⟩
      refine Ok.imp (init_ok (d := 5) (h := []) hb (hkT _ _)) fun v h' e => ?_
      obtain ⟨rfl, rfl⟩ := e
      refine ⟨rfl, ?_⟩
      simp only [ok_cons, ok_nil, ok_ok, ok_bad, then_nx, then_rt, then_bk, then_ct, x_expr, x_asg, x_ret, x_ite, x_pass, x_for, t_name, t_att, t_sub, t_tup, t_nil, t_cons, e_var, e_cst, e_tup, e_lst, e_bin, e_cmp, e_neg, e_notF, e_notT, e_andT, e_orT, e_andF, e_orF, e_ite, e_chain, e_att, e_sub, e_slc, oi_n, oi_var, oi_bin, oi_sub, oi_blt, oi_neg, oi_call, oi_att, oi_cint, e_call, e_meth, e_blt, e_bm, e_nil, e_cons, e_lc, eT_var, eT_cst, eT_tup, eT_lst, eT_bin, eT_cmp, eT_chain, eT_att, eT_sub, eT_slc, eT_call, eT_meth, eT_blt, eT_bm, eT_lc, at0, at1, at2, at3, at4, isAbs, tr_b, br_t, br_f, br_d, o_add, o_addS, o_addT, o_sub, o_mul, o_div, o_mod, o_pow, c_lt, c_gt, c_le, c_ge, c_leS, c_ltS, c_eq, c_ne, c_in, c_nin, c_is, c_isn, s_set, ix0, ix1, ix2, ix3, Ob.lst.injEq, Vl.int.injEq, Vl.bl.injEq, Nat.reduceLT, Nat.zero_lt_succ, s_ref, s_tup, s_fl, s_scr, s_str, f_fn, start, List.map_cons, List.map_nil, List.length_cons, List.length_nil, List.replicate, List.cons_append, List.nil_append, List.set_cons_zero, List.set_cons_succ, List.getElem?_cons_zero, List.getElem?_cons_succ, Option.some.injEq, exists_eq_left', exists_eq_left, true_and, and_true, Nat.reduceAdd, Nat.reduceSub, if_true, if_false, reduceIte, Bool.false_eq_true, SR, srcs, srcV, b_len, b_abs, b_max, b_min, b_intI, b_intB, b_isi, b_rng, b_listS, b_listT, b_all, b_any, m_lower, sl_str, br_nd, Bool.not_true, Bool.not_false, ob_some, tr_i, tr_n, Vl.str.injEq, Vl.ref.injEq, Vl.tup.injEq, exists_eq_right, bmChk, bmTy, e_lstF, e_dct, PR, pairsOf, e_fstr, e_fnil, e_fcons, e_fmt, fm_str, e_slcR, e_callp, e_mkp, e_methp, e_lcF, o_addF, eT_callp, eT_methp, b_isc, b_listF, b_lisTL, b_lisFL, b_tupT, b_tupF, b_strI, b_strS, bc_s, bc_i, bc_b, bc_n, bc_t, bc_f, bc_c, bc_d, bc_2, cc_s, cc_i, cc_b, cc_n, cc_t, cc_f, cc_d, oc_len, oc_bool, oc_str, oc_repr, at_ob, f_ini, f_in2, nd_f, nd_t, g_get, ob_of, sl_fl, sl_tup, clos, clo, clof, Bool.and_self, Bool.true_and, Bool.and_true, Option.map_some, t_fl, m_app, m_ext, o_addRF, o_addFL, o_mulR, e_mk, mk_fz, tr_t, tr_f, frz_fl, clof_fl, exI, oc_eq (show typed h5 (Vl.ob "Telling" (flds k' w' n' ks')) = true from rfl), oc_eq (show typed h5 (Vl.ob "Telling" (flds k w (n + 1) ks)) = true from rfl)]
      refine Ok.imp eq_ok fun v h' e => ?_
      obtain ⟨rfl, rfl⟩ := e
      have e1 : decide (shT k w n ks = shT k' w' n' ks') = decide (k = k' ∧ w = w' ∧ n = n' ∧ ks = ks') := by
        refine decide_eq_decide.mpr ⟨fun e => sh_inj hd hd' e, fun e => ?_⟩
        obtain ⟨rfl, rfl, rfl, rfl⟩ := e
        rfl
      have e2 : decide (shT k w n ks = shT k w (n + 1) ks) = false := by
        refine decide_eq_false fun e => ?_
        have := (sh_inj hd (⟨hd.sh, by have := hd.lo; omega, by omega, hd.kc, hd.kl⟩ : Drw k w (n + 1) ks) e).2.2.1
        omega
      simp only [ok_cons, ok_nil, ok_ok, ok_bad, then_nx, then_rt, then_bk, then_ct, x_expr, x_asg, x_ret, x_ite, x_pass, x_for, t_name, t_att, t_sub, t_tup, t_nil, t_cons, e_var, e_cst, e_tup, e_lst, e_bin, e_cmp, e_neg, e_notF, e_notT, e_andT, e_orT, e_andF, e_orF, e_ite, e_chain, e_att, e_sub, e_slc, oi_n, oi_var, oi_bin, oi_sub, oi_blt, oi_neg, oi_call, oi_att, oi_cint, e_call, e_meth, e_blt, e_bm, e_nil, e_cons, e_lc, eT_var, eT_cst, eT_tup, eT_lst, eT_bin, eT_cmp, eT_chain, eT_att, eT_sub, eT_slc, eT_call, eT_meth, eT_blt, eT_bm, eT_lc, at0, at1, at2, at3, at4, isAbs, tr_b, br_t, br_f, br_d, o_add, o_addS, o_addT, o_sub, o_mul, o_div, o_mod, o_pow, c_lt, c_gt, c_le, c_ge, c_leS, c_ltS, c_eq, c_ne, c_in, c_nin, c_is, c_isn, s_set, ix0, ix1, ix2, ix3, Ob.lst.injEq, Vl.int.injEq, Vl.bl.injEq, Nat.reduceLT, Nat.zero_lt_succ, s_ref, s_tup, s_fl, s_scr, s_str, f_fn, start, List.map_cons, List.map_nil, List.length_cons, List.length_nil, List.replicate, List.cons_append, List.nil_append, List.set_cons_zero, List.set_cons_succ, List.getElem?_cons_zero, List.getElem?_cons_succ, Option.some.injEq, exists_eq_left', exists_eq_left, true_and, and_true, Nat.reduceAdd, Nat.reduceSub, if_true, if_false, reduceIte, Bool.false_eq_true, SR, srcs, srcV, b_len, b_abs, b_max, b_min, b_intI, b_intB, b_isi, b_rng, b_listS, b_listT, b_all, b_any, m_lower, sl_str, br_nd, Bool.not_true, Bool.not_false, ob_some, tr_i, tr_n, Vl.str.injEq, Vl.ref.injEq, Vl.tup.injEq, exists_eq_right, bmChk, bmTy, e_lstF, e_dct, PR, pairsOf, e_fstr, e_fnil, e_fcons, e_fmt, fm_str, e_slcR, e_callp, e_mkp, e_methp, e_lcF, o_addF, eT_callp, eT_methp, b_isc, b_listF, b_lisTL, b_lisFL, b_tupT, b_tupF, b_strI, b_strS, bc_s, bc_i, bc_b, bc_n, bc_t, bc_f, bc_c, bc_d, bc_2, cc_s, cc_i, cc_b, cc_n, cc_t, cc_f, cc_d, oc_len, oc_bool, oc_str, oc_repr, at_ob, f_ini, f_in2, nd_f, nd_t, g_get, ob_of, sl_fl, sl_tup, clos, clo, clof, Bool.and_self, Bool.true_and, Bool.and_true, Option.map_some, t_fl, m_app, m_ext, o_addRF, o_addFL, o_mulR, e_mk, mk_fz, tr_t, tr_f, eq_dr, e1, eq_bb, beq_self_eq_true, oc_eq (show typed h' (Vl.ob "Telling" (flds k w (n + 1) ks)) = true from rfl)]
      refine Ok.imp eq_ok fun v h6 e => ?_
      obtain ⟨rfl, rfl⟩ := e
      simp only [ok_cons, ok_nil, ok_ok, ok_bad, then_nx, then_rt, then_bk, then_ct, x_expr, x_asg, x_ret, x_ite, x_pass, x_for, t_name, t_att, t_sub, t_tup, t_nil, t_cons, e_var, e_cst, e_tup, e_lst, e_bin, e_cmp, e_neg, e_notF, e_notT, e_andT, e_orT, e_andF, e_orF, e_ite, e_chain, e_att, e_sub, e_slc, oi_n, oi_var, oi_bin, oi_sub, oi_blt, oi_neg, oi_call, oi_att, oi_cint, e_call, e_meth, e_blt, e_bm, e_nil, e_cons, e_lc, eT_var, eT_cst, eT_tup, eT_lst, eT_bin, eT_cmp, eT_chain, eT_att, eT_sub, eT_slc, eT_call, eT_meth, eT_blt, eT_bm, eT_lc, at0, at1, at2, at3, at4, isAbs, tr_b, br_t, br_f, br_d, o_add, o_addS, o_addT, o_sub, o_mul, o_div, o_mod, o_pow, c_lt, c_gt, c_le, c_ge, c_leS, c_ltS, c_eq, c_ne, c_in, c_nin, c_is, c_isn, s_set, ix0, ix1, ix2, ix3, Ob.lst.injEq, Vl.int.injEq, Vl.bl.injEq, Nat.reduceLT, Nat.zero_lt_succ, s_ref, s_tup, s_fl, s_scr, s_str, f_fn, start, List.map_cons, List.map_nil, List.length_cons, List.length_nil, List.replicate, List.cons_append, List.nil_append, List.set_cons_zero, List.set_cons_succ, List.getElem?_cons_zero, List.getElem?_cons_succ, Option.some.injEq, exists_eq_left', exists_eq_left, true_and, and_true, Nat.reduceAdd, Nat.reduceSub, if_true, if_false, reduceIte, Bool.false_eq_true, SR, srcs, srcV, b_len, b_abs, b_max, b_min, b_intI, b_intB, b_isi, b_rng, b_listS, b_listT, b_all, b_any, m_lower, sl_str, br_nd, Bool.not_true, Bool.not_false, ob_some, tr_i, tr_n, Vl.str.injEq, Vl.ref.injEq, Vl.tup.injEq, exists_eq_right, bmChk, bmTy, e_lstF, e_dct, PR, pairsOf, e_fstr, e_fnil, e_fcons, e_fmt, fm_str, e_slcR, e_callp, e_mkp, e_methp, e_lcF, o_addF, eT_callp, eT_methp, b_isc, b_listF, b_lisTL, b_lisFL, b_tupT, b_tupF, b_strI, b_strS, bc_s, bc_i, bc_b, bc_n, bc_t, bc_f, bc_c, bc_d, bc_2, cc_s, cc_i, cc_b, cc_n, cc_t, cc_f, cc_d, oc_len, oc_bool, oc_str, oc_repr, at_ob, f_ini, f_in2, nd_f, nd_t, g_get, ob_of, sl_fl, sl_tup, clos, clo, clof, Bool.and_self, Bool.true_and, Bool.and_true, Option.map_some, t_fl, m_app, m_ext, o_addRF, o_addFL, o_mulR, e_mk, mk_fz, tr_t, tr_f, e2, eq_v0]
      refine ⟨by omega, ?_⟩
      split
      · rename_i ek
        subst ek
        refine Ok.imp (init_ok (d := 5) (h := []) hd.bd (hkT _ [])) fun v h7 e => ?_
        obtain ⟨rfl, rfl⟩ := e
        refine ⟨rfl, ?_⟩
        simp only [ok_cons, ok_nil, ok_ok, ok_bad, then_nx, then_rt, then_bk, then_ct, x_expr, x_asg, x_ret, x_ite, x_pass, x_for, t_name, t_att, t_sub, t_tup, t_nil, t_cons, e_var, e_cst, e_tup, e_lst, e_bin, e_cmp, e_neg, e_notF, e_notT, e_andT, e_orT, e_andF, e_orF, e_ite, e_chain, e_att, e_sub, e_slc, oi_n, oi_var, oi_bin, oi_sub, oi_blt, oi_neg, oi_call, oi_att, oi_cint, e_call, e_meth, e_blt, e_bm, e_nil, e_cons, e_lc, eT_var, eT_cst, eT_tup, eT_lst, eT_bin, eT_cmp, eT_chain, eT_att, eT_sub, eT_slc, eT_call, eT_meth, eT_blt, eT_bm, eT_lc, at0, at1, at2, at3, at4, isAbs, tr_b, br_t, br_f, br_d, o_add, o_addS, o_addT, o_sub, o_mul, o_div, o_mod, o_pow, c_lt, c_gt, c_le, c_ge, c_leS, c_ltS, c_eq, c_ne, c_in, c_nin, c_is, c_isn, s_set, ix0, ix1, ix2, ix3, Ob.lst.injEq, Vl.int.injEq, Vl.bl.injEq, Nat.reduceLT, Nat.zero_lt_succ, s_ref, s_tup, s_fl, s_scr, s_str, f_fn, start, List.map_cons, List.map_nil, List.length_cons, List.length_nil, List.replicate, List.cons_append, List.nil_append, List.set_cons_zero, List.set_cons_succ, List.getElem?_cons_zero, List.getElem?_cons_succ, Option.some.injEq, exists_eq_left', exists_eq_left, true_and, and_true, Nat.reduceAdd, Nat.reduceSub, if_true, if_false, reduceIte, Bool.false_eq_true, SR, srcs, srcV, b_len, b_abs, b_max, b_min, b_intI, b_intB, b_isi, b_rng, b_listS, b_listT, b_all, b_any, m_lower, sl_str, br_nd, Bool.not_true, Bool.not_false, ob_some, tr_i, tr_n, Vl.str.injEq, Vl.ref.injEq, Vl.tup.injEq, exists_eq_right, bmChk, bmTy, e_lstF, e_dct, PR, pairsOf, e_fstr, e_fnil, e_fcons, e_fmt, fm_str, e_slcR, e_callp, e_mkp, e_methp, e_lcF, o_addF, eT_callp, eT_methp, b_isc, b_listF, b_lisTL, b_lisFL, b_tupT, b_tupF, b_strI, b_strS, bc_s, bc_i, bc_b, bc_n, bc_t, bc_f, bc_c, bc_d, bc_2, cc_s, cc_i, cc_b, cc_n, cc_t, cc_f, cc_d, oc_len, oc_bool, oc_str, oc_repr, at_ob, f_ini, f_in2, nd_f, nd_t, g_get, ob_of, sl_fl, sl_tup, clos, clo, clof, Bool.and_self, Bool.true_and, Bool.and_true, Option.map_some, t_fl, m_app, m_ext, o_addRF, o_addFL, o_mulR, e_mk, mk_fz, tr_t, tr_f, frz_fl, clof_fl, exI, oc_ne (show typed h6 (Vl.ob "Telling" (flds k w n [])) = true from rfl)]
        refine Ok.imp eq_ok fun v h8 e => ?_
        obtain ⟨rfl, rfl⟩ := e
        simp only [ok_cons, ok_nil, ok_ok, ok_bad, then_nx, then_rt, then_bk, then_ct, x_expr, x_asg, x_ret, x_ite, x_pass, x_for, t_name, t_att, t_sub, t_tup, t_nil, t_cons, e_var, e_cst, e_tup, e_lst, e_bin, e_cmp, e_neg, e_notF, e_notT, e_andT, e_orT, e_andF, e_orF, e_ite, e_chain, e_att, e_sub, e_slc, oi_n, oi_var, oi_bin, oi_sub, oi_blt, oi_neg, oi_call, oi_att, oi_cint, e_call, e_meth, e_blt, e_bm, e_nil, e_cons, e_lc, eT_var, eT_cst, eT_tup, eT_lst, eT_bin, eT_cmp, eT_chain, eT_att, eT_sub, eT_slc, eT_call, eT_meth, eT_blt, eT_bm, eT_lc, at0, at1, at2, at3, at4, isAbs, tr_b, br_t, br_f, br_d, o_add, o_addS, o_addT, o_sub, o_mul, o_div, o_mod, o_pow, c_lt, c_gt, c_le, c_ge, c_leS, c_ltS, c_eq, c_ne, c_in, c_nin, c_is, c_isn, s_set, ix0, ix1, ix2, ix3, Ob.lst.injEq, Vl.int.injEq, Vl.bl.injEq, Nat.reduceLT, Nat.zero_lt_succ, s_ref, s_tup, s_fl, s_scr, s_str, f_fn, start, List.map_cons, List.map_nil, List.length_cons, List.length_nil, List.replicate, List.cons_append, List.nil_append, List.set_cons_zero, List.set_cons_succ, List.getElem?_cons_zero, List.getElem?_cons_succ, Option.some.injEq, exists_eq_left', exists_eq_left, true_and, and_true, Nat.reduceAdd, Nat.reduceSub, if_true, if_false, reduceIte, Bool.false_eq_true, SR, srcs, srcV, b_len, b_abs, b_max, b_min, b_intI, b_intB, b_isi, b_rng, b_listS, b_listT, b_all, b_any, m_lower, sl_str, br_nd, Bool.not_true, Bool.not_false, ob_some, tr_i, tr_n, Vl.str.injEq, Vl.ref.injEq, Vl.tup.injEq, exists_eq_right, bmChk, bmTy, e_lstF, e_dct, PR, pairsOf, e_fstr, e_fnil, e_fcons, e_fmt, fm_str, e_slcR, e_callp, e_mkp, e_methp, e_lcF, o_addF, eT_callp, eT_methp, b_isc, b_listF, b_lisTL, b_lisFL, b_tupT, b_tupF, b_strI, b_strS, bc_s, bc_i, bc_b, bc_n, bc_t, bc_f, bc_c, bc_d, bc_2, cc_s, cc_i, cc_b, cc_n, cc_t, cc_f, cc_d, oc_len, oc_bool, oc_str, oc_repr, at_ob, f_ini, f_in2, nd_f, nd_t, g_get, ob_of, sl_fl, sl_tup, clos, clo, clof, Bool.and_self, Bool.true_and, Bool.and_true, Option.map_some, t_fl, m_app, m_ext, o_addRF, o_addFL, o_mulR, e_mk, mk_fz, tr_t, tr_f, decide_true]
        exact ⟨_, _, _, _, _, _, _, _, rfl⟩
      · exact ⟨_, _, _, _, _, _, _, _, rfl⟩
  · obtain ⟨a1, a2, a3, a4, a5, a6, a7, a8, rfl⟩ := I
    simp only [ok_cons, ok_nil, ok_ok, ok_bad, then_nx, then_rt, then_bk, then_ct, x_expr, x_asg, x_ret, x_ite, x_pass, x_for, t_name, t_att, t_sub, t_tup, t_nil, t_cons, e_var, e_cst, e_tup, e_lst, e_bin, e_cmp, e_neg, e_notF, e_notT, e_andT, e_orT, e_andF, e_orF, e_ite, e_chain, e_att, e_sub, e_slc, oi_n, oi_var, oi_bin, oi_sub, oi_blt, oi_neg, oi_call, oi_att, oi_cint, e_call, e_meth, e_blt, e_bm, e_nil, e_cons, e_lc, eT_var, eT_cst, eT_tup, eT_lst, eT_bin, eT_cmp, eT_chain, eT_att, eT_sub, eT_slc, eT_call, eT_meth, eT_blt, eT_bm, eT_lc, at0, at1, at2, at3, at4, isAbs, tr_b, br_t, br_f, br_d, o_add, o_addS, o_addT, o_sub, o_mul, o_div, o_mod, o_pow, c_lt, c_gt, c_le, c_ge, c_leS, c_ltS, c_eq, c_ne, c_in, c_nin, c_is, c_isn, s_set, ix0, ix1, ix2, ix3, Ob.lst.injEq, Vl.int.injEq, Vl.bl.injEq, Nat.reduceLT, Nat.zero_lt_succ, s_ref, s_tup, s_fl, s_scr, s_str, f_fn, start, List.map_cons, List.map_nil, List.length_cons, List.length_nil, List.replicate, List.cons_append, List.nil_append, List.set_cons_zero, List.set_cons_succ, List.getElem?_cons_zero, List.getElem?_cons_succ, Option.some.injEq, exists_eq_left', exists_eq_left, true_and, and_true, Nat.reduceAdd, Nat.reduceSub, if_true, if_false, reduceIte, Bool.false_eq_true, SR, srcs, srcV, b_len, b_abs, b_max, b_min, b_intI, b_intB, b_isi, b_rng, b_listS, b_listT, b_all, b_any, m_lower, sl_str, br_nd, Bool.not_true, Bool.not_false, ob_some, tr_i, tr_n, Vl.str.injEq, Vl.ref.injEq, Vl.tup.injEq, exists_eq_right, bmChk, bmTy, e_lstF, e_dct, PR, pairsOf, e_fstr, e_fnil, e_fcons, e_fmt, fm_str, e_slcR, e_callp, e_mkp, e_methp, e_lcF, o_addF, eT_callp, eT_methp, b_isc, b_listF, b_lisTL, b_lisFL, b_tupT, b_tupF, b_strI, b_strS, bc_s, bc_i, bc_b, bc_n, bc_t, bc_f, bc_c, bc_d, bc_2, cc_s, cc_i, cc_b, cc_n, cc_t, cc_f, cc_d, oc_len, oc_bool, oc_str, oc_repr, at_ob, f_ini, f_in2, nd_f, nd_t, g_get, ob_of, sl_fl, sl_tup, clos, clo, clof, Bool.and_self, Bool.true_and, Bool.and_true, Option.map_some, t_fl, m_app, m_ext, o_addRF, o_addFL, o_mulR, e_mk, mk_fz, tr_t, tr_f]
end Lw
namespace Lw
open PySem PySem.Spec PyProof.Rows Mi
abbrev Rw : PySem.W.OpenRow := PySem.W.OpenLaw.row PySem.Challenge.rw_unwritparts_k08_tellings_told
abbrev hk : PySem.W.Hook := hookM 6 T cds
def ob (s : PySem.W.SharedT) : AlM := obsMG 6 T cds (HandSHeadRun.getT s)
theorem ob_eq (s : PySem.W.SharedT) : ob s = hk.obs s.abs := obsMG_eq (HandSHeadRun.getT_eq s)
def loose : List PySem.Str := (["SURE", "shown_of", "Telling", "_law_purse", "_law_take", "_law_names", "_law_drawn", "_law_text", "_law_right"] : List PySem.Str)
theorem run (w : World) : HandSHeadRun.RunEq Rw (PySem.W.view Rw.prog [11]) hk ob 5000 loose w := by
  intro os
  kernel_rfl
end Lw
open PySem PySem.W PySem.Calls PyProof.Rows Mi in
theorem Lw.law_end (law : ∀ ns : List Int, ns.length ≤ 63 → ∃ h', callP (prgOf Lw.T Lw.cds) 9 "" "law" [.scr ns] [] = .ok (.bl true) h') : PySem.Challenge.rw_unwritparts_k08_tellings_told.Holds := by
  w_on; o_law
  refine HandSHeadRun.head_any (r := PySem.W.OpenLaw.row PySem.Challenge.rw_unwritparts_k08_tellings_told) (q := PySem.W.view (PySem.W.OpenLaw.row PySem.Challenge.rw_unwritparts_k08_tellings_told).prog [11]) (H := Lw.hk) (ob := Lw.ob) (M := 5000) (loose := Lw.loose) (d := HandSHeadRun.topDef (PySem.W.OpenLaw.row PySem.Challenge.rw_unwritparts_k08_tellings_told).prog 11) (kwd := []) Lw.ob_eq
    (by kernel_rfl) (fun s => by kernel_rfl) Lw.run (by kernel_rfl) (by kernel_rfl) (by kernel_rfl) (by rfl) (by first | assumption | decide +kernel) (by decide +kernel) ⟨rfl, rfl, rfl, rfl, rfl, by decide +kernel⟩ ?hw ?hc
  case hw => w_witness2
  case hc => exact law_walk (l := PySem.Challenge.rw_unwritparts_k08_tellings_told) (n := 63) (k := 9) (x := "_law_script") (d := Lw.cd "" "law" (Lw.top 11) [] [] []) rfl (by decide) (by kernel_rfl) ⟨rfl, by decide, by decide⟩ (by kernel_rfl) (by kernel_rfl) rfl (by kernel_rfl) (by kernel_rfl) law
theorem PySem.Challenge.cw_unwritparts_k08_tellings_told_holds : PySem.Challenge.rw_unwritparts_k08_tellings_told.Holds := by
  refine Lw.law_end fun ns _ => ?_
  obtain ⟨v, h, e, q⟩ := (Lw.law_ok ns).get
  exact ⟨h, by rw [← q]; exact e⟩
