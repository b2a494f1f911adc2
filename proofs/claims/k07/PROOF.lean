import PyProof.Rows.All
import Wide.All
import OpenK.AllK
import Wide.FinOn
import HandS.ForMost
import HandS.Defaults
import HandS.Wide
import HandS.Flow
import HandS.TupAny
import HandS.IsInst
import HandS.StrMore
import HandS.HeadWalk
import HandS.Small
import HandS.Style
import PyProof.Rows.StrCase
import PyProof.ListStr
import HandS.HeadHook1
import HandS.HeadHook2
import HandS.HeadEnd
import HandS.Head0
import HandS.Head1
import HandS.Head2
import KE.KStateDown
import PySem.Challenge.RW_unwritparts_k07_part_names
set_option Elab.async false
set_option linter.all false
set_option maxRecDepth 100000
set_option maxHeartbeats 0
/-! MINI: values, heap, syntax, evaluator -/
namespace Mi

/-- a text: its code points -/
abbrev Tx := List Nat
def S (s : String) : Tx := s.toList.map Char.toNat

/-- the greatest length of a list or a text -/
def LIM : Nat := 16777216
/-- the turns that a while may take -/
def FUEL : Nat := 10000000

inductive Vl where
  | non
  | bl (b : Bool)
  | int (i : Int)
  | str (s : Tx)
  | byt (b : List Nat)
  | ref (a : Nat)
  | tup (xs : List Vl)
  | fl (xs : List Vl)
  | fd (kvs : List (Tx × Vl))
  | ob (c : String) (fs : List (String × Vl))
  | fn (c f : String)
  | cl (c : String)
  | ty (t : String)
  | rng (lo : Int) (n : Nat)
  | enm (x : Vl)
  | zp (x y : Vl)
  | its (x : Vl)

inductive Ob where
  | dead
  | lst (xs : List Vl)
  | dct (kvs : List (Tx × Vl))
  | inst (c : String) (fs : List (String × Vl))

abbrev Hm := List Ob

inductive Res (α : Type) where
  | ok (a : α) (h : Hm)
  | exc (c : String) (fs : List (String × Vl)) (h : Hm)
  | bad

@[simp] def Res.bind {α β : Type} : Res α → (α → Hm → Res β) → Res β
  | .ok a h, f => f a h
  | .exc c fs h, _ => .exc c fs h
  | .bad, _ => .bad

inductive Bop where
  | add | sub | mul | fdiv | mod | pow
inductive Cop where
  | eq | ne | lt | le | gt | ge | isin | notin | is | isnot

/-- where a parameter's value comes from: the i-th written value (positional ones first, then the keywords'), or a default -/
inductive Src where
  | at (i : Nat)
  | dfl (v : Vl)

/-- a pattern of names -/
inductive Pt where
  | name (i : Nat)
  | tup (ps : List Pt)

inductive Ex where
  | var (i : Nat)
  | cst (v : Vl)
  | tupE (es : List Ex)
  | lstE (es : List Ex)
  | dctE (ks : List Ex) (vs : List Ex)
  | bin (op : Bop) (a b : Ex)
  | neg (a : Ex)
  | not (a : Ex)
  | cmp (op : Cop) (a b : Ex)
  | chain (o1 o2 : Cop) (a b c : Ex)
  | and (a b : Ex)
  | or (a b : Ex)
  | ite (c a b : Ex)
  | att (a : Ex) (f : String)
  | sub (a i : Ex)
  | slc (a lo hi : Ex)
  | call (f : String) (es : List Ex) (pm : List Src)
  | mk (c : String) (es : List Ex) (pm : List Src) (fz : Bool)
  | meth (o : Ex) (m : String) (es : List Ex) (pm : List Src)
  | callv (f : Ex) (es : List Ex)
  | blt (f : String) (es : List Ex)
  | bm (o : Ex) (m : String) (es : List Ex)
  | lc (elt : Ex) (p : Pt) (it cond : Ex) (own : List Nat)
  | lc2 (elt : Ex) (p : Pt) (it cond : Ex) (p2 : Pt) (it2 cond2 : Ex) (own : List Nat)
  | fstr (es : List Ex)

inductive Tg where
  | name (i : Nat)
  | att (o : Ex) (f : String)
  | sub (o i : Ex)
  | tup (ts : List Tg)

inductive Sm where
  | expr (e : Ex)
  | asg (t : Tg) (e : Ex)
  | aug (i : Nat) (op : Bop) (e : Ex)
  | augF (o : Ex) (f : String) (op : Bop) (e : Ex)
  | augS (o i : Ex) (op : Bop) (e : Ex)
  | ret (e : Ex)
  | ite (c : Ex) (a b : List Sm)
  | whl (c : Ex) (b : List Sm)
  | for_ (p : Pt) (it : Ex) (b : List Sm)
  | brk
  | cont
  | pass
  | delS (o i : Ex)
  | delSl (o lo : Ex)
  | frz (i : Nat)
  | never

abbrev Rho := List (Option Vl)
inductive Flow where
  | nx (r : Rho)
  | rt (v : Vl)
  | bk (r : Rho)
  | ct (r : Rho)

structure Cs where
  fn : String → String → List Vl → Hm → Res Vl
  ini : String → String → List Vl → Hm → Res Vl

/-! ### small helpers -/
def getF (fs : List (String × Vl)) (f : String) : Option Vl := fs.lookup f
def putF (f : String) (v : Vl) : List (String × Vl) → List (String × Vl)
  | [] => [(f, v)]
  | (g, w) :: r => if f = g then (f, v) :: r else (g, w) :: putF f v r
def getK (kvs : List (Tx × Vl)) (k : Tx) : Option Vl := kvs.lookup k
def putK (k : Tx) (v : Vl) : List (Tx × Vl) → List (Tx × Vl)
  | [] => [(k, v)]
  | (g, w) :: r => if k = g then (g, v) :: r else (g, w) :: putK k v r
def delK (k : Tx) : List (Tx × Vl) → List (Tx × Vl)
  | [] => []
  | (g, w) :: r => if k = g then r else (g, w) :: delK k r

/-- the items of a list or a tuple -/
def seqOf (h : Hm) : Vl → Option (List Vl)
  | .tup xs => some xs
  | .fl xs => some xs
  | .ref a => match h[a]? with
    | some (.lst xs) => some xs
    | _ => none
  | _ => none
def lstOf (h : Hm) : Vl → Option (List Vl)
  | .fl xs => some xs
  | .ref a => match h[a]? with
    | some (.lst xs) => some xs
    | _ => none
  | _ => none
def dctOf (h : Hm) : Vl → Option (List (Tx × Vl))
  | .fd kvs => some kvs
  | .ref a => match h[a]? with
    | some (.dct kvs) => some kvs
    | _ => none
  | _ => none
def objOf (h : Hm) : Vl → Option (String × List (String × Vl))
  | .ob c fs => some (c, fs)
  | .ref a => match h[a]? with
    | some (.inst c fs) => some (c, fs)
    | _ => none
  | _ => none

def new (o : Ob) (h : Hm) : Res Vl := .ok (.ref h.length) (h ++ [o])

/-- a place in a sequence of n items -/
def ixN (n : Nat) (i : Int) : Option Nat := if 0 ≤ i then (if i < n then some i.toNat else none) else if -(n : Int) ≤ i then some (i + n).toNat else none
def atI {α : Type} (xs : List α) (i : Int) : Option α := (ixN xs.length i).bind fun j => xs[j]?
/-- a bound of a slice -/
def sIx (n dflt : Nat) : Option Int → Nat
  | none => dflt
  | some v => if v < 0 then (v + (n : Int)).toNat else min v.toNat n
def cut {α : Type} (xs : List α) (lo hi : Option Int) : List α := (xs.drop (sIx xs.length 0 lo)).take (sIx xs.length xs.length hi - sIx xs.length 0 lo)

/-! ### equality of data -/
def numOf : Vl → Option Int
  | .bl b => some (if b then 1 else 0)
  | .int i => some i
  | _ => none
/-- data: None, truths, ints, texts, tuples of data -/
def b2i (b : Bool) : Int := if b then 1 else 0

mutual
/-- plain data: None, truths, ints, texts, tuples of such -/
def pur : Vl → Bool
  | .non => true
  | .bl _ => true
  | .int _ => true
  | .str _ => true
  | .tup xs => purs xs
  | _ => false
def purs : List Vl → Bool
  | [] => true
  | x :: xs => pur x && purs xs
end
mutual
def dep : Vl → Nat
  | .tup xs => deps xs + 1
  | _ => 0
def deps : List Vl → Nat
  | [] => 0
  | x :: xs => max (dep x) (deps xs)
end
mutual
def eqD : Vl → Vl → Bool
  | .non, .non => true
  | .bl a, .bl b => a == b
  | .bl a, .int j => b2i a == j
  | .int i, .bl b => i == b2i b
  | .int i, .int j => i == j
  | .str s, .str t => s == t
  | .tup xs, .tup ys => eqDs xs ys
  | _, _ => false
def eqDs : List Vl → List Vl → Bool
  | [], [] => true
  | x :: xs, y :: ys => eqD x y && eqDs xs ys
  | _, _ => false
end
/-- a list that may be changed -/
def livOf (h : Hm) : Vl → Option (List Vl)
  | .ref a => match h[a]? with
    | some (.lst xs) => some xs
    | _ => none
  | _ => none
/-- == -/
def eqV (h : Hm) (x y : Vl) : Option Bool :=
  match lstOf h x, lstOf h y with
  | none, none => if pur x && pur y && decide (dep x ≤ 60) && decide (dep y ≤ 60) then some (eqD x y) else none
  | some xs, some ys => if purs xs && purs ys && decide (deps xs ≤ 60) && decide (deps ys ≤ 60) then some (eqDs xs ys) else none
  | some xs, none => if purs xs && pur y && decide (deps xs ≤ 60) && decide (dep y ≤ 60) then some false else none
  | none, some ys => if purs ys && pur x && decide (deps ys ≤ 60) && decide (dep x ≤ 60) then some false else none

/-! ### operators -/
def mulOk (i j : Int) : Bool := (decide (i.natAbs < 2 ^ 64) || decide (j.natAbs < 2 ^ 64)) || (decide (i.natAbs < 2 ^ 4000) && decide (j.natAbs < 2 ^ 4000))
def addV : Vl → Vl → Hm → Res Vl
  | .int i, .int j, h => .ok (.int (i + j)) h
  | .str s, .str t, h => if s.length + t.length ≤ LIM then .ok (.str (s ++ t)) h else .bad
  | .tup xs, .tup ys, h => if xs.length + ys.length ≤ LIM then .ok (.tup (xs ++ ys)) h else .bad
  | x, y, h => match livOf h x, livOf h y with
    | some xs, some ys => if xs.length + ys.length ≤ LIM then new (.lst (xs ++ ys)) h else .bad
    | _, _ => .bad
def minV : Vl → Vl → Hm → Res Vl
  | .int i, .int j, h => .ok (.int (i - j)) h
  | _, _, _ => .bad
def mulV : Vl → Vl → Hm → Res Vl
  | .int i, .int j, h => if mulOk i j then .ok (.int (i * j)) h else .bad
  | x, .int k, h => match livOf h x with
    | some xs => if -(2 ^ 63) ≤ k ∧ k < 2 ^ 63 ∧ xs.length * k.toNat ≤ LIM then new (.lst (List.replicate k.toNat xs).flatten) h else .bad
    | _ => .bad
  | _, _, _ => .bad
def fdvV : Vl → Vl → Hm → Res Vl
  | .int i, .int j, h => if 0 < j ∧ j < 1073741824 then .ok (.int (i / j)) h else .bad
  | _, _, _ => .bad
def modV : Vl → Vl → Hm → Res Vl
  | .int i, .int j, h => if 0 < j then .ok (.int (i % j)) h else .bad
  | _, _, _ => .bad
def powV : Vl → Vl → Hm → Res Vl
  | .int i, .int j, h => if 0 ≤ j ∧ j ≤ 64 ∧ i.natAbs < 2 ^ 4000 then .ok (.int (i ^ j.toNat)) h else .bad
  | _, _, _ => .bad
def binop : Bop → Vl → Vl → Hm → Res Vl
  | .add => addV
  | .sub => minV
  | .mul => mulV
  | .fdiv => fdvV
  | .mod => modV
  | .pow => powV

def flat : Vl → Bool
  | .non => true
  | .bl _ => true
  | .int _ => true
  | .str _ => true
  | _ => false

/-- x in y -/
def inV (h : Hm) (x y : Vl) : Option Bool :=
  match y with
  | .str t => match x with
    | .str [c] => some (decide (c ∈ t))
    | _ => none
  | _ => match seqOf h y with
    | some ys => if flat x && ys.all flat then some (ys.any fun z => eqD z x) else none
    | none => match dctOf h y with
      | some kvs => match x with
        | .str k => some (getK kvs k).isSome
        | _ => none
      | none => none

def bres (b : Option Bool) (h : Hm) : Res Vl := match b with
  | some b => .ok (.bl b) h
  | none => .bad
def ltV : Vl → Vl → Hm → Res Vl
  | .int i, .int j, h => .ok (.bl (decide (i < j))) h
  | .str i, .str j, h => .ok (.bl (decide (i < j))) h
  | _, _, _ => .bad
def leV : Vl → Vl → Hm → Res Vl
  | .int i, .int j, h => .ok (.bl (decide (i ≤ j))) h
  | .str i, .str j, h => .ok (.bl (!decide (j < i))) h
  | _, _, _ => .bad
def isNon : Vl → Bool
  | .non => true
  | _ => false
def isV : Vl → Vl → Hm → Res Vl
  | x, .non, h => .ok (.bl (isNon x)) h
  | _, _, _ => .bad
def isnotV : Vl → Vl → Hm → Res Vl
  | x, .non, h => .ok (.bl (!isNon x)) h
  | _, _, _ => .bad
def cmpop : Cop → Vl → Vl → Hm → Res Vl
  | .eq => fun x y h => bres (eqV h x y) h
  | .ne => fun x y h => bres ((eqV h x y).map (!·)) h
  | .lt => ltV
  | .le => leV
  | .gt => fun x y h => ltV y x h
  | .ge => fun x y h => leV y x h
  | .isin => fun x y h => bres (inV h x y) h
  | .notin => fun x y h => bres ((inV h x y).map (!·)) h
  | .is => isV
  | .isnot => isnotV

/-- a value's truth -/
def tru (h : Hm) : Vl → Option Bool
  | .non => some false
  | .bl b => some b
  | .int i => some (i != 0)
  | .str s => if s.length ≤ LIM then some (s.length != 0) else none
  | v => match seqOf h v with
    | some xs => some (!xs.isEmpty)
    | none => match dctOf h v with
      | some kvs => some (!kvs.isEmpty)
      | none => none

/-! ### subscripts -/
def subV (x i : Vl) (h : Hm) : Res Vl :=
  match x, i with
  | .str s, .int i => if s.length ≤ LIM then (match atI s i with
    | some c => .ok (.str [c]) h
    | none => .bad) else .bad
  | x, .int i => match seqOf h x with
    | some xs => (match atI xs i with
      | some v => .ok v h
      | none => .bad)
    | none => .bad
  | x, .str k => match dctOf h x with
    | some kvs => (match getK kvs k with
      | some v => .ok v h
      | none => .bad)
    | none => .bad
  | _, _ => .bad
def isAbs : Ex → Bool
  | .cst .non => true
  | _ => false
def slcV (x : Vl) (lo hi : Option Int) (h : Hm) : Res Vl :=
  match x with
  | .str s => if s.length ≤ LIM then .ok (.str (cut s lo hi)) h else .bad
  | .tup xs => .ok (.tup (cut xs lo hi)) h
  | x => match lstOf h x with
    | some xs => new (.lst (cut xs lo hi)) h
    | none => .bad
def intR (r : Res Vl) : Res (Option Int) := r.bind fun v h => match v with
  | .int i => .ok (some i) h
  | _ => .bad
/-- o[i] = v -/
def setV (o i v : Vl) (h : Hm) : Res Unit :=
  match o with
  | .ref a => match h[a]?, i with
    | some (.lst xs), .int k => (match ixN xs.length k with
      | some j => .ok () (h.set a (.lst (xs.set j v)))
      | none => .bad)
    | some (.dct kvs), .str k => if kvs.length < LIM then .ok () (h.set a (.dct (putK k v kvs))) else .bad
    | _, _ => .bad
  | _ => .bad

/-! ### built-in functions -/
def lenV (h : Hm) : Vl → Option Nat
  | .str s => if s.length ≤ LIM then some s.length else none
  | v => match seqOf h v with
    | some xs => some xs.length
    | none => match dctOf h v with
      | some kvs => some kvs.length
      | none => none
/-- the name of a built-in thing's type -/
def tyNm (h : Hm) : Vl → Option String
  | .non => some "NoneType"
  | .bl _ => some "bool"
  | .int _ => some "int"
  | .str _ => some "str"
  | .tup _ => some "tuple"
  | .fl _ => some "list"
  | .fd _ => some "dict"
  | .ref a => match h[a]? with
    | some (.lst _) => some "list"
    | some (.dct _) => some "dict"
    | _ => none
  | _ => none
def subT (n t : String) : Option Bool := if ["str", "int", "bool", "tuple", "list", "dict"].contains t then some (n == t || (n == "bool" && t == "int")) else none
def isi (h : Hm) (v : Vl) (t : String) : Option Bool := match tyNm h v with
  | some n => subT n t
  | none => none
def digits (n : Nat) : Tx := (toString n).toList.map Char.toNat
def showI (i : Int) : Tx := (toString i).toList.map Char.toNat
def strsOf : List Vl → Option (List Tx)
  | [] => some []
  | .str s :: r => (strsOf r).map (s :: ·)
  | _ => none
def bolsOf : List Vl → Option (List Bool)
  | [] => some []
  | .bl b :: r => (bolsOf r).map (b :: ·)
  | _ => none
def intsOf : List Vl → Option (List Int)
  | [] => some []
  | .int b :: r => (intsOf r).map (b :: ·)
  | _ => none
def joinT (sep : Tx) : List Tx → Tx
  | [] => []
  | [s] => s
  | s :: r => s ++ sep ++ joinT sep r
def lowerC (c : Nat) : Nat := if 65 ≤ c ∧ c ≤ 90 then c + 32 else c

def bLen : List Vl → Hm → Res Vl
  | [v], h => (match lenV h v with
    | some n => .ok (.int n) h
    | none => .bad)
  | _, _ => .bad
def bAbs : List Vl → Hm → Res Vl
  | [.int i], h => .ok (.int (if i < 0 then -i else i)) h
  | _, _ => .bad
def bMax : List Vl → Hm → Res Vl
  | [.int i, .int j], h => .ok (.int (if j > i then j else i)) h
  | _, _ => .bad
def bMin : List Vl → Hm → Res Vl
  | [.int i, .int j], h => .ok (.int (if j < i then j else i)) h
  | _, _ => .bad
def bInt : List Vl → Hm → Res Vl
  | [.int i], h => .ok (.int i) h
  | [.bl b], h => .ok (.int (if b then 1 else 0)) h
  | _, _ => .bad
def bAll : List Vl → Hm → Res Vl
  | [v], h => (match (lstOf h v).bind bolsOf with
    | some bs => .ok (.bl (bs.all id)) h
    | none => .bad)
  | _, _ => .bad
def bAny : List Vl → Hm → Res Vl
  | [v], h => (match (lstOf h v).bind bolsOf with
    | some bs => .ok (.bl (bs.any id)) h
    | none => .bad)
  | _, _ => .bad
def bList : List Vl → Hm → Res Vl
  | [.str s], h => if s.length ≤ LIM then new (.lst (s.map fun c => .str [c])) h else .bad
  | [v], h => (match seqOf h v with
    | some xs => new (.lst xs) h
    | none => .bad)
  | _, _ => .bad
def bIsi : List Vl → Hm → Res Vl
  | [v, .ty t], h => bres (isi h v t) h
  | _, _ => .bad
def bltF (f : String) (vs : List Vl) (h : Hm) : Res Vl :=
  match f with
  | "len" => bLen vs h
  | "abs" => bAbs vs h
  | "max" => bMax vs h
  | "min" => bMin vs h
  | "int" => bInt vs h
  | "all" => bAll vs h
  | "any" => bAny vs h
  | "list" => bList vs h
  | "isinstance" => bIsi vs h
  | "range" => (match vs with
    | [.int j] => if -(2 ^ 62) ≤ j ∧ j < 2 ^ 62 then .ok (.rng 0 j.toNat) h else .bad
    | _ => .bad)
  | "enumerate" => (match vs with
    | [v] => .ok (.enm v) h
    | _ => .bad)
  | _ => .bad
/-- methods of built-in things -/
def mJoin (o : Vl) (vs : List Vl) (h : Hm) : Res Vl := match o, vs with
  | .str sep, [v] => (match (seqOf h v).bind strsOf with
    | some ss => if (ss.map (·.length)).sum + ss.length * sep.length ≤ LIM then .ok (.str (joinT sep ss)) h else .bad
    | none => .bad)
  | _, _ => .bad
def mLower (o : Vl) (vs : List Vl) (h : Hm) : Res Vl := match o, vs with
  | .str s, [] => if s.length ≤ 5592405 ∧ s.all (· < 128) then .ok (.str (s.map lowerC)) h else .bad
  | _, _ => .bad
def mAppend (o : Vl) (vs : List Vl) (h : Hm) : Res Vl := match o, vs with
  | .ref a, [v] => (match h[a]? with
    | some (.lst xs) => if xs.length < LIM then .ok .non (h.set a (.lst (xs ++ [v]))) else .bad
    | _ => .bad)
  | _, _ => .bad
def bmF (m : String) (o : Vl) (vs : List Vl) (h : Hm) : Res Vl :=
  match m with
  | "join" => mJoin o vs h
  | "lower" => mLower o vs h
  | "append" => mAppend o vs h
  | _ => .bad
/-- the type whose method it is, by the name and how many arguments there are -/
def bmTy : String → Nat → String
  | "join", _ => "str"
  | "lower", _ => "str"
  | "append", _ => "list"
  | _, _ => ""
def bmChk (t : String) (x : Vl) (h : Hm) : Bool := match t with
  | "str" => (match x with
    | .str _ => true
    | _ => false)
  | "list" => (lstOf h x).isSome
  | "dict" => (dctOf h x).isSome
  | _ => false

/-! ### parameters -/
def srcV (vs : List Vl) : Src → Option Vl
  | .at i => vs[i]?
  | .dfl v => some v
def srcs (vs : List Vl) : List Src → Option (List Vl)
  | [] => some []
  | s :: r => match srcV vs s, srcs vs r with
    | some v, some l => some (v :: l)
    | _, _ => none

/-! ### patterns -/
mutual
def bindP : Pt → Vl → Rho → Option Rho
  | .name i, v, r => some (r.set i (some v))
  | .tup ps, .tup vs, r => bindPs ps vs r
  | .tup _, _, _ => none
def bindPs : List Pt → List Vl → Rho → Option Rho
  | [], [], r => some r
  | p :: ps, v :: vs, r => match bindP p v r with
    | some r => bindPs ps vs r
    | none => none
  | _, _, _ => none
end

def wipe (r : Rho) : List Nat → Rho
  | [] => r
  | v :: vs => (wipe r vs).set v none

/-- an object that is never changed again -/
def frzV (h : Hm) (v : Vl) : Vl × Hm :=
  match v with
  | .ref b => match h[b]? with
    | some (.lst xs) => (.fl xs, h.set b .dead)
    | some (.dct kvs) => (.fd kvs, h.set b .dead)
    | _ => (v, h)
  | _ => (v, h)
def frzFs : List (String × Vl) → Hm → List (String × Vl) × Hm
  | [], h => ([], h)
  | (f, v) :: r, h => ((f, (frzV h v).1) :: (frzFs r (frzV h v).2).1, (frzFs r (frzV h v).2).2)

/-- what a loop goes over -/
inductive It where
  | vals (xs : List Vl)
  | live (a : Nat)
  | rng (lo : Int) (n : Nat)
  | enumL (a : Nat)
  | enumV (xs : List Vl)
/-- the item at a turn; none inside: it stops -/
def It.next : It → Nat → Hm → Option (Option Vl)
  | .vals xs, i, _ => some xs[i]?
  | .live a, i, h => match h[a]? with
    | some (.lst xs) => some xs[i]?
    | _ => none
  | .rng lo n, i, _ => some (if i < n then some (.int (lo + i)) else none)
  | .enumL a, i, h => match h[a]? with
    | some (.lst xs) => some (xs[i]?.map fun x => .tup [.int i, x])
    | _ => none
  | .enumV xs, i, _ => some (xs[i]?.map fun x => .tup [.int i, x])
def itOf (h : Hm) : Vl → Option It
  | .rng lo n => some (.rng lo n)
  | .enm (.ref a) => match h[a]? with
    | some (.lst _) => some (.enumL a)
    | _ => none
  | .enm (.fl xs) => some (.enumV xs)
  | .tup xs => some (.vals xs)
  | .fl xs => some (.vals xs)
  | .str s => some (.vals (s.map fun c => .str [c]))
  | .ref a => match h[a]? with
    | some (.lst _) => some (.live a)
    | _ => none
  | _ => none

/-- a for -/
def loopF (it : It) (body : Vl → Rho → Hm → Res Flow) : Nat → Nat → Rho → Hm → Res Flow
  | 0, _, _, _ => .bad
  | n + 1, i, r, h => match it.next i h with
    | none => .bad
    | some none => .ok (.nx r) h
    | some (some x) => match body x r h with
      | .ok (.nx r') h' => loopF it body n (i + 1) r' h'
      | .ok (.ct r') h' => loopF it body n (i + 1) r' h'
      | .ok (.bk r') h' => .ok (.nx r') h'
      | .ok (.rt v) h' => .ok (.rt v) h'
      | .exc c fs h' => .exc c fs h'
      | .bad => .bad
/-- a comprehension, its list at D: body gives the item that a turn lays down -/
def loopC (it : It) (D : Nat) (body : Vl → Hm → Res (Option Vl)) : Nat → Nat → Hm → Res Unit
  | 0, _, _ => .bad
  | n + 1, i, h => match it.next i h with
    | none => .bad
    | some none => .ok () h
    | some (some x) => (body x h).bind fun y h => match y with
      | none => loopC it D body n (i + 1) h
      | some y => match h[D]? with
        | some (.lst acc) => if acc.length < LIM then loopC it D body n (i + 1) (h.set D (.lst (acc ++ [y]))) else .bad
        | _ => .bad
/-- a while -/
def loopW (c : Rho → Hm → Res Vl) (body : Rho → Hm → Res Flow) : Nat → Rho → Hm → Res Flow
  | 0, _, _ => .bad
  | n + 1, r, h => (c r h).bind fun b h => match b with
    | .bl true => (match body r h with
      | .ok (.nx r') h' => loopW c body n r' h'
      | .ok (.ct r') h' => loopW c body n r' h'
      | .ok (.bk r') h' => .ok (.nx r') h'
      | .ok (.rt v) h' => .ok (.rt v) h'
      | .exc c fs h' => .exc c fs h'
      | .bad => .bad)
    | .bl false => .ok (.nx r) h
    | _ => .bad

/-- in a test the value's truth -/
def asT (m : Bool) (r : Res Vl) : Res Vl := if m then r.bind fun v h => (match tru h v with
  | some b => .ok (.bl b) h
  | none => .bad) else r

def attV (f : String) (x : Vl) (h : Hm) : Res Vl := match objOf h x with
  | some (_, fs) => (match getF fs f with
    | some v => .ok v h
    | none => .bad)
  | none => .bad
def setF (o : Vl) (f : String) (v : Vl) (h : Hm) : Res Unit := match o with
  | .ref a => match h[a]? with
    | some (.inst c fs) => if fs.length < 900 then .ok () (h.set a (.inst c (putF f v fs))) else .bad
    | _ => .bad
  | _ => .bad
/-- a new object is made -/
def mkV (C : Cs) (c : String) (fz : Bool) (vs : List Vl) (h : Hm) : Res Vl :=
  (C.ini c "__init__" vs (h ++ [.inst c []])).bind fun r h' => match r with
    | .non => if fz then (match h'[h.length]? with
      | some (.inst c fs) => .ok (.ob c (frzFs fs h').1) ((frzFs fs h').2.set h.length .dead)
      | _ => .bad) else .ok (.ref h.length) h'
    | _ => .bad
mutual
def evM (C : Cs) : Ex → Bool → Rho → Hm → Res Vl
  | .var i, m, r, h => asT m (match r[i]? with
    | some (some v) => .ok v h
    | _ => .bad)
  | .cst v, m, r, h => asT m (.ok v h)
  | .tupE es, m, r, h => asT m ((evs C es r h).bind fun vs h => if vs.length ≤ LIM then .ok (.tup vs) h else .bad)
  | .lstE es, m, r, h => asT m ((evs C es r h).bind fun vs h => if vs.length ≤ LIM then new (.lst vs) h else .bad)
  | .dctE ks vs, m, r, h => .bad
  | .bin op a b, m, r, h => asT m ((evM C a false r h).bind fun x h => (evM C b false r h).bind fun y h => binop op x y h)
  | .neg a, m, r, h => asT m ((evM C a false r h).bind fun x h => match x with
    | .int i => .ok (.int (-i)) h
    | _ => .bad)
  | .not a, true, r, h => (evM C a true r h).bind fun x h => match x with
    | .bl b => .ok (.bl (!b)) h
    | _ => .bad
  | .not a, false, r, h => (evM C a false r h).bind fun x h => match tru h x with
    | some b => .ok (.bl (!b)) h
    | none => .bad
  | .cmp op a b, m, r, h => asT m ((evM C a false r h).bind fun x h => (evM C b false r h).bind fun y h => cmpop op x y h)
  | .chain o1 o2 a b c, m, r, h => asT m ((evM C a false r h).bind fun x h => (evM C b false r h).bind fun y h => (cmpop o1 x y h).bind fun t h => match t with
    | .bl true => (evM C c false r h).bind fun z h => cmpop o2 y z h
    | .bl false => .ok (.bl false) h
    | _ => .bad)
  | .and a b, true, r, h => (evM C a true r h).bind fun x h => match x with
    | .bl true => evM C b true r h
    | .bl false => .ok (.bl false) h
    | _ => .bad
  | .and a b, false, r, h => (evM C a false r h).bind fun x h => match tru h x with
    | some true => evM C b false r h
    | some false => .ok x h
    | none => .bad
  | .or a b, true, r, h => (evM C a true r h).bind fun x h => match x with
    | .bl true => .ok (.bl true) h
    | .bl false => evM C b true r h
    | _ => .bad
  | .or a b, false, r, h => (evM C a false r h).bind fun x h => match tru h x with
    | some true => .ok x h
    | some false => evM C b false r h
    | none => .bad
  | .ite c a b, m, r, h => (evM C c true r h).bind fun x h => match x with
    | .bl true => evM C a m r h
    | .bl false => evM C b m r h
    | _ => .bad
  | .att a f, m, r, h => asT m ((evM C a false r h).bind fun x h => attV f x h)
  | .sub a i, m, r, h => asT m ((evM C a false r h).bind fun x h => (evM C i false r h).bind fun y h => subV x y h)
  | .slc a lo hi, m, r, h => asT m ((evM C a false r h).bind fun x h => (if isAbs lo then .ok none h else intR (evM C lo false r h)).bind fun y h => (if isAbs hi then .ok none h else intR (evM C hi false r h)).bind fun z h => slcV x y z h)
  | .call f es pm, m, r, h => asT m ((evs C es r h).bind fun vs h => match srcs vs pm with
    | some vs => C.fn "" f vs h
    | none => .bad)
  | .mk c es pm fz, m, r, h => asT m ((evs C es r h).bind fun vs h => match srcs (.ref h.length :: vs) pm with
    | some vs => mkV C c fz vs h
    | none => .bad)
  | .meth o f es pm, m, r, h => asT m ((evM C o false r h).bind fun x h => match objOf h x with
    | some (c, fs) => if (getF fs f).isNone then (evs C es r h).bind fun vs h => (match srcs (x :: vs) pm with
      | some vs => C.fn c f vs h
      | none => .bad) else .bad
    | none => .bad)
  | .callv f es, m, r, h => asT m ((evM C f false r h).bind fun x h => (evs C es r h).bind fun vs h => match x with
    | .fn c f => C.fn c f vs h
    | _ => .bad)
  | .blt f es, m, r, h => asT m ((evs C es r h).bind fun vs h => bltF f vs h)
  | .bm o f es, m, r, h => asT m ((evM C o false r h).bind fun x h => if bmChk (bmTy f es.length) x h then (evs C es r h).bind fun vs h => bmF f x vs h else .bad)
  | .lc elt p it cond own, m, r, h => asT m ((evM C it false r h).bind fun v h => match itOf h v with
    | none => .bad
    | some J => (loopC J h.length (fun x h => match bindP p x (wipe r own) with
        | some r' => (evM C cond true r' h).bind fun b h => (match b with
          | .bl true => (evM C elt false r' h).bind fun y h => .ok (some y) h
          | .bl false => .ok none h
          | _ => .bad)
        | none => .bad) FUEL 0 (h ++ [.lst []])).bind fun _ h' => .ok (.ref h.length) h')
  | .lc2 elt p it cond p2 it2 cond2 own, m, r, h => .bad
  | .fstr es, m, r, h => .bad
def evs (C : Cs) : List Ex → Rho → Hm → Res (List Vl)
  | [], _, h => .ok [] h
  | e :: es, r, h => (evM C e false r h).bind fun x h => (evs C es r h).bind fun xs h => .ok (x :: xs) h
end

/-! ### statements -/
mutual
/-- a value goes to a target -/
def asg (C : Cs) : Tg → Vl → Rho → Hm → Res Rho
  | .name i, v, r, h => .ok (r.set i (some v)) h
  | .att o f, v, r, h => (evM C o false r h).bind fun x h => (setF x f v h).bind fun _ h => .ok r h
  | .sub o i, v, r, h => (evM C o false r h).bind fun x h => (evM C i false r h).bind fun y h => (setV x y v h).bind fun _ h => .ok r h
  | .tup ts, v, r, h => match v with
    | .tup vs => asgs C ts vs r h
    | _ => .bad
def asgs (C : Cs) : List Tg → List Vl → Rho → Hm → Res Rho
  | [], [], r, h => .ok r h
  | t :: ts, v :: vs, r, h => (asg C t v r h).bind fun r h => asgs C ts vs r h
  | _, _, _, _ => .bad
end
mutual
def ex (C : Cs) : Sm → Rho → Hm → Res Flow
  | .expr e, r, h => (evM C e false r h).bind fun _ h => .ok (.nx r) h
  | .asg t e, r, h => (evM C e false r h).bind fun v h => (asg C t v r h).bind fun r h => .ok (.nx r) h
  | .aug i op e, r, h => match r[i]? with
    | some (some x) => (evM C e false r h).bind fun y h => (binop op x y h).bind fun z h => .ok (.nx (r.set i (some z))) h
    | _ => .bad
  | .augF o f op e, r, h => (evM C o false r h).bind fun x h => (attV f x h).bind fun a h => (evM C e false r h).bind fun y h => (binop op a y h).bind fun z h => (setF x f z h).bind fun _ h => .ok (.nx r) h
  | .augS o i op e, r, h => (evM C o false r h).bind fun x h => (evM C i false r h).bind fun j h => (subV x j h).bind fun a h => (evM C e false r h).bind fun y h => (binop op a y h).bind fun z h => (setV x j z h).bind fun _ h => .ok (.nx r) h
  | .ret e, r, h => (evM C e false r h).bind fun v h => .ok (.rt v) h
  | .ite c a b, r, h => (evM C c true r h).bind fun x h => match x with
    | .bl true => exs C a r h
    | .bl false => exs C b r h
    | _ => .bad
  | .whl c b, r, h => loopW (fun r h => evM C c true r h) (fun r h => exs C b r h) FUEL r h
  | .for_ p it b, r, h => (evM C it false r h).bind fun v h => match itOf h v with
    | none => .bad
    | some J => loopF J (fun x r h => match bindP p x r with
      | some r => exs C b r h
      | none => .bad) FUEL 0 r h
  | .brk, r, h => .ok (.bk r) h
  | .cont, r, h => .ok (.ct r) h
  | .pass, r, h => .ok (.nx r) h
  | .delS o i, r, h => .bad
  | .delSl o lo, r, h => .bad
  | .frz i, r, h => match r[i]? with
    | some (some v) => .ok (.nx (r.set i (some (frzV h v).1))) (frzV h v).2
    | _ => .bad
  | .never, r, h => .bad
def exs (C : Cs) : List Sm → Rho → Hm → Res Flow
  | [], r, h => .ok (.nx r) h
  | s :: ss, r, h => match ex C s r h with
    | .ok (.nx r) h => exs C ss r h
    | .ok f h => .ok f h
    | .exc c fs h => .exc c fs h
    | .bad => .bad
end

/-! ### defs -/
structure Fn where
  ar : Nat
  n : Nat
  body : List Sm
abbrev Prg := List ((String × String) × Fn)
def start (n : Nat) (vs : List Vl) : Rho := vs.map some ++ List.replicate (n - vs.length) none
def runB (r : Res Flow) : Res Vl := r.bind fun f h => match f with
  | .nx _ => .ok .non h
  | .rt v => .ok v h
  | _ => .bad
def callP (P : Prg) : Nat → String → String → List Vl → Hm → Res Vl
  | 0, _, _, _, _ => .bad
  | d + 1, c, f, vs, h => match P.lookup (c, f) with
    | some g => if vs.length = g.ar then runB (exs ⟨callP P d, fun c f vs h => match d with
        | 0 => .bad
        | d + 1 => callP P d c f vs h⟩ g.body (start g.n vs) h) else .bad
    | none => .bad
end Mi
/-! MINI: how its states stand for the model's -/
namespace Mi
open PySem PySem.Spec PyProof.Rows L2

/-- what a def's head tells: its parameters, its defaults -/
structure FnI where
  par : Arguments
  dfl : List Vl
  kwd : List (Str × Vl)
structure Gi where
  K : PySem.W.Frag
  cs : List String
  fl : List String
  ca : String → Addr
  fa : String → String → Addr
  fi : String → String → Option FnI

abbrev Mp := Nat → Option Addr
def ss (s : Tx) : Str := ⟨s.toArray⟩
def sOk (s : Tx) : Prop := ∀ c ∈ s, c < 0x110000

theorem ss_inj {s t : Tx} (h : ss s = ss t) : s = t := by
  have : s.toArray = t.toArray := congrArg Str.cps h
  simpa using this
theorem ss_list (s : Tx) : (ss s).cps.toList = s := by simp [ss]
theorem ss_len (s : Tx) : (ss s).length = s.length := by simp [ss, Str.length]
theorem ofS (s : String) : Str.ofString s = ss (S s) := Str.ofString_eq_toList s
theorem S_inj {a b : String} (h : S a = S b) : a = b := by
  unfold S at h
  have : a.toList = b.toList := by
    refine List.map_inj_right (fun x y e => ?_) |>.mp h
    exact Char.toNat_inj.mp e
  exact String.toList_inj.mp this
theorem of_inj {a b : String} (h : Str.ofString a = Str.ofString b) : a = b := by
  rw [ofS, ofS] at h
  exact S_inj (ss_inj h)

mutual
/-- a value stands for one of the model's; F: what is tracked and never changes; m: where the heap's objects stand -/
def R (G : Gi) (F : Hp) (m : Mp) : Vl → V → Prop
  | .non, x => x = .non
  | .bl b, x => x = .bl b
  | .int i, x => x = .int i
  | .str s, x => x = .str (ss s) ∧ sOk s
  | .byt b, x => False
  | .ref a, x => ∃ p, m a = some p ∧ x = .ref p
  | .tup xs, x => ∃ p ys, x = .ref p ∧ SqT G.K F p ys ∧ Rs G F m xs ys
  | .fl xs, x => ∃ p ys, x = .ref p ∧ SqL G.K F p ys ∧ Rs G F m xs ys
  | .fd kvs, x => ∃ p ys, x = .ref p ∧ F p = some (.dK ys) ∧ (kvs.map (·.1)).Nodup ∧ Rk G F m kvs ys
  | .ob c fs, x => ∃ p dx ys, x = .ref p ∧ F p = some (.ins (G.ca c) dx ys) ∧ c ∈ G.cs ∧ Rf G F m fs ys
  | .fn c f, x => x = .ref (G.fa c f)
  | .cl c, x => x = .ref (G.ca c)
  | .ty t, x => x = .ty t
  | .rng _ _, _ => False
  | .enm _, _ => False
  | .zp _ _, _ => False
  | .its _, _ => False
def Rs (G : Gi) (F : Hp) (m : Mp) : List Vl → List V → Prop
  | [], ys => ys = []
  | x :: xs, ys => ∃ y zs, ys = y :: zs ∧ R G F m x y ∧ Rs G F m xs zs
def Rk (G : Gi) (F : Hp) (m : Mp) : List (Tx × Vl) → List (Key × V) → Prop
  | [], ys => ys = []
  | (k, x) :: xs, ys => ∃ y zs, ys = (.inr (ss k), y) :: zs ∧ sOk k ∧ R G F m x y ∧ Rk G F m xs zs
def Rf (G : Gi) (F : Hp) (m : Mp) : List (String × Vl) → List (Str × V) → Prop
  | [], ys => ys = []
  | (k, x) :: xs, ys => ∃ y zs, ys = (Str.ofString k, y) :: zs ∧ R G F m x y ∧ Rf G F m xs zs
end

def Le (F F' : Hp) : Prop := ∀ b o, F b = some o → F' b = some o
def Lm (m m' : Mp) : Prop := ∀ a p, m a = some p → m' a = some p
theorem Le.refl (F : Hp) : Le F F := fun _ _ h => h
theorem Lm.refl (m : Mp) : Lm m m := fun _ _ h => h
theorem Le.trans {F F' F'' : Hp} (a : Le F F') (b : Le F' F'') : Le F F'' := fun c o h => b c o (a c o h)
theorem Lm.trans {m m' m'' : Mp} (a : Lm m m') (b : Lm m' m'') : Lm m m'' := fun c o h => b c o (a c o h)
theorem Le.tup {K : PySem.W.Frag} {F F' : Hp} (l : Le F F') {p : Addr} {ys : List V} (h : SqT K F p ys) : SqT K F' p ys := by
  rcases h with (h | ⟨o, h⟩) | h
  · exact .inl (.inl (l _ _ h))
  · exact .inl (.inr ⟨o, l _ _ h⟩)
  · exact .inr h
theorem Le.lst {K : PySem.W.Frag} {F F' : Hp} (l : Le F F') {p : Addr} {ys : List V} (h : SqL K F p ys) : SqL K F' p ys := by
  rcases h with (h | ⟨o, h⟩) | h
  · exact .inl (.inl (l _ _ h))
  · exact .inl (.inr ⟨o, l _ _ h⟩)
  · exact .inr h

section
variable {G : Gi} {F F' : Hp} {m m' : Mp}
mutual
theorem R.mono (l : Le F F') (lm : Lm m m') : ∀ (v : Vl) (x : V), R G F m v x → R G F' m' v x
  | .non, x, h => h
  | .bl _, x, h => h
  | .int _, x, h => h
  | .str _, x, h => h
  | .byt _, x, h => h
  | .ref a, x, ⟨p, e, q⟩ => ⟨p, lm _ _ e, q⟩
  | .tup xs, x, ⟨p, ys, e, q, r⟩ => ⟨p, ys, e, l.tup q, Rs.mono l lm xs ys r⟩
  | .fl xs, x, ⟨p, ys, e, q, r⟩ => ⟨p, ys, e, l.lst q, Rs.mono l lm xs ys r⟩
  | .fd kvs, x, ⟨p, ys, e, q, n, r⟩ => ⟨p, ys, e, l _ _ q, n, Rk.mono l lm kvs ys r⟩
  | .ob c fs, x, ⟨p, dx, ys, e, q, c1, r⟩ => ⟨p, dx, ys, e, l _ _ q, c1, Rf.mono l lm fs ys r⟩
  | .fn _ _, x, h => h
  | .cl _, x, h => h
  | .ty _, x, h => h
  | .rng _ _, _, h => h
  | .enm _, _, h => h
  | .zp _ _, _, h => h
  | .its _, _, h => h
theorem Rs.mono (l : Le F F') (lm : Lm m m') : ∀ (v : List Vl) (x : List V), Rs G F m v x → Rs G F' m' v x
  | [], x, h => h
  | v :: vs, x, ⟨y, zs, e, r, rs⟩ => ⟨y, zs, e, R.mono l lm v y r, Rs.mono l lm vs zs rs⟩
theorem Rk.mono (l : Le F F') (lm : Lm m m') : ∀ (v : List (Tx × Vl)) (x : List (Key × V)), Rk G F m v x → Rk G F' m' v x
  | [], x, h => h
  | (k, v) :: vs, x, ⟨y, zs, e, o, r, rs⟩ => ⟨y, zs, e, o, R.mono l lm v y r, Rk.mono l lm vs zs rs⟩
theorem Rf.mono (l : Le F F') (lm : Lm m m') : ∀ (v : List (String × Vl)) (x : List (Str × V)), Rf G F m v x → Rf G F' m' v x
  | [], x, h => h
  | (k, v) :: vs, x, ⟨y, zs, e, r, rs⟩ => ⟨y, zs, e, R.mono l lm v y r, Rf.mono l lm vs zs rs⟩
end
theorem Rs.length : ∀ {v : List Vl} {x : List V}, Rs G F m v x → x.length = v.length
  | [], x, h => by
    have e : x = [] := h
    subst e
    rfl
  | v :: vs, x, ⟨y, zs, e, r, rs⟩ => by
    subst e
    rw [List.length_cons, List.length_cons, Rs.length rs]
theorem Rk.length : ∀ {v : List (Tx × Vl)} {x : List (Key × V)}, Rk G F m v x → x.length = v.length
  | [], x, h => by
    have e : x = [] := h
    subst e
    rfl
  | (k, v) :: vs, x, ⟨y, zs, e, o, r, rs⟩ => by
    subst e
    rw [List.length_cons, List.length_cons, Rk.length rs]
theorem Rf.length : ∀ {v : List (String × Vl)} {x : List (Str × V)}, Rf G F m v x → x.length = v.length
  | [], x, h => by
    have e : x = [] := h
    subst e
    rfl
  | (k, v) :: vs, x, ⟨y, zs, e, r, rs⟩ => by
    subst e
    rw [List.length_cons, List.length_cons, Rf.length rs]
theorem Rs.get : ∀ {v : List Vl} {x : List V} {i : Nat} {a : Vl}, Rs G F m v x → v[i]? = some a → ∃ y, x[i]? = some y ∧ R G F m a y
  | [], x, i, a, h, e => by simp at e
  | v :: vs, x, 0, a, ⟨y, zs, e, r, rs⟩, q => by
    subst e
    have q' : v = a := by simpa using q
    subst q'
    exact ⟨y, rfl, r⟩
  | v :: vs, x, i + 1, a, ⟨y, zs, e, r, rs⟩, q => by
    subst e
    obtain ⟨y', e', r'⟩ := Rs.get (i := i) rs (by simpa using q)
    exact ⟨y', by simpa using e', r'⟩
theorem Rs.append : ∀ {v : List Vl} {x : List V} {v' : List Vl} {x' : List V}, Rs G F m v x → Rs G F m v' x' → Rs G F m (v ++ v') (x ++ x')
  | [], x, _, _, h, h' => by
    have e : x = [] := h
    subst e
    exact h'
  | v :: vs, x, _, _, ⟨y, zs, e, r, rs⟩, h' => by
    subst e
    exact ⟨y, _, rfl, r, Rs.append rs h'⟩
theorem Rs.drop : ∀ {v : List Vl} {x : List V} (n : Nat), Rs G F m v x → Rs G F m (v.drop n) (x.drop n)
  | _, _, 0, h => by simpa using h
  | [], x, n + 1, h => by
    have e : x = [] := h
    subst e
    rfl
  | v :: vs, x, n + 1, ⟨y, zs, e, r, rs⟩ => by
    subst e
    exact Rs.drop n rs
theorem Rs.take : ∀ {v : List Vl} {x : List V} (n : Nat), Rs G F m v x → Rs G F m (v.take n) (x.take n)
  | _, _, 0, h => by
    rw [List.take_zero, List.take_zero]
    rfl
  | [], x, n + 1, h => by
    have e : x = [] := h
    subst e
    rfl
  | v :: vs, x, n + 1, ⟨y, zs, e, r, rs⟩ => by
    subst e
    exact ⟨y, _, rfl, r, Rs.take n rs⟩
theorem Rs.set : ∀ {v : List Vl} {x : List V} (i : Nat) {a : Vl} {b : V}, R G F m a b → Rs G F m v x → Rs G F m (v.set i a) (x.set i b)
  | [], x, _, _, _, _, h => by
    have e : x = [] := h
    subst e
    rfl
  | v :: vs, x, 0, _, _, ra, ⟨y, zs, e, r, rs⟩ => by
    subst e
    exact ⟨_, _, rfl, ra, rs⟩
  | v :: vs, x, i + 1, _, _, ra, ⟨y, zs, e, r, rs⟩ => by
    subst e
    exact ⟨_, _, rfl, r, Rs.set i ra rs⟩
theorem Rs.one {v : Vl} {x : V} (r : R G F m v x) : Rs G F m [v] [x] := ⟨x, [], rfl, r, rfl⟩

/-- what stands at a place -/
def RO (G : Gi) (F : Hp) (m : Mp) : Ob → Option HO → Prop
  | .dead, _ => True
  | .lst xs, o => ∃ ys, o = some (.lst ys) ∧ Rs G F m xs ys
  | .dct kvs, o => ∃ ys, o = some (.dK ys) ∧ (kvs.map (·.1)).Nodup ∧ Rk G F m kvs ys
  | .inst c fs, o => ∃ dx ys, o = some (.ins (G.ca c) dx ys) ∧ c ∈ G.cs ∧ Rf G F m fs ys
theorem RO.mono (l : Le F F') (lm : Lm m m') : ∀ (v : Ob) (x : Option HO), RO G F m v x → RO G F' m' v x
  | .dead, _, _ => trivial
  | .lst xs, _, ⟨ys, e, r⟩ => ⟨ys, e, Rs.mono l lm _ _ r⟩
  | .dct xs, _, ⟨ys, e, n, r⟩ => ⟨ys, e, n, Rk.mono l lm _ _ r⟩
  | .inst c fs, _, ⟨dx, ys, e, c1, r⟩ => ⟨dx, ys, e, c1, Rf.mono l lm _ _ r⟩

structure Rel (G : Gi) (m : Mp) (F : Hp) (h : Hm) (H : Hp) : Prop where
  sub : Le F H
  dom : ∀ a, h.length ≤ a → m a = none
  obj : ∀ a o, h[a]? = some o → o ≠ .dead → ∃ p, m a = some p ∧ F p = none ∧ RO G F m o (H p)
  inj : ∀ a b o o' p, h[a]? = some o → o ≠ .dead → h[b]? = some o' → o' ≠ .dead → m a = some p → m b = some p → a = b
end
end Mi
/-! MINI: steps of related states -/
namespace Mi
open PySem PySem.Spec L2
section
variable {G : Gi} {F F' : Hp} {m m' : Mp} {h h' : Hm} {H H' : Hp}

def Mp.add (m : Mp) (a : Nat) (p : Addr) : Mp := fun b => if b = a then some p else m b
theorem Mp.add_same (m : Mp) (a : Nat) (p : Addr) : m.add a p a = some p := if_pos rfl
theorem Mp.add_ne {m : Mp} {a b : Nat} {p : Addr} (h : b ≠ a) : m.add a p b = m b := if_neg h
theorem Lm.add {m : Mp} {a : Nat} {p : Addr} (h : m a = none) : Lm m (m.add a p) := fun b q e => by
  by_cases hb : b = a
  · subst hb
    rw [h] at e
    cases e
  · rw [Mp.add_ne hb]
    exact e
theorem Le.upd {F : Hp} {p : Addr} {o : HO} (h : F p = none) : Le F (upd F p o) := fun b q e => by
  rw [upd_ne (ne_of_none e h)]
  exact e
theorem Rel.free (r : Rel G m F h H) {p : Addr} (hp : H p = none) : F p = none := by
  cases e : F p with
  | none => rfl
  | some o =>
    rw [r.sub _ _ e] at hp
    cases hp
theorem RO.some_of : ∀ {o : Ob} {x : Option HO}, RO G F m o x → o ≠ .dead → x ≠ none
  | .dead, _, _, n => absurd rfl n
  | .lst _, _, ⟨_, e, _⟩, _ => by
    rw [e]
    exact fun z => nomatch z
  | .dct _, _, ⟨_, e, _⟩, _ => by
    rw [e]
    exact fun z => nomatch z
  | .inst _ _, _, ⟨_, _, e, _⟩, _ => by
    rw [e]
    exact fun z => nomatch z
theorem Rel.apart (r : Rel G m F h H) {p : Addr} (hp : H p = none) {a : Nat} {o : Ob} (e : h[a]? = some o) (n : o ≠ .dead) : m a ≠ some p := fun z => by
  obtain ⟨q, e1, _, e2⟩ := r.obj a o e n
  rw [z] at e1
  have e3 : p = q := Option.some.inj e1
  subst e3
  exact e2.some_of n hp
/-- the model's heap grows by what this one does not name -/
theorem Rel.grow (r : Rel G m F h H) {p : Addr} {u : HO} (hp : H p = none) : Rel G m F h (upd H p u) := by
  refine ⟨fun b o e => ?_, r.dom, fun a o e n => ?_, r.inj⟩
  · have z := r.sub b o e
    rw [upd_ne (ne_of_none z hp)]
    exact z
  · obtain ⟨q, e1, e2, e3⟩ := r.obj a o e n
    have hq : q ≠ p := fun z => r.apart hp e n (by rw [e1, z])
    exact ⟨q, e1, e2, by rw [upd_ne hq]; exact e3⟩
/-- something that never changes is laid down -/
theorem Rel.lay (r : Rel G m F h H) {p : Addr} {u : HO} (hp : H p = none) : Rel G m (upd F p u) h (upd H p u) := by
  have hf := r.free hp
  refine ⟨fun b o e => ?_, r.dom, fun a o e n => ?_, r.inj⟩
  · by_cases hb : b = p
    · subst hb
      rw [upd_same] at e ⊢
      exact e
    · rw [upd_ne hb] at e ⊢
      exact r.sub b o e
  · obtain ⟨q, e1, e2, e3⟩ := r.obj a o e n
    have hq : q ≠ p := fun z => r.apart hp e n (by rw [e1, z])
    exact ⟨q, e1, by rw [upd_ne hq]; exact e2, by rw [upd_ne hq]; exact RO.mono (Le.upd hf) (Lm.refl m) _ _ e3⟩
theorem get_new {α : Type} {l : List α} {x y : α} {a : Nat} (e : (l ++ [x])[a]? = some y) : (a < l.length ∧ l[a]? = some y) ∨ (a = l.length ∧ y = x) := by
  by_cases ha : a < l.length
  · rw [List.getElem?_append_left ha] at e
    exact .inl ⟨ha, e⟩
  · rw [List.getElem?_append_right (by omega)] at e
    by_cases hz : a - l.length = 0
    · rw [hz] at e
      exact .inr ⟨by omega, (Option.some.inj e).symm⟩
    · rw [List.getElem?_eq_none (by simp; omega)] at e
      cases e
/-- a new object; what it holds is of the elder ones -/
theorem Rel.new (r : Rel G m F h H) {p : Addr} {o : Ob} {u : HO} (hp : H p = none) (ro : RO G F m o (some u)) : Rel G (m.add h.length p) F (h ++ [o]) (upd H p u) := by
  have hm : m h.length = none := r.dom _ (Nat.le_refl _)
  have g := r.grow (u := u) hp
  refine ⟨g.sub, fun a ha => ?_, fun a o' e n => ?_, fun a b oa ob q ea na eb nb ma mb => ?_⟩
  · rw [List.length_append, List.length_singleton] at ha
    rw [Mp.add_ne (by omega)]
    exact r.dom a (by omega)
  · rcases get_new e with ⟨ha, e'⟩ | ⟨ha, e'⟩
    · obtain ⟨q, e1, e2, e3⟩ := g.obj a o' e' n
      exact ⟨q, by rw [Mp.add_ne (by omega)]; exact e1, e2, RO.mono (Le.refl F) (Lm.add hm) _ _ e3⟩
    · subst ha
      subst e'
      exact ⟨p, Mp.add_same _ _ _, r.free hp, by rw [upd_same]; exact RO.mono (Le.refl F) (Lm.add hm) _ _ ro⟩
  · rcases get_new ea with ⟨la, ea⟩ | ⟨la, ea⟩
    · rw [Mp.add_ne (by omega)] at ma
      rcases get_new eb with ⟨lb, eb⟩ | ⟨lb, eb⟩
      · rw [Mp.add_ne (by omega)] at mb
        exact r.inj a b oa ob q ea na eb nb ma mb
      · subst lb
        rw [Mp.add_same] at mb
        have e : p = q := Option.some.inj mb
        subst e
        exact absurd ma (r.apart hp ea na)
    · subst la
      rw [Mp.add_same] at ma
      have e : p = q := Option.some.inj ma
      subst e
      rcases get_new eb with ⟨lb, eb⟩ | ⟨lb, eb⟩
      · rw [Mp.add_ne (by omega)] at mb
        exact absurd mb (r.apart hp eb nb)
      · exact lb.symm
theorem get_set {α : Type} {l : List α} {a b : Nat} {x y : α} (e : (l.set a x)[b]? = some y) : (b = a ∧ y = x ∧ a < l.length) ∨ (b ≠ a ∧ l[b]? = some y) := by
  by_cases hb : a = b
  · subst hb
    by_cases ha : a < l.length
    · rw [List.getElem?_set_self ha] at e
      exact .inl ⟨rfl, (Option.some.inj e).symm, ha⟩
    · rw [List.getElem?_eq_none (by simp; omega)] at e
      cases e
  · rw [List.getElem?_set_ne hb] at e
    exact .inr ⟨fun z => hb z.symm, e⟩
/-- an object is changed -/
theorem Rel.put (r : Rel G m F h H) {a : Nat} {p : Addr} {o o' : Ob} {u : HO} (e : h[a]? = some o) (n : o ≠ .dead) (ma : m a = some p) (ro : RO G F m o' (some u)) : Rel G m F (h.set a o') (upd H p u) := by
  obtain ⟨q, e1, e2, e3⟩ := r.obj a o e n
  have hq : p = q := Option.some.inj (ma.symm.trans e1)
  subst hq
  refine ⟨fun b x ex => ?_, fun b hb => r.dom b (by simpa using hb), fun b x ex nx => ?_, fun b c x y q eb nb ec nc mb mc => ?_⟩
  · have hb : b ≠ p := fun z => by
      subst z
      rw [e2] at ex
      cases ex
    rw [upd_ne hb]
    exact r.sub b x ex
  · rcases get_set ex with ⟨hb, ex', _⟩ | ⟨hb, ex⟩
    · subst hb
      subst ex'
      exact ⟨p, ma, e2, by rw [upd_same]; exact ro⟩
    · obtain ⟨q, z1, z2, z3⟩ := r.obj b x ex nx
      have hq : q ≠ p := fun z => hb (r.inj b a x o p ex nx e n (by rw [z1, z]) ma)
      exact ⟨q, z1, z2, by rw [upd_ne hq]; exact z3⟩
  · have eb' : ∃ x', h[b]? = some x' ∧ x' ≠ .dead := by
      rcases get_set eb with ⟨hb, _, _⟩ | ⟨_, eb⟩
      · exact ⟨o, by rw [hb]; exact e, n⟩
      · exact ⟨x, eb, nb⟩
    have ec' : ∃ x', h[c]? = some x' ∧ x' ≠ .dead := by
      rcases get_set ec with ⟨hb, _, _⟩ | ⟨_, ec⟩
      · exact ⟨o, by rw [hb]; exact e, n⟩
      · exact ⟨y, ec, nc⟩
    obtain ⟨x', eb', nb'⟩ := eb'
    obtain ⟨y', ec', nc'⟩ := ec'
    exact r.inj b c x' y' q eb' nb' ec' nc' mb mc
/-- an object will never change again: it is frozen -/
theorem Rel.freeze (r : Rel G m F h H) {a : Nat} {p : Addr} {o : Ob} {u : HO} (e : h[a]? = some o) (n : o ≠ .dead) (ma : m a = some p) (hu : H p = some u) : Rel G m (upd F p u) (h.set a .dead) H := by
  obtain ⟨q, e1, e2, e3⟩ := r.obj a o e n
  have hq : p = q := Option.some.inj (ma.symm.trans e1)
  subst hq
  refine ⟨fun b x ex => ?_, fun b hb => r.dom b (by simpa using hb), fun b x ex nx => ?_, fun b c x y q eb nb ec nc mb mc => ?_⟩
  · by_cases hb : b = p
    · subst hb
      rw [upd_same] at ex
      rw [hu]
      exact ex
    · rw [upd_ne hb] at ex
      exact r.sub b x ex
  · rcases get_set ex with ⟨hb, ex, _⟩ | ⟨hb, ex⟩
    · exact absurd ex nx
    · obtain ⟨q, z1, z2, z3⟩ := r.obj b x ex nx
      have hq : q ≠ p := fun z => hb (r.inj b a x o p ex nx e n (by rw [z1, z]) ma)
      exact ⟨q, z1, by rw [upd_ne hq]; exact z2, RO.mono (Le.upd e2) (Lm.refl m) _ _ z3⟩
  · rcases get_set eb with ⟨hb, z, _⟩ | ⟨_, eb⟩
    · exact absurd z nb
    · rcases get_set ec with ⟨hc, z, _⟩ | ⟨_, ec⟩
      · exact absurd z nc
      · exact r.inj b c x y q eb nb ec nc mb mc

/-! ### readings -/
/-- what is wanted of a result -/
def Wp {α β : Type} (G : Gi) (rel : Hp → Mp → α → β → Prop) (m : Mp) (F : Hp) (r : Res α) (Q : β → Hp → Prop) : Prop := match r with
  | .ok v h' => ∀ m' F' H' x, Lm m m' → Le F F' → Rel G m' F' h' H' → rel F' m' v x → Q x H'
  | _ => False
abbrev WpV (G : Gi) (m : Mp) (F : Hp) (r : Res Vl) (Q : VK) : Prop := Wp G (R G) m F r Q
abbrev WpL (G : Gi) (m : Mp) (F : Hp) (r : Res (List Vl)) (Q : List V → Hp → Prop) : Prop := Wp G (Rs G) m F r Q
theorem Wp.bind {α β γ : Type} {rel : Hp → Mp → α → β → Prop} {r : Res γ} {f : γ → Hm → Res α} {Q : β → Hp → Prop} (w : Wp G rel m F (r.bind f) Q) : ∃ a h, r = .ok a h ∧ Wp G rel m F (f a h) Q := by
  cases r with
  | ok a h => exact ⟨a, h, rfl, w⟩
  | exc c fs h => exact False.elim w
  | bad => exact False.elim w
theorem Wp.mono {α β : Type} {rel : Hp → Mp → α → β → Prop} {r : Res α} {Q : β → Hp → Prop} (w : Wp G rel m F r Q) (lm : Lm m m') (l : Le F F') : Wp G rel m' F' r Q := by
  cases r with
  | ok a h => exact fun m2 F2 H2 x a b => w m2 F2 H2 x (lm.trans a) (l.trans b)
  | exc c fs h => exact False.elim w
  | bad => exact False.elim w
theorem Wp.here {α β : Type} {rel : Hp → Mp → α → β → Prop} {v : α} {x : β} {Q : β → Hp → Prop} (w : Wp G rel m F (.ok v h) Q) (r : Rel G m F h H) (q : rel F m v x) : Q x H := w m F H x (Lm.refl m) (Le.refl F) r q
theorem Wp.imp {α β : Type} {rel : Hp → Mp → α → β → Prop} {r : Res α} {Q Q' : β → Hp → Prop} (w : Wp G rel m F r Q) (i : ∀ x H, Q x H → Q' x H) : Wp G rel m F r Q' := by
  cases r with
  | ok a h => exact fun m2 F2 H2 x a b c d => i _ _ (w m2 F2 H2 x a b c d)
  | exc c fs h => exact False.elim w
  | bad => exact False.elim w
/-- a new list, dict .. -/
theorem Wp.new {o : Ob} {u : HO} {p : Addr} {Q : VK} (w : WpV G m F (new o h) Q) (r : Rel G m F h H) (hp : H p = none) (ro : RO G F m o (some u)) : Q (.ref p) (upd H p u) :=
  w (m.add h.length p) F _ _ (Lm.add (r.dom _ (Nat.le_refl _))) (Le.refl F) (r.new hp ro) ⟨p, Mp.add_same _ _ _, rfl⟩
/-- a new tuple -/
theorem Wp.tup {xs : List Vl} {ys : List V} {p : Addr} {Q : VK} (w : WpV G m F (.ok (.tup xs) h) Q) (r : Rel G m F h H) (hp : H p = none) (rs : Rs G F m xs ys) : Q (.ref p) (upd H p (.tup ys)) :=
  w m (upd F p (.tup ys)) _ _ (Lm.refl m) (Le.upd (r.free hp)) (r.lay hp) ⟨p, ys, rfl, .inl (.inl upd_same), Rs.mono (Le.upd (r.free hp)) (Lm.refl m) _ _ rs⟩

/-- the names' values -/
def RE (G : Gi) (F : Hp) (m : Mp) : Rho → St → Prop
  | [], t => t = []
  | none :: r, t => ∃ y t', t = y :: t' ∧ RE G F m r t'
  | some v :: r, t => ∃ x t', t = some x :: t' ∧ R G F m v x ∧ RE G F m r t'
theorem RE.mono (l : Le F F') (lm : Lm m m') : ∀ (r : Rho) (t : St), RE G F m r t → RE G F' m' r t
  | [], t, h => h
  | none :: r, t, ⟨y, t', e, q⟩ => ⟨y, t', e, RE.mono l lm r t' q⟩
  | some v :: r, t, ⟨x, t', e, p, q⟩ => ⟨x, t', e, R.mono l lm _ _ p, RE.mono l lm r t' q⟩
theorem RE.get : ∀ {r : Rho} {t : St} {i : Nat} {v : Vl}, RE G F m r t → r[i]? = some (some v) → ∃ x, t[i]? = some (some x) ∧ R G F m v x
  | [], t, i, v, h, e => by simp at e
  | none :: r, t, 0, v, h, e => by simp at e
  | none :: r, t, i + 1, v, ⟨y, t', e1, q⟩, e => by
    subst e1
    obtain ⟨x, e2, q2⟩ := RE.get (i := i) q (by simpa using e)
    exact ⟨x, by simpa using e2, q2⟩
  | some w :: r, t, 0, v, ⟨x, t', e1, p, q⟩, e => by
    subst e1
    have e2 : w = v := by simpa using e
    subst e2
    exact ⟨x, rfl, p⟩
  | some w :: r, t, i + 1, v, ⟨x, t', e1, p, q⟩, e => by
    subst e1
    obtain ⟨x, e2, q2⟩ := RE.get (i := i) q (by simpa using e)
    exact ⟨x, by simpa using e2, q2⟩
theorem RE.set : ∀ {r : Rho} {t : St} (i : Nat) {v : Vl} {x : V}, RE G F m r t → R G F m v x → RE G F m (r.set i (some v)) (t.set i (some x))
  | [], t, i, v, x, h, q => by
    have e : t = [] := h
    subst e
    rfl
  | none :: r, t, 0, v, x, ⟨y, t', e1, q⟩, p => by
    subst e1
    exact ⟨x, t', rfl, p, q⟩
  | none :: r, t, i + 1, v, x, ⟨y, t', e1, q⟩, p => by
    subst e1
    exact ⟨y, _, rfl, RE.set i q p⟩
  | some w :: r, t, 0, v, x, ⟨y, t', e1, p', q⟩, p => by
    subst e1
    exact ⟨x, t', rfl, p, q⟩
  | some w :: r, t, i + 1, v, x, ⟨y, t', e1, p', q⟩, p => by
    subst e1
    exact ⟨y, _, rfl, p', RE.set i q p⟩
theorem RE.unset : ∀ {r : Rho} {t : St} (i : Nat), RE G F m r t → RE G F m (r.set i none) (t.set i none)
  | [], t, i, h => by
    have e : t = [] := h
    subst e
    rfl
  | none :: r, t, 0, ⟨y, t', e1, q⟩ => by
    subst e1
    exact ⟨_, t', rfl, q⟩
  | none :: r, t, i + 1, ⟨y, t', e1, q⟩ => by
    subst e1
    exact ⟨y, _, rfl, RE.unset i q⟩
  | some w :: r, t, 0, ⟨y, t', e1, p', q⟩ => by
    subst e1
    exact ⟨_, t', rfl, q⟩
  | some w :: r, t, i + 1, ⟨y, t', e1, p', q⟩ => by
    subst e1
    exact ⟨y, _, rfl, p', RE.unset i q⟩
theorem RE.wipe {r : Rho} {t : St} (h : RE G F m r t) : ∀ vs : List Nat, RE G F m (Mi.wipe r vs) (L2.wipe t vs)
  | [] => h
  | v :: vs => RE.unset v (RE.wipe h vs)
theorem RE.start {vs : List Vl} {xs : List V} (n : Nat) (N : List Str) (hn : N.length = n) (h : Rs G F m vs xs) : RE G F m (Mi.start n vs) (L2.start N xs) := by
  have hl := h.length
  unfold Mi.start L2.start
  rw [hn, hl]
  generalize n - vs.length = k
  clear hn hl
  induction vs generalizing xs with
  | nil =>
    have e : xs = [] := h
    subst e
    rw [List.map_nil, List.map_nil, List.nil_append, List.nil_append]
    induction k with
    | zero => rfl
    | succ k ih => exact ⟨Option.none, _, rfl, ih⟩
  | cons v vs ih =>
    obtain ⟨y, zs, e, r, rs⟩ := h
    subst e
    exact ⟨y, _, rfl, r, ih rs⟩

/-- the reading of an expression that MINI evaluates -/
def tM (G : Gi) (f : Rho → Hm → Res Vl) : TE := fun σ H Q => ∃ m F h r, Rel G m F h H ∧ RE G F m r σ ∧ WpV G m F (f r h) Q
def tMs (G : Gi) (f : Rho → Hm → Res (List Vl)) : TA := fun σ H Q => ∃ m F h r, Rel G m F h H ∧ RE G F m r σ ∧ WpL G m F (f r h) Q
/-- .. of a test: the value is a truth -/
def tMt (G : Gi) (f : Rho → Hm → Res Vl) : TT := fun σ H Q => ∃ m F h r, Rel G m F h H ∧ RE G F m r σ ∧ WpV G m F (f r h) fun x H' => ∃ b, x = .bl b ∧ Q b H'
/-- .. of an operation upon values -/
def rM2 (G : Gi) (f : Vl → Vl → Hm → Res Vl) : R2 := fun x y H Q => ∃ m F h v w, Rel G m F h H ∧ R G F m v x ∧ R G F m w y ∧ WpV G m F (f v w h) Q
def rM1 (G : Gi) (f : Vl → Hm → Res Vl) : V → Hp → VK → Prop := fun x H Q => ∃ m F h v, Rel G m F h H ∧ R G F m v x ∧ WpV G m F (f v h) Q
def rMs (G : Gi) (f : List Vl → Hm → Res Vl) : List V → Hp → VK → Prop := fun xs H Q => ∃ m F h vs, Rel G m F h H ∧ Rs G F m vs xs ∧ WpV G m F (f vs h) Q
end

section
variable {X : Cx} {G : Gi}
theorem PE.weak {e : Expr} {t t' : TE} (h : PE X e t) (i : ∀ σ H Q, t' σ H Q → t σ H Q) : PE X e t' := ⟨fun pins s σ H Q I q => h.run pins s σ H Q I (i σ H Q q)⟩
theorem PT.weak {e : Expr} {t t' : TT} (h : PT X e t) (i : ∀ σ H Q, t' σ H Q → t σ H Q) : PT X e t' := ⟨fun pins s σ H Q I q => h.run pins s σ H Q I (i σ H Q q)⟩
theorem PA.weak {e : List Expr} {t t' : TA} (h : PA X e t) (i : ∀ σ H Q, t' σ H Q → t σ H Q) : PA X e t' := ⟨fun p pins s σ H Q I q => h.run p pins s σ H Q I (i σ H Q q)⟩

/-- an expression, then what is done with its value -/
theorem tM_bind {f : Rho → Hm → Res Vl} {g : Rho → Vl → Hm → Res Vl} {σ : St} {H : Hp} {Q : VK} {k : V → Hp → Prop} (w : tM G (fun r h => (f r h).bind (g r)) σ H Q)
    (hk : ∀ m F h r v x H', Rel G m F h H' → RE G F m r σ → R G F m v x → WpV G m F (g r v h) Q → k x H') : tM G f σ H k := by
  obtain ⟨m, F, h, r, rl, re, w⟩ := w
  obtain ⟨v, h1, e, w⟩ := w.bind
  refine ⟨m, F, h, r, rl, re, ?_⟩
  rw [e]
  exact fun m' F' H' x lm l rl' rx => hk m' F' h1 r v x H' rl' (RE.mono l lm _ _ re) rx (w.mono lm l)
theorem tMs_bind {f : Rho → Hm → Res (List Vl)} {g : Rho → List Vl → Hm → Res Vl} {σ : St} {H : Hp} {Q : VK} {k : List V → Hp → Prop} (w : tM G (fun r h => (f r h).bind (g r)) σ H Q)
    (hk : ∀ m F h r vs xs H', Rel G m F h H' → RE G F m r σ → Rs G F m vs xs → WpV G m F (g r vs h) Q → k xs H') : tMs G f σ H k := by
  obtain ⟨m, F, h, r, rl, re, w⟩ := w
  obtain ⟨v, h1, e, w⟩ := w.bind
  refine ⟨m, F, h, r, rl, re, ?_⟩
  rw [e]
  exact fun m' F' H' x lm l rl' rx => hk m' F' h1 r v x H' rl' (RE.mono l lm _ _ re) rx (w.mono lm l)
end
end Mi
/-! MINI: operators -/
namespace Mi
open PySem PySem.Spec L2
section
variable {G : Gi} {F : Hp} {m : Mp} {h : Hm} {H : Hp} {v : Vl} {x : V}
theorem liv_ok (r : Rel G m F h H) (q : R G F m v x) {xs : List Vl} (e : livOf h v = some xs) : ∃ a p ys, v = .ref a ∧ x = .ref p ∧ m a = some p ∧ h[a]? = some (.lst xs) ∧ H p = some (.lst ys) ∧ Rs G F m xs ys := by
  unfold livOf at e
  split at e
  · rename_i a
    obtain ⟨p, e1, e2⟩ := q
    split at e
    · rename_i ys e3
      have e4 : ys = xs := Option.some.inj e
      subst e4
      obtain ⟨p', z1, z2, ys', z3, z4⟩ := r.obj a _ e3 (fun z => nomatch z)
      have e5 : p = p' := Option.some.inj (e1.symm.trans z1)
      subst e5
      exact ⟨a, p, ys', rfl, e2, e1, e3, z3, z4⟩
    · cases e
  · cases e
theorem lst_ok (r : Rel G m F h H) (q : R G F m v x) {xs : List Vl} (e : lstOf h v = some xs) : ∃ p ys, x = .ref p ∧ SqL G.K H p ys ∧ Rs G F m xs ys := by
  unfold lstOf at e
  split at e
  · obtain ⟨p, ys, e1, e2, e3⟩ := q
    have e4 := Option.some.inj e
    subst e4
    exact ⟨p, ys, e1, r.sub.lst e2, e3⟩
  · obtain ⟨a, p, ys, _, e2, _, _, e3, e4⟩ := liv_ok (xs := xs) r q e
    exact ⟨p, ys, e2, .inl (.inl e3), e4⟩
  · cases e
theorem seq_ok (r : Rel G m F h H) (q : R G F m v x) {xs : List Vl} (e : seqOf h v = some xs) : ∃ p ys, x = .ref p ∧ (SqL G.K H p ys ∨ SqT G.K H p ys) ∧ Rs G F m xs ys := by
  unfold seqOf at e
  split at e
  · obtain ⟨p, ys, e1, e2, e3⟩ := q
    have e4 := Option.some.inj e
    subst e4
    exact ⟨p, ys, e1, .inr (r.sub.tup e2), e3⟩
  · obtain ⟨p, ys, e1, e2, e3⟩ := q
    have e4 := Option.some.inj e
    subst e4
    exact ⟨p, ys, e1, .inl (r.sub.lst e2), e3⟩
  · obtain ⟨a, p, ys, _, e2, _, _, e3, e4⟩ := liv_ok (xs := xs) r q e
    exact ⟨p, ys, e2, .inl (.inl (.inl e3)), e4⟩
  · cases e
theorem dct_ok (r : Rel G m F h H) (q : R G F m v x) {kvs : List (Tx × Vl)} (e : dctOf h v = some kvs) : ∃ p ys, x = .ref p ∧ H p = some (.dK ys) ∧ Rk G F m kvs ys := by
  unfold dctOf at e
  split at e
  · obtain ⟨p, ys, e1, e2, _, e3⟩ := q
    have e4 := Option.some.inj e
    subst e4
    exact ⟨p, ys, e1, r.sub _ _ e2, e3⟩
  · rename_i a
    obtain ⟨p, e1, e2⟩ := q
    split at e
    · rename_i ys e3
      have e4 := Option.some.inj e
      subst e4
      obtain ⟨p', z1, z2, ys', z3, _, z4⟩ := r.obj a _ e3 (fun z => nomatch z)
      have e5 : p = p' := Option.some.inj (e1.symm.trans z1)
      subst e5
      exact ⟨p, ys', e2, z3, z4⟩
    · cases e
  · cases e
theorem obj_ok (r : Rel G m F h H) (q : R G F m v x) {c : String} {fs : List (String × Vl)} (e : objOf h v = some (c, fs)) : ∃ p dx ys, x = .ref p ∧ H p = some (.ins (G.ca c) dx ys) ∧ c ∈ G.cs ∧ Rf G F m fs ys := by
  unfold objOf at e
  split at e
  · obtain ⟨p, dx, ys, e1, e2, e0, e3⟩ := q
    have e4 := Option.some.inj e
    cases e4
    exact ⟨p, dx, ys, e1, r.sub _ _ e2, e0, e3⟩
  · rename_i a
    obtain ⟨p, e1, e2⟩ := q
    split at e
    · rename_i c' fs' e3
      have e4 := Option.some.inj e
      cases e4
      obtain ⟨p', z1, z2, dx, ys', z3, z0, z4⟩ := r.obj a _ e3 (fun z => nomatch z)
      have e5 : p = p' := Option.some.inj (e1.symm.trans z1)
      subst e5
      exact ⟨p, dx, ys', e2, z3, z0, z4⟩
    · cases e
  · cases e

/-! ### truth -/
theorem tru_M (r : Rel G m F h H) (q : R G F m v x) {b : Bool} (e : tru h v = some b) : TruV G.K x H b := by
  unfold tru at e
  split at e
  · have q : x = .non := q
    subst q
    exact (Option.some.inj e).symm
  · have q : x = .bl _ := q
    subst q
    exact (Option.some.inj e).symm
  · have q : x = .int _ := q
    subst q
    exact (Option.some.inj e).symm
  · rename_i s
    obtain ⟨q, _⟩ := q
    subst q
    split at e
    · rename_i hl
      have e := Option.some.inj e
      subst e
      refine ⟨by rw [ss_len]; exact hl, ?_⟩
      rw [ss_len]
      cases s with
      | nil => rfl
      | cons a s =>
        simp only [List.length_cons]
        symm
        simp
        omega
    · cases e
  · split at e
    · rename_i xs e1
      have e := Option.some.inj e
      subst e
      obtain ⟨p, ys, rfl, e2, e3⟩ := seq_ok r q e1
      have e4 : ys.isEmpty = xs.isEmpty := by
        have := e3.length
        cases ys <;> cases xs <;> first | rfl | (simp at this)
      rcases e2 with e2 | e2
      · exact .inl ⟨ys, e2, by rw [e4]⟩
      · exact .inr (.inl ⟨ys, e2, by rw [e4]⟩)
    · split at e
      · rename_i kvs e1
        have e := Option.some.inj e
        subst e
        obtain ⟨p, ys, rfl, e2, e3⟩ := dct_ok r q e1
        have e4 : ys.isEmpty = kvs.isEmpty := by
          have := e3.length
          cases ys <;> cases kvs <;> first | rfl | (simp at this)
        exact .inr (.inr ⟨ys, e2, by rw [e4]⟩)
      · cases e

/-! ### data -/
mutual
def dt : Vl → PyData
  | .non => .none
  | .bl b => .bool b
  | .int i => .int i
  | .str s => .str (ss s)
  | .tup xs => .tuple (dts xs)
  | _ => .none
def dts : List Vl → List PyData
  | [] => []
  | x :: xs => dt x :: dts xs
end
mutual
theorem dt_ok (r : Rel G m F h H) : ∀ (v : Vl) (x : V), pur v = true → R G F m v x → Dp G.K H x (dt v)
  | .non, x, _, q => by
    have q : x = .non := q
    subst q
    exact .non
  | .bl b, x, _, q => by
    have q : x = .bl _ := q
    subst q
    exact .bl b
  | .int i, x, _, q => by
    have q : x = .int _ := q
    subst q
    exact .int i
  | .str s, x, _, q => by
    obtain ⟨q, _⟩ := q
    subst q
    exact .str _
  | .tup xs, x, hp, ⟨p, ys, e, q, rs⟩ => by
    subst e
    exact .tup (r.sub.tup q) (dts_ok r xs ys (by simpa [pur] using hp) rs)
  | .byt _, _, hp, _ => by simp [pur] at hp
  | .ref _, _, hp, _ => by simp [pur] at hp
  | .fl _, _, hp, _ => by simp [pur] at hp
  | .fd _, _, hp, _ => by simp [pur] at hp
  | .ob _ _, _, hp, _ => by simp [pur] at hp
  | .fn _ _, _, hp, _ => by simp [pur] at hp
  | .cl _, _, hp, _ => by simp [pur] at hp
  | .ty _, _, hp, _ => by simp [pur] at hp
  | .rng _ _, _, hp, _ => by simp [pur] at hp
  | .enm _, _, hp, _ => by simp [pur] at hp
  | .zp _ _, _, hp, _ => by simp [pur] at hp
  | .its _, _, hp, _ => by simp [pur] at hp
theorem dts_ok (r : Rel G m F h H) : ∀ (vs : List Vl) (xs : List V), purs vs = true → Rs G F m vs xs → DpAll G.K H xs (dts vs)
  | [], xs, _, q => by
    have q : xs = [] := q
    subst q
    exact .nil
  | v :: vs, xs, hp, ⟨y, zs, e, rv, rs⟩ => by
    subst e
    have hp' : pur v = true ∧ purs vs = true := by simpa [purs] using hp
    exact .cons (dt_ok r v y hp'.1 rv) (dts_ok r vs zs hp'.2 rs)
end
mutual
theorem lay_ok : ∀ (v : Vl) (x : V), R G F m v x → (dt v).canLay0 = true
  | .non, _, _ => rfl
  | .bl b, _, _ => rfl
  | .int i, _, _ => rfl
  | .str s, _, ⟨_, q⟩ => by
    unfold dt PyData.canLay0
    show (ss s).cps.all (· < 0x110000) = true
    unfold ss
    rw [List.all_toArray, List.all_eq_true]
    exact fun c hc => decide_eq_true (q c hc)
  | .tup xs, _, ⟨_, ys, _, _, rs⟩ => by
    unfold dt PyData.canLay0
    exact lays_ok xs ys rs
  | .byt _, _, _ => rfl
  | .ref _, _, _ => rfl
  | .fl _, _, _ => rfl
  | .fd _, _, _ => rfl
  | .ob _ _, _, _ => rfl
  | .fn _ _, _, _ => rfl
  | .cl _, _, _ => rfl
  | .ty _, _, _ => rfl
  | .rng _ _, _, _ => rfl
  | .enm _, _, _ => rfl
  | .zp _ _, _, _ => rfl
  | .its _, _, _ => rfl
theorem lays_ok : ∀ (vs : List Vl) (xs : List V), Rs G F m vs xs → PyData.canLayAll0 (dts vs) = true
  | [], _, _ => rfl
  | v :: vs, _, ⟨y, zs, _, rv, rs⟩ => by
    unfold dts PyData.canLayAll0
    rw [lay_ok v y rv, lays_ok vs zs rs]
    rfl
end
mutual
theorem dep_ok : ∀ v : Vl, (dt v).depth = dep v
  | .non => rfl
  | .bl b => rfl
  | .int i => rfl
  | .str s => rfl
  | .tup xs => by
    unfold dt PyData.depth dep
    rw [deps_ok xs]
  | .byt _ => rfl
  | .ref _ => rfl
  | .fl _ => rfl
  | .fd _ => rfl
  | .ob _ _ => rfl
  | .fn _ _ => rfl
  | .cl _ => rfl
  | .ty _ => rfl
  | .rng _ _ => rfl
  | .enm _ => rfl
  | .zp _ _ => rfl
  | .its _ => rfl
theorem deps_ok : ∀ vs : List Vl, PyData.depthAll (dts vs) = deps vs
  | [] => rfl
  | v :: vs => by
    unfold dts PyData.depthAll deps
    rw [dep_ok v, deps_ok vs]
end
theorem ss_beq (s t : Tx) : (ss s == ss t) = (s == t) := by
  by_cases e : s = t
  · subst e
    simp
  · have e2 : ss s ≠ ss t := fun z => e (ss_inj z)
    rw [beq_eq_false_iff_ne.mpr e2, beq_eq_false_iff_ne.mpr e]
mutual
theorem eqD_ok : ∀ v w : Vl, pur v = true → pur w = true → PyData.eqv (dt v) (dt w) = eqD v w
  | .non, w, _, hw => by cases w <;> first | rfl | (simp [pur] at hw)
  | .bl a, w, _, hw => by cases w <;> first | rfl | (simp [pur] at hw)
  | .int i, w, _, hw => by cases w <;> first | rfl | (simp [pur] at hw)
  | .str s, w, _, hw => by
    cases w <;> first | rfl | (simp [pur] at hw; done) | skip
    rename_i t
    show (ss s == ss t) = (s == t)
    exact ss_beq s t
  | .tup xs, w, hv, hw => by
    cases w <;> first | rfl | (simp [pur] at hw; done) | skip
    rename_i ys
    exact eqDs_ok xs ys (by simpa [pur] using hv) (by simpa [pur] using hw)
  | .byt _, _, hp, _ => by simp [pur] at hp
  | .ref _, _, hp, _ => by simp [pur] at hp
  | .fl _, _, hp, _ => by simp [pur] at hp
  | .fd _, _, hp, _ => by simp [pur] at hp
  | .ob _ _, _, hp, _ => by simp [pur] at hp
  | .fn _ _, _, hp, _ => by simp [pur] at hp
  | .cl _, _, hp, _ => by simp [pur] at hp
  | .ty _, _, hp, _ => by simp [pur] at hp
  | .rng _ _, _, hp, _ => by simp [pur] at hp
  | .enm _, _, hp, _ => by simp [pur] at hp
  | .zp _ _, _, hp, _ => by simp [pur] at hp
  | .its _, _, hp, _ => by simp [pur] at hp
theorem eqDs_ok : ∀ vs ws : List Vl, purs vs = true → purs ws = true → PyData.eqvAll (dts vs) (dts ws) = eqDs vs ws
  | [], [], _, _ => rfl
  | [], _ :: _, _, _ => rfl
  | _ :: _, [], _, _ => rfl
  | v :: vs, w :: ws, hv, hw => by
    have hv' : pur v = true ∧ purs vs = true := by simpa [purs] using hv
    have hw' : pur w = true ∧ purs ws = true := by simpa [purs] using hw
    unfold dts PyData.eqvAll eqDs
    rw [eqD_ok v w hv'.1 hw'.1, eqDs_ok vs ws hv'.2 hw'.2]
end
/-- what == looks at -/
theorem eqV_ok (r : Rel G m F h H) {w : Vl} {y : V} (qv : R G F m v x) (qw : R G F m w y) {b : Bool} (e : eqV h v w = some b) :
    ∃ d d', Dp G.K H x d ∧ Dp G.K H y d' ∧ SeqAt.shaped d = true ∧ SeqAt.shaped d' = true ∧ PyData.eqv d d' = b := by
  have sv : ∀ (v : Vl) (x : V), R G F m v x → dep v ≤ 60 → SeqAt.shaped (dt v) = true := fun v x q d => by
    unfold SeqAt.shaped
    rw [lay_ok v x q, dep_ok, Bool.true_and]
    exact decide_eq_true (by omega)
  have sl : ∀ (vs : List Vl) (xs : List V), Rs G F m vs xs → deps vs ≤ 60 → SeqAt.shaped (.list (dts vs)) = true := fun v x q d => by
    unfold SeqAt.shaped PyData.canLay0
    rw [lays_ok v x q, Bool.true_and]
    refine decide_eq_true ?_
    unfold PyData.depth
    rw [deps_ok]
    omega
  unfold eqV at e
  split at e
  · split at e
    · rename_i hc
      simp only [Bool.and_eq_true, decide_eq_true_eq] at hc
      obtain ⟨⟨⟨h1, h2⟩, h3⟩, h4⟩ := hc
      exact ⟨_, _, dt_ok r v x h1 qv, dt_ok r w y h2 qw, sv v x qv h3, sv w y qw h4, by rw [eqD_ok v w h1 h2]; exact Option.some.inj e⟩
    · cases e
  · rename_i xs ys e1 e2
    split at e
    · rename_i hc
      simp only [Bool.and_eq_true, decide_eq_true_eq] at hc
      obtain ⟨⟨⟨h1, h2⟩, h3⟩, h4⟩ := hc
      obtain ⟨p, zs, rfl, z1, z2⟩ := lst_ok r qv e1
      obtain ⟨p', zs', rfl, z1', z2'⟩ := lst_ok r qw e2
      refine ⟨_, _, .lst z1 (dts_ok r _ _ h1 z2), .lst z1' (dts_ok r _ _ h2 z2'), sl _ _ z2 h3, sl _ _ z2' h4, ?_⟩
      unfold PyData.eqv
      rw [eqDs_ok xs ys h1 h2]
      exact Option.some.inj e
    · cases e
  · rename_i xs e1 e2
    split at e
    · rename_i hc
      simp only [Bool.and_eq_true, decide_eq_true_eq] at hc
      obtain ⟨⟨⟨h1, h2⟩, h3⟩, h4⟩ := hc
      obtain ⟨p, zs, rfl, z1, z2⟩ := lst_ok r qv e1
      refine ⟨_, _, .lst z1 (dts_ok r _ _ h1 z2), dt_ok r w y h2 qw, sl _ _ z2 h3, sv w y qw h4, ?_⟩
      rw [← Option.some.inj e]
      cases w <;> first | rfl | (simp [pur] at h2)
    · cases e
  · rename_i ys e1 e2
    split at e
    · rename_i hc
      simp only [Bool.and_eq_true, decide_eq_true_eq] at hc
      obtain ⟨⟨⟨h1, h2⟩, h3⟩, h4⟩ := hc
      obtain ⟨p, zs, rfl, z1, z2⟩ := lst_ok r qw e2
      refine ⟨_, _, dt_ok r v x h2 qv, .lst z1 (dts_ok r _ _ h1 z2), sv v x qv h4, sl _ _ z2 h3, ?_⟩
      rw [← Option.some.inj e]
      cases v <;> first | rfl | (simp [pur] at h2)
    · cases e
end

/-! ### operators -/
section
variable {X : Cx} {G : Gi}
theorem lim_eq : sizeLine = LIM := rfl
theorem ss_append (s t : Tx) : ss s ++ ss t = ss (s ++ t) := by
  show Str.append _ _ = _
  unfold Str.append ss
  simp
theorem sOk.append {s t : Tx} (a : sOk s) (b : sOk t) : sOk (s ++ t) := fun c hc => (List.mem_append.mp hc).elim (a c) (b c)
theorem bin_add (hK : X.K = G.K) : OpR X (binaryOp .Add) (rM2 G addV) := by
  intro pins s σ H x y v u Q I rx ry hq
  obtain ⟨m, F, hh, a, b, rl, ra, rb, w⟩ := hq
  unfold addV at w
  split at w
  · exact op_add pins s σ H x y v u Q I rx ry ⟨_, _, ra, rb, w.here rl rfl⟩
  · split at w
    · rename_i s1 t1 hl
      obtain ⟨ra, oa⟩ := ra
      obtain ⟨rb, ob⟩ := rb
      refine op_add_str pins s σ H x y v u Q I rx ry ⟨_, _, ra, rb, by rw [ss_len, ss_len]; exact hl, ?_⟩
      rw [ss_append]
      exact w.here rl ⟨rfl, oa.append ob⟩
    · exact False.elim w
  · split at w
    · rename_i xs ys hl
      obtain ⟨p, zs, rfl, q, r1⟩ := ra
      obtain ⟨p', zs', rfl, q', r2⟩ := rb
      refine op_catA pins s σ H _ _ v u Q I rx ry ⟨p, p', zs, zs', rfl, rfl, by rw [hK]; exact rl.sub.tup q, by rw [hK]; exact rl.sub.tup q', by rw [r1.length, r2.length]; exact hl, ?_, ?_, ?_⟩
      · intro e
        subst e
        have e1 : xs = [] := by
          have := r1.length
          cases xs with
          | nil => rfl
          | cons a l => simp at this
        subst e1
        exact w.here rl ⟨p', zs', rfl, q', r2⟩
      · intro _ e
        subst e
        have e1 : ys = [] := by
          have := r2.length
          cases ys with
          | nil => rfl
          | cons a l => simp at this
        subst e1
        rw [List.append_nil] at w
        exact w.here rl ⟨p, zs, rfl, q, r1⟩
      · intro _ _ l nl
        exact w.tup rl nl (r1.append r2)
    · exact False.elim w
  · split at w
    · rename_i xs ys e1 e2
      split at w
      · rename_i hl
        obtain ⟨_, p, zs, _, rfl, _, _, hp, r1⟩ := liv_ok rl ra e1
        obtain ⟨_, p', zs', _, rfl, _, _, hp', r2⟩ := liv_ok rl rb e2
        exact op_cat pins s σ H _ _ v u Q I rx ry ⟨p, p', zs, zs', rfl, rfl, hp, hp', by rw [r1.length, r2.length]; exact hl, fun l nl => w.new rl nl ⟨_, rfl, r1.append r2⟩⟩
      · exact False.elim w
    · exact False.elim w
theorem bin_sub : OpR X (binaryOp .Sub) (rM2 G minV) := by
  intro pins s σ H x y v u Q I rx ry hq
  obtain ⟨m, F, hh, a, b, rl, ra, rb, w⟩ := hq
  unfold minV at w
  split at w
  · exact op_sub pins s σ H x y v u Q I rx ry ⟨_, _, ra, rb, w.here rl rfl⟩
  · exact False.elim w
theorem mulOk_of {i j : Int} (h : mulOk i j = true) : PySem.IntMulOk i j := by
  unfold mulOk at h
  simp only [Bool.or_eq_true, Bool.and_eq_true, decide_eq_true_eq] at h
  rcases h with (h | h) | ⟨h1, h2⟩
  · exact CMul.ok (.inl (by omega))
  · exact CMul.ok (.inr (by omega))
  · exact CMulW.ok (wide_mul h1 h2 (by decide) (by decide) (by decide))
theorem bin_mul : OpR X (binaryOp .Mult) (rM2 G mulV) := by
  intro pins s σ H x y v u Q I rx ry hq
  obtain ⟨m, F, hh, a, b, rl, ra, rb, w⟩ := hq
  unfold mulV at w
  split at w
  · split at w
    · rename_i i j hm
      exact opI (C := fun i j => PySem.IntMulOk i j) (g := fun i j => i * j) (fun _ _ _ _ _ _ _ hc q => PyProof.Rows.mul_int q hc) pins s σ H x y v u Q I rx ry ⟨_, _, ra, rb, mulOk_of hm, w.here rl rfl⟩
    · exact False.elim w
  · split at w
    · rename_i k hne _ xs e1
      split at w
      · rename_i hl
        obtain ⟨_, p, zs, _, rfl, _, _, hp, r1⟩ := liv_ok rl ra e1
        have rr : ∀ n : Nat, Rs G F m (List.replicate n xs).flatten (List.replicate n zs).flatten := fun n => by
          induction n with
          | zero => rfl
          | succ n ih =>
            rw [List.replicate_succ, List.replicate_succ, List.flatten_cons, List.flatten_cons]
            exact r1.append ih
        exact op_rep pins s σ H _ _ v u Q I rx ry ⟨p, k, zs, rfl, rb, hp, hl.1, hl.2.1, by rw [r1.length]; exact hl.2.2, fun l nl => w.new rl nl ⟨_, rfl, rr _⟩⟩
      · exact False.elim w
    · exact False.elim w
  · exact False.elim w
theorem bin_fdiv : OpR X (binaryOp .FloorDiv) (rM2 G fdvV) := by
  intro pins s σ H x y v u Q I rx ry hq
  obtain ⟨m, F, hh, a, b, rl, ra, rb, w⟩ := hq
  unfold fdvV at w
  split at w
  · split at w
    · rename_i hl
      exact op_fdiv pins s σ H x y v u Q I rx ry ⟨_, _, ra, rb, hl, w.here rl rfl⟩
    · exact False.elim w
  · exact False.elim w
theorem bin_mod : OpR X (binaryOp .Mod) (rM2 G modV) := by
  intro pins s σ H x y v u Q I rx ry hq
  obtain ⟨m, F, hh, a, b, rl, ra, rb, w⟩ := hq
  unfold modV at w
  split at w
  · split at w
    · rename_i hl
      exact op_mod pins s σ H x y v u Q I rx ry ⟨_, _, ra, rb, hl, w.here rl rfl⟩
    · exact False.elim w
  · exact False.elim w
theorem powBits {i : Int} (h : i.natAbs < 2 ^ 4000) : Builtin.Int.intBits i ≤ 4000 := by
  have := PySem.Flt.log2_lt_of (by decide) h
  unfold Builtin.Int.intBits
  split <;> omega
theorem bin_pow : OpR X (binaryOp .Pow) (rM2 G powV) := by
  intro pins s σ H x y v u Q I rx ry hq
  obtain ⟨m, F, hh, a, b, rl, ra, rb, w⟩ := hq
  unfold powV at w
  split at w
  · split at w
    · rename_i i j hl
      refine opI (C := fun i j => 0 ≤ j ∧ (Builtin.Int.intBits i : Int) * j ≤ 2 ^ 27) (g := fun i j => i ^ j.toNat) (fun _ _ _ _ _ _ _ hc q => PyProof.Rows.pow_int hc.1 hc.2 q) pins s σ H x y v u Q I rx ry ⟨_, _, ra, rb, ⟨hl.1, ?_⟩, w.here rl rfl⟩
      have h1 := powBits hl.2.2
      have h2 := hl.1
      have h3 := hl.2.1
      have h4 : (Builtin.Int.intBits i : Int) * j ≤ 4000 * 64 := Int.mul_le_mul (by omega) h3 h2 (by decide)
      exact Int.le_trans h4 (by decide)
    · exact False.elim w
  · exact False.elim w
/-- the model's operator of ours -/
def opB : Bop → Operator
  | .add => .Add
  | .sub => .Sub
  | .mul => .Mult
  | .fdiv => .FloorDiv
  | .mod => .Mod
  | .pow => .Pow
theorem bin_ok (hK : X.K = G.K) : ∀ op : Bop, OpR X (binaryOp (opB op)) (rM2 G (binop op))
  | .add => bin_add hK
  | .sub => bin_sub
  | .mul => bin_mul
  | .fdiv => bin_fdiv
  | .mod => bin_mod
  | .pow => bin_pow

/-! ### comparisons -/
theorem bres_ok {o : Option Bool} {h h' : Hm} {v : Vl} (e : bres o h = .ok v h') : ∃ b, o = some b ∧ v = .bl b ∧ h' = h := by
  unfold bres at e
  split at e
  · cases e
    exact ⟨_, rfl, rfl, rfl⟩
  · cases e
theorem bres_wp {o : Option Bool} {h : Hm} {m : Mp} {F H : Hp} {Q : VK} (w : WpV G m F (bres o h) Q) (rl : Rel G m F h H) : ∃ b, o = some b ∧ Q (.bl b) H := by
  unfold bres at w
  split at w
  · exact ⟨_, rfl, w.here rl rfl⟩
  · exact False.elim w
theorem cmp_eq (hK : X.K = G.K) (hu : X.A.units + 64 < cLine) : OpR X (compareOp .Eq) (rM2 G (cmpop .eq)) := by
  intro pins s σ H x y v u Q I rx ry hq
  obtain ⟨m, F, hh, a, b, rl, ra, rb, w⟩ := hq
  obtain ⟨k, e, q⟩ := bres_wp w rl
  obtain ⟨d, d', h1, h2, h3, h4, h5⟩ := eqV_ok rl ra rb e
  exact op_eqD hu pins s σ H x y v u Q I rx ry ⟨d, d', by rw [hK]; exact h1, by rw [hK]; exact h2, h3, h4, by rw [h5]; exact q⟩
theorem cmp_ne (hK : X.K = G.K) (hu : X.A.units + 64 < cLine) : OpR X (compareOp .NotEq) (rM2 G (cmpop .ne)) := by
  intro pins s σ H x y v u Q I rx ry hq
  obtain ⟨m, F, hh, a, b, rl, ra, rb, w⟩ := hq
  obtain ⟨k, e, q⟩ := bres_wp w rl
  obtain ⟨k', e', rfl⟩ := Option.map_eq_some_iff.mp e
  obtain ⟨d, d', h1, h2, h3, h4, h5⟩ := eqV_ok rl ra rb e'
  exact op_neD hu pins s σ H x y v u Q I rx ry ⟨d, d', by rw [hK]; exact h1, by rw [hK]; exact h2, h3, h4, by rw [h5]; exact q⟩
theorem cmp_lt : OpR X (compareOp .Lt) (rM2 G (cmpop .lt)) := by
  intro pins s σ H x y v u Q I rx ry hq
  obtain ⟨m, F, hh, a, b, rl, ra, rb, w⟩ := hq
  have w : WpV G m F (ltV a b hh) Q := w
  unfold ltV at w
  split at w
  · exact op_lt pins s σ H x y v u Q I rx ry ⟨_, _, ra, rb, w.here rl rfl⟩
  · exact op_lt_str pins s σ H x y v u Q I rx ry ⟨_, _, ra.1, rb.1, by rw [ss_list, ss_list]; exact w.here rl rfl⟩
  · exact False.elim w
theorem cmp_le : OpR X (compareOp .LtE) (rM2 G (cmpop .le)) := by
  intro pins s σ H x y v u Q I rx ry hq
  obtain ⟨m, F, hh, a, b, rl, ra, rb, w⟩ := hq
  have w : WpV G m F (leV a b hh) Q := w
  unfold leV at w
  split at w
  · exact op_le pins s σ H x y v u Q I rx ry ⟨_, _, ra, rb, w.here rl rfl⟩
  · exact op_le_str pins s σ H x y v u Q I rx ry ⟨_, _, ra.1, rb.1, by rw [ss_list, ss_list]; exact w.here rl rfl⟩
  · exact False.elim w
theorem cmp_gt : OpR X (compareOp .Gt) (rM2 G (cmpop .gt)) := by
  intro pins s σ H x y v u Q I rx ry hq
  obtain ⟨m, F, hh, a, b, rl, ra, rb, w⟩ := hq
  have w : WpV G m F (ltV b a hh) Q := w
  unfold ltV at w
  split at w
  · exact op_gt pins s σ H x y v u Q I rx ry ⟨_, _, ra, rb, w.here rl rfl⟩
  · exact op_gt_str pins s σ H x y v u Q I rx ry ⟨_, _, ra.1, rb.1, by rw [ss_list, ss_list]; exact w.here rl rfl⟩
  · exact False.elim w
theorem cmp_ge : OpR X (compareOp .GtE) (rM2 G (cmpop .ge)) := by
  intro pins s σ H x y v u Q I rx ry hq
  obtain ⟨m, F, hh, a, b, rl, ra, rb, w⟩ := hq
  have w : WpV G m F (leV b a hh) Q := w
  unfold leV at w
  split at w
  · exact op_ge pins s σ H x y v u Q I rx ry ⟨_, _, ra, rb, w.here rl rfl⟩
  · exact op_ge_str pins s σ H x y v u Q I rx ry ⟨_, _, ra.1, rb.1, by rw [ss_list, ss_list]; exact w.here rl rfl⟩
  · exact False.elim w
theorem R.isN {F : Hp} {m : Mp} {a : Vl} {x : V} (r : R G F m a x) : decide (x = .non) = isNon a := by
  cases a with
  | non =>
    have e : x = .non := r
    subst e
    rfl
  | bl b =>
    have e : x = .bl b := r
    subst e
    rfl
  | int b =>
    have e : x = .int b := r
    subst e
    rfl
  | str b =>
    obtain ⟨e, _⟩ := r
    subst e
    rfl
  | byt b => exact False.elim r
  | ref b =>
    obtain ⟨p, _, e⟩ := r
    subst e
    rfl
  | tup b =>
    obtain ⟨p, _, e, _⟩ := r
    subst e
    rfl
  | fl b =>
    obtain ⟨p, _, e, _⟩ := r
    subst e
    rfl
  | fd b =>
    obtain ⟨p, _, e, _⟩ := r
    subst e
    rfl
  | ob c b =>
    obtain ⟨p, _, _, e, _⟩ := r
    subst e
    rfl
  | fn c b =>
    have e : x = .ref _ := r
    subst e
    rfl
  | cl c =>
    have e : x = .ref _ := r
    subst e
    rfl
  | ty c =>
    have e : x = .ty _ := r
    subst e
    rfl
  | rng b c => exact False.elim r
  | enm b => exact False.elim r
  | zp b c => exact False.elim r
  | its b => exact False.elim r
theorem cmp_is : OpR X (compareOp .Is) (rM2 G (cmpop .is)) := by
  intro pins s σ H x y v u Q I rx ry hq
  obtain ⟨m, F, hh, a, b, rl, ra, rb, w⟩ := hq
  have w : WpV G m F (isV a b hh) Q := w
  unfold isV at w
  split at w
  · exact op_isN pins s σ H x y v u Q I rx ry ⟨rb, by rw [ra.isN]; exact w.here rl rfl⟩
  · exact False.elim w
theorem cmp_isnot : OpR X (compareOp .IsNot) (rM2 G (cmpop .isnot)) := by
  intro pins s σ H x y v u Q I rx ry hq
  obtain ⟨m, F, hh, a, b, rl, ra, rb, w⟩ := hq
  have w : WpV G m F (isnotV a b hh) Q := w
  unfold isnotV at w
  split at w
  · exact op_notN pins s σ H x y v u Q I rx ry ⟨rb, by rw [ra.isN]; exact w.here rl rfl⟩
  · exact False.elim w
theorem flat_ok {F : Hp} {m : Mp} {v : Vl} {x : V} (r : R G F m v x) (h : flat v = true) : flatV x = true := by
  cases v with
  | non =>
    have e : x = .non := r
    subst e
    rfl
  | bl _ =>
    have e : x = .bl _ := r
    subst e
    rfl
  | int _ =>
    have e : x = .int _ := r
    subst e
    rfl
  | str _ =>
    obtain ⟨e, _⟩ := r
    subst e
    rfl
  | _ => cases h
theorem flats_ok {F : Hp} {m : Mp} : ∀ {vs : List Vl} {xs : List V}, Rs G F m vs xs → vs.all flat = true → xs.all flatV = true
  | [], xs, r, _ => by
    have e : xs = [] := r
    subst e
    rfl
  | v :: vs, xs, ⟨y, zs, e, r, rs⟩, h => by
    subst e
    rw [List.all_cons, Bool.and_eq_true] at h
    rw [List.all_cons, flat_ok r h.1, flats_ok rs h.2]
    rfl
theorem eqF_ok {F : Hp} {m : Mp} {v w : Vl} {x y : V} (r : R G F m v x) (q : R G F m w y) (hv : flat v = true) (hw : flat w = true) : L2.eqV x y = eqD v w := by
  cases v <;> simp [flat] at hv <;> cases w <;> simp [flat] at hw
  all_goals first
    | (obtain ⟨r1, _⟩ := r; obtain ⟨q1, _⟩ := q; subst r1; subst q1; first | rfl | exact ss_beq _ _)
    | (obtain ⟨r1, _⟩ := r; have q1 := (show y = _ from q); subst r1; subst q1; rfl)
    | (have r1 := (show x = _ from r); obtain ⟨q1, _⟩ := q; subst r1; subst q1; rfl)
    | (have r1 := (show x = _ from r); have q1 := (show y = _ from q); subst r1; subst q1; rfl)
theorem anyF_ok {F : Hp} {m : Mp} {w : Vl} {y : V} (q : R G F m w y) (hw : flat w = true) : ∀ {vs : List Vl} {xs : List V}, Rs G F m vs xs → vs.all flat = true → L2.inV y xs = vs.any fun z => eqD z w
  | [], xs, r, _ => by
    have e : xs = [] := r
    subst e
    rfl
  | v :: vs, xs, ⟨x, zs, e, r, rs⟩, h => by
    subst e
    rw [List.all_cons, Bool.and_eq_true] at h
    have ih := anyF_ok q hw rs h.2
    unfold L2.inV at ih ⊢
    rw [List.any_cons, List.any_cons, ih, eqF_ok r q h.1 hw]
theorem getK_ok {F : Hp} {m : Mp} (k : Tx) : ∀ {kvs : List (Tx × Vl)} {ys : List (Key × V)}, Rk G F m kvs ys → match getK kvs k with
    | some v => ∃ x, valV ys (Sum.inr (ss k)) = some x ∧ R G F m v x
    | none => valV ys (Sum.inr (ss k)) = none
  | [], ys, r => by
    have e : ys = [] := r
    subst e
    rfl
  | (k', v) :: kvs, ys, ⟨x, zs, e, o, r, rs⟩ => by
    subst e
    have ih := getK_ok k rs
    unfold getK at ih ⊢
    rw [List.lookup_cons]
    unfold valV at ih ⊢
    rw [List.find?_cons]
    have e1 : decide ((Sum.inr (ss k') : Key) = Sum.inr (ss k)) = (k == k') := by
      by_cases e : k = k'
      · subst e
        simp
      · have e2 : (Sum.inr (ss k') : Key) ≠ Sum.inr (ss k) := fun z => e (ss_inj (Sum.inr.inj z)).symm
        rw [decide_eq_false e2, beq_eq_false_iff_ne.mpr e]
    show match (match k == k' with | true => some v | false => List.lookup k kvs) with
      | some v => ∃ x_1, Option.map (fun x => x.snd) (match decide ((Sum.inr (ss k') : Key) = Sum.inr (ss k)) with | true => some (Sum.inr (ss k'), x) | false => List.find? (fun kv => decide (kv.fst = Sum.inr (ss k))) zs) = some x_1 ∧ R G F m v x_1
      | none => Option.map (fun x => x.snd) (match decide ((Sum.inr (ss k') : Key) = Sum.inr (ss k)) with | true => some (Sum.inr (ss k'), x) | false => List.find? (fun kv => decide (kv.fst = Sum.inr (ss k))) zs) = none
    rw [e1]
    cases k == k' with
    | true => exact ⟨x, rfl, r⟩
    | false => exact ih
theorem inV_in (hK : X.K = G.K) (hu : X.A.units + 64 < cLine) (neg : Bool) {op : CmpOp} (hop : op = if neg then .NotIn else .In) : OpR X (compareOp op) (rM2 G fun x y h => bres ((inV h x y).map fun b => if neg then !b else b) h) := by
  intro pins s σ H x y v u Q I rx ry hq
  obtain ⟨m, F, hh, a, b, rl, ra, rb, w⟩ := hq
  obtain ⟨k, e, q⟩ := bres_wp w rl
  obtain ⟨k', e', rfl⟩ := Option.map_eq_some_iff.mp e
  unfold inV at e'
  split at e'
  · split at e'
    · rename_i t _ c
      have e' := Option.some.inj e'
      subst e'
      obtain ⟨ra, _⟩ := ra
      obtain ⟨rb, _⟩ := rb
      cases neg with
      | true =>
        subst hop
        exact op_notIn_sign pins s σ H x y v u Q I rx ry ⟨c, ss t, ra, rb, by rw [ss_list]; exact q⟩
      | false =>
        subst hop
        exact op_in_sign pins s σ H x y v u Q I rx ry ⟨c, ss t, ra, rb, by rw [ss_list]; exact q⟩
    · cases e'
  · split at e'
    · rename_i ys e1
      split at e'
      · rename_i hc
        simp only [Bool.and_eq_true] at hc
        have e' := Option.some.inj e'
        subst e'
        obtain ⟨p, zs, rfl, z1, z2⟩ := seq_ok rl rb e1
        have e2 := anyF_ok ra hc.1 z2 hc.2
        cases neg with
        | true =>
          subst hop
          exact op_notIn_seq pins s σ H x _ v u Q I rx ry ⟨p, zs, rfl, by rw [hK]; exact z1, flat_ok ra hc.1, flats_ok z2 hc.2, by rw [e2]; exact q⟩
        | false =>
          subst hop
          exact op_in_seq pins s σ H x _ v u Q I rx ry ⟨p, zs, rfl, by rw [hK]; exact z1, flat_ok ra hc.1, flats_ok z2 hc.2, by rw [e2]; exact q⟩
      · cases e'
    · split at e'
      · rename_i kvs e1
        split at e'
        · rename_i kk
          have e' := Option.some.inj e'
          subst e'
          obtain ⟨ra, _⟩ := ra
          subst ra
          obtain ⟨p, zs, rfl, z1, z2⟩ := dct_ok rl rb e1
          have g := getK_ok kk z2
          have es : (valV zs (Sum.inr (ss kk))).isSome = (getK kvs kk).isSome := by
            cases hg : getK kvs kk with
            | none =>
              rw [hg] at g
              rw [g]
              rfl
            | some v0 =>
              rw [hg] at g
              obtain ⟨x0, g, _⟩ := g
              rw [g]
              rfl
          obtain rfl : u = Value.ref p := ry
          have dg : DGet H p (.str (ss kk)) (valV zs (Sum.inr (ss kk))) := DGet.k (k := Sum.inr (ss kk)) z1
          cases neg with
          | true =>
            subst hop
            exact d_notIn (by omega) I dg rx fun s3 I3 => ⟨.bl _, H, I3, rfl, by rw [es]; exact q⟩
          | false =>
            subst hop
            exact d_in (by omega) I dg rx fun s3 I3 => ⟨.bl _, H, I3, rfl, by rw [es]; exact q⟩
        · cases e'
      · cases e'
theorem map_id' {o : Option Bool} : (o.map fun b => if false then !b else b) = o := by cases o <;> rfl
theorem cmp_in (hK : X.K = G.K) (hu : X.A.units + 64 < cLine) : OpR X (compareOp .In) (rM2 G (cmpop .isin)) := by
  have h := inV_in (X := X) (G := G) hK hu false rfl
  have e : (fun (x y : Vl) (h : Hm) => bres ((inV h x y).map fun b => if false = true then !b else b) h) = cmpop .isin := by
    funext x y h
    show bres _ h = bres _ h
    cases inV h x y <;> rfl
  rw [e] at h
  exact h
theorem cmp_notin (hK : X.K = G.K) (hu : X.A.units + 64 < cLine) : OpR X (compareOp .NotIn) (rM2 G (cmpop .notin)) := inV_in (X := X) (G := G) hK hu true rfl
def opC : Cop → CmpOp
  | .eq => .Eq
  | .ne => .NotEq
  | .lt => .Lt
  | .le => .LtE
  | .gt => .Gt
  | .ge => .GtE
  | .isin => .In
  | .notin => .NotIn
  | .is => .Is
  | .isnot => .IsNot
theorem cmp_ok (hK : X.K = G.K) (hu : X.A.units + 64 < cLine) : ∀ op : Cop, OpR X (compareOp (opC op)) (rM2 G (cmpop op))
  | .eq => cmp_eq hK hu
  | .ne => cmp_ne hK hu
  | .lt => cmp_lt
  | .le => cmp_le
  | .gt => cmp_gt
  | .ge => cmp_ge
  | .isin => cmp_in hK hu
  | .notin => cmp_notin hK hu
  | .is => cmp_is
  | .isnot => cmp_isnot
theorem cmp_bl {op : Cop} {x y v : Vl} {h h' : Hm} (e : cmpop op x y h = .ok v h') : ∃ b, v = .bl b ∧ h' = h := by
  have hb : ∀ o : Option Bool, bres o h = .ok v h' → ∃ b, v = .bl b ∧ h' = h := fun o e => by
    obtain ⟨b, _, e1, e2⟩ := bres_ok e
    exact ⟨b, e1, e2⟩
  have hl : ∀ x y, ltV x y h = .ok v h' → ∃ b, v = .bl b ∧ h' = h := fun x y e => by
    unfold ltV at e
    split at e <;> cases e <;> exact ⟨_, rfl, rfl⟩
  have hle : ∀ x y, leV x y h = .ok v h' → ∃ b, v = .bl b ∧ h' = h := fun x y e => by
    unfold leV at e
    split at e <;> cases e <;> exact ⟨_, rfl, rfl⟩
  cases op with
  | eq => exact hb _ e
  | ne => exact hb _ e
  | lt => exact hl _ _ e
  | le => exact hle _ _ e
  | gt => exact hl _ _ e
  | ge => exact hle _ _ e
  | isin => exact hb _ e
  | notin => exact hb _ e
  | is =>
    have e : isV x y h = .ok v h' := e
    unfold isV at e
    split at e <;> cases e <;> exact ⟨_, rfl, rfl⟩
  | isnot =>
    have e : isnotV x y h = .ok v h' := e
    unfold isnotV at e
    split at e <;> cases e <;> exact ⟨_, rfl, rfl⟩
end
end Mi
/-! MINI: expressions -/
namespace Mi
open PySem PySem.Spec L2

/-- an expression, as a value and as a test -/
structure SE (X : Cx) (G : Gi) (C : Cs) (e : Expr) (x : Ex) : Prop where
  v : PE X e (tM G fun r h => evM C x false r h)
  t : PT X e (tMt G fun r h => evM C x true r h)
/-- a test that is its value's truth -/
def plainT (e : Expr) : Prop := ∀ (env : PySem.Env) (whole : Sem Value), PySem.isTrue e env whole = (do let v ← whole; standAt e.pos; holding [v] (truthy v))
def plainB : Expr → Bool
  | .UnaryOp .Not _ _ => false
  | .BoolOp .. => false
  | .IfExp .. => false
  | .Compare .. => false
  | _ => true
theorem plainT_of {e : Expr} (h : plainB e = true) : plainT e := fun env whole => by
  cases e <;> first | rfl | (cases h; done) | skip
  rename_i op a pos
  cases op <;> first | rfl | cases h

section
variable {X : Cx} {G : Gi} {C : Cs} {e a b c : Expr} {x y z : Ex} {pos : Pos}
theorem tMt_bind {f : Rho → Hm → Res Vl} {g : Rho → Vl → Hm → Res Vl} {σ : L2.St} {H : Hp} {Q : Bool → Hp → Prop} {k : V → Hp → Prop} (w : tMt G (fun r h => (f r h).bind (g r)) σ H Q)
    (hk : ∀ m F h r v x H', Rel G m F h H' → RE G F m r σ → R G F m v x → (WpV G m F (g r v h) fun x H' => ∃ b, x = .bl b ∧ Q b H') → k x H') : tM G f σ H k := tM_bind w hk
/-- a test's own parts -/
theorem tMt_test {f : Rho → Hm → Res Vl} {g : Rho → Vl → Hm → Res Vl} {σ : L2.St} {H : Hp} {Q : VK} {k : Bool → Hp → Prop} (w : tM G (fun r h => (f r h).bind (g r)) σ H Q)
    (hb : ∀ r v h, g r v h ≠ .bad → ∃ b, v = .bl b)
    (hk : ∀ m F h r b H', Rel G m F h H' → RE G F m r σ → WpV G m F (g r (.bl b) h) Q → k b H') : tMt G f σ H k := by
  obtain ⟨m, F, h, r, rl, re, w⟩ := w
  obtain ⟨v, h1, e, w⟩ := w.bind
  obtain ⟨b, rfl⟩ := hb r v h1 (fun z => by
    rw [z] at w
    exact w)
  refine ⟨m, F, h, r, rl, re, ?_⟩
  rw [e]
  refine fun m' F' H' x lm l rl' rx => ⟨b, rx, ?_⟩
  exact hk m' F' h1 r b H' rl' (RE.mono l lm _ _ re) (w.mono lm l)
theorem pt_of {f : Rho → Hm → Res Vl} (hK : X.K = G.K) (he : plainT e) (p : PE X e (tM G f)) : PT X e (tMt G fun r h => asT true (f r h)) := by
  refine PT.weak (pt_truth p (he _)) fun σ H Q w => ?_
  refine tMt_bind (g := fun r v h => match tru h v with
    | some b => .ok (.bl b) h
    | none => .bad) w fun m F h r v x H' rl re rx w => ?_
  split at w
  · rename_i b e1
    obtain ⟨b', e2, q⟩ := w.here rl (show R G F m (.bl b) (.bl b) from rfl)
    cases e2
    exact ⟨b, by rw [hK]; exact tru_M rl rx e1, q⟩
  · exact False.elim w
theorem SE.of {f : Rho → Hm → Res Vl} (hK : X.K = G.K) (he : plainT e) (hx : ∀ m r h, evM C x m r h = asT m (f r h)) (p : PE X e (tM G f)) : SE X G C e x := by
  refine ⟨?_, ?_⟩
  · have e1 : (fun r h => evM C x false r h) = f := by
      funext r h
      rw [hx]
      rfl
    rw [e1]
    exact p
  · have e1 : (fun r h => evM C x true r h) = fun r h => asT true (f r h) := by
      funext r h
      exact hx true r h
    rw [e1]
    exact pt_of hK he p
/-- .. of one whose value is a truth: in a test it is looked at as it is -/
theorem SE.ofB {f : Rho → Hm → Res Vl} (hx : ∀ m r h, evM C x m r h = asT m (f r h)) (hb : ∀ r h v h', f r h = .ok v h' → ∃ b, v = .bl b) (p : PE X e (tM G f)) (q : PT X e (tMt G f)) : SE X G C e x := by
  refine ⟨?_, ?_⟩
  · have e1 : (fun r h => evM C x false r h) = f := by
      funext r h
      rw [hx]
      rfl
    rw [e1]
    exact p
  · have e1 : (fun r h => evM C x true r h) = f := by
      funext r h
      rw [hx]
      unfold asT
      rw [if_pos rfl]
      cases ef : f r h with
      | ok v h' =>
        obtain ⟨b, rfl⟩ := hb r h v h' ef
        rfl
      | exc c fs h' => rfl
      | bad => rfl
    rw [e1]
    exact q

/-! ### names, constants -/
theorem se_var (hK : X.K = G.K) {i : Nat} {n : Str} (hN : X.N[i]? = some n) (hv : Vis X.env.scope n) (hd : (n == ("__debug__" : Str)) = false) (hcd : (n == ("__classdict__" : Str)) = false) : SE X G C (.Name n pos) (.var i) := by
  refine SE.of hK (plainT_of rfl) (fun m r h => by rw [evM]) (PE.weak (pe_var hN hv hd hcd) fun σ H Q w => ?_)
  obtain ⟨m, F, h, r, rl, re, w⟩ := w
  dsimp only at w
  split at w
  · rename_i v e
    obtain ⟨x, e1, rx⟩ := re.get e
    exact ⟨x, e1, w.here rl rx⟩
  · exact False.elim w
def m0 : Mp := fun _ => none
def F0 : Hp := fun _ => none
/-- a value that stands for itself at every heap -/
theorem se_cst (hK : X.K = G.K) {v : Vl} {x : V} (he : plainT e) (p : PE X e (tC x)) (r : R G F0 m0 v x) : SE X G C e (.cst v) := by
  refine SE.of hK he (fun m r h => by rw [evM]) (PE.weak p fun σ H Q w => ?_)
  obtain ⟨m, F, h, _, rl, re, w⟩ := w
  exact w.here rl (R.mono (fun _ _ e => by cases e) (fun _ _ e => by cases e) _ _ r)

/-! ### argument lists -/
def SA (X : Cx) (G : Gi) (C : Cs) (es : List Expr) (xs : List Ex) : Prop := PA X es (tMs G fun r h => evs C xs r h)
def noStar : Expr → Bool
  | .Starred .. => false
  | _ => true
theorem star_of {e : Expr} {es : List Expr} {env : PySem.Env} (h : noStar e = true) : starEach (e :: es) env = (false, eval e env) :: starEach es env := by
  cases e <;> first | rfl | cases h
theorem sa_nil : SA X G C [] [] := PA.weak pa_nil fun σ H Q w => by
  obtain ⟨m, F, h, r, rl, re, w⟩ := w
  dsimp only at w
  rw [evs] at w
  exact w.here rl rfl
theorem sa_cons {es : List Expr} {xs : List Ex} (h : SE X G C e x) (hs : noStar e = true) (hr : SA X G C es xs) : SA X G C (e :: es) (x :: xs) := by
  refine PA.weak (pa_cons h.v hr (star_of hs)) fun σ H Q w => ?_
  obtain ⟨m, F, hh, r, rl, re, w⟩ := w
  dsimp only at w
  rw [evs] at w
  obtain ⟨v, h1, e1, w⟩ := w.bind
  refine ⟨m, F, hh, r, rl, re, ?_⟩
  dsimp only
  rw [e1]
  intro m' F' H' y lm l rl' ry
  obtain ⟨vs, h2, e2, w⟩ := Wp.bind (w.mono lm l)
  refine ⟨m', F', h1, r, rl', RE.mono l lm _ _ re, ?_⟩
  dsimp only
  rw [e2]
  exact fun m2 F2 H2 ys lm2 l2 rl2 rys => w m2 F2 H2 _ lm2 l2 rl2 ⟨y, ys, rfl, R.mono l2 lm2 _ _ ry, rys⟩
theorem tMs_use {xs : List Ex} {g : List Vl → Hm → Res Vl} {σ : L2.St} {H : Hp} {Q : VK} {k : List V → Hp → Prop} (w : tM G (fun r h => (evs C xs r h).bind g) σ H Q)
    (hk : ∀ m F h vs ys H', Rel G m F h H' → Rs G F m vs ys → WpV G m F (g vs h) Q → k ys H') : tMs G (fun r h => evs C xs r h) σ H k := tMs_bind w fun m F h r vs ys H' rl _ rs w => hk m F h vs ys H' rl rs w

/-! ### displays -/
theorem se_tup (hK : X.K = G.K) {es : List Expr} {xs : List Ex} {k : Nat} (hs : SA X G C es xs) : SE X G C (.Tuple es k pos) (.tupE xs) := by
  refine SE.of hK (plainT_of rfl) (fun m r h => by rw [evM]) (PE.weak (pe_tup hs) fun σ H Q w => ?_)
  refine tMs_use w fun m F h vs ys H' rl rs w => ?_
  split at w
  · rename_i hl
    exact ⟨by rw [rs.length]; exact hl, fun p hp => w.tup rl hp rs⟩
  · exact False.elim w
theorem se_lst (hK : X.K = G.K) {es : List Expr} {xs : List Ex} (hs : SA X G C es xs) : SE X G C (.List es pos) (.lstE xs) := by
  refine SE.of hK (plainT_of rfl) (fun m r h => by rw [evM]) (PE.weak (pe_lst hs) fun σ H Q w => ?_)
  refine tMs_use w fun m F h vs ys H' rl rs w => ?_
  split at w
  · rename_i hl
    exact ⟨by rw [rs.length]; exact hl, fun p hp => w.new rl hp ⟨_, rfl, rs⟩⟩
  · exact False.elim w

/-! ### operators -/
theorem tM_two {f g : Rho → Hm → Res Vl} {k : Vl → Vl → Hm → Res Vl} {r2 : R2} {σ : L2.St} {H : Hp} {Q : VK} (hr : r2 = rM2 G k) (w : tM G (fun r h => (f r h).bind fun x h => (g r h).bind fun y h => k x y h) σ H Q) : tOp r2 (tM G f) (tM G g) σ H Q := by
  subst hr
  refine tM_bind (g := fun r x h => (g r h).bind fun y h => k x y h) w fun m F h r v x H' rl re rx w => ?_
  obtain ⟨u, h1, e1, w⟩ := w.bind
  refine ⟨m, F, h, r, rl, re, ?_⟩
  rw [e1]
  exact fun m' F' H2 y lm l rl' ry => ⟨m', F', h1, v, u, rl', R.mono l lm _ _ rx, ry, w.mono lm l⟩
theorem se_bin (hK : X.K = G.K) (op : Bop) (ha : SE X G C a x) (hb : SE X G C b y) : SE X G C (.BinOp a (opB op) b pos) (.bin op x y) := by
  refine SE.of hK (plainT_of rfl) (fun m r h => by rw [evM]) (PE.weak (pe_op (bin_ok hK op) ha.v hb.v) fun σ H Q w => ?_)
  exact tM_two rfl w
theorem se_neg (hK : X.K = G.K) (ha : SE X G C a x) : SE X G C (.UnaryOp .USub a pos) (.neg x) := by
  refine SE.of hK (plainT_of rfl) (fun m r h => by rw [evM]) (PE.weak (pe_un un_neg ha.v) fun σ H Q w => ?_)
  refine tM_bind w fun m F h r v x H' rl re rx w => ?_
  split at w
  · exact ⟨_, rx, w.here rl rfl⟩
  · exact False.elim w
def noSet : Expr → Bool
  | .Set .. => false
  | _ => true
theorem marks_of {op : CmpOp} {b : Expr} (h : noSet b = true) : behindInMarks op b = false := by
  cases b <;> first | rfl | cases h
theorem se_cmp (hK : X.K = G.K) (hu : X.A.units + 64 < cLine) (op : Cop) (ha : SE X G C a x) (hb : SE X G C b y) (hs : noSet b = true) : SE X G C (.Compare a [opC op] [b] pos) (.cmp op x y) := by
  refine SE.ofB (f := fun r h => (evM C x false r h).bind fun u h => (evM C y false r h).bind fun v h => cmpop op u v h) (fun m r h => by rw [evM]) (fun r h v h' e => ?_) (PE.weak (pe_cmpR (cmp_ok hK hu op) ha.v hb.v (marks_of hs)) fun σ H Q w => tM_two rfl w)
    (PT.weak (pt_cmpR (cmp_ok hK hu op) ha.v hb.v (marks_of hs)) fun σ H Q w => tM_two rfl w)
  cases e1 : evM C x false r h with
  | ok u h1 =>
    rw [e1] at e
    have e : ((evM C y false r h1).bind fun v h => cmpop op u v h) = .ok v h' := e
    cases e2 : evM C y false r h1 with
    | ok u2 h2 =>
      rw [e2] at e
      obtain ⟨b, e3, _⟩ := cmp_bl (show cmpop op u u2 h2 = .ok v h' from e)
      exact ⟨b, e3⟩
    | exc c fs h' =>
      rw [e2] at e
      cases e
    | bad =>
      rw [e2] at e
      cases e
  | exc c fs h' =>
    rw [e1] at e
    cases e
  | bad =>
    rw [e1] at e
    cases e
theorem tM_chain {f g k : Rho → Hm → Res Vl} {o1 o2 : Cop} {σ : L2.St} {H : Hp} {Q : VK} (w : tM G (fun r h => (f r h).bind fun x h => (g r h).bind fun y h => (cmpop o1 x y h).bind fun t h => match t with
    | .bl true => (k r h).bind fun z h => cmpop o2 y z h
    | .bl false => .ok (.bl false) h
    | _ => .bad) σ H Q) : tChain (rM2 G (cmpop o1)) (rM2 G (cmpop o2)) (tM G f) (tM G g) (tM G k) σ H Q := by
  refine tM_bind (g := fun r x h => (g r h).bind fun y h => (cmpop o1 x y h).bind fun t h => match t with
    | .bl true => (k r h).bind fun z h => cmpop o2 y z h
    | .bl false => .ok (.bl false) h
    | _ => .bad) w fun m F h r v x H' rl re rx w => ?_
  obtain ⟨u, h1, e1, w⟩ := w.bind
  refine ⟨m, F, h, r, rl, re, ?_⟩
  rw [e1]
  intro m' F' H2 y lm l rl' ry
  have w1 := w.mono lm l
  have re := RE.mono l lm _ _ re
  obtain ⟨t, h2, e2, w2⟩ := w1.bind
  obtain ⟨bb, rfl, rfl⟩ := cmp_bl e2
  refine ⟨m', F', h2, v, u, rl', R.mono l lm _ _ rx, ry, ?_⟩
  rw [e2]
  intro m3 F3 H3 t3 lm3 l3 rl3 rt
  have w3 := Wp.mono w2 lm3 l3
  refine ⟨bb, rt, ?_⟩
  cases bb with
  | true =>
    rw [if_pos rfl]
    obtain ⟨u3, h3, e3, w⟩ := Wp.bind (show WpV G m3 F3 ((k r h2).bind fun z h => cmpop o2 u z h) Q from w3)
    refine ⟨m3, F3, h2, r, rl3, RE.mono l3 lm3 _ _ re, ?_⟩
    rw [e3]
    exact fun m4 F4 H4 z lm4 l4 rl4 rz => ⟨m4, F4, h3, u, u3, rl4, R.mono (l3.trans l4) (lm3.trans lm4) _ _ ry, rz, w.mono lm4 l4⟩
  | false =>
    rw [if_neg Bool.false_ne_true]
    exact w3.here rl3 rfl
theorem chain_marks {o1 o2 : CmpOp} {b c : Expr} (h : noSet c = true) : lastMarks [o1, o2] [b, c] = false := marks_of h
theorem se_chain (hK : X.K = G.K) (hu : X.A.units + 64 < cLine) (o1 o2 : Cop) (ha : SE X G C a x) (hb : SE X G C b y) (hc : SE X G C c z) (hs : noSet c = true) : SE X G C (.Compare a [opC o1, opC o2] [b, c] pos) (.chain o1 o2 x y z) := by
  refine SE.ofB (f := fun r h => (evM C x false r h).bind fun u h => (evM C y false r h).bind fun v h => (cmpop o1 u v h).bind fun t h => match t with
    | .bl true => (evM C z false r h).bind fun w h => cmpop o2 v w h
    | .bl false => .ok (.bl false) h
    | _ => .bad) (fun m r h => by first | (rw [evM]; done) | (rw [evM]; rfl)) (fun r h v h' e => ?_) (PE.weak (pe_chain (cmp_ok hK hu o1) (cmp_ok hK hu o2) ha.v hb.v hc.v (chain_marks hs)) fun σ H Q w => tM_chain w)
    (PT.weak (pt_chain (cmp_ok hK hu o1) (cmp_ok hK hu o2) ha.v hb.v hc.v (chain_marks hs)) fun σ H Q w => tM_chain w)
  have bd : ∀ {α β : Type} {r : Res α} {f : α → Hm → Res β} {v : β} {h : Hm}, r.bind f = .ok v h → ∃ a h1, r = .ok a h1 ∧ f a h1 = .ok v h := fun {α β r f v h} e => by
    cases r with
    | ok a h1 => exact ⟨a, h1, rfl, e⟩
    | exc c fs h' => cases e
    | bad => cases e
  obtain ⟨_, _, _, e⟩ := bd e
  obtain ⟨_, _, _, e⟩ := bd e
  obtain ⟨t, _, e1, e⟩ := bd e
  obtain ⟨bb, rfl, _⟩ := cmp_bl e1
  cases bb with
  | true =>
    obtain ⟨_, _, _, e⟩ := bd (show ((evM C z false _ _).bind fun w h => cmpop o2 _ w h) = .ok v h' from e)
    obtain ⟨b, e3, _⟩ := cmp_bl e
    exact ⟨b, e3⟩
  | false =>
    cases e
    exact ⟨false, rfl⟩

/-! ### not, and, or, if -/
theorem se_not (hK : X.K = G.K) (ha : SE X G C a x) : SE X G C (.UnaryOp .Not a pos) (.not x) := by
  refine ⟨PE.weak (pe_notT ha.v) fun σ H Q w => ?_, PT.weak (pt_not ha.t) fun σ H Q w => ?_⟩
  · have w : tM G (fun r h => (evM C x false r h).bind fun x h => match tru h x with
      | some b => .ok (.bl (!b)) h
      | none => .bad) σ H Q := by
      obtain ⟨m, F, h, r, rl, re, w⟩ := w
      dsimp only at w
      rw [evM] at w
      exact ⟨m, F, h, r, rl, re, w⟩
    refine tM_bind w fun m F h r v x H' rl re rx w => ?_
    split at w
    · rename_i b e1
      exact ⟨b, by rw [hK]; exact tru_M rl rx e1, w.here rl rfl⟩
    · exact False.elim w
  · have w : tM G (fun r h => (evM C x true r h).bind fun x h => match x with
      | .bl b => .ok (.bl (!b)) h
      | _ => .bad) σ H (fun x H' => ∃ b, x = .bl b ∧ Q b H') := by
      obtain ⟨m, F, h, r, rl, re, w⟩ := w
      dsimp only at w
      rw [evM] at w
      exact ⟨m, F, h, r, rl, re, w⟩
    refine tMt_test w (fun r v h n => ?_) fun m F h r b H' rl re w => ?_
    · cases v <;> first | exact ⟨_, rfl⟩ | exact absurd rfl n
    · obtain ⟨b', e, q⟩ := w.here rl (show R G F m (.bl (!b)) (.bl (!b)) from rfl)
      cases e
      exact q
/-- and, or: whatever their 'whole' is -/
structure SB (X : Cx) (G : Gi) (C : Cs) (op : BoolOp) (es : List Expr) (pos : Pos) (x : Ex) : Prop where
  v : PE X (.BoolOp op es pos) (tM G fun r h => evM C x false r h)
  t : PW X (.BoolOp op es pos) (tMt G fun r h => evM C x true r h)
theorem SB.se {op : BoolOp} {es : List Expr} (h : SB X G C op es pos x) : SE X G C (.BoolOp op es pos) x := ⟨h.v, h.t.pt⟩
theorem PW.weak {t t' : TT} (h : PW X e t) (i : ∀ σ H Q, t' σ H Q → t σ H Q) : PW X e t' := ⟨fun wh pins s σ H Q I q => h.run wh pins s σ H Q I (i σ H Q q)⟩
theorem sb_one {op : BoolOp} (ha : SE X G C a x) : SB X G C op [a] pos x := by
  refine ⟨pe_one ha.v, ?_⟩
  cases op with
  | And => exact pw_and1 ha.t
  | Or => exact pw_or1 ha.t
theorem sb_and (hK : X.K = G.K) {rest : List Expr} (ha : SE X G C a x) (hb : SB X G C .And (b :: rest) pos y) : SB X G C .And (a :: b :: rest) pos (.and x y) := by
  refine ⟨PE.weak (pe_andT ha.v hb.v) fun σ H Q w => ?_, PW.weak (pw_and ha.t hb.t) fun σ H Q w => ?_⟩
  · have w : tM G (fun r h => (evM C x false r h).bind fun x h => match tru h x with
      | some true => evM C y false r h
      | some false => .ok x h
      | none => .bad) σ H Q := by
      obtain ⟨m, F, h, r, rl, re, w⟩ := w
      dsimp only at w
      rw [evM] at w
      exact ⟨m, F, h, r, rl, re, w⟩
    refine tM_bind (g := fun r x h => match tru h x with
      | some true => evM C y false r h
      | some false => .ok x h
      | none => .bad) w fun m F h r v x H' rl re rx w => ?_
    split at w
    · rename_i e1
      exact ⟨true, by rw [hK]; exact tru_M rl rx e1, by rw [if_pos rfl]; exact ⟨m, F, h, r, rl, re, w⟩⟩
    · rename_i e1
      exact ⟨false, by rw [hK]; exact tru_M rl rx e1, by rw [if_neg Bool.false_ne_true]; exact w.here rl rx⟩
    · exact False.elim w
  · have w : tM G (fun r h => (evM C x true r h).bind fun x h => match x with
      | .bl true => evM C y true r h
      | .bl false => .ok (.bl false) h
      | _ => .bad) σ H (fun x H' => ∃ b, x = .bl b ∧ Q b H') := by
      obtain ⟨m, F, h, r, rl, re, w⟩ := w
      dsimp only at w
      rw [evM] at w
      exact ⟨m, F, h, r, rl, re, w⟩
    refine tMt_test (g := fun r x h => match x with
      | .bl true => evM C y true r h
      | .bl false => .ok (.bl false) h
      | _ => .bad) w (fun r v h n => ?_) fun m F h r b H' rl re w => ?_
    · cases v <;> first | exact ⟨_, rfl⟩ | exact absurd rfl n
    · cases b with
      | true =>
        rw [if_pos rfl]
        exact ⟨m, F, h, r, rl, re, w⟩
      | false =>
        rw [if_neg Bool.false_ne_true]
        obtain ⟨b', e, q⟩ := w.here rl (show R G F m (.bl false) (.bl false) from rfl)
        cases e
        exact q
theorem sb_or (hK : X.K = G.K) {rest : List Expr} (ha : SE X G C a x) (hb : SB X G C .Or (b :: rest) pos y) : SB X G C .Or (a :: b :: rest) pos (.or x y) := by
  refine ⟨PE.weak (pe_orT ha.v hb.v) fun σ H Q w => ?_, PW.weak (pw_or ha.t hb.t) fun σ H Q w => ?_⟩
  · have w : tM G (fun r h => (evM C x false r h).bind fun x h => match tru h x with
      | some true => .ok x h
      | some false => evM C y false r h
      | none => .bad) σ H Q := by
      obtain ⟨m, F, h, r, rl, re, w⟩ := w
      dsimp only at w
      rw [evM] at w
      exact ⟨m, F, h, r, rl, re, w⟩
    refine tM_bind (g := fun r x h => match tru h x with
      | some true => .ok x h
      | some false => evM C y false r h
      | none => .bad) w fun m F h r v x H' rl re rx w => ?_
    split at w
    · rename_i e1
      exact ⟨true, by rw [hK]; exact tru_M rl rx e1, by rw [if_pos rfl]; exact w.here rl rx⟩
    · rename_i e1
      exact ⟨false, by rw [hK]; exact tru_M rl rx e1, by rw [if_neg Bool.false_ne_true]; exact ⟨m, F, h, r, rl, re, w⟩⟩
    · exact False.elim w
  · have w : tM G (fun r h => (evM C x true r h).bind fun x h => match x with
      | .bl true => .ok (.bl true) h
      | .bl false => evM C y true r h
      | _ => .bad) σ H (fun x H' => ∃ b, x = .bl b ∧ Q b H') := by
      obtain ⟨m, F, h, r, rl, re, w⟩ := w
      dsimp only at w
      rw [evM] at w
      exact ⟨m, F, h, r, rl, re, w⟩
    refine tMt_test (g := fun r x h => match x with
      | .bl true => .ok (.bl true) h
      | .bl false => evM C y true r h
      | _ => .bad) w (fun r v h n => ?_) fun m F h r b H' rl re w => ?_
    · cases v <;> first | exact ⟨_, rfl⟩ | exact absurd rfl n
    · cases b with
      | true =>
        rw [if_pos rfl]
        obtain ⟨b', e, q⟩ := w.here rl (show R G F m (.bl true) (.bl true) from rfl)
        cases e
        exact q
      | false =>
        rw [if_neg Bool.false_ne_true]
        exact ⟨m, F, h, r, rl, re, w⟩
theorem pt_ifExp {tc ta tb : TT} (hc : PT X c tc) (ha : PT X a ta) (hb : PT X b tb) : PT X (.IfExp c a b pos) (fun σ H Q => tc σ H fun k H1 => if k = true then ta σ H1 Q else tb σ H1 Q) := by
  refine ⟨fun pins s σ H Q I h => ?_⟩
  show wpAny _ _ (do if ← PySem.isTrue c X.env (eval c X.env) then PySem.isTrue a X.env (eval a X.env) else PySem.isTrue b X.env (eval b X.env)) _ _ s
  refine wpAny_bind (thn (hc.run pins s σ H _ I h) fun k s1 ⟨H1, I1, q1⟩ => ?_)
  cases k with
  | true => exact ha.run pins s1 σ H1 Q I1 q1
  | false => exact hb.run pins s1 σ H1 Q I1 q1
theorem se_ite (hc : SE X G C c z) (ha : SE X G C a x) (hb : SE X G C b y) : SE X G C (.IfExp c a b pos) (.ite z x y) := by
  refine ⟨PE.weak (pe_ifExp hc.t ha.v hb.v) fun σ H Q w => ?_, PT.weak (pt_ifExp hc.t ha.t hb.t) fun σ H Q w => ?_⟩
  · have w : tM G (fun r h => (evM C z true r h).bind fun v h => match v with
      | .bl true => evM C x false r h
      | .bl false => evM C y false r h
      | _ => .bad) σ H Q := by
      obtain ⟨m, F, h, r, rl, re, w⟩ := w
      dsimp only at w
      rw [evM] at w
      exact ⟨m, F, h, r, rl, re, w⟩
    refine tMt_test (g := fun r v h => match v with
      | .bl true => evM C x false r h
      | .bl false => evM C y false r h
      | _ => .bad) w (fun r v h n => ?_) fun m F h r b H' rl re w => ?_
    · cases v <;> first | exact ⟨_, rfl⟩ | exact absurd rfl n
    · cases b with
      | true => exact ⟨m, F, h, r, rl, re, w⟩
      | false => exact ⟨m, F, h, r, rl, re, w⟩
  · have w : tM G (fun r h => (evM C z true r h).bind fun v h => match v with
      | .bl true => evM C x true r h
      | .bl false => evM C y true r h
      | _ => .bad) σ H (fun x H' => ∃ b, x = .bl b ∧ Q b H') := by
      obtain ⟨m, F, h, r, rl, re, w⟩ := w
      dsimp only at w
      rw [evM] at w
      exact ⟨m, F, h, r, rl, re, w⟩
    refine tMt_test (g := fun r v h => match v with
      | .bl true => evM C x true r h
      | .bl false => evM C y true r h
      | _ => .bad) w (fun r v h n => ?_) fun m F h r b H' rl re w => ?_
    · cases v <;> first | exact ⟨_, rfl⟩ | exact absurd rfl n
    · cases b with
      | true => exact ⟨m, F, h, r, rl, re, w⟩
      | false => exact ⟨m, F, h, r, rl, re, w⟩
end
end Mi
/-! how arguments come to parameters -/
namespace Mi
open PySem PySem.Spec L2

section
variable {α β : Type}
/-- the keywords, one by one -/
def addKw (A Kw : List Str) : List (Str × α) → List (Str × α) → Option (List (Str × α))
  | sl, [] => some sl
  | sl, (k, v) :: r => if (A.contains k || Kw.contains k) && (sl.lookup k).isNone then addKw A Kw (sl ++ [(k, v)]) r else none
/-- the defaults -/
def fillD : List (Str × α) → List (Str × α) → List (Str × α)
  | sl, [] => sl
  | sl, (n, d) :: r => fillD (if (sl.lookup n).isNone then sl ++ [(n, d)] else sl) r
/-- the keyword-only ones -/
def fillK (kd : List (Str × α)) : List (Str × α) → List Str → Option (List (Str × α))
  | sl, [] => some sl
  | sl, n :: r => if (sl.lookup n).isNone then (match kd.lookup n with
    | some v => fillK kd (sl ++ [(n, v)]) r
    | none => none) else fillK kd sl r
def pickL (sl : List (Str × α)) (ns : List Str) : List (Str × α) := ns.filterMap fun n => (sl.lookup n).map fun v => (n, v)
def bindI (A Kw : List Str) (us : List α) (kw : List (Str × α)) (ds : List α) (kd : List (Str × α)) : Option (List (Str × α)) :=
  if us.length ≤ A.length ∧ ds.length ≤ A.length then (match addKw A Kw (A.zip us) kw with
    | none => none
    | some sl1 => if (A.take (A.length - ds.length)).all (fun n => (sl1.lookup n).isSome) then (match fillK kd (fillD sl1 ((A.drop (A.length - ds.length)).zip ds)) Kw with
      | none => none
      | some sl3 => some (pickL sl3 (A ++ Kw))) else none) else none
/-! ### values are handed through -/
def mp (φ : α → β) (l : List (Str × α)) : List (Str × β) := l.map fun p => (p.1, φ p.2)
theorem lookup_mp (φ : α → β) (n : Str) : ∀ l : List (Str × α), (mp φ l).lookup n = (l.lookup n).map φ
  | [] => rfl
  | (k, v) :: r => by
    show ((k, φ v) :: mp φ r).lookup n = _
    rw [List.lookup_cons, List.lookup_cons]
    cases n == k with
    | true => rfl
    | false => exact lookup_mp φ n r
theorem mp_append (φ : α → β) (a b : List (Str × α)) : mp φ (a ++ b) = mp φ a ++ mp φ b := List.map_append
theorem mp_zip (φ : α → β) : ∀ (ns : List Str) (us : List α), ns.zip (us.map φ) = mp φ (ns.zip us)
  | [], _ => rfl
  | _ :: _, [] => rfl
  | n :: ns, u :: us => by
    show (n, φ u) :: ns.zip (us.map φ) = (n, φ u) :: mp φ (ns.zip us)
    rw [mp_zip φ ns us]
theorem addKw_mp (φ : α → β) (A Kw : List Str) : ∀ (kw sl : List (Str × α)), addKw A Kw (mp φ sl) (mp φ kw) = (addKw A Kw sl kw).map (mp φ)
  | [], sl => rfl
  | (k, v) :: r, sl => by
    show addKw A Kw (mp φ sl) ((k, φ v) :: mp φ r) = _
    unfold addKw
    rw [lookup_mp]
    have e : ((sl.lookup k).map φ).isNone = (sl.lookup k).isNone := by cases sl.lookup k <;> rfl
    rw [e]
    split
    · have h := addKw_mp φ A Kw r (sl ++ [(k, v)])
      rw [mp_append] at h
      exact h
    · rfl
theorem fillD_mp (φ : α → β) : ∀ (ds sl : List (Str × α)), fillD (mp φ sl) (mp φ ds) = mp φ (fillD sl ds)
  | [], sl => rfl
  | (k, v) :: r, sl => by
    show fillD (mp φ sl) ((k, φ v) :: mp φ r) = _
    unfold fillD
    rw [lookup_mp]
    have e : ((sl.lookup k).map φ).isNone = (sl.lookup k).isNone := by cases sl.lookup k <;> rfl
    rw [e]
    split
    · have h := fillD_mp φ r (sl ++ [(k, v)])
      rw [mp_append] at h
      exact h
    · exact fillD_mp φ r sl
theorem fillK_mp (φ : α → β) (kd : List (Str × α)) : ∀ (ns : List Str) (sl : List (Str × α)), fillK (mp φ kd) (mp φ sl) ns = (fillK kd sl ns).map (mp φ)
  | [], sl => rfl
  | n :: r, sl => by
    unfold fillK
    rw [lookup_mp, lookup_mp]
    have e : ((sl.lookup n).map φ).isNone = (sl.lookup n).isNone := by cases sl.lookup n <;> rfl
    rw [e]
    split
    · cases kd.lookup n with
      | none => rfl
      | some v =>
        have h := fillK_mp φ kd r (sl ++ [(n, v)])
        rw [mp_append] at h
        exact h
    · exact fillK_mp φ kd r sl
theorem pickL_mp (φ : α → β) (sl : List (Str × α)) : ∀ ns : List Str, pickL (mp φ sl) ns = mp φ (pickL sl ns)
  | [] => rfl
  | n :: ns => by
    have ih := pickL_mp φ sl ns
    unfold pickL at ih ⊢
    rw [List.filterMap_cons, List.filterMap_cons, lookup_mp]
    cases sl.lookup n with
    | none => exact ih
    | some v =>
      show (n, φ v) :: _ = (n, φ v) :: _
      rw [ih]
      rfl
theorem bindI_mp (φ : α → β) (A Kw : List Str) (us : List α) (kw : List (Str × α)) (ds : List α) (kd : List (Str × α)) : bindI A Kw (us.map φ) (mp φ kw) (ds.map φ) (mp φ kd) = (bindI A Kw us kw ds kd).map (mp φ) := by
  unfold bindI
  rw [List.length_map, List.length_map, mp_zip, addKw_mp]
  split
  · cases addKw A Kw (A.zip us) kw with
    | none => rfl
    | some sl1 =>
      show (if (A.take (A.length - ds.length)).all (fun n => ((mp φ sl1).lookup n).isSome) then (match fillK (mp φ kd) (fillD (mp φ sl1) ((A.drop (A.length - ds.length)).zip (ds.map φ))) Kw with
        | none => none
        | some sl3 => some (pickL sl3 (A ++ Kw))) else none) = Option.map (mp φ) (if (A.take (A.length - ds.length)).all (fun n => (sl1.lookup n).isSome) then (match fillK kd (fillD sl1 ((A.drop (A.length - ds.length)).zip ds)) Kw with
        | none => none
        | some sl3 => some (pickL sl3 (A ++ Kw))) else none)
      have e : (fun n => ((mp φ sl1).lookup n).isSome) = fun n => (sl1.lookup n).isSome := by
        funext n
        rw [lookup_mp]
        cases sl1.lookup n <;> rfl
      rw [e, mp_zip, fillD_mp, fillK_mp]
      split
      · cases fillK kd (fillD sl1 ((A.drop (A.length - ds.length)).zip ds)) Kw with
        | none => rfl
        | some sl3 =>
          show some (pickL (mp φ sl3) (A ++ Kw)) = some (mp φ (pickL sl3 (A ++ Kw)))
          rw [pickL_mp]
      · rfl
  · rfl
end

/-! ### the model's own binding -/
section
variable {M : Model} {h : Heap}
theorem kw_loop {A Kw : List Str} {ex : List (Str × Value)} {f : Str × Value → List (Str × Value) × List (Str × Value) → Sem (ForInStep (List (Str × Value) × List (Str × Value)))}
    (hf : ∀ k v sl, (A.contains k || Kw.contains k) = true → (sl.lookup k).isNone = true → f (k, v) (sl, ex) = pure (.yield (sl ++ [(k, v)], ex))) :
    ∀ (kw sl sl' : List (Str × Value)), addKw A Kw sl kw = some sl' → forIn kw (sl, ex) f = pure (sl', ex)
  | [], sl, sl', e => by
    have e : sl = sl' := Option.some.inj e
    subst e
    rfl
  | (k, v) :: r, sl, sl', e => by
    unfold addKw at e
    split at e
    · rename_i hc
      rw [Bool.and_eq_true] at hc
      rw [List.forIn_cons, hf k v sl hc.1 hc.2]
      exact kw_loop hf r (sl ++ [(k, v)]) sl' e
    · cases e
theorem dfl_loop {f : Str × Value → List (Str × Value) → Sem (ForInStep (List (Str × Value)))}
    (hf : ∀ k v sl, f (k, v) sl = if (sl.lookup k).isNone = true then pure (.yield (sl ++ [(k, v)])) else pure (.yield sl)) :
    ∀ (ds sl : List (Str × Value)), forIn ds sl f = pure (fillD sl ds)
  | [], sl => rfl
  | (k, v) :: r, sl => by
    rw [List.forIn_cons, hf]
    unfold fillD
    split
    · exact dfl_loop hf r (sl ++ [(k, v)])
    · exact dfl_loop hf r sl
theorem kwo_loop {kd : List (Str × Value)} {kV : Value} {f : Str → List (Str × Value) × List Str → Sem (ForInStep (List (Str × Value) × List Str))}
    (hf : ∀ n sl, f n (sl, []) = if (sl.lookup n).isNone = true then (do
      let dflt ← (match kV with
        | .ref d => nsGet d n
        | _ => pure none)
      match dflt with
      | some v => pure (.yield (sl ++ [(n, v)], []))
      | none => pure (.yield (sl, [] ++ [n]))) else pure (.yield (sl, [])))
    (hk : ∀ n v, kd.lookup n = some v → ∃ D, kV = .ref D ∧ PySem.W.Looks M h (nsGet D n) (some v)) :
    ∀ (ns : List Str) (sl sl' : List (Str × Value)), fillK kd sl ns = some sl' → PySem.W.Looks M h (forIn ns (sl, []) f) (sl', [])
  | [], sl, sl', e => by
    have e : sl = sl' := Option.some.inj e
    subst e
    exact .of_pure rfl
  | n :: r, sl, sl', e => by
    unfold fillK at e
    rw [List.forIn_cons, hf]
    split at e
    · rename_i hn
      rw [if_pos hn]
      cases ek : kd.lookup n with
      | none =>
        rw [ek] at e
        cases e
      | some v =>
        rw [ek] at e
        obtain ⟨D, rfl, lk⟩ := hk n v ek
        refine PySem.W.Looks.andThen (a := ForInStep.yield (sl ++ [(n, v)], [])) (PySem.W.Looks.andThen lk (.of_pure rfl)) ?_
        exact kwo_loop hf hk r (sl ++ [(n, v)]) sl' e
    · rename_i hn
      rw [if_neg hn]
      refine PySem.W.Looks.andThen (a := ForInStep.yield (sl, [])) (.of_pure rfl) ?_
      exact kwo_loop hf hk r sl sl' e

def argNames (l : List Arg) : List Str := l.map (·.arg)
/-- a def without stars and without positional-only parameters -/
def plainArgs (p : Arguments) : Bool := p.posonlyargs.isEmpty && p.vararg.isNone && p.kwarg.isNone

theorem binds_looks {fd : FuncData} {us : List Value} {kw : List (Str × Value)} {ds : List Value} {kd : List (Str × Value)} {binds : List (Str × Value)} {oi : Option (Array Value)}
    (hp : plainArgs fd.params = true) (hD : PySem.W.Looks M h (seqItems? fd.defaults) oi) (hds : (oi.getD #[]).toList = ds)
    (hk : ∀ n v, kd.lookup n = some v → ∃ D, fd.kwdefaults = .ref D ∧ PySem.W.Looks M h (nsGet D n) (some v))
    (hb : bindI (argNames fd.params.args) (argNames fd.params.kwonlyargs) us kw ds kd = some binds) : PySem.W.Looks M h (bindArgs fd ⟨us, kw⟩) binds := by
  unfold plainArgs at hp
  simp only [Bool.and_eq_true, List.isEmpty_iff, Option.isNone_iff_eq_none] at hp
  obtain ⟨⟨h1, h2⟩, h3⟩ := hp
  unfold bindI at hb
  split at hb
  · rename_i hl
    cases e1 : addKw (argNames fd.params.args) (argNames fd.params.kwonlyargs) ((argNames fd.params.args).zip us) kw with
    | none =>
      rw [e1] at hb
      cases hb
    | some sl1 =>
      rw [e1] at hb
      dsimp only at hb
      split at hb
      · rename_i ha
        cases e2 : fillK kd (fillD sl1 (((argNames fd.params.args).drop ((argNames fd.params.args).length - ds.length)).zip ds)) (argNames fd.params.kwonlyargs) with
        | none =>
          rw [e2] at hb
          cases hb
        | some sl3 =>
          rw [e2] at hb
          have hb := Option.some.inj hb
          subst hb
          unfold bindArgs
          simp only [h1, h2, h3, List.map_nil, List.nil_append]
          refine PySem.W.Looks.andThen (a := (sl1, [])) (.of_pure (kw_loop (A := argNames fd.params.args) (Kw := argNames fd.params.kwonlyargs) (fun k v sl hc hn => ?_) kw _ sl1 e1)) ?_
          · have hn' : ¬ (sl.lookup k).isSome = true := by
              cases e : sl.lookup k with
              | none => simp
              | some v =>
                rw [e] at hn
                cases hn
            show (if ((argNames fd.params.args).contains k || (argNames fd.params.kwonlyargs).contains k) = true then (if (sl.lookup k).isSome = true then _ else _) else _) = _
            rw [if_pos hc, if_neg hn']
          · refine PySem.W.Looks.andThen hD ?_
            dsimp only
            rw [hds]
            have hn : ¬ (decide (us.length > (List.map (fun x => x.arg) fd.params.args).length) && (none : Option Arg).isNone) = true := by
              have := hl.1
              unfold argNames at this
              simp at this ⊢
              omega
            rw [if_neg hn]
            have hd0 : ds.drop (ds.length - (List.map (fun x => x.arg) fd.params.args).length) = ds := by
              have e : ds.length - (List.map (fun x => x.arg) fd.params.args).length = 0 := by
                have := hl.2
                unfold argNames at this
                omega
              rw [e, List.drop_zero]
            rw [hd0]
            have hm : ¬ (!(List.filter (fun n => (sl1.lookup n).isNone) (List.take ((List.map (fun x => x.arg) fd.params.args).length - ds.length) (List.map (fun x => x.arg) fd.params.args))).isEmpty) = true := by
              have e : List.filter (fun n => (sl1.lookup n).isNone) (List.take ((List.map (fun x => x.arg) fd.params.args).length - ds.length) (List.map (fun x => x.arg) fd.params.args)) = [] := by
                rw [List.filter_eq_nil_iff]
                intro n hn
                have z := List.all_eq_true.mp ha n hn
                cases e : sl1.lookup n with
                | none =>
                  rw [e] at z
                  cases z
                | some v => simp
              rw [e]
              simp
            rw [if_neg hm]
            refine PySem.W.Looks.andThen (a := fillD sl1 (((argNames fd.params.args).drop ((argNames fd.params.args).length - ds.length)).zip ds)) (.of_pure (dfl_loop (fun k v sl => rfl) _ _)) ?_
            refine PySem.W.Looks.andThen (a := (sl3, [])) (kwo_loop (kd := kd) (kV := fd.kwdefaults) (fun n sl => ?_) hk _ _ sl3 e2) ?_
            · generalize fd.kwdefaults = kv
              cases kv <;> rfl
            · exact .of_pure rfl
      · cases hb
  · cases hb
end
end Mi
/-! MINI: calls of defs -/
namespace Mi
open PySem PySem.Spec L2

def names (f : FnI) : List Str := argNames f.par.args ++ argNames f.par.kwonlyargs
/-- what is known of a def, at a level -/
structure Held (prog : Program) (w : World) (mg : Str → Option Value) (base : Heap) (G : Gi) (d : Nat) (c f : String) (fi : FnI) (sem : List Vl → Hm → Res Vl) (fd : FuncData) : Prop where
  par : fd.params = fi.par
  plain : plainArgs fi.par = true
  dfl : ∃ (dvs : List V) (its : List Value) (oi : Option (Array Value)), Rs G F0 m0 fi.dfl dvs ∧ Vals dvs its ∧ (oi.getD #[]).toList = its ∧ ∀ M h, G.K.In h → PySem.W.Looks M h (seqItems? fd.defaults) oi
  kwd : ∃ kvs : List (V × Value), kvs.length = fi.kwd.length ∧ Rs G F0 m0 (fi.kwd.map (·.2)) (kvs.map (·.1)) ∧ Vals (kvs.map (·.1)) (kvs.map (·.2)) ∧
    ∀ n v, ((fi.kwd.map (·.1)).zip (kvs.map (·.2))).lookup n = some v → ∃ D, fd.kwdefaults = .ref D ∧ ∀ M h, G.K.In h → PySem.W.Looks M h (nsGet D n) (some v)
  keep : PySem.W.keepIn G.K (.ref (G.fa c f)) = true
  ok : FnOk prog w G.K mg base CX0 d (G.fa c f) fd (names fi) (fun vs H Q _ => rMs G sem vs H Q)
  lk : ∃ oc od osl, G.K.lookup (G.fa c f) = some ⟨oc, od, .func fd, osl⟩
/-- all defs -/
def AllHeld (prog : Program) (w : World) (mg : Str → Option Value) (base : Heap) (G : Gi) (d : Nat) (sem : String → String → List Vl → Hm → Res Vl) : Prop :=
  ∀ c f fi, G.fi c f = some fi → ∃ fd, Held prog w mg base G d c f fi (sem c f) fd

/-! ### the parameters' order -/
def permI (fi : FnI) (n : Nat) (ks : List Str) : Option (List Nat) :=
  match bindI (argNames fi.par.args) (argNames fi.par.kwonlyargs) (List.range n) (ks.zip (List.range' n ks.length)) (List.range' (n + ks.length) fi.dfl.length) ((fi.kwd.map (·.1)).zip (List.range' (n + ks.length + fi.dfl.length) fi.kwd.length)) with
  | some bs => if bs.map (·.1) = names fi then some (bs.map (·.2)) else none
  | none => none
def srcI (fi : FnI) (k : Nat) (i : Nat) : Src := if i < k then .at i else match (fi.dfl ++ fi.kwd.map (·.2))[i - k]? with
  | some v => .dfl v
  | none => .at i
def srcsI (fi : FnI) (n : Nat) (ks : List Str) : Option (List Src) := (permI fi n ks).map fun is => is.map (srcI fi (n + ks.length))
section
variable {G : Gi} {F : Hp} {m : Mp}
theorem zip_self (bs : List (Str × Nat)) : (bs.map (·.1)).zip (bs.map (·.2)) = bs := by
  induction bs with
  | nil => rfl
  | cons b bs ih =>
    rw [List.map_cons, List.map_cons, List.zip_cons_cons, ih]
theorem range_map {α : Type} (l : List α) (z : α) : (List.range l.length).map (fun i => l.getD i z) = l := by
  refine List.ext_getElem? fun i => ?_
  rw [List.getElem?_map]
  by_cases h : i < l.length
  · rw [List.getElem?_range h, List.getElem?_eq_getElem h]
    simp [List.getD, h]
  · rw [List.getElem?_eq_none (by simpa using h), List.getElem?_eq_none (by simpa using h)]
    rfl
theorem range'_map {α : Type} (a l b : List α) (z : α) (n : Nat) (hn : n = a.length) : (List.range' n l.length).map (fun i => (a ++ l ++ b).getD i z) = l := by
  subst hn
  refine List.ext_getElem? fun i => ?_
  rw [List.getElem?_map]
  by_cases h : i < l.length
  · rw [List.getElem?_range' h, List.getElem?_eq_getElem h]
    simp [List.getD, h, List.getElem?_append, show ¬ (a.length + i < a.length) by omega]
  · rw [List.getElem?_eq_none (by simpa using h), List.getElem?_eq_none (by simpa using h)]
    rfl
/-- the values by places, and how they bind -/
theorem perm_binds {fi : FnI} {us ws ds kv : List Value} {ks : List Str} {is : List Nat} (hk : ws.length = ks.length) (hd : ds.length = fi.dfl.length) (hv : kv.length = fi.kwd.length) (e : permI fi us.length ks = some is) :
    bindI (argNames fi.par.args) (argNames fi.par.kwonlyargs) us (ks.zip ws) ds ((fi.kwd.map (·.1)).zip kv) = some ((names fi).zip (is.map fun i => (us ++ ws ++ ds ++ kv).getD i .none)) := by
  unfold permI at e
  split at e
  · rename_i bs eb
    split at e
    · rename_i hn
      have e := Option.some.inj e
      subst e
      have h := bindI_mp (fun i => (us ++ ws ++ ds ++ kv).getD i Value.none) (argNames fi.par.args) (argNames fi.par.kwonlyargs) (List.range us.length) (ks.zip (List.range' us.length ks.length)) (List.range' (us.length + ks.length) fi.dfl.length) ((fi.kwd.map (·.1)).zip (List.range' (us.length + ks.length + fi.dfl.length) fi.kwd.length))
      rw [eb] at h
      have e1 : (List.range us.length).map (fun i => (us ++ ws ++ ds ++ kv).getD i Value.none) = us := by
        have := range'_map [] us (ws ++ ds ++ kv) Value.none 0 rfl
        rw [List.nil_append, ← List.append_assoc, ← List.append_assoc, ← List.range_eq_range'] at this
        exact this
      have e2 : (List.range' us.length ks.length).map (fun i => (us ++ ws ++ ds ++ kv).getD i Value.none) = ws := by
        have := range'_map us ws (ds ++ kv) Value.none us.length rfl
        rw [← List.append_assoc, hk] at this
        exact this
      have e3 : (List.range' (us.length + ks.length) fi.dfl.length).map (fun i => (us ++ ws ++ ds ++ kv).getD i Value.none) = ds := by
        have := range'_map (us ++ ws) ds kv Value.none (us.length + ks.length) (by rw [List.length_append, hk])
        rw [hd] at this
        exact this
      have e4 : (List.range' (us.length + ks.length + fi.dfl.length) fi.kwd.length).map (fun i => (us ++ ws ++ ds ++ kv).getD i Value.none) = kv := by
        have := range'_map (us ++ ws ++ ds) kv [] Value.none (us.length + ks.length + fi.dfl.length) (by rw [List.length_append, List.length_append, hk, hd])
        rw [hv, List.append_nil] at this
        exact this
      rw [e1, e3, ← mp_zip, ← mp_zip, e2, e4] at h
      rw [h]
      show some (mp _ bs) = _
      rw [← hn]
      congr 1
      unfold mp
      clear h eb hn e
      induction bs with
      | nil => rfl
      | cons b bs ih =>
        rw [List.map_cons, List.map_cons, List.map_cons, List.map_cons, List.zip_cons_cons, ih]
    · cases e
  · cases e
/-- .. and what MINI hands over stands for it -/
theorem srcs_rel {fi : FnI} {vs : List Vl} {xs dv kv : List V} {k : Nat} (hk : vs.length = k) (rs : Rs G F m vs xs) (rd : Rs G F m fi.dfl dv) (rk : Rs G F m (fi.kwd.map (·.2)) kv) :
    ∀ {is : List Nat} {as : List Vl}, srcs vs (is.map (srcI fi k)) = some as → Rs G F m as (is.map fun i => (xs ++ dv ++ kv).getD i .non)
  | [], as, e => by
    have e : [] = as := Option.some.inj e
    subst e
    rfl
  | i :: is, as, e => by
    rw [List.map_cons] at e
    unfold srcs at e
    split at e
    · rename_i v l e1 e2
      have e := Option.some.inj e
      subst e
      refine ⟨_, _, rfl, ?_, srcs_rel hk rs rd rk e2⟩
      have rall := (rs.append rd).append rk
      unfold srcI at e1
      split at e1
      · rename_i hi
        have e1 : vs[i]? = some v := e1
        have e3 : (vs ++ fi.dfl ++ fi.kwd.map (·.2))[i]? = some v := by
          rw [List.append_assoc, List.getElem?_append_left (by omega)]
          exact e1
        obtain ⟨y, e4, ry⟩ := rall.get e3
        dsimp only; rw [List.getD_eq_getElem?_getD, e4]
        exact ry
      · rename_i hi
        split at e1
        · rename_i v' e5
          have e1 : v' = v := Option.some.inj e1
          subst e1
          have e3 : (vs ++ fi.dfl ++ fi.kwd.map (·.2))[i]? = some v' := by
            rw [List.append_assoc, List.getElem?_append_right (by omega), hk]
            exact e5
          obtain ⟨y, e4, ry⟩ := rall.get e3
          dsimp only; rw [List.getD_eq_getElem?_getD, e4]
          exact ry
        · rename_i e5
          have e1 : vs[i]? = some v := e1
          rw [List.getElem?_eq_none (by omega)] at e1
          cases e1
    · cases e
end

section
variable {X : Cx} {G : Gi} {C : Cs} {e a b : Expr} {x y : Ex} {pos : Pos} {sem : List Vl → Hm → Res Vl}
theorem paired_map {α β : Type} {r : α → β → Prop} {f : Nat → α} {g : Nat → β} (h : ∀ i, r (f i) (g i)) : ∀ is : List Nat, Paired r (is.map f) (is.map g)
  | [] => .nil
  | i :: is => .cons (h i) (paired_map h is)
theorem Vals.getD {xs : List V} {us : List Value} (r : Vals xs us) (i : Nat) : RelV (xs.getD i .non) (us.getD i .none) := by
  cases e : xs[i]? with
  | none =>
    have e2 := Vals.none_of r e
    simp only [List.getD, e, e2]
    rfl
  | some x =>
    obtain ⟨u, e2, ru⟩ := Vals.get r e
    simp only [List.getD, e, e2]
    exact ru
/-- the callee runs -/
theorem run_held {c f : String} {fi : FnI} {fd : FuncData} {d : Nat} (hf : Held X.prog X.w X.mg X.base G d c f fi sem fd) (hK : X.K = G.K) (hr : Room d X.A) {pins : List (Addr × Obj)} {σ : L2.St} {H : Hp} {s : Shared} {Q : VK}
    {us ws : List Value} {vs zs : List V} {ks : List Str} {ps : List Src} {ls as : List Vl} {m : Mp} {F : Hp} {h : Hm} (I : Inv X pins σ H s) (rv : Vals vs us) (rz : Vals zs ws) (lk : ws.length = ks.length)
    (ep : srcsI fi us.length ks = some ps) (rl : Rel G m F h H) (rs : Rs G F m ls (vs ++ zs)) (es : srcs ls ps = some as) (w : WpV G m F (sem as h) Q) :
    wpAny (model X.prog X.w) X.A (call (.ref (G.fa c f)) us (ks.zip ws)) (EP X pins σ Q) X.xe s := by
  obtain ⟨dvs, its, oi, rd, rdv, eoi, ld⟩ := hf.dfl
  obtain ⟨kvs, lkv, rk, rkv, lkw⟩ := hf.kwd
  unfold srcsI at ep
  obtain ⟨is, ei, rfl⟩ := Option.map_eq_some_iff.mp ep
  have ld1 : its.length = fi.dfl.length := by rw [← rdv.length, rd.length]
  have lk1 : (kvs.map (·.2)).length = fi.kwd.length := by rw [List.length_map, lkv]
  have hb := perm_binds (us := us) (ws := ws) (ds := its) (kv := kvs.map (·.2)) lk ld1 lk1 ei
  have ll : ls.length = us.length + ks.length := by
    rw [← rs.length, List.length_append, rv.length, rz.length, lk]
  have up : ∀ {a : List Vl} {b : List V}, Rs G F0 m0 a b → Rs G F m a b := fun r => Rs.mono (fun _ _ e => by cases e) (fun _ _ e => by cases e) _ _ r
  have ra := srcs_rel ll rs (up rd) (up rk) es
  have hK' : G.K.In s.heap := by rw [← hK]; exact I.kIn
  have bt : BindsTo s fd ⟨us, ks.zip ws⟩ ((names fi).zip (is.map fun i => (us ++ ws ++ its ++ kvs.map (·.2)).getD i .none)) := by
    refine BindsTo.of_looks fun M => binds_looks (oi := oi) (ds := its) (kd := (fi.kwd.map (·.1)).zip (kvs.map (·.2))) (by rw [hf.par]; exact hf.plain) (ld M s.heap hK') eoi (fun n v e => ?_) (by rw [hf.par]; exact hb)
    obtain ⟨D, e1, e2⟩ := lkw n v e
    exact ⟨D, e1, e2 M s.heap hK'⟩
  have rvv : Vals (is.map fun i => ((vs ++ zs) ++ dvs ++ kvs.map (·.1)).getD i .non) (is.map fun i => (us ++ ws ++ its ++ kvs.map (·.2)).getD i .none) :=
    paired_map (fun i => Vals.getD (((rv.append rz).append rdv).append rkv) i) is
  have hk2 : X.K = G.K := hK
  have e0 : Env0 X.prog X.w G.K X.mg X.base X.A X.stack s H := by rw [← hK]; exact I.env0
  refine wpAny_call (codeAny_mono (hf.ok.run X.A X.stack s H ⟨us, ks.zip ws⟩ _ _ Q E0 hr e0 bt rvv ⟨m, F, h, as, rl, ra, w⟩) fun r s' hq => ?_)
  cases r with
  | error e => exact False.elim hq
  | ok fl =>
    cases fl with
    | ret u => exact I.after hq
    | next => exact False.elim hq
    | brk => exact False.elim hq
    | cont => exact False.elim hq

/-! ### arguments with keywords -/
def SK (X : Cx) (G : Gi) (C : Cs) (kws : List Keyword) (xs : List Ex) : Prop := PK X kws (tMs G fun r h => evs C xs r h)
theorem PK.weak {kws : List Keyword} {t t' : TA} (h : PK X kws t) (i : ∀ σ H Q, t' σ H Q → t σ H Q) : PK X kws t' := ⟨fun p pins s σ H Q I q => h.run p pins s σ H Q I (i σ H Q q)⟩
theorem sk_nil : SK X G C [] [] := PK.weak pk_nil fun σ H Q w => by
  obtain ⟨m, F, h, r, rl, re, w⟩ := w
  dsimp only at w
  rw [evs] at w
  exact w.here rl rfl
theorem sk_cons {kws : List Keyword} {xs : List Ex} {nm : Option Str} {kp : Pos} (h : SE X G C e x) (hr : SK X G C kws xs) : SK X G C (⟨nm, e, kp⟩ :: kws) (x :: xs) := by
  refine PK.weak (pk_cons h.v hr) fun σ H Q w => ?_
  obtain ⟨m, F, hh, r, rl, re, w⟩ := w
  dsimp only at w
  rw [evs] at w
  obtain ⟨v, h1, e1, w⟩ := w.bind
  refine ⟨m, F, hh, r, rl, re, ?_⟩
  dsimp only
  rw [e1]
  intro m' F' H' y lm l rl' ry
  obtain ⟨vs, h2, e2, w⟩ := Wp.bind (w.mono lm l)
  refine ⟨m', F', h1, r, rl', RE.mono l lm _ _ re, ?_⟩
  dsimp only
  rw [e2]
  exact fun m2 F2 H2 ys lm2 l2 rl2 rys => w m2 F2 H2 _ lm2 l2 rl2 ⟨y, ys, rfl, R.mono l2 lm2 _ _ ry, rys⟩
theorem bind_assoc' {α β γ : Type} (r : Res α) (f : α → Hm → Res β) (g : β → Hm → Res γ) : (r.bind f).bind g = r.bind fun a h => (f a h).bind g := by cases r <;> rfl
theorem evs_append (C : Cs) : ∀ (xs ys : List Ex) (r : Rho) (h : Hm), evs C (xs ++ ys) r h = (evs C xs r h).bind fun vs h => (evs C ys r h).bind fun zs h => .ok (vs ++ zs) h
  | [], ys, r, h => by
    rw [List.nil_append, evs]
    show _ = (evs C ys r h).bind fun zs h => .ok zs h
    cases evs C ys r h <;> rfl
  | x :: xs, ys, r, h => by
    rw [List.cons_append, evs, evs]
    rw [bind_assoc']
    congr 1
    funext v h1
    rw [evs_append C xs ys r h1, bind_assoc', bind_assoc']
    congr 1
    funext vs h2
    show _ = (evs C ys r h2).bind fun zs h => .ok (v :: vs ++ zs) h
    rw [bind_assoc']
    rfl
theorem noStar_any {es : List Expr} {env : PySem.Env} (h : es.all noStar = true) : (backTo pos (starEach es env)).any (·.1) = false := by
  induction es with
  | nil => rfl
  | cons e es ih =>
    rw [List.all_cons, Bool.and_eq_true] at h
    rw [star_of h.1]
    exact ih h.2
def kwOk (kws : List Keyword) : Bool := kws.all fun k => k.arg.isSome
theorem kw_all {kws : List Keyword} {env : PySem.Env} (h : kwOk kws = true) : (backToKw pos (keywordEach kws env)).all (·.1.isSome) = true := by
  induction kws with
  | nil => rfl
  | cons k kws ih =>
    obtain ⟨n, v, p⟩ := k
    unfold kwOk at h ih
    rw [List.all_cons, Bool.and_eq_true] at h
    show (n.isSome && (backToKw pos (keywordEach kws env)).all (·.1.isSome)) = true
    rw [Bool.and_eq_true]
    exact ⟨h.1, ih h.2⟩
theorem kw_any {kws : List Keyword} {env : PySem.Env} (h : kwOk kws = true) : (backToKw pos (keywordEach kws env)).any (·.1.isNone) = false := by
  induction kws with
  | nil => rfl
  | cons k kws ih =>
    obtain ⟨n, v, p⟩ := k
    unfold kwOk at h ih
    rw [List.all_cons, Bool.and_eq_true] at h
    show (n.isNone || (backToKw pos (keywordEach kws env)).any (·.1.isNone)) = false
    rw [ih h.2, Bool.or_false]
    cases n with
    | none => cases h.1
    | some n => rfl
def kwNames (kws : List Keyword) : List Str := kws.filterMap (·.arg)
theorem kw_names {kws : List Keyword} {env : PySem.Env} : (backToKw pos (keywordEach kws env)).filterMap (·.1) = kwNames kws := by
  induction kws with
  | nil => rfl
  | cons k kws ih =>
    obtain ⟨n, v, p⟩ := k
    show ((n, _) :: backToKw pos (keywordEach kws env)).filterMap (·.1) = (⟨n, v, p⟩ :: kws).filterMap (·.arg)
    cases n with
    | none =>
      rw [List.filterMap_cons_none rfl, List.filterMap_cons_none rfl]
      exact ih
    | some n =>
      show n :: (backToKw pos (keywordEach kws env)).filterMap (·.1) = n :: kwNames kws
      rw [ih]
theorem kwNames_len {kws : List Keyword} (h : kwOk kws = true) : (kwNames kws).length = kws.length := by
  induction kws with
  | nil => rfl
  | cons k kws ih =>
    obtain ⟨n, v, p⟩ := k
    unfold kwOk at h ih
    rw [List.all_cons, Bool.and_eq_true] at h
    cases n with
    | none => cases h.1
    | some n =>
      show (n :: kwNames kws).length = _
      rw [List.length_cons, List.length_cons, ih h.2]
theorem evs_len {C : Cs} : ∀ {xs : List Ex} {r : Rho} {h h' : Hm} {vs : List Vl}, evs C xs r h = .ok vs h' → vs.length = xs.length
  | [], r, h, h', vs, e => by
    rw [evs] at e
    cases e
    rfl
  | x :: xs, r, h, h', vs, e => by
    rw [evs] at e
    cases e1 : evM C x false r h with
    | ok v h1 =>
      rw [e1] at e
      have e : ((evs C xs r h1).bind fun vs h => .ok (v :: vs) h) = .ok vs h' := e
      cases e2 : evs C xs r h1 with
      | ok vs' h2 =>
        rw [e2] at e
        cases e
        rw [List.length_cons, List.length_cons, evs_len e2]
      | exc c fs h' =>
        rw [e2] at e
        cases e
      | bad =>
        rw [e2] at e
        cases e
    | exc c fs h' =>
      rw [e1] at e
      cases e
    | bad =>
      rw [e1] at e
      cases e
/-- all that is written behind a callee, then the call -/
theorem call_args {es : List Expr} {kws : List Keyword} {xs ys : List Ex} {f : Value} {first : List Value} {Qr : Value → Shared → Prop} (hk : PySem.W.keepIn X.K f = true) (hs : es.all noStar = true) (hkw : kwOk kws = true) (ha : SA X G C es xs) (hb : SK X G C kws ys)
    {pins : List (Addr × Obj)} {σ : L2.St} {H : Hp} {s : Shared} {m : Mp} {F : Hp} {h : Hm} {r : Rho} {g : List Vl → Hm → Res Vl} {Q : VK} (I : Inv X pins σ H s) (rl : Rel G m F h H) (re : RE G F m r σ) (hl : es.length = xs.length) (hl2 : kws.length = ys.length)
    (w : WpV G m F ((evs C (xs ++ ys) r h).bind g) Q)
    (k : ∀ (us ws : List Value) (vs zs : List V) (ls : List Vl) (m' : Mp) (F' H' : Hp) (h' : Hm) (s' : Shared), Inv X pins σ H' s' → Vals vs us → Vals zs ws → us.length = es.length → ws.length = kws.length → Lm m m' → Le F F' → Rel G m' F' h' H' → Rs G F' m' ls (vs ++ zs) → WpV G m' F' (g ls h') Q →
      wpAny (model X.prog X.w) X.A (call f (first ++ us) ((kwNames kws).zip ws)) Qr X.xe s') :
    wpAny (model X.prog X.w) X.A (callWith pos f first (backTo pos (starEach es X.env)) (backToKw pos (keywordEach kws X.env))) Qr X.xe s := by
  obtain ⟨ls, h2, e1, w⟩ := w.bind
  rw [evs_append] at e1
  cases ex : evs C xs r h with
  | exc c fs h' =>
    rw [ex] at e1
    cases e1
  | bad =>
    rw [ex] at e1
    cases e1
  | ok v1 h1 =>
    rw [ex] at e1
    have e1 : ((evs C ys r h1).bind fun zs h => .ok (v1 ++ zs) h) = .ok ls h2 := e1
    cases ey : evs C ys r h1 with
    | exc c fs h' =>
      rw [ey] at e1
      cases e1
    | bad =>
      rw [ey] at e1
      cases e1
    | ok v2 h3 =>
      rw [ey] at e1
      cases e1
      have run2 : ∀ (us : List Value) (vs : List V) (H1 : Hp) (m1 : Mp) (F1 : Hp) (s1 : Shared), Inv X pins σ H1 s1 → Vals vs us → us.length = es.length → Lm m m1 → Le F F1 → Rel G m1 F1 h1 H1 → Rs G F1 m1 v1 vs →
          wpAny (model X.prog X.w) X.A (evalAll ((backToKw pos (keywordEach kws X.env)).map (·.2))) (fun ws s2 => X.K.In s2.heap ∧ wpAny (model X.prog X.w) X.A (call f (first ++ us) (((backToKw pos (keywordEach kws X.env)).filterMap (·.1)).zip ws)) Qr X.xe s2) X.xe s1 := by
        intro us vs H1 m1 F1 s1 I1 r1 l1 lm1 lf1 rl1 rs1
        refine thn (hb.run pos pins s1 σ H1 (fun zs H2 => ∃ m2 F2, Lm m m2 ∧ Le F F2 ∧ Rel G m2 F2 h2 H2 ∧ Rs G F2 m2 (v1 ++ v2) (vs ++ zs) ∧ zs.length = kws.length) I1 ⟨m1, F1, h1, r, rl1, RE.mono lf1 lm1 _ _ re, ?_⟩) fun ws s2 ⟨zs, H2, I2, r2, m2, F2, lm2, lf2, rl2, rs2, lz⟩ => ⟨I2.kIn, ?_⟩
        · dsimp only
          rw [ey]
          intro m2 F2 H2 zs lm2 lf2 rl2 rs2
          refine ⟨m2, F2, lm1.trans lm2, lf1.trans lf2, rl2, (Rs.mono lf2 lm2 _ _ rs1).append rs2, ?_⟩
          rw [rs2.length, evs_len ey, hl2]
        · rw [kw_names]
          exact k us ws vs zs _ m2 F2 H2 h2 s2 I2 r1 r2 l1 (by rw [← r2.length, lz]) lm2 lf2 rl2 rs2 (w.mono lm2 lf2)
      cases es with
      | nil =>
        have hx : xs = [] := by
          cases xs with
          | nil => rfl
          | cons x xs => cases hl
        subst hx
        rw [evs] at ex
        cases ex
        have q := run2 [] [] H m F s I .nil rfl (Lm.refl m) (Le.refl F) rl rfl
        exact PySem.W.callWith_KW0 (h₀ := X.base) I.ok.mod.kin hk (kw_all hkw) q (by rw [kw_any hkw]; rfl)
      | cons e es =>
        have hs' : noStar e = true := by
          rw [List.all_cons, Bool.and_eq_true] at hs
          exact hs.1
        refine PySem.W.callWith_KW (h₀ := X.base) I.ok.mod.kin hk (kw_all hkw) (thn (ha.run pos pins s σ H (fun vs H1 => ∃ m1 F1, Lm m m1 ∧ Le F F1 ∧ Rel G m1 F1 h1 H1 ∧ Rs G F1 m1 v1 vs ∧ vs.length = (e :: es).length) I ⟨m, F, h, r, rl, re, ?_⟩) fun us s1 ⟨vs, H1, I1, r1, m1, F1, lm1, lf1, rl1, rs1, lv⟩ => ?_) ?_ (star_of hs')
        · dsimp only
          rw [ex]
          exact fun m1 F1 H1 vs lm1 lf1 rl1 rs1 => ⟨m1, F1, lm1, lf1, rl1, rs1, by rw [rs1.length, evs_len ex, hl]⟩
        · exact run2 us vs H1 m1 F1 s1 I1 r1 (by rw [← r1.length, lv]) lm1 lf1 rl1 rs1
        · rw [noStar_any hs, kw_any hkw]
          rfl
end
end Mi
/-! MINI: attributes, subscripts, calls -/
namespace Mi
open PySem PySem.Spec L2

/-- what holds in a def's body (or a comprehension's block) at a level -/
structure Fx (X : Cx) (G : Gi) (C : Cs) (d : Nat) : Prop where
  K : X.K = G.K
  calm : X.calm = true
  nd : X.N.Nodup
  room : Room d X.A
  cls : ∀ c ∈ G.cs, Cls G.K (G.ca c)
  noat : ∀ c ∈ G.cs, ∀ f ∈ G.fl, NoAttr G.K (G.ca c) (Str.ofString f)
  fn : AllHeld X.prog X.w X.mg X.base G d C.fn
  ini : d = 0 ∨ ∃ d', d = d' + 1 ∧ AllHeld X.prog X.w X.mg X.base G d' C.ini
  ini0 : d = 0 → ∀ c f vs h, C.ini c f vs h = .bad
  meth : ∀ c m fi, c ∈ G.cs → G.fi c m = some fi → Meth G.K (G.ca c) (Str.ofString m) (G.fa c m)
  mkr : ∀ c fi, c ∈ G.cs → G.fi c "__init__" = some fi → Mk G.K (G.ca c) (G.fa c "__init__")
  glf : ∀ f fi, G.fi "" f = some fi → X.mg (Str.ofString f) = some (.ref (G.fa "" f))
  glc : ∀ c ∈ G.cs, X.mg (Str.ofString c) = some (.ref (G.ca c))

section
variable {X : Cx} {G : Gi} {C : Cs} {d : Nat} {e a b c : Expr} {x y z : Ex} {pos : Pos}
theorem Fx.hu (f : Fx X G C d) : X.A.units + 64 < cLine := f.room.units

/-! ### attributes -/
def baseOk : Expr → Bool
  | .Call (.Name id _) [] [] _ => id != ("super" : Str)
  | _ => true
theorem base_of {o : Expr} {n : Str} {env : PySem.Env} {w : Sem Value} (h : baseOk o = true) : attributeBase o n env w = w := by
  unfold attributeBase
  split
  · rename_i id p pos
    have h : (id != ("super" : Str)) = true := h
    rw [h, Bool.true_or, Bool.true_or, Bool.true_or, if_pos rfl]
  · rfl
theorem getF_ok {F : Hp} {m : Mp} (f : String) : ∀ {fs : List (String × Vl)} {ys : List (Str × V)}, Rf G F m fs ys → match getF fs f with
    | some v => ∃ x, ys.lookup (Str.ofString f) = some x ∧ R G F m v x
    | none => ys.lookup (Str.ofString f) = none
  | [], ys, r => by
    have e : ys = [] := r
    subst e
    rfl
  | (k', v) :: kvs, ys, ⟨x, zs, e, r, rs⟩ => by
    subst e
    have ih := getF_ok f rs
    unfold getF at ih ⊢
    rw [List.lookup_cons, List.lookup_cons]
    have e1 : (Str.ofString f == Str.ofString k') = (f == k') := by
      by_cases e : f = k'
      · subst e
        simp
      · have e2 : Str.ofString f ≠ Str.ofString k' := fun z => e (of_inj z)
        rw [beq_eq_false_iff_ne.mpr e2, beq_eq_false_iff_ne.mpr e]
    rw [e1]
    cases f == k' with
    | true => exact ⟨x, rfl, r⟩
    | false => exact ih
theorem se_att (fx : Fx X G C d) (ha : SE X G C a x) (f : String) (hf : f ∈ G.fl) (hb : baseOk a = true) : SE X G C (.Attribute a (Str.ofString f) pos) (.att x f) := by
  refine SE.of fx.K (plainT_of rfl) (fun m r h => by rw [evM]) (PE.weak (pe_fld ha.v (base_of hb)) fun σ H Q w => ?_)
  refine tM_bind w fun m F h r v x H' rl re rx w => ?_
  unfold attV at w
  split at w
  · rename_i cc fs e1
    obtain ⟨p, dx, ys, rfl, hp, hc, rf⟩ := obj_ok rl rx e1
    have g := getF_ok f rf
    split at w
    · rename_i v0 e2
      rw [e2] at g
      obtain ⟨x0, e3, r0⟩ := g
      exact ⟨p, _, dx, ys, x0, rfl, hp, by rw [fx.K]; exact fx.cls _ hc, by rw [fx.K]; exact fx.noat _ hc f hf, e3, w.here rl r0⟩
    · exact False.elim w
  · exact False.elim w

/-! ### subscripts -/
theorem ixN_eq (n : Nat) (i : Int) : L2.ixN n i = Mi.ixN n i := rfl
theorem atI_R {F : Hp} {m : Mp} {xs : List Vl} {ys : List V} {i : Int} {v : Vl} (rs : Rs G F m xs ys) (e : Mi.atI xs i = some v) : ∃ y, L2.atI ys i = some y ∧ R G F m v y := by
  unfold Mi.atI at e
  obtain ⟨j, e1, e2⟩ := Option.bind_eq_some_iff.mp e
  obtain ⟨y, e3, r⟩ := rs.get e2
  refine ⟨y, ?_, r⟩
  unfold L2.atI
  rw [rs.length, ixN_eq, e1]
  exact e3
/-- d[k], by values -/
theorem ix_dict (hu : X.A.units + 1 < cLine) : IxR X (fun x y H Q => ∃ p v, x = .ref p ∧ DGet H p y (some v) ∧ Q v H) := by
  intro value slice pins s σ H x y v u Q I rx ry h hs
  obtain ⟨p, v0, rfl, g, q⟩ := h
  obtain rfl : v = Value.ref p := rx
  have hT := dict_typeIs I g
  unfold PyProof.Rows.subscriptTail
  refine wpAny_bind ?_
  rw [getitemInPython_of_ne hT.not_modules]
  refine wpAny_bind (wpAny_specialOf hT PySem.F.slot_dict_getitem.lookup ?_)
  have fin : wpAny (model X.prog X.w) X.A (subscripted slice false (.ref p) u) (fun r s₃ => wpAny (model X.prog X.w) X.A (letTemporaryGo value (.ref p) r >>= fun _ => pure r) (EP X pins σ Q) X.xe s₃) X.xe s := by
    rw [hs]
    exact wpAny_operating (wpAny_mono (d_getItem hu I g ry fun w' s3 I3 rw' => (show EP X pins σ Q w' s3 from ⟨v0, H, I3, rw', q⟩)) (fun r s₃ h₃ => wpAny_bind (wpAny_letTemporaryGo (wpAny_pure h₃))) fun _ _ x => x)
  first
    | exact wpAny_pure (wpAny_bind fin)
    | exact wpAny_bind (wpAny_pure (wpAny_bind fin))
    | exact wpAny_bind fin
theorem sub_ix (fx : Fx X G C d) : IxR X (rM2 G subV) := by
  intro value slice pins s σ H x y v u Q I rx ry q hs
  obtain ⟨m, F, hh, a, b, rl, ra, rb, w⟩ := q
  unfold subV at w
  split at w
  · rename_i s1 i
    split at w
    · rename_i hl
      split at w
      · rename_i c0 e1
        obtain ⟨ra, oa⟩ := ra
        refine ix_str value slice pins s σ H x y v u Q I rx ry ⟨ss s1, i, c0, ra, rb, by rw [ss_len]; exact hl, by rw [ss_list]; exact e1, ?_⟩ hs
        refine w.here rl ⟨rfl, fun c hc => ?_⟩
        have hc : c = c0 := by simpa using hc
        subst hc
        unfold Mi.atI at e1
        obtain ⟨j, _, e2⟩ := Option.bind_eq_some_iff.mp e1
        exact oa c (List.mem_of_getElem? e2)
      · exact False.elim w
    · exact False.elim w
  · split at w
    · rename_i i hne _ xs e1
      split at w
      · rename_i v0 e2
        obtain ⟨p, ys, rfl, hq, rs⟩ := seq_ok rl ra e1
        obtain ⟨y0, e3, r0⟩ := atI_R rs e2
        rcases hq with hq | hq
        · exact ix_list value slice pins s σ H _ y v u Q I rx ry ⟨p, ys, i, y0, rfl, rb, by rw [fx.K]; exact hq, e3, w.here rl r0⟩ hs
        · exact ix_tup value slice pins s σ H _ y v u Q I rx ry ⟨p, ys, i, y0, rfl, rb, by rw [fx.K]; exact hq, e3, w.here rl r0⟩ hs
      · exact False.elim w
    · exact False.elim w
  · split at w
    · rename_i k _ kvs e1
      split at w
      · rename_i v0 e2
        obtain ⟨p, ys, rfl, hq, rs⟩ := dct_ok rl ra e1
        have g := getK_ok k rs
        rw [e2] at g
        obtain ⟨x0, e3, r0⟩ := g
        obtain ⟨rb, _⟩ := rb
        subst rb
        obtain rfl : v = Value.ref p := rx
        have dg : DGet H p (.str (ss k)) (some x0) := by
          have := DGet.k (k := Sum.inr (ss k)) hq
          rw [e3] at this
          exact this
        exact ix_dict (by have := fx.hu; omega) value slice pins s σ H (.ref p) _ _ u Q I rfl ry ⟨p, x0, rfl, dg, w.here rl r0⟩ hs
      · exact False.elim w
    · exact False.elim w
  · exact False.elim w
def noSlice : Expr → Bool
  | .Slice .. => false
  | _ => true
theorem plainIx_of {b : Expr} (h : noSlice b = true) : PlainIx b := fun o i => by
  cases b <;> first | rfl | cases h
theorem se_sub (fx : Fx X G C d) (ha : SE X G C a x) (hb : SE X G C b y) (hs : noSlice b = true) : SE X G C (.Subscript a b pos) (.sub x y) := by
  refine SE.of fx.K (plainT_of rfl) (fun m r h => by rw [evM]) (PE.weak (pe_ix (sub_ix fx) ha.v hb.v (plainIx_of hs)) fun σ H Q w => ?_)
  exact tM_two rfl w

/-! ### calls -/
theorem Rs.cons {F : Hp} {m : Mp} {v : Vl} {x : V} {vs : List Vl} {xs : List V} (r : R G F m v x) (rs : Rs G F m vs xs) : Rs G F m (v :: vs) (x :: xs) := ⟨x, xs, rfl, r, rs⟩
theorem se_call (fx : Fx X G C d) {es : List Expr} {kws : List Keyword} {xs ys : List Ex} {f : String} {fi : FnI} {ps : List Src} {p : Pos} (hfi : G.fi "" f = some fi) (hg : Gl X (Str.ofString f)) (hdb : (Str.ofString f == ("__debug__" : Str)) = false)
    (hs : es.all noStar = true) (hkw : kwOk kws = true) (ha : SA X G C es xs) (hb : SK X G C kws ys) (hl : es.length = xs.length) (hl2 : kws.length = ys.length) (hp : srcsI fi es.length (kwNames kws) = some ps) :
    SE X G C (.Call (.Name (Str.ofString f) p) es kws pos) (.call f (xs ++ ys) ps) := by
  refine SE.of fx.K (plainT_of rfl) (fun m r h => by rw [evM]) ⟨fun pins s σ H Q I w => ?_⟩
  obtain ⟨m, F, h, r, rl, re, w⟩ := w
  obtain ⟨fd, hf⟩ := fx.fn "" f fi hfi
  refine wpAny_Call_Name_kw (ld_glob I hg (fx.glf f fi hfi) ?_ hdb)
  refine call_args (g := fun vs h => match srcs vs ps with
    | some vs => C.fn "" f vs h
    | none => .bad) (by rw [fx.K]; exact hf.keep) hs hkw ha hb I rl re hl hl2 w fun us ws vs zs ls m' F' H' h' s' I' rv rz lu lw lm lf rl' rs w => ?_
  split at w
  · rename_i as e1
    exact run_held (us := us) hf fx.K fx.room I' rv rz (by rw [lw, kwNames_len hkw]) (by rw [lu]; exact hp) rl' rs e1 w
  · exact False.elim w
def fewOk (n k : Nat) : Bool := decide (n + k + 1 < 30)
theorem form_of {es : List Expr} {kws : List Keyword} {env : PySem.Env} (hs : es.all noStar = true) (hk : kwOk kws = true) (hf : fewOk es.length kws.length = true) :
    methodCallForm (es.length + kws.length) (backTo pos (starEach es env)) (backToKw pos (keywordEach kws env)) = true := by
  have h1 : (backTo pos (starEach es env)).all (fun x => !x.1) = true := by
    have := noStar_any (pos := pos) (env := env) hs
    rw [List.all_eq_true]
    intro z hz
    cases hb : z.1 with
    | false => rfl
    | true =>
      have : (backTo pos (starEach es env)).any (·.1) = true := List.any_eq_true.mpr ⟨z, hz, hb⟩
      rw [noStar_any hs] at this
      cases this
  unfold methodCallForm
  rw [h1, kw_all hk, Bool.true_and, Bool.true_and]
  unfold fewOk at hf
  have hf := of_decide_eq_true hf
  refine decide_eq_true ?_
  split <;> omega
theorem eval_meth {o : Expr} {n : Str} {apos : Pos} {es : List Expr} {kws : List Keyword} {env : PySem.Env} (hb : baseOk o = true) (hs : es.all noStar = true) (hk : kwOk kws = true) (hf : fewOk es.length kws.length = true) (hl : (apos.endLine == pos.line) = true) :
    eval (.Call (.Attribute o n apos) es kws pos) env = (do
      let ov ← eval o env
      standAt apos.atName
      let (f, first) ← holding [ov] (getMethod ov n (plainOf o env))
      callWith pos f first (backTo pos (starEach es env)) (backToKw pos (keywordEach kws env))) := by
  show (do
    let ov ← attributeBase o n env (eval o env)
    standAt apos.atName
    methodCall o n apos pos env ov (es.length + kws.length) (backTo pos (starEach es env)) (backToKw pos (keywordEach kws env))) = _
  rw [base_of hb]
  congr 1
  funext ov
  congr 1
  funext _
  exact mcall_line (form_of hs hk hf) hl
theorem se_meth (fx : Fx X G C d) {es : List Expr} {kws : List Keyword} {xs ys : List Ex} {f : String} {ps : List Src} {apos : Pos} (hall : ∀ cc ∈ G.cs, ∀ fi, G.fi cc f = some fi → srcsI fi (es.length + 1) (kwNames kws) = some ps) (hc : ∀ cc ∈ G.cs, ∀ vs h, G.fi cc f = none → C.fn cc f vs h = .bad)
    (ho : SE X G C a x) (hb0 : baseOk a = true) (hs : es.all noStar = true) (hkw : kwOk kws = true) (hf : fewOk es.length kws.length = true) (hln : (apos.endLine == pos.line) = true) (ha : SA X G C es xs) (hb : SK X G C kws ys) (hl : es.length = xs.length) (hl2 : kws.length = ys.length) :
    SE X G C (.Call (.Attribute a (Str.ofString f) apos) es kws pos) (.meth x f (xs ++ ys) ps) := by
  refine SE.of fx.K (plainT_of rfl) (fun m r h => by rw [evM]) ⟨fun pins s σ H Q I w => ?_⟩
  refine PySem.W.methodCall_KW (pl := plainOf a X.env) ?_ (eval_meth hb0 hs hkw hf hln)
  refine thn (ho.v.run pins s σ H (fun x H1 => ∃ m F h r v, Rel G m F h H1 ∧ RE G F m r σ ∧ R G F m v x ∧ WpV G m F (match objOf h v with
    | some (c, fs) => if (getF fs f).isNone then (evs C (xs ++ ys) r h).bind fun vs h => (match srcs (v :: vs) ps with
      | some vs => C.fn c f vs h
      | none => .bad) else .bad
    | none => .bad) Q) I (tM_bind w fun m F h r v x H' rl re rx w => ⟨m, F, h, r, v, rl, re, rx, w⟩)) fun u s1 ⟨x1, H1, I1, ru, m, F, h, r, v, rl, re, rx, w⟩ => ?_
  split at w
  · rename_i cc fs e1
    split at w
    · rename_i hn
      obtain ⟨p, dx, zs, rfl, hp, hcc, rf⟩ := obj_ok rl rx e1
      have g := getF_ok f rf
      have hg : getF fs f = none := by simpa using hn
      rw [hg] at g
      obtain rfl : u = Value.ref p := ru
      cases efi : G.fi cc f with
      | none =>
        obtain ⟨vs, h2, e2, w⟩ := w.bind
        split at w
        · rename_i as e3
          rw [hc cc hcc as h2 efi] at w
          exact False.elim w
        · exact False.elim w
      | some fi =>
        obtain ⟨fd, hf⟩ := fx.fn cc f fi efi
        refine getmeth_ok I1 hp (by rw [fx.K]; exact fx.cls cc hcc) (by rw [fx.K]; exact fx.meth cc f fi hcc efi) g ?_
        dsimp only
        refine call_args (g := fun vs h => match srcs (v :: vs) ps with
          | some vs => C.fn cc f vs h
          | none => .bad) (by rw [fx.K]; exact hf.keep) hs hkw ha hb I1 rl re hl hl2 w fun us ws vs zs ls m' F' H' h' s' I' rv rz lu lw lm lf rl' rs w => ?_
        split at w
        · rename_i as e2
          exact run_held (us := .ref p :: us) (vs := .ref p :: vs) (ls := v :: ls) hf fx.K fx.room I' (.cons rfl rv) rz (by rw [lw, kwNames_len hkw]) (by rw [List.length_cons, lu]; exact hall cc hcc fi efi) rl' (Rs.cons (R.mono lf lm _ _ rx) rs) e2 w
        · exact False.elim w
    · exact False.elim w
  · exact False.elim w
end
end Mi
/-! MINI: slices, built-ins -/
namespace Mi
open PySem PySem.Spec L2
section
variable {X : Cx} {G : Gi} {C : Cs} {d : Nat} {e a b c : Expr} {x y z : Ex} {pos : Pos}
/-! ### slices -/
theorem cut_R {F : Hp} {m : Mp} {xs : List Vl} {ys : List V} (rs : Rs G F m xs ys) (lo hi : Option Int) : Rs G F m (cut xs lo hi) (cutV ys lo hi) := by
  unfold cut cutV
  rw [rs.length]
  exact (rs.drop _).take _
theorem sOk.sub {s t : Tx} (h : sOk s) (i : ∀ c ∈ t, c ∈ s) : sOk t := fun c hc => h c (i c hc)
theorem cut_sub {α : Type} (s : List α) (lo hi : Option Int) : ∀ c ∈ cut s lo hi, c ∈ s := fun c hc => List.mem_of_mem_drop (List.mem_of_mem_take hc)
def rSlM (G : Gi) : V → Option Int → Option Int → Hp → VK → Prop := fun x lo hi H Q => ∃ m F h v, Rel G m F h H ∧ R G F m v x ∧ WpV G m F (slcV v lo hi h) Q
theorem slc_ok (hK : X.K = G.K) : SlR X (rSlM G) := by
  intro pins s σ H x v vl vu lo hi sl Q I rx hs pl pu q
  obtain ⟨m, F, hh, a, rl, ra, w⟩ := q
  unfold slcV at w
  split at w
  · rename_i s1
    split at w
    · rename_i hl
      obtain ⟨ra, oa⟩ := ra
      refine sl_str pins s σ H x v vl vu lo hi sl Q I rx hs pl pu ⟨ss s1, ra, by rw [ss_len]; exact hl, ?_⟩
      have e : cutS (ss s1) lo hi = ss (cut s1 lo hi) := by
        unfold cutS cut
        rw [ss_list, ss_len]
        rfl
      rw [e]
      exact w.here rl ⟨rfl, oa.sub (cut_sub _ _ _)⟩
    · exact False.elim w
  · rename_i xs
    obtain ⟨p, ys, rfl, q, rs⟩ := ra
    refine sl_tupA pins s σ H _ v vl vu lo hi sl Q I rx hs pl pu ⟨p, ys, rfl, by rw [hK]; exact rl.sub.tup q, fun hw => ?_, fun _ l nl => w.tup rl nl (cut_R rs lo hi)⟩
    have e : cutV ys lo hi = ys := by
      unfold cutV
      rw [hw.1, hw.2, List.drop_zero, Nat.sub_zero, List.take_length]
    have rc := cut_R rs lo hi
    rw [e] at rc
    exact w.here rl ⟨p, ys, rfl, q, rc⟩
  · split at w
    · rename_i xs e1
      obtain ⟨p, ys, rfl, q, rs⟩ := lst_ok rl ra e1
      exact sl_list pins s σ H _ v vl vu lo hi sl Q I rx hs pl pu ⟨p, ys, rfl, by rw [hK]; exact q, fun l nl => w.new rl nl ⟨_, rfl, cut_R rs lo hi⟩⟩
    · exact False.elim w
/-- a bound of a slice -/
def SO (X : Cx) (G : Gi) (C : Cs) (e : Option Expr) (x : Ex) : Prop := PO X e (fun σ H Q => ∃ m F h r, Rel G m F h H ∧ RE G F m r σ ∧ Wp G (fun _ _ (a b : Option Int) => b = a) m F (if isAbs x then .ok none h else intR (evM C x false r h)) Q)
theorem PO.weak {e : Option Expr} {t t' : TO} (h : PO X e t) (i : ∀ σ H Q, t' σ H Q → t σ H Q) : PO X e t' := ⟨fun pins s σ H Q I q => h.run pins s σ H Q I (i σ H Q q)⟩
theorem so_none : SO X G C none (.cst .non) := PO.weak po_none fun σ H Q w => by
  obtain ⟨m, F, h, r, rl, re, w⟩ := w
  exact Wp.here (show Wp G (fun _ _ (a b : Option Int) => b = a) m F (.ok none h) Q from w) rl rfl
theorem so_some (h : SE X G C e x) (hx : isAbs x = false) : SO X G C (some e) x := PO.weak (po_some h.v) fun σ H Q w => by
  obtain ⟨m, F, hh, r, rl, re, w⟩ := w
  rw [hx] at w
  have w : Wp G (fun _ _ (a b : Option Int) => b = a) m F (intR (evM C x false r hh)) Q := w
  unfold intR at w
  obtain ⟨v, h1, e1, w⟩ := w.bind
  refine ⟨m, F, hh, r, rl, re, ?_⟩
  dsimp only
  rw [e1]
  intro m' F' H' x' lm l rl' rx
  split at w
  · exact ⟨_, rx, w m' F' H' _ lm l rl' rfl⟩
  · exact False.elim w
theorem se_slc (fx : Fx X G C d) {lo hi : Option Expr} {p2 : Pos} (ha : SE X G C a x) (hl : SO X G C lo y) (hh : SO X G C hi z) : SE X G C (.Subscript a (.Slice lo hi none p2) pos) (.slc x y z) := by
  refine SE.of fx.K (plainT_of rfl) (fun m r h => by rw [evM]) (PE.weak (pe_slice (slc_ok fx.K) ha.v hl hh) fun σ H Q w => ?_)
  refine tM_bind (g := fun r x h => (if isAbs y then .ok none h else intR (evM C y false r h)).bind fun y h => (if isAbs z then .ok none h else intR (evM C z false r h)).bind fun z h => slcV x y z h) w fun m F h r v x H' rl re rx w => ?_
  obtain ⟨u, h1, e1, w⟩ := w.bind
  refine ⟨m, F, h, r, rl, re, ?_⟩
  rw [e1]
  intro m' F' H2 lo' lm l rl' e2
  subst e2
  obtain ⟨u2, h2, e2, w2⟩ := Wp.bind (w.mono lm l)
  refine ⟨m', F', h1, r, rl', RE.mono l lm _ _ re, ?_⟩
  rw [e2]
  intro m3 F3 H3 hi' lm3 l3 rl3 e3
  subst e3
  exact ⟨m3, F3, h2, v, rl3, R.mono (l.trans l3) (lm.trans lm3) _ _ rx, w2.mono lm3 l3⟩

/-! ### built-in functions -/
theorem bols_ok {F : Hp} {m : Mp} : ∀ {vs : List Vl} {xs : List V} {bs : List Bool}, Rs G F m vs xs → bolsOf vs = some bs → xs = bs.map V.bl
  | [], xs, bs, r, e => by
    have r : xs = [] := r
    have e : [] = bs := Option.some.inj e
    subst r e
    rfl
  | v :: vs, xs, bs, ⟨y, zs, e1, r, rs⟩, e => by
    subst e1
    cases v with
    | bl b =>
      unfold bolsOf at e
      obtain ⟨bs', e2, rfl⟩ := Option.map_eq_some_iff.mp e
      have r : y = .bl b := r
      subst r
      rw [bols_ok rs e2]
      rfl
    | _ => cases e
theorem ints_ok {F : Hp} {m : Mp} : ∀ {vs : List Vl} {xs : List V} {bs : List Int}, Rs G F m vs xs → intsOf vs = some bs → xs = bs.map V.int
  | [], xs, bs, r, e => by
    have r : xs = [] := r
    have e : [] = bs := Option.some.inj e
    subst r e
    rfl
  | v :: vs, xs, bs, ⟨y, zs, e1, r, rs⟩, e => by
    subst e1
    cases v with
    | int b =>
      unfold intsOf at e
      obtain ⟨bs', e2, rfl⟩ := Option.map_eq_some_iff.mp e
      have r : y = .int b := r
      subst r
      rw [ints_ok rs e2]
      rfl
    | _ => cases e
theorem strs_ok {F : Hp} {m : Mp} : ∀ {vs : List Vl} {xs : List V} {bs : List Tx}, Rs G F m vs xs → strsOf vs = some bs → xs = (bs.map ss).map V.str ∧ ∀ s ∈ bs, sOk s
  | [], xs, bs, r, e => by
    have r : xs = [] := r
    have e : [] = bs := Option.some.inj e
    subst r e
    exact ⟨rfl, fun _ h => nomatch h⟩
  | v :: vs, xs, bs, ⟨y, zs, e1, r, rs⟩, e => by
    subst e1
    cases v with
    | str b =>
      unfold strsOf at e
      obtain ⟨bs', e2, rfl⟩ := Option.map_eq_some_iff.mp e
      obtain ⟨r, o⟩ := r
      subst r
      obtain ⟨h1, h2⟩ := strs_ok rs e2
      subst h1
      refine ⟨rfl, fun s hs => ?_⟩
      rcases List.mem_cons.mp hs with rfl | hs
      · exact o
      · exact h2 s hs
    | _ => cases e
theorem one_R {F : Hp} {m : Mp} {v : Vl} {xs : List V} (r : Rs G F m [v] xs) : ∃ x, xs = [x] ∧ R G F m v x := by
  obtain ⟨y, zs, e, r, rs⟩ := r
  have rs : zs = [] := rs
  subst rs
  exact ⟨y, e, r⟩
theorem two_R {F : Hp} {m : Mp} {v u : Vl} {xs : List V} (r : Rs G F m [v, u] xs) : ∃ x y, xs = [x, y] ∧ R G F m v x ∧ R G F m u y := by
  obtain ⟨y, zs, e, r, rs⟩ := r
  obtain ⟨z, rfl, r2⟩ := one_R rs
  exact ⟨y, z, e, r, r2⟩
theorem c_len (fx : Fx X G C d) : CallR X (.builtin "len") (rMs G bLen) := by
  intro pins s σ H xs us Q I r h
  obtain ⟨m, F, hh, vs, rl, rs, w⟩ := h
  unfold bLen at w
  split at w
  · rename_i v
    obtain ⟨x, rfl, rx⟩ := one_R rs
    split at w
    · rename_i n e1
      unfold lenV at e1
      split at e1
      · rename_i s1
        split at e1
        · rename_i hl
          have e1 := Option.some.inj e1
          subst e1
          obtain ⟨rx, _⟩ := rx
          exact call_len pins s σ H _ us Q I r ⟨x, s1.length, rfl, by rw [rx]; exact ⟨by rw [ss_len]; exact hl, by rw [ss_len]⟩, w.here rl rfl⟩
        · cases e1
      · split at e1
        · rename_i zs e2
          have e1 := Option.some.inj e1
          subst e1
          obtain ⟨p, ys, rfl, q, rz⟩ := seq_ok rl rx e2
          refine call_len pins s σ H _ us Q I r ⟨.ref p, zs.length, rfl, ?_, w.here rl rfl⟩
          rcases q with q | q
          · exact .inl ⟨ys, by rw [fx.K]; exact q, by rw [rz.length]⟩
          · exact .inr ⟨ys, by rw [fx.K]; exact q, by rw [rz.length]⟩
        · split at e1
          · rename_i kvs e2
            have e1 := Option.some.inj e1
            subst e1
            obtain ⟨p, ys, rfl, q, rz⟩ := dct_ok rl rx e2
            exact call_lenD pins s σ H _ us Q I r ⟨p, ys, rfl, q, by rw [rz.length]; exact w.here rl rfl⟩
          · cases e1
    · exact False.elim w
  · exact False.elim w
theorem c_abs : CallR X (.builtin "abs") (rMs G bAbs) := by
  intro pins s σ H xs us Q I r h
  obtain ⟨m, F, hh, vs, rl, rs, w⟩ := h
  unfold bAbs at w
  split at w
  · obtain ⟨x, rfl, rx⟩ := one_R rs
    exact call_abs pins s σ H _ us Q I r ⟨_, by rw [show x = _ from rx], w.here rl rfl⟩
  · exact False.elim w
theorem c_max (fx : Fx X G C d) : CallR X (.builtin "max") (rMs G bMax) := by
  intro pins s σ H xs us Q I r h
  obtain ⟨m, F, hh, vs, rl, rs, w⟩ := h
  unfold bMax at w
  split at w
  · obtain ⟨x, y, rfl, rx, ry⟩ := two_R rs
    exact call_max2 fx.calm pins s σ H _ us Q I r ⟨_, _, by rw [show x = _ from rx, show y = _ from ry], w.here rl rfl⟩
  · exact False.elim w
theorem c_min (fx : Fx X G C d) : CallR X (.builtin "min") (rMs G bMin) := by
  intro pins s σ H xs us Q I r h
  obtain ⟨m, F, hh, vs, rl, rs, w⟩ := h
  unfold bMin at w
  split at w
  · obtain ⟨x, y, rfl, rx, ry⟩ := two_R rs
    exact call_min2 fx.calm pins s σ H _ us Q I r ⟨_, _, by rw [show x = _ from rx, show y = _ from ry], w.here rl rfl⟩
  · exact False.elim w
theorem c_int : CallR X (.type "int") (rMs G bInt) := by
  intro pins s σ H xs us Q I r h
  obtain ⟨m, F, hh, vs, rl, rs, w⟩ := h
  unfold bInt at w
  split at w
  · obtain ⟨x, rfl, rx⟩ := one_R rs
    exact call_int1 pins s σ H _ us Q I r (.inl ⟨_, by rw [show x = _ from rx], w.here rl rfl⟩)
  · obtain ⟨x, rfl, rx⟩ := one_R rs
    exact call_int1 pins s σ H _ us Q I r (.inr ⟨_, by rw [show x = _ from rx], w.here rl rfl⟩)
  · exact False.elim w
theorem c_all (fx : Fx X G C d) : CallR X (.builtin "all") (rMs G bAll) := by
  intro pins s σ H xs us Q I r h
  obtain ⟨m, F, hh, vs, rl, rs, w⟩ := h
  unfold bAll at w
  split at w
  · obtain ⟨x, rfl, rx⟩ := one_R rs
    split at w
    · rename_i bs e1
      obtain ⟨ls, e2, e3⟩ := Option.bind_eq_some_iff.mp e1
      obtain ⟨p, ys, rfl, q, rz⟩ := lst_ok rl rx e2
      have e4 := bols_ok rz e3
      subst e4
      exact cr_all fx.calm pins s σ H _ us Q I r ⟨p, bs, rfl, by rw [fx.K]; exact q, w.here rl rfl⟩
    · exact False.elim w
  · exact False.elim w
theorem c_any (fx : Fx X G C d) : CallR X (.builtin "any") (rMs G bAny) := by
  intro pins s σ H xs us Q I r h
  obtain ⟨m, F, hh, vs, rl, rs, w⟩ := h
  unfold bAny at w
  split at w
  · obtain ⟨x, rfl, rx⟩ := one_R rs
    split at w
    · rename_i bs e1
      obtain ⟨ls, e2, e3⟩ := Option.bind_eq_some_iff.mp e1
      obtain ⟨p, ys, rfl, q, rz⟩ := lst_ok rl rx e2
      have e4 := bols_ok rz e3
      subst e4
      exact cr_any fx.calm pins s σ H _ us Q I r ⟨p, bs, rfl, by rw [fx.K]; exact q, w.here rl rfl⟩
    · exact False.elim w
  · exact False.elim w
/-- list(s), s a text -/
theorem call_listS (hc : X.calm = true) : CallR X (.type "list") (fun xs H Q => ∃ z : Str, xs = [.str z] ∧ z.length ≤ sizeLine ∧ ∀ l, H l = none → Q (.ref l) (upd H l (.lst (z.cps.toList.map fun c => V.str ⟨#[c]⟩)))) := by
  intro pins s σ H xs us Q I r h
  obtain ⟨z, rfl, hl, q⟩ := h
  obtain ⟨u, rfl, ru⟩ := Vals.one r
  obtain ⟨t, rfl⟩ := ru
  refine call_list_str (I.ok.hd hc) z t (fun h' tk acc' c' hk hS hit => ?_) hl
  have hf : H s.heap.objs.size = none := I.hok.fresh (Nat.le_refl _)
  refine ⟨.ref s.heap.objs.size, upd H s.heap.objs.size (.lst (z.cps.toList.map fun c => V.str ⟨#[c]⟩)), I.laid (t' := tk) hk (Nat.le_refl _) ?_, rfl, q _ hf⟩
  refine ⟨by rw [List.length_map]; exact hl, acc'.toList, c', ?_, by simpa using hS⟩
  obtain ⟨hz, hi⟩ := hit
  have hv : ∀ (l : List Nat) (us : List Value), l.length = us.length → (∀ (j : Nat) v, us[j]? = some v → ∃ c u, l[j]? = some c ∧ v = Value.str ⟨#[c]⟩ u) → Vals (l.map fun c => V.str ⟨#[c]⟩) us := by
    intro l
    induction l with
    | nil =>
      intro us hl _
      cases us with
      | nil => exact .nil
      | cons u us => cases hl
    | cons c l ih =>
      intro us hl hi
      cases us with
      | nil => cases hl
      | cons u us =>
        obtain ⟨c', t', e1, e2⟩ := hi 0 u rfl
        have e1 : c = c' := Option.some.inj e1
        subst e1
        exact .cons ⟨t', e2⟩ (ih us (by simpa using hl) fun j v e => hi (j + 1) v e)
  refine hv z.cps.toList acc'.toList (by simpa using hz.symm) fun j v e => ?_
  obtain ⟨c0, u0, e1, e2⟩ := hi j v (by simpa using e)
  exact ⟨c0, u0, by simpa using e1, e2⟩
theorem signs_R {F : Hp} {m : Mp} : ∀ {s : Tx}, sOk s → Rs G F m (s.map fun c => Vl.str [c]) (s.map fun c => V.str ⟨#[c]⟩)
  | [], _ => rfl
  | c :: s, h => ⟨_, _, rfl, ⟨rfl, fun c' hc => h c' (by
      have hc : c' = c := by simpa using hc
      subst hc
      exact List.mem_cons_self)⟩, signs_R fun c' hc => h c' (List.mem_cons_of_mem _ hc)⟩
theorem c_list (fx : Fx X G C d) : CallR X (.type "list") (rMs G bList) := by
  intro pins s σ H xs us Q I r h
  obtain ⟨m, F, hh, vs, rl, rs, w⟩ := h
  unfold bList at w
  split at w
  · rename_i s1
    obtain ⟨x, rfl, rx, ox⟩ := one_R rs
    subst rx
    split at w
    · rename_i hl
      refine call_listS fx.calm pins s σ H _ us Q I r ⟨ss s1, rfl, by rw [ss_len]; exact hl, fun l nl => ?_⟩
      rw [ss_list]
      exact w.new rl nl ⟨_, rfl, signs_R ox⟩
    · exact False.elim w
  · obtain ⟨x, rfl, rx⟩ := one_R rs
    split at w
    · rename_i ls e1
      obtain ⟨p, ys, rfl, q, rz⟩ := seq_ok rl rx e1
      exact call_list_of pins s σ H _ us Q I r ⟨p, ys, rfl, by rw [fx.K]; exact q, fun l nl => w.new rl nl ⟨_, rfl, rz⟩⟩
    · exact False.elim w
  · exact False.elim w
end
end Mi
namespace Mi
open PySem PySem.Spec L2
section
variable {X : Cx} {G : Gi} {C : Cs} {d : Nat} {e a b c : Expr} {x y z : Ex} {pos : Pos}
theorem ty_ok {F H : Hp} {m : Mp} {h : Hm} {v : Vl} {x : V} {n : String} (rl : Rel G m F h H) (r : R G F m v x) (e : tyNm h v = some n) : TyX G.K H x (.type n) := by
  have hL : ∀ {p : Addr} {ys : List V}, SqL G.K H p ys → TyX G.K H (.ref p) (.type "list") := fun q => by
    rcases q with (q | ⟨o, q⟩) | ⟨o, its, k, q, c, _⟩
    · exact .base (.lst q)
    · exact .base (.frz q)
    · exact .kList q c
  have hT : ∀ {p : Addr} {ys : List V}, SqT G.K H p ys → TyX G.K H (.ref p) (.type "tuple") := fun q => by
    rcases q with (q | ⟨o, q⟩) | ⟨o, its, k, q, c, _⟩
    · exact .base (.tup q)
    · exact .fTuple q
    · exact .kTuple q c
  unfold tyNm at e
  split at e
  · have e := Option.some.inj e
    subst e
    rw [show x = _ from r]
    exact .base .non
  · have e := Option.some.inj e
    subst e
    rw [show x = _ from r]
    exact .base (.bl _)
  · have e := Option.some.inj e
    subst e
    rw [show x = _ from r]
    exact .base (.int _)
  · have e := Option.some.inj e
    subst e
    rw [r.1]
    exact .base (.str _)
  · have e := Option.some.inj e
    subst e
    obtain ⟨p, ys, rfl, q, _⟩ := r
    exact hT (rl.sub.tup q)
  · have e := Option.some.inj e
    subst e
    obtain ⟨p, ys, rfl, q, _⟩ := r
    exact hL (rl.sub.lst q)
  · have e := Option.some.inj e
    subst e
    obtain ⟨p, ys, rfl, q, _⟩ := r
    exact .base (.dK (rl.sub _ _ q))
  · rename_i a0
    split at e
    · rename_i xs e1
      have e := Option.some.inj e
      subst e
      obtain ⟨_, p, ys, _, rfl, _, _, q, _⟩ := liv_ok (xs := xs) rl r (by unfold livOf; dsimp only; rw [e1])
      exact .base (.lst q)
    · rename_i kvs e1
      have e := Option.some.inj e
      subst e
      obtain ⟨p, ys, rfl, q, _⟩ := dct_ok (kvs := kvs) rl r (by unfold dctOf; dsimp only; rw [e1])
      exact .base (.dK q)
    · cases e
  · cases e
theorem nm_in {h : Hm} {v : Vl} {n : String} (e : tyNm h v = some n) : n ∈ ["NoneType", "bool", "int", "str", "tuple", "list", "dict"] := by
  unfold tyNm at e
  split at e <;> (try split at e) <;> first | (cases e; done) | (have e := Option.some.inj e; subst e; decide)
theorem sub_all : ∀ n ∈ ["NoneType", "bool", "int", "str", "tuple", "list", "dict"], ∀ t ∈ ["str", "int", "bool", "tuple", "list", "dict"], kitB n t = some (n == t || (n == "bool" && t == "int")) := by decide +kernel
theorem sub_ok {h : Hm} {v : Vl} {n t : String} {b : Bool} (e : tyNm h v = some n) (e2 : subT n t = some b) : PySem.W.kitOne G.K (.type n) (.type t) = some b := by
  unfold subT at e2
  split at e2
  · rename_i hc
    have e2 := Option.some.inj e2
    subst e2
    exact kit_ty (sub_all n (nm_in e) t (by simpa using hc))
  · cases e2
theorem c_isi (fx : Fx X G C d) : CallR X (.builtin "isinstance") (rMs G bIsi) := by
  intro pins s σ H xs us Q I r h
  obtain ⟨m, F, hh, vs, rl, rs, w⟩ := h
  unfold bIsi at w
  split at w
  · obtain ⟨x, y, rfl, rx, ry⟩ := two_R rs
    obtain ⟨b, e, q⟩ := bres_wp w rl
    rw [show y = _ from ry] at r
    unfold isi at e
    split at e
    · rename_i v t _ n e1
      exact call_isi pins s σ H _ us Q I r ⟨x, .ty t, _, _, b, rfl, .ty t, by rw [fx.K]; exact ty_ok rl rx e1, by rw [fx.K]; exact sub_ok e1 e, q⟩
    · cases e
  · exact False.elim w
/-- what a built-in's name stands for -/
def bltV : String → Option Value
  | "len" => some (.builtin "len")
  | "abs" => some (.builtin "abs")
  | "max" => some (.builtin "max")
  | "min" => some (.builtin "min")
  | "int" => some (.type "int")
  | "all" => some (.builtin "all")
  | "any" => some (.builtin "any")
  | "list" => some (.type "list")
  | "isinstance" => some (.builtin "isinstance")
  | _ => none
theorem blt_ok (fx : Fx X G C d) {f : String} {v : Value} (h : bltV f = some v) : CallR X v (rMs G (bltF f)) ∧ ((∃ id, v = .builtin id) ∨ ∃ T, v = .type T) := by
  unfold bltV at h
  split at h <;> cases h
  · exact ⟨c_len fx, .inl ⟨_, rfl⟩⟩
  · exact ⟨c_abs, .inl ⟨_, rfl⟩⟩
  · exact ⟨c_max fx, .inl ⟨_, rfl⟩⟩
  · exact ⟨c_min fx, .inl ⟨_, rfl⟩⟩
  · exact ⟨c_int, .inr ⟨_, rfl⟩⟩
  · exact ⟨c_all fx, .inl ⟨_, rfl⟩⟩
  · exact ⟨c_any fx, .inl ⟨_, rfl⟩⟩
  · exact ⟨c_list fx, .inr ⟨_, rfl⟩⟩
  · exact ⟨c_isi fx, .inl ⟨_, rfl⟩⟩
theorem se_blt (fx : Fx X G C d) {e : Expr} {es : List Expr} {xs : List Ex} {f : String} {v : Value} {p : Pos} (hv : bltV f = some v) (hg : Gl X (Str.ofString f)) (hm : X.mg (Str.ofString f) = none) (hb : bootBuiltins (Str.ofString f) = some v)
    (hn : Str.ofString f ≠ "__name__") (hdb : (Str.ofString f == ("__debug__" : Str)) = false) (hs : (e :: es).all noStar = true) (ha : SA X G C (e :: es) xs) : SE X G C (.Call (.Name (Str.ofString f) p) (e :: es) [] pos) (.blt f xs) := by
  obtain ⟨cr, hk⟩ := blt_ok fx hv
  have hs1 : noStar e = true := by
    rw [List.all_cons, Bool.and_eq_true] at hs
    exact hs.1
  have hs2 : es.all noStar = true := by
    rw [List.all_cons, Bool.and_eq_true] at hs
    exact hs.2
  refine SE.of fx.K (plainT_of rfl) (fun m r h => by rw [evM]) (PE.weak (t := tCB (rMs G (bltF f)) (tMs G fun r h => evs C xs r h)) ?_ fun σ H Q w => ?_)
  · rcases hk with ⟨id, rfl⟩ | ⟨T, rfl⟩
    · exact pe_callB cr hg hm hb ha hn hdb (star_of hs1) (noStar_any hs2)
    · exact pe_callTy cr hg hm hb ha hn hdb (star_of hs1) (noStar_any hs2)
  · exact tMs_use w fun m F h vs ys H' rl rs w => ⟨m, F, h, vs, rl, rs, w⟩

/-! ### methods of built-in things -/
def rMm (G : Gi) (f : Vl → List Vl → Hm → Res Vl) : V → List V → Hp → VK → Prop := fun x xs H Q => ∃ m F h v vs, Rel G m F h H ∧ R G F m v x ∧ Rs G F m vs xs ∧ WpV G m F (f v vs h) Q
theorem ss_size (s : Tx) : (ss s).cps.size = s.length := by simp [ss]
theorem glued_ok (sep : Tx) : ∀ ls : List Tx, Txt.join (ss sep) (ls.map ss) = ss (joinT sep ls) := by
  have key : ∀ (ls : List Tx) (acc : Tx), ls ≠ [] → ((ls.map ss).foldl (fun acc p => acc ++ (ss sep).cps ++ p.cps) acc.toArray) = (acc ++ sep ++ joinT sep ls).toArray := by
    intro ls
    induction ls with
    | nil =>
      intro acc h
      exact absurd rfl h
    | cons l ls ih =>
      intro acc _
      cases ls with
      | nil =>
        show acc.toArray ++ sep.toArray ++ l.toArray = _
        simp [joinT]
      | cons l2 ls =>
        show ((l2 :: ls).map ss).foldl _ (acc.toArray ++ sep.toArray ++ l.toArray) = _
        have e : acc.toArray ++ sep.toArray ++ l.toArray = (acc ++ sep ++ l).toArray := by simp
        rw [e, ih (acc ++ sep ++ l) (by simp)]
        simp [joinT]
  intro ls
  cases ls with
  | nil => rfl
  | cons l ls =>
    show (⟨((ls.map ss).foldl (fun acc p => acc ++ (ss sep).cps ++ p.cps) l.toArray)⟩ : Str) = _
    cases ls with
    | nil => rfl
    | cons l2 ls =>
      rw [key (l2 :: ls) l (by simp)]
      rfl
theorem joinT_mem (sep : Tx) : ∀ (ls : List Tx) (c : Nat), c ∈ joinT sep ls → c ∈ sep ∨ ∃ l ∈ ls, c ∈ l
  | [], c, h => by cases h
  | [l], c, h => .inr ⟨l, by simp, h⟩
  | l :: l2 :: ls, c, h => by
    unfold joinT at h
    rw [List.append_assoc] at h
    rcases List.mem_append.mp h with h | h
    · exact .inr ⟨l, by simp, h⟩
    · rcases List.mem_append.mp h with h | h
      · exact .inl h
      · rcases joinT_mem sep (l2 :: ls) c h with h | ⟨x, hx, h⟩
        · exact .inl h
        · exact .inr ⟨x, List.mem_cons_of_mem _ hx, h⟩
theorem t_join (fx : Fx X G C d) : MtR X "str.join" (rMm G mJoin) := by
  intro pins s σ H x xs v us Q I rx rxs h
  obtain ⟨m, F, hh, v0, vs, rl, r0, rs, w⟩ := h
  unfold mJoin at w
  split at w
  · rename_i sep v1
    obtain ⟨r0, o0⟩ := r0
    obtain ⟨x1, rfl, r1⟩ := one_R rs
    split at w
    · rename_i ls e1
      obtain ⟨zs, e2, e3⟩ := Option.bind_eq_some_iff.mp e1
      obtain ⟨p, ys, rfl, q, rz⟩ := seq_ok rl r1 e2
      obtain ⟨e4, hs⟩ := strs_ok rz e3
      subst e4
      split at w
      · rename_i hl
        refine mt_join pins s σ H _ _ v us Q I rx rxs ⟨ss sep, p, ls.map ss, r0, rfl, by rw [fx.K]; exact q, ?_, ?_⟩
        · rw [List.map_map, List.length_map, ss_len]
          have e5 : ((fun x : Str => x.length) ∘ ss) = fun s : Tx => s.length := by
            funext s
            exact ss_len s
          rw [e5]
          exact hl
        · rw [glued_ok]
          refine w.here rl ⟨rfl, fun c hc => ?_⟩
          rcases joinT_mem sep ls c hc with h | ⟨l, hl, h⟩
          · exact o0 c h
          · exact hs l hl c h
      · exact False.elim w
    · exact False.elim w
  · exact False.elim w
theorem t_lower : MtR X "str.lower" (rMm G mLower) := by
  intro pins s σ H x xs v us Q I rx rxs h
  obtain ⟨m, F, hh, v0, vs, rl, r0, rs, w⟩ := h
  unfold mLower at w
  split at w
  · rename_i s1
    obtain ⟨r0, o0⟩ := r0
    have rs : xs = [] := rs
    subst rs
    split at w
    · rename_i hl
      have h1 : ∀ c ∈ s1, c < 128 := fun c hc => by
        have := List.all_eq_true.mp hl.2 c hc
        simpa using this
      refine mt_lower pins s σ H _ _ v us Q I rx rxs ⟨ss s1, r0, rfl, by rw [ss_len]; exact hl.1, ?_⟩
      have e : Txt.lower (ss s1) = ss (s1.map lowerC) := by
        rw [PyProof.Rows.lower_ascii (by rw [ss_list]; exact h1)]
        unfold ss
        congr 1
        simp
        intro a _
        rfl
      rw [e]
      refine w.here rl ⟨rfl, fun c hc => ?_⟩
      obtain ⟨c0, hc0, rfl⟩ := List.mem_map.mp hc
      have := h1 c0 hc0
      unfold lowerC
      split <;> omega
    · exact False.elim w
  · exact False.elim w
theorem t_append : MtR X "list.append" (rMm G mAppend) := by
  intro pins s σ H x xs v us Q I rx rxs h
  obtain ⟨m, F, hh, v0, vs, rl, r0, rs, w⟩ := h
  unfold mAppend at w
  split at w
  · rename_i a0 v1
    obtain ⟨x1, rfl, r1⟩ := one_R rs
    split at w
    · rename_i ls e1
      split at w
      · rename_i hl
        obtain ⟨a', p, ys, e2, rfl, ma, _, q, rz⟩ := liv_ok (xs := ls) rl r0 (by unfold livOf; dsimp only; rw [e1])
        cases e2
        refine mt_append pins s σ H _ _ v us Q I rx rxs ⟨p, ys, x1, rfl, rfl, q, by rw [rz.length]; exact hl, ?_⟩
        exact w.here (rl.put e1 (fun z => nomatch z) ma ⟨_, rfl, rz.append (Rs.one r1)⟩) rfl
      · exact False.elim w
    · exact False.elim w
  · exact False.elim w
/-- the type, the model's own name and its facts -/
structure BmOk (X : Cx) (G : Gi) (f : String) (n : Nat) (T id : String) : Prop where
  ty : bmTy f n = T
  pa : PlainAttrs T
  slot : Slot T (Str.ofString f) id
  tyof : typeOf (.builtin id) = pure (.type "method_descriptor")
  rule : MtR X id (rMm G (bmF f))
def bmId : String → Nat → Option (String × String)
  | "join", 1 => some ("str", "str.join")
  | "lower", 0 => some ("str", "str.lower")
  | "append", 1 => some ("list", "list.append")
  | _, _ => none
theorem bm_ok (fx : Fx X G C d) {f T id : String} {n : Nat} (h : bmId f n = some (T, id)) : BmOk X G f n T id := by
  unfold bmId at h
  split at h <;> cases h
  · exact ⟨rfl, PySem.F.plainAttrs_str, PySem.F.slot_str_join, PySem.F.type_str_join, t_join fx⟩
  · exact ⟨rfl, PySem.F.plainAttrs_str, PySem.F.slot_str_lower, PySem.F.type_str_lower, t_lower⟩
  · exact ⟨rfl, PySem.F.plainAttrs_list, PySem.F.slot_list_append, PySem.F.type_list_append, t_append⟩
theorem chk_ok {F H : Hp} {m : Mp} {h : Hm} {v : Vl} {x : V} {T : String} (rl : Rel G m F h H) (r : R G F m v x) (e : bmChk T v h = true) : tyV G.K T x H := by
  unfold bmChk at e
  split at e
  · split at e
    · rw [r.1]
      rfl
    · cases e
  · obtain ⟨xs, e1⟩ := Option.isSome_iff_exists.mp e
    obtain ⟨p, ys, rfl, q, _⟩ := lst_ok rl r e1
    exact .inl ⟨rfl, ys, q⟩
  · obtain ⟨xs, e1⟩ := Option.isSome_iff_exists.mp e
    obtain ⟨p, ys, rfl, q, _⟩ := dct_ok rl r e1
    exact .inr (.inr (.inl ⟨rfl, .inl ⟨ys, q⟩⟩))
  · cases e
theorem se_bm (fx : Fx X G C d) {es : List Expr} {xs : List Ex} {f T id : String} {apos : Pos} (hid : bmId f es.length = some (T, id)) (ho : SE X G C a x) (hb0 : baseOk a = true) (hs : es.all noStar = true) (hf : fewOk es.length 0 = true) (hln : (apos.endLine == pos.line) = true)
    (ha : SA X G C es xs) (hl : es.length = xs.length) : SE X G C (.Call (.Attribute a (Str.ofString f) apos) es [] pos) (.bm x f xs) := by
  obtain ⟨ty, pa, slot, tyof, rule⟩ := bm_ok fx hid
  have key : ∀ σ H Q, tM G (fun r h => (evM C x false r h).bind fun x h => if bmChk (bmTy f xs.length) x h then (evs C xs r h).bind fun vs h => bmF f x vs h else .bad) σ H Q → tBM X.K T (rMm G (bmF f)) (tM G fun r h => evM C x false r h) (tMs G fun r h => evs C xs r h) σ H Q := fun σ H Q w => by
    refine tM_bind (g := fun r x h => if bmChk (bmTy f xs.length) x h then (evs C xs r h).bind fun vs h => bmF f x vs h else .bad) w fun m F h r v x H' rl re rx w => ?_
    split at w
    · rename_i hc
      rw [← hl, ty] at hc
      refine ⟨by rw [fx.K]; exact chk_ok rl rx hc, ?_⟩
      obtain ⟨vs, h1, e1, w⟩ := w.bind
      refine ⟨m, F, h, r, rl, re, ?_⟩
      dsimp only
      rw [e1]
      exact fun m' F' H2 ys lm l rl' rys => ⟨m', F', h1, v, vs, rl', R.mono l lm _ _ rx, rys, w.mono lm l⟩
    · exact False.elim w
  refine SE.of fx.K (plainT_of rfl) (fun m r h => by rw [evM]) ?_
  cases es with
  | nil =>
    refine PE.weak (pe_bm0 pa slot tyof rule ho.v (base_of hb0) hln) fun σ H Q w => ?_
    obtain ⟨m, F, h, r, rl, re, k⟩ := key σ H Q w
    refine ⟨m, F, h, r, rl, re, k.imp fun y H1 ⟨h1, h2⟩ => ⟨h1, ?_⟩⟩
    have hx : xs = [] := by
      cases xs with
      | nil => rfl
      | cons x xs => cases hl
    subst hx
    obtain ⟨m2, F2, h2, r2, rl2, re2, k2⟩ := h2
    dsimp only at k2
    rw [evs] at k2
    exact k2.here rl2 rfl
  | cons e0 es =>
    have hs1 : noStar e0 = true := by
      rw [List.all_cons, Bool.and_eq_true] at hs
      exact hs.1
    have hs2 : es.all noStar = true := by
      rw [List.all_cons, Bool.and_eq_true] at hs
      exact hs.2
    have hfm := form_of (pos := pos) (kws := []) (env := X.env) hs rfl hf
    refine PE.weak (pe_bm pa slot tyof rule ho.v ha (base_of hb0) ?_ hln (star_of hs1) (noStar_any hs2)) key
    exact hfm

/-! ### new objects -/
theorem Rf.nil {F : Hp} {m : Mp} : Rf G F m [] [] := rfl
end
end Mi
/-! MINI: what loops go over; comprehensions -/
namespace Mi
open PySem PySem.Spec L2
/-- our iterator and the layer's go together -/
def ItR (G : Gi) (m : Mp) (F : Hp) (J : Mi.It) (J' : L2.It) : Prop := ∀ i h H m' F', Lm m m' → Le F F' → Rel G m' F' h H →
  (J.next i h = some none → J'.stop i H) ∧ ∀ v, J.next i h = some (some v) → J'.go i H ∧ ∀ x H', J'.yld i H x H' → ∃ F'', Le F' F'' ∧ Rel G m' F'' h H' ∧ R G F'' m' v x
section
variable {X : Cx} {G : Gi} {C : Cs} {d : Nat} {e a b c : Expr} {x y z : Ex} {pos : Pos} {m : Mp} {F : Hp}
theorem Sq_inj {K : PySem.W.Frag} {H : Hp} {p : Addr} {xs : List V} (h : H p = some (.lst xs)) {ys : List V} (hq : ∀ (zs : List V), SqL K H p zs → zs[0]? = ys[0]?) : xs[0]? = ys[0]? := hq xs (.inl (.inl h))
theorem it_rng (lo : Int) (n : Nat) : ItR G m F (.rng lo n) (Itr lo n) := by
  intro i h H m' F' lm l rl
  refine ⟨fun e => ?_, fun v e => ?_⟩
  · simp only [It.next] at e
    by_cases hi : i < n
    · rw [if_pos hi] at e
      cases e
    · exact Nat.le_of_not_lt hi
  · simp only [It.next] at e
    by_cases hi : i < n
    · rw [if_pos hi] at e
      cases e
      refine ⟨hi, fun x H' ⟨h1, h2⟩ => ⟨F', Le.refl _, by rw [h1]; exact rl, h2⟩⟩
    · rw [if_neg hi] at e
      cases e
theorem it_live {a : Nat} {p : Addr} (ma : m a = some p) : ItR G m F (.live a) (Itl G.K p) := by
  intro i h H m' F' lm l rl
  have key : ∀ xs, h[a]? = some (.lst xs) → ∃ ys, H p = some (.lst ys) ∧ Rs G F' m' xs ys := fun xs e => by
    obtain ⟨p', z1, z2, ys', z3, z4⟩ := rl.obj a _ e (fun z => nomatch z)
    have e5 : p = p' := Option.some.inj ((lm _ _ ma).symm.trans z1)
    subst e5
    exact ⟨ys', z3, z4⟩
  refine ⟨fun e => ?_, fun v e => ?_⟩
  · simp only [It.next] at e
    split at e
    · rename_i xs e1
      obtain ⟨ys, e2, rs⟩ := key xs e1
      refine ⟨ys, .inl (.inl e2), ?_⟩
      rw [rs.length]
      exact List.getElem?_eq_none_iff.mp (Option.some.inj e)
    · cases e
  · simp only [It.next] at e
    split at e
    · rename_i xs e1
      obtain ⟨ys, e2, rs⟩ := key xs e1
      obtain ⟨y, e3, ry⟩ := rs.get (Option.some.inj e)
      refine ⟨⟨ys, y, .inl (.inl e2), e3⟩, fun x H' ⟨h1, h2⟩ => ?_⟩
      have e4 := h2 ys (.inl (.inl e2))
      rw [e3] at e4
      have e4 := Option.some.inj e4
      subst e4
      exact ⟨F', Le.refl _, by rw [h1]; exact rl, ry⟩
    · cases e
theorem it_lst {xs : List Vl} {ys : List V} {p : Addr} (q : SqL G.K F p ys) (rs : Rs G F m xs ys) : ItR G m F (.vals xs) (Itl G.K p) := by
  intro i h H m' F' lm l rl
  have q' : SqL G.K H p ys := rl.sub.lst (l.lst q)
  have rs' := Rs.mono l lm _ _ rs
  refine ⟨fun e => ⟨ys, q', ?_⟩, fun v e => ?_⟩
  · rw [rs.length]
    exact List.getElem?_eq_none_iff.mp (Option.some.inj e)
  · obtain ⟨y, e3, ry⟩ := rs'.get (Option.some.inj e)
    refine ⟨⟨ys, y, q', e3⟩, fun x H' ⟨h1, h2⟩ => ?_⟩
    have e4 := h2 ys q'
    rw [e3] at e4
    have e4 := Option.some.inj e4
    subst e4
    exact ⟨F', Le.refl _, by rw [h1]; exact rl, ry⟩
theorem it_tup {xs : List Vl} {ys : List V} {p : Addr} (q : SqT G.K F p ys) (rs : Rs G F m xs ys) : ItR G m F (.vals xs) (Itt G.K p) := by
  intro i h H m' F' lm l rl
  have q' : SqT G.K H p ys := rl.sub.tup (l.tup q)
  have rs' := Rs.mono l lm _ _ rs
  refine ⟨fun e => ⟨ys, q', ?_⟩, fun v e => ?_⟩
  · rw [rs.length]
    exact List.getElem?_eq_none_iff.mp (Option.some.inj e)
  · obtain ⟨y, e3, ry⟩ := rs'.get (Option.some.inj e)
    refine ⟨⟨ys, y, q', e3⟩, fun x H' ⟨h1, h2⟩ => ?_⟩
    have e4 := h2 ys q'
    rw [e3] at e4
    have e4 := Option.some.inj e4
    subst e4
    exact ⟨F', Le.refl _, by rw [h1]; exact rl, ry⟩
theorem it_str {s : Tx} (o : sOk s) : ItR G m F (.vals (s.map fun c => Vl.str [c])) (Its (ss s)) := by
  intro i h H m' F' lm l rl
  refine ⟨fun e => ?_, fun v e => ?_⟩
  · have e := List.getElem?_eq_none_iff.mp (Option.some.inj e)
    rw [List.length_map] at e
    show (ss s).cps.size ≤ i
    rw [ss_size]
    exact e
  · have e : (s.map fun c => Vl.str [c])[i]? = some v := Option.some.inj e
    rw [List.getElem?_map] at e
    obtain ⟨c, e1, rfl⟩ := Option.map_eq_some_iff.mp e
    have e2 : (ss s).cps[i]? = some c := by
      unfold ss
      simpa using e1
    refine ⟨?_, fun x H' ⟨h1, c', h2, h3⟩ => ?_⟩
    · show i < (ss s).cps.size
      rw [ss_size]
      exact (List.getElem?_eq_some_iff.mp e1).1
    · rw [e2] at h2
      have h2 := Option.some.inj h2
      subst h2
      refine ⟨F', Le.refl _, by rw [h1]; exact rl, h3, fun c' hc => ?_⟩
      have hc : c' = c := by simpa using hc
      subst hc
      exact o c' (List.mem_of_getElem? e1)
theorem it_enum {a : Nat} {p : Addr} (ma : m a = some p) : ItR G m F (.enumL a) (Ite G.K p) := by
  intro i h H m' F' lm l rl
  have key : ∀ xs, h[a]? = some (.lst xs) → ∃ ys, H p = some (.lst ys) ∧ Rs G F' m' xs ys := fun xs e => by
    obtain ⟨p', z1, z2, ys', z3, z4⟩ := rl.obj a _ e (fun z => nomatch z)
    have e5 : p = p' := Option.some.inj ((lm _ _ ma).symm.trans z1)
    subst e5
    exact ⟨ys', z3, z4⟩
  refine ⟨fun e => ?_, fun v e => ?_⟩
  · simp only [It.next] at e
    split at e
    · rename_i xs e1
      obtain ⟨ys, e2, rs⟩ := key xs e1
      refine ⟨ys, .inl (.inl e2), ?_⟩
      rw [rs.length]
      have e := Option.some.inj e
      cases ex : xs[i]? with
      | none => exact List.getElem?_eq_none_iff.mp ex
      | some z =>
        rw [ex] at e
        cases e
    · cases e
  · simp only [It.next] at e
    split at e
    · rename_i xs e1
      obtain ⟨ys, e2, rs⟩ := key xs e1
      obtain ⟨v0, ev, rfl⟩ := Option.map_eq_some_iff.mp (Option.some.inj e)
      obtain ⟨y, e3, ry⟩ := rs.get ev
      refine ⟨⟨ys, y, .inl (.inl e2), e3⟩, fun x H' ⟨T, x0, h1, nT, h2, h3⟩ => ?_⟩
      have e4 := h3 ys (.inl (.inl e2))
      rw [e3] at e4
      have e4 := Option.some.inj e4
      subst e4
      subst h1 h2
      refine ⟨upd F' T (.tup [.int (i : Nat), y]), Le.upd (rl.free nT), rl.lay nT, T, _, rfl, .inl (.inl upd_same), ⟨_, _, rfl, rfl, _, _, rfl, R.mono (Le.upd (rl.free nT)) (Lm.refl _) _ _ ry, rfl⟩⟩
    · cases e
theorem it_enumF {xs : List Vl} {ys : List V} {p : Addr} (q : SqL G.K F p ys) (rs : Rs G F m xs ys) : ItR G m F (.enumV xs) (Ite G.K p) := by
  intro i h H m' F' lm l rl
  have q' : SqL G.K H p ys := rl.sub.lst (l.lst q)
  have rs' := Rs.mono l lm _ _ rs
  refine ⟨fun e => ?_, fun v e => ?_⟩
  · simp only [It.next] at e
    refine ⟨ys, q', ?_⟩
    rw [rs.length]
    have e := Option.some.inj e
    cases ex : xs[i]? with
    | none => exact List.getElem?_eq_none_iff.mp ex
    | some z =>
      rw [ex] at e
      cases e
  · simp only [It.next] at e
    obtain ⟨v0, ev, rfl⟩ := Option.map_eq_some_iff.mp (Option.some.inj e)
    obtain ⟨y, e3, ry⟩ := rs'.get ev
    refine ⟨⟨ys, y, q', e3⟩, fun x H' ⟨T, x0, h1, nT, h2, h3⟩ => ?_⟩
    have e4 := h3 ys q'
    rw [e3] at e4
    have e4 := Option.some.inj e4
    subst e4
    subst h1 h2
    refine ⟨upd F' T (.tup [.int (i : Nat), y]), Le.upd (rl.free nT), rl.lay nT, T, _, rfl, .inl (.inl upd_same), ⟨_, _, rfl, rfl, _, _, rfl, R.mono (Le.upd (rl.free nT)) (Lm.refl _) _ _ ry, rfl⟩⟩

/-- what a loop goes over, read by MINI -/
def tIM (G : Gi) (f : Rho → Hm → Res Vl) : TI := fun σ H Rk => ∃ m F h r v h1 J, Rel G m F h H ∧ RE G F m r σ ∧ f r h = .ok v h1 ∧ itOf h1 v = some J ∧
  ∀ m' F' H' J', Lm m m' → Le F F' → Rel G m' F' h1 H' → ItR G m' F' J J' → Rk J' H'
structure SI (X : Cx) (G : Gi) (C : Cs) (tg e : Expr) (x : Ex) : Prop where
  i : PI X tg e (tIM G fun r h => evM C x false r h)
  f : ∀ v, foldedSetIterable e X.env v = pure v
theorem PI.weak {tg e : Expr} {t t' : TI} (h : PI X tg e t) (i : ∀ σ H Q, t' σ H Q → t σ H Q) : PI X tg e t' := ⟨fun pins s σ H Q I q => h.run pins s σ H Q I (i σ H Q q)⟩
theorem folded_of {e : Expr} {env : PySem.Env} (h : noSet e = true) (v : Value) : foldedSetIterable e env v = pure v := by
  cases e <;> first | rfl | cases h
/-- a list, a tuple, a text -/
theorem pi_any {tg e : Expr} {t : TE} (he : PE X e t) : PI X tg e (fun σ H Rk => t σ H fun x H1 => (∃ a, x = .ref a ∧ (∃ xs, SqL X.K H1 a xs) ∧ Rk (Itl X.K a) H1) ∨ (∃ a, x = .ref a ∧ (∃ xs, SqT X.K H1 a xs) ∧ Rk (Itt X.K a) H1) ∨ ∃ z, x = .str z ∧ Rk (Its z) H1) := by
  refine ⟨fun pins s σ H Rk I h => ?_⟩
  refine thn (he.run pins s σ H _ I h) fun v s1 ⟨y, H1, I1, r1, q1⟩ => ?_
  rcases q1 with ⟨a, e1, ⟨xs, hq⟩, q⟩ | ⟨a, e1, ⟨xs, hq⟩, q⟩ | ⟨z, e1, q⟩
  · subst e1
    cases r1
    obtain ⟨its, rv, p, hz⟩ := I1.list hq
    refine wpAny_pyIter_list p.isList ?_
    refine ⟨s1.heap.objs.size, [s1.heap.objs.size], _, _, H1, rfl, I1.kept (t' := s1.toks) fun b o e => Heap.get?_push_of_some _ e, turn_list a _, ⟨_, Heap.get?_push_size _ rfl, rfl, rfl⟩, fun b hb => ?_, q⟩
    have e : b = s1.heap.objs.size := by simpa using hb
    subst e
    exact I1.fpOk (Nat.le_refl _) (I1.hok.fresh (Nat.le_refl _))
  · subst e1
    cases r1
    obtain ⟨its, rv, p, hz⟩ := I1.tuple hq
    refine wpAny_pyIter_tuple (show s1.heap.IsTuple a its.toArray from p) ?_
    refine ⟨s1.heap.objs.size, [s1.heap.objs.size], _, _, H1, rfl, I1.kept (t' := s1.toks) fun b o e => Heap.get?_push_of_some _ e, turn_tuple a _, ⟨_, Heap.get?_push_size _ rfl, rfl, rfl⟩, fun b hb => ?_, q⟩
    have e : b = s1.heap.objs.size := by simpa using hb
    subst e
    exact I1.fpOk (Nat.le_refl _) (I1.hok.fresh (Nat.le_refl _))
  · subst e1
    obtain ⟨t, rfl⟩ := r1
    cases ha : z.cps.all (· < 128)
    · exact wpAny_pyIter_wide ha (pi_one (tk := s1.toks) I1 _ (turn_str _ z t "str_iterator" (.inr rfl)) ⟨_, Heap.get?_push_size _ rfl, rfl, rfl⟩ q)
    · exact wpAny_pyIter_ascii ha (pi_one (tk := s1.toks) I1 _ (turn_str _ z t "str_ascii_iterator" (.inl rfl)) ⟨_, Heap.get?_push_size _ rfl, rfl, rfl⟩ q)
theorem si_any (hK : X.K = G.K) {tg : Expr} (he : SE X G C e x) (hs : noSet e = true) : SI X G C tg e x := by
  refine ⟨PI.weak (pi_any he.v) fun σ H Rk w => ?_, folded_of hs⟩
  obtain ⟨m, F, h, r, v, h1, J, rl, re, e1, e2, k⟩ := w
  dsimp only at e1
  refine ⟨m, F, h, r, rl, re, ?_⟩
  dsimp only
  rw [e1]
  intro m' F' H' x' lm l rl' rx
  have k' := fun J' => k m' F' H' J' lm l rl'
  unfold itOf at e2
  split at e2
  · exact False.elim rx
  · exact False.elim rx
  · exact False.elim rx
  · cases e2
    obtain ⟨p, ys, rfl, q, rs⟩ := rx
    exact .inr (.inl ⟨p, rfl, ⟨ys, by rw [hK]; exact rl'.sub.tup q⟩, by rw [hK]; exact k' _ (it_tup q rs)⟩)
  · cases e2
    obtain ⟨p, ys, rfl, q, rs⟩ := rx
    exact .inl ⟨p, rfl, ⟨ys, by rw [hK]; exact rl'.sub.lst q⟩, by rw [hK]; exact k' _ (it_lst q rs)⟩
  · cases e2
    obtain ⟨rx, o⟩ := rx
    exact .inr (.inr ⟨_, rx, k' _ (it_str o)⟩)
  · rename_i a0
    split at e2
    · rename_i xs e3
      cases e2
      obtain ⟨a', p, ys, e4, rfl, ma, _, q, rs⟩ := liv_ok (xs := xs) rl' rx (by unfold livOf; dsimp only; rw [e3])
      cases e4
      exact .inl ⟨p, rfl, ⟨ys, .inl (.inl q)⟩, by rw [hK]; exact k' _ (it_live ma)⟩
    · cases e2
  · cases e2
/-- range(n) -/
theorem si_range (fx : Fx X G C d) {tg : Expr} {p : Pos} (he : SE X G C e x) (hs : noStar e = true) (hg : Gl X "range") (hm : X.mg "range" = none) : SI X G C tg (.Call (.Name "range" p) [e] [] pos) (.blt "range" [x]) := by
  refine ⟨PI.weak (pi_range1 hg hm (sa_cons he hs sa_nil) (star_of hs)) fun σ H Rk w => ?_, folded_of rfl⟩
  obtain ⟨m, F, h, r, v, h1, J, rl, re, e1, e2, k⟩ := w
  dsimp only at e1
  rw [evM] at e1
  have e1 : ((evs C [x] r h).bind fun vs h => bltF "range" vs h) = .ok v h1 := e1
  refine ⟨m, F, h, r, rl, re, ?_⟩
  dsimp only
  cases ev : evs C [x] r h with
  | ok vs h2 =>
    rw [ev] at e1
    have e1 : bltF "range" vs h2 = .ok v h1 := e1
    intro m' F' H' xs lm l rl' rs
    simp only [bltF] at e1
    split at e1
    · split at e1
      · rename_i hj
        cases e1
        obtain ⟨x0, rfl, r0⟩ := one_R rs
        rw [show x0 = _ from r0]
        cases e2
        exact ⟨_, rfl, hj.1, hj.2, k m' F' H' _ lm l rl' (it_rng 0 _)⟩
      · cases e1
    · cases e1
  | exc c fs h' =>
    rw [ev] at e1
    cases e1
  | bad =>
    rw [ev] at e1
    cases e1
theorem si_enum (fx : Fx X G C d) {elts : List Expr} {kk : Nat} {p tpos : Pos} (he : SE X G C e x) (hs : noStar e = true) (hg : Gl X "enumerate") (hm : X.mg "enumerate" = none) : SI X G C (.Tuple elts kk tpos) (.Call (.Name "enumerate" p) [e] [] pos) (.blt "enumerate" [x]) := by
  refine ⟨PI.weak (pi_enum hg hm (sa_cons he hs sa_nil) (star_of hs)) fun σ H Rk w => ?_, folded_of rfl⟩
  obtain ⟨m, F, h, r, v, h1, J, rl, re, e1, e2, k⟩ := w
  dsimp only at e1
  rw [evM] at e1
  have e1 : ((evs C [x] r h).bind fun vs h => bltF "enumerate" vs h) = .ok v h1 := e1
  refine ⟨m, F, h, r, rl, re, ?_⟩
  dsimp only
  cases ev : evs C [x] r h with
  | ok vs h2 =>
    rw [ev] at e1
    have e1 : bltF "enumerate" vs h2 = .ok v h1 := e1
    intro m' F' H' xs lm l rl' rs
    simp only [bltF] at e1
    split at e1
    · rename_i v0
      cases e1
      obtain ⟨x0, rfl, r0⟩ := one_R rs
      unfold itOf at e2
      split at e2
      · rename_i z
        cases z
      · rename_i a0 z
        cases z
        split at e2
        · rename_i ls e3
          cases e2
          obtain ⟨a', p, ys, e4, rfl, ma, _, q, rs⟩ := liv_ok (xs := ls) rl' r0 (by unfold livOf; dsimp only; rw [e3])
          cases e4
          exact ⟨p, ys, rfl, .inl (.inl q), by rw [fx.K]; exact k m' F' H' _ lm l rl' (it_enum ma)⟩
        · cases e2
      · rename_i ls z
        cases z
        cases e2
        obtain ⟨p, ys, rfl, q, rs⟩ := r0
        exact ⟨p, ys, rfl, by rw [fx.K]; exact rl'.sub.lst q, by rw [fx.K]; exact k m' F' H' _ lm l rl' (it_enumF q rs)⟩
      all_goals first | (cases e2; done) | (rename_i z; cases z)
    · cases e1
  | exc c fs h' =>
    rw [ev] at e1
    cases e1
  | bad =>
    rw [ev] at e1
    cases e1

/-! ### targets of names -/
def gM (G : Gi) (f : Vl → Rho → Hm → Res Rho) : TG := fun x σ H Q => ∃ m F h r v, Rel G m F h H ∧ RE G F m r σ ∧ R G F m v x ∧ Wp G (RE G) m F (f v r h) Q
def gMs (G : Gi) (f : List Vl → Rho → Hm → Res Rho) : TGs := fun xs σ H Q => ∃ m F h r vs, Rel G m F h H ∧ RE G F m r σ ∧ Rs G F m vs xs ∧ Wp G (RE G) m F (f vs r h) Q
theorem PG.weak {tg : Expr} {t t' : TG} (h : PG X tg t) (i : ∀ x σ H Q, t' x σ H Q → t x σ H Q) : PG X tg t' := ⟨fun pins s σ H v u Q I r q => h.run pins s σ H v u Q I r (i v σ H Q q)⟩
theorem PGs.weak {tg : List Expr} {t t' : TGs} (h : PGs X tg t) (i : ∀ x σ H Q, t' x σ H Q → t x σ H Q) : PGs X tg t' := ⟨fun pins s σ H v u Q I r q => h.run pins s σ H v u Q I r (i v σ H Q q)⟩
def patF (p : Pt) (v : Vl) (r : Rho) (h : Hm) : Res Rho := match bindP p v r with
  | some r' => .ok r' h
  | none => .bad
def patsF (p : List Pt) (v : List Vl) (r : Rho) (h : Hm) : Res Rho := match bindPs p v r with
  | some r' => .ok r' h
  | none => .bad
def SP (X : Cx) (G : Gi) (tg : Expr) (p : Pt) : Prop := PG X tg (gM G (patF p))
def SPs (X : Cx) (G : Gi) (tg : List Expr) (p : List Pt) : Prop := PGs X tg (gMs G (patsF p))
theorem sp_name (hN : X.N.Nodup) {i : Nat} {n : Str} (hi : X.N[i]? = some n) (hx : Loc X.env.scope n) (hf : X.fn n = true ∨ X.env.scope.names.lookup n = some .local) : SP X G (.Name n pos) (.name i) := by
  refine PG.weak (pg_name hN hi hx hf) fun x σ H Q w => ?_
  obtain ⟨m, F, h, r, v, rl, re, rx, w⟩ := w
  exact w.here rl (re.set i rx)
theorem sps_nil : SPs X G [] [] := PGs.weak pgs_nil fun x σ H Q w => by
  obtain ⟨m, F, h, r, vs, rl, re, rx, w⟩ := w
  cases vs with
  | nil => exact ⟨rx, w.here rl re⟩
  | cons v vs => exact False.elim w
theorem assign_of {e : Expr} {es : List Expr} {env : PySem.Env} (h : noStar e = true) : (assignEach (e :: es) env).map (·.2) = assign e env :: (assignEach es env).map (·.2) := by
  cases e <;> first | rfl | cases h
theorem sps_cons {es : List Expr} {p : Pt} {ps : List Pt} (h : SP X G e p) (hs : noStar e = true) (hr : SPs X G es ps) : SPs X G (e :: es) (p :: ps) := by
  refine PGs.weak (pgs_cons h hr (assign_of hs)) fun x σ H Q w => ?_
  obtain ⟨m, F, hh, r, vs, rl, re, rx, w⟩ := w
  cases vs with
  | nil => exact False.elim w
  | cons v vs =>
    obtain ⟨y, zs, rfl, ry, rzs⟩ := rx
    refine ⟨y, zs, rfl, m, F, hh, r, v, rl, re, ry, ?_⟩
    unfold patsF bindPs at w
    unfold patF
    cases eb : bindP p v r with
    | none =>
      rw [eb] at w
      exact False.elim w
    | some r' =>
      rw [eb] at w
      intro m' F' H' σ' lm l rl' re'
      exact ⟨m', F', hh, r', vs, rl', re', Rs.mono l lm _ _ rzs, Wp.mono w lm l⟩
theorem len_of {es : List Expr} {env : PySem.Env} : (assignEach es env).length = es.length := by
  induction es with
  | nil => rfl
  | cons e es ih => cases e <;> (show (assignEach es env).length + 1 = es.length + 1; rw [ih])
theorem nostar_of {es : List Expr} {env : PySem.Env} (h : es.all noStar = true) : (assignEach es env).findIdx? (·.1) = none := by
  induction es with
  | nil => rfl
  | cons e es ih =>
    rw [List.all_cons, Bool.and_eq_true] at h
    have ih := ih h.2
    have e1 : assignEach (e :: es) env = (false, assign e env) :: assignEach es env := by
      cases e <;> first | rfl | cases h.1
    rw [e1, List.findIdx?_cons]
    simp [ih]
theorem bindPs_len : ∀ {ps : List Pt} {vs : List Vl} {r r' : Rho}, bindPs ps vs r = some r' → vs.length = ps.length
  | [], [], _, _, _ => rfl
  | p :: ps, v :: vs, r, r', e => by
    unfold bindPs at e
    split at e
    · rw [List.length_cons, List.length_cons, bindPs_len e]
    · cases e
  | [], v :: vs, _, _, e => by cases e
  | p :: ps, [], _, _, e => by cases e
theorem sp_tup (fx : Fx X G C d) {es : List Expr} {ps : List Pt} {k : Nat} (h : SPs X G es ps) (hs : es.all noStar = true) (hl : es.length = ps.length) : SP X G (.Tuple es k pos) (.tup ps) := by
  refine PG.weak (pg_tup fx.calm h len_of (nostar_of hs)) fun x σ H Q w => ?_
  obtain ⟨m, F, hh, r, v, rl, re, rx, w⟩ := w
  unfold patF at w
  cases eb : bindP (.tup ps) v r with
  | none =>
    rw [eb] at w
    exact False.elim w
  | some r' =>
    rw [eb] at w
    cases v with
    | tup vs =>
      obtain ⟨p, ys, rfl, q, rs⟩ := rx
      have eb : bindPs ps vs r = some r' := by
        unfold bindP at eb
        exact eb
      refine ⟨p, ys, rfl, by rw [fx.K]; exact rl.sub.tup q, by rw [rs.length, bindPs_len eb, hl], m, F, hh, r, vs, rl, re, rs, ?_⟩
      unfold patsF
      rw [eb]
      exact w
    | _ => cases eb

/-! ### comprehensions -/
theorem Fx.blk (fx : Fx X G C d) (s : Shared) (H : Hp) (scope : Scope) (cenv : PySem.Env) (fp : List Addr) : Fx (X.blk s H scope cenv fp) G C d :=
  ⟨fx.K, fx.calm, fx.nd, fx.room, fx.cls, fx.noat, fx.fn, fx.ini, fx.ini0, fx.meth, fx.mkr, fx.glf, fx.glc⟩
theorem wipe_set {σ : L2.St} {vs : List Nat} {i : Nat} {v : Option V} (h : i ∈ vs) : L2.wipe (σ.set i v) vs = L2.wipe σ vs := by
  induction vs with
  | nil => cases h
  | cons w vs ih =>
    unfold L2.wipe
    by_cases hw : i = w
    · subst hw
      have : ∀ us : List Nat, (L2.wipe (σ.set i v) us).set i none = (L2.wipe σ us).set i none := by
        intro us
        induction us with
        | nil =>
          show (σ.set i v).set i none = σ.set i none
          rw [List.set_set]
        | cons u us ih2 =>
          unfold L2.wipe
          by_cases hu : u = i
          · subst hu
            rw [List.set_set, List.set_set]
            exact ih2
          · rw [List.set_comm _ _ hu, ih2, List.set_comm _ _ hu]
      exact this vs
    · rcases List.mem_cons.mp h with h | h
      · exact absurd h hw
      · rw [ih h]
theorem wipe_wipe {σ : L2.St} {vs : List Nat} : L2.wipe (L2.wipe σ vs) vs = L2.wipe σ vs := by
  refine List.ext_getElem? fun i => ?_
  by_cases hi : i ∈ vs
  · have h1 : ∀ t : L2.St, i ∈ vs → (L2.wipe t vs)[i]? = if i < t.length then some none else none := by
      intro t
      clear hi
      induction vs with
      | nil => intro h; cases h
      | cons w vs ih =>
        intro h
        unfold L2.wipe
        by_cases hw : w = i
        · subst hw
          rw [List.getElem?_set_self']
          by_cases hl : w < t.length
          · rw [if_pos hl]
            have : w < (L2.wipe t vs).length := by rw [wipe_length]; exact hl
            rw [List.getElem?_eq_getElem this]
            rfl
          · rw [if_neg hl]
            have : (L2.wipe t vs)[w]? = none := List.getElem?_eq_none (by rw [wipe_length]; omega)
            rw [this]
            rfl
        · rw [List.getElem?_set_ne hw]
          rcases List.mem_cons.mp h with h | h
          · exact absurd h.symm hw
          · exact ih h
    rw [h1 _ hi, h1 _ hi, wipe_length]
  · rw [wipe_out hi, wipe_out hi]
mutual
def patIx : Pt → List Nat
  | .name i => [i]
  | .tup ps => patIxs ps
def patIxs : List Pt → List Nat
  | [] => []
  | p :: ps => patIx p ++ patIxs ps
end
/-- a comprehension's target touches its own slots alone: by the slots' reading -/
structure SP2 (X : Cx) (G : Gi) (tg : Expr) (p : Pt) (vs : List Nat) : Prop where
  g : PG X tg (fun x σ H Q => gM G (patF p) x σ H fun σ' H' => L2.wipe σ' vs = L2.wipe σ vs → Q σ' H')
theorem patName_only {i : Nat} {n : Str} {vs : List Nat} (hN : X.N.Nodup) (hi : X.N[i]? = some n) (hx : Loc X.env.scope n) (hf : X.fn n = true ∨ X.env.scope.names.lookup n = some .local) (hv : i ∈ vs) : SP2 X G (.Name n pos) (.name i) vs := by
  refine ⟨PG.weak (pg_name hN hi hx hf) fun x σ H Q w => ?_⟩
  obtain ⟨m, F, h, r, v, rl, re, rx, w⟩ := w
  exact w.here rl (re.set i rx) (wipe_set hv)
structure SPs2 (X : Cx) (G : Gi) (tg : List Expr) (p : List Pt) (vs : List Nat) : Prop where
  g : PGs X tg (fun x σ H Q => gMs G (patsF p) x σ H fun σ' H' => L2.wipe σ' vs = L2.wipe σ vs → Q σ' H')
theorem patsNil_only {vs : List Nat} : SPs2 X G [] [] vs := ⟨PGs.weak pgs_nil fun x σ H Q w => by
  obtain ⟨m, F, h, r, ws, rl, re, rx, w⟩ := w
  cases ws with
  | nil => exact ⟨rx, w.here rl re rfl⟩
  | cons v vs => exact False.elim w⟩
theorem patsCons_only {es : List Expr} {p : Pt} {ps : List Pt} {vs : List Nat} (h : SP2 X G e p vs) (hs : noStar e = true) (hr : SPs2 X G es ps vs) : SPs2 X G (e :: es) (p :: ps) vs := by
  refine ⟨PGs.weak (pgs_cons h.g hr.g (assign_of hs)) fun x σ H Q w => ?_⟩
  obtain ⟨m, F, hh, r, ws, rl, re, rx, w⟩ := w
  cases ws with
  | nil => exact False.elim w
  | cons v ws =>
    obtain ⟨y, zs, rfl, ry, rzs⟩ := rx
    refine ⟨y, zs, rfl, m, F, hh, r, v, rl, re, ry, ?_⟩
    unfold patsF bindPs at w
    unfold patF
    cases eb : bindP p v r with
    | none =>
      rw [eb] at w
      exact False.elim w
    | some r' =>
      rw [eb] at w
      intro m' F' H' σ' lm l rl' re' ew
      refine ⟨m', F', hh, r', ws, rl', re', Rs.mono l lm _ _ rzs, ?_⟩
      exact Wp.imp (Wp.mono w lm l) fun σ2 H2 q e2 => q (e2.trans ew)
theorem patTup_only (fx : Fx X G C d) {es : List Expr} {ps : List Pt} {k : Nat} {vs : List Nat} (h : SPs2 X G es ps vs) (hs : es.all noStar = true) (hl : es.length = ps.length) : SP2 X G (.Tuple es k pos) (.tup ps) vs := by
  refine ⟨PG.weak (pg_tup fx.calm h.g len_of (nostar_of hs)) fun x σ H Q w => ?_⟩
  obtain ⟨m, F, hh, r, v, rl, re, rx, w⟩ := w
  unfold patF at w
  cases eb : bindP (.tup ps) v r with
  | none =>
    rw [eb] at w
    exact False.elim w
  | some r' =>
    rw [eb] at w
    cases v with
    | tup ws =>
      obtain ⟨p, ys, rfl, q, rs⟩ := rx
      have eb : bindPs ps ws r = some r' := by
        unfold bindP at eb
        exact eb
      refine ⟨p, ys, rfl, by rw [fx.K]; exact rl.sub.tup q, by rw [rs.length, bindPs_len eb, hl], m, F, hh, r, ws, rl, re, rs, ?_⟩
      unfold patsF
      rw [eb]
      exact w
    | _ => cases eb
/-- the tests of a comprehension -/
def STs (X : Cx) (G : Gi) (C : Cs) (es : List Expr) (x : Ex) : Prop := PTs X es (tMt G fun r h => evM C x true r h)
theorem PTs.weak {es : List Expr} {t t' : TT} (h : PTs X es t) (i : ∀ σ H Q, t' σ H Q → t σ H Q) : PTs X es t' := ⟨fun pins s σ H Q I q => h.run pins s σ H Q I (i σ H Q q)⟩
theorem sts_nil : STs X G C [] (.cst (.bl true)) := PTs.weak pts_nil fun σ H Q w => by
  obtain ⟨m, F, h, r, rl, re, w⟩ := w
  dsimp only at w
  rw [evM] at w
  obtain ⟨b, e, q⟩ := Wp.here (show WpV G m F (.ok (.bl true) h) _ from w) rl (show R G F m (.bl true) (.bl true) from rfl)
  cases e
  exact q
theorem sts_one (h : SE X G C e x) : STs X G C [e] x := pts_one h.t
/-- one turn of a comprehension -/
def lcBody (C : Cs) (elt : Ex) (p : Pt) (cond : Ex) (own : List Nat) (r : Rho) (x : Vl) (h : Hm) : Res (Option Vl) := match bindP p x (wipe r own) with
  | some r' => (evM C cond true r' h).bind fun b h => (match b with
    | .bl true => (evM C elt false r' h).bind fun y h => .ok (some y) h
    | .bl false => .ok none h
    | _ => .bad)
  | none => .bad
theorem lc_read {f : Rho → Hm → Res Vl} {elt : Ex} {p : Pt} {cond : Ex} {own : List Nat} {σ : L2.St} {H : Hp} {Q : VK}
    (w : tM G (fun r h => (f r h).bind fun v h => match itOf h v with
      | none => .bad
      | some J => (loopC J h.length (lcBody C elt p cond own r) FUEL 0 (h ++ [.lst []])).bind fun _ h' => .ok (.ref h.length) h') σ H Q) :
    tLc (tIM G f) (fun x σ H Q => gM G (patF p) x σ H fun σ' H' => L2.wipe σ' own = L2.wipe σ own → Q σ' H') (tMt G fun r h => evM C cond true r h) (tM G fun r h => evM C elt false r h) own σ H Q := by
  obtain ⟨m0, F0, h0, r, rl0, re0, w⟩ := w
  obtain ⟨v, h1, e1, w⟩ := w.bind
  cases eJ : itOf h1 v with
  | none =>
    rw [eJ] at w
    exact False.elim w
  | some J =>
    rw [eJ] at w
    refine ⟨m0, F0, h0, r, v, h1, J, rl0, re0, e1, eJ, fun m1 F1 H1 J' lm1 l1 rl1 it D nD => ?_⟩
    have hm1 : m1 h1.length = none := rl1.dom _ (Nat.le_refl _)
    refine ⟨fun i k H2 => ∃ m2 F2 h2, Lm (m1.add h1.length D) m2 ∧ Le F1 F2 ∧ Rel G m2 F2 h2 H2 ∧ ∃ h3, loopC J h1.length (lcBody C elt p cond own r) k i h2 = .ok () h3 ∧ WpV G m0 F0 (.ok (.ref h1.length) h3) Q, ?_, ?_⟩
    · obtain ⟨_, h3, e3, w3⟩ := w.bind
      exact ⟨FUEL, m1.add h1.length D, F1, h1 ++ [.lst []], Lm.refl _, Le.refl _, rl1.new (o := .lst []) nD ⟨[], rfl, rfl⟩, h3, e3, w3⟩
    · rintro i k H2 ⟨m2, F2, h2, lm2, l2, rl2, h3, e3, w3⟩
      have lmA : Lm m1 m2 := (Lm.add hm1).trans lm2
      have hmD : m2 h1.length = some D := lm2 _ _ (Mp.add_same _ _ _)
      cases k with
      | zero => cases e3
      | succ k =>
        obtain ⟨hst, hgo⟩ := it i h2 H2 m2 F2 lmA l2 rl2
        unfold loopC at e3
        cases en : J.next i h2 with
        | none =>
          rw [en] at e3
          cases e3
        | some o =>
          rw [en] at e3
          cases o with
          | none =>
            have e3 : Res.ok () h2 = .ok () h3 := e3
            cases e3
            exact .inl ⟨hst en, w3 m2 F2 H2 _ (lm1.trans lmA) (l1.trans l2) rl2 ⟨D, hmD, rfl⟩⟩
          | some v2 =>
            obtain ⟨g1, g2⟩ := hgo v2 en
            refine .inr ⟨g1, fun H' => ∃ m4 F4 h4, Lm (m1.add h1.length D) m4 ∧ Le F1 F4 ∧ Rel G m4 F4 h4 H' ∧ ∃ h5, loopC J h1.length (lcBody C elt p cond own r) k (i + 1) h4 = .ok () h5 ∧ WpV G m0 F0 (.ok (.ref h1.length) h5) Q, fun H' ⟨m4, F4, h4, a1, a2, a3, a4⟩ => ⟨k, Nat.lt_succ_self k, m4, F4, h4, a1, a2, a3, a4⟩, fun x H' yl => ?_⟩
            obtain ⟨F3, l3, rl3, rx⟩ := g2 x H' yl
            have e3 : ((lcBody C elt p cond own r v2 h2).bind fun y h => match y with
              | none => loopC J h1.length (lcBody C elt p cond own r) k (i + 1) h
              | some y => match h[h1.length]? with
                | some (.lst acc) => if acc.length < LIM then loopC J h1.length (lcBody C elt p cond own r) k (i + 1) (h.set h1.length (.lst (acc ++ [y]))) else .bad
                | _ => .bad) = .ok () h3 := e3
            have reW : RE G F3 m2 (wipe r own) (L2.wipe σ own) := RE.mono (l1.trans (l2.trans l3)) (lm1.trans lmA) _ _ (RE.wipe re0 own)
            refine ⟨m2, F3, h2, wipe r own, v2, rl3, reW, rx, ?_⟩
            unfold patF
            unfold lcBody at e3
            cases eb : bindP p v2 (wipe r own) with
            | none =>
              rw [eb] at e3
              cases e3
            | some r' =>
              rw [eb] at e3
              intro m4 F4 H4 σ4 lm4 l4 rl4 re4 ew
              have ew : L2.wipe σ4 own = L2.wipe σ own := ew.trans wipe_wipe
              refine ⟨ew, m4, F4, h2, r', rl4, re4, ?_⟩
              dsimp only
              rw [bind_assoc'] at e3
              cases ec : evM C cond true r' h2 with
              | exc cc fs hx =>
                rw [ec] at e3
                cases e3
              | bad =>
                rw [ec] at e3
                cases e3
              | ok vb h6 =>
                rw [ec] at e3
                intro m5 F5 H5 x5 lm5 l5 rl5 rx5
                cases vb with
                | bl b =>
                  refine ⟨b, rx5, ?_⟩
                  cases b with
                  | true =>
                    rw [if_pos rfl]
                    have e3 : (((evM C elt false r' h6).bind fun y h => .ok (some y) h).bind fun y h => match y with
                      | none => loopC J h1.length (lcBody C elt p cond own r) k (i + 1) h
                      | some y => match h[h1.length]? with
                        | some (.lst acc) => if acc.length < LIM then loopC J h1.length (lcBody C elt p cond own r) k (i + 1) (h.set h1.length (.lst (acc ++ [y]))) else .bad
                        | _ => .bad) = .ok () h3 := e3
                    rw [bind_assoc'] at e3
                    refine ⟨m5, F5, h6, r', rl5, RE.mono l5 lm5 _ _ re4, ?_⟩
                    dsimp only
                    cases ee : evM C elt false r' h6 with
                    | exc cc fs hx =>
                      rw [ee] at e3
                      cases e3
                    | bad =>
                      rw [ee] at e3
                      cases e3
                    | ok vy h7 =>
                      rw [ee] at e3
                      intro m7 F7 H7 y7 lm7 l7 rl7 ry7
                      have e3 : (match h7[h1.length]? with
                        | some (.lst acc) => if acc.length < LIM then loopC J h1.length (lcBody C elt p cond own r) k (i + 1) (h7.set h1.length (.lst (acc ++ [vy]))) else .bad
                        | _ => .bad) = .ok () h3 := e3
                      split at e3
                      · rename_i acc ea
                        split at e3
                        · rename_i hl
                          have lm7' := lm4.trans (lm5.trans lm7)
                          have hD7 : m7 h1.length = some D := lm7' _ _ hmD
                          obtain ⟨p', z1, z2, ys', z3, z4⟩ := rl7.obj _ _ ea (fun z => nomatch z)
                          have e5 : D = p' := Option.some.inj (hD7.symm.trans z1)
                          subst e5
                          exact ⟨ys', z3, by rw [z4.length]; exact hl, m7, F7, _, lm2.trans lm7', (l2.trans (l3.trans (l4.trans (l5.trans l7)))), rl7.put (o' := .lst (acc ++ [vy])) ea (fun z => nomatch z) hD7 ⟨_, rfl, z4.append (Rs.one ry7)⟩, h3, e3, w3⟩
                        · cases e3
                      · cases e3
                  | false =>
                    rw [if_neg Bool.false_ne_true]
                    exact ⟨m5, F5, h6, lm2.trans (lm4.trans lm5), l2.trans (l3.trans (l4.trans l5)), rl5, h3, e3, w3⟩
                | _ => cases e3
theorem se_lc (fx : Fx X G C d) {elt tg iter : Expr} {ifs : List Expr} {scope : Scope} {own : List (Str × Nat)} {p : Pt} {ite cond : Ex} (hi : SI X G C tg iter ite) (ok : BlkOk X.N X.env.scope scope own)
    (hg : ∀ s H A cl fp, SP2 (X.blk s H scope (compEnvC scope cl A X.env) fp) G tg p (own.map (·.2))) (ht : ∀ s H A cl fp, STs (X.blk s H scope (compEnvC scope cl A X.env) fp) G C ifs cond) (he : ∀ s H A cl fp, SE (X.blk s H scope (compEnvC scope cl A X.env) fp) G C elt x) :
    SE X G C (.ListComp elt [⟨tg, iter, ifs, 0⟩] scope pos) (.lc x p ite cond (own.map (·.2))) := by
  refine SE.of fx.K (plainT_of rfl) (fun m r h => by rw [evM]) (PE.weak (pe_lc fx.calm fx.nd hi.i ok (fun s H A cl fp => (hg s H A cl fp).g) ht (fun s H A cl fp => (he s H A cl fp).v) hi.f) fun σ H Q w => ?_)
  exact lc_read w
end
end Mi
/-! MINI: statements -/
namespace Mi
open PySem PySem.Spec L2
section
variable {X : Cx} {G : Gi} {C : Cs} {d : Nat} {e a b c : Expr} {x y z : Ex} {pos : Pos} {m m' : Mp} {F F' : Hp}
/-- what is wanted of a statement's result -/
def WpF (G : Gi) (m : Mp) (F : Hp) (r : Res Flow) (D : Ends) : Prop := match r with
  | .ok (.nx r') h' => ∀ m' F' H' σ', Lm m m' → Le F F' → Rel G m' F' h' H' → RE G F' m' r' σ' → D.nx σ' H'
  | .ok (.bk r') h' => ∀ m' F' H' σ', Lm m m' → Le F F' → Rel G m' F' h' H' → RE G F' m' r' σ' → D.bk σ' H'
  | .ok (.ct r') h' => ∀ m' F' H' σ', Lm m m' → Le F F' → Rel G m' F' h' H' → RE G F' m' r' σ' → D.ct σ' H'
  | .ok (.rt v) h' => ∀ m' F' H' x, Lm m m' → Le F F' → Rel G m' F' h' H' → R G F' m' v x → D.rt x H'
  | _ => False
theorem WpF.mono {r : Res Flow} {D : Ends} (w : WpF G m F r D) (lm : Lm m m') (l : Le F F') : WpF G m' F' r D := by
  cases r with
  | ok f h =>
    cases f with
    | nx r' => exact fun m2 F2 H2 s2 a b => w m2 F2 H2 s2 (lm.trans a) (l.trans b)
    | bk r' => exact fun m2 F2 H2 s2 a b => w m2 F2 H2 s2 (lm.trans a) (l.trans b)
    | ct r' => exact fun m2 F2 H2 s2 a b => w m2 F2 H2 s2 (lm.trans a) (l.trans b)
    | rt v => exact fun m2 F2 H2 s2 a b => w m2 F2 H2 s2 (lm.trans a) (l.trans b)
  | exc c fs h => exact False.elim w
  | bad => exact False.elim w
theorem WpF.bind {α : Type} {r : Res α} {f : α → Hm → Res Flow} {D : Ends} (w : WpF G m F (r.bind f) D) : ∃ a h, r = .ok a h ∧ WpF G m F (f a h) D := by
  cases r with
  | ok a h => exact ⟨a, h, rfl, w⟩
  | exc c fs h => exact False.elim w
  | bad => exact False.elim w
def tS (G : Gi) (f : Rho → Hm → Res Flow) : TS := fun D σ H => ∃ m F h r, Rel G m F h H ∧ RE G F m r σ ∧ WpF G m F (f r h) D
def SS (X : Cx) (G : Gi) (C : Cs) (st : Stmt) (s : Sm) : Prop := PS X st (tS G fun r h => ex C s r h)
def SSs (X : Cx) (G : Gi) (C : Cs) (st : List Stmt) (s : List Sm) : Prop := PSs X st (tS G fun r h => exs C s r h)
theorem PS.weak {st : Stmt} {t t' : TS} (h : PS X st t) (i : ∀ D σ H, t' D σ H → t D σ H) : PS X st t' := ⟨fun pins s σ H D I q => h.run pins s σ H D I (i D σ H q)⟩
theorem PSs.weak {st : List Stmt} {t t' : TS} (h : PSs X st t) (i : ∀ D σ H, t' D σ H → t D σ H) : PSs X st t' := ⟨fun pins s σ H D I q => h.run pins s σ H D I (i D σ H q)⟩
theorem tS_bind {f : Rho → Hm → Res Vl} {g : Rho → Vl → Hm → Res Flow} {σ : L2.St} {H : Hp} {D : Ends} {k : V → Hp → Prop} (w : tS G (fun r h => (f r h).bind (g r)) D σ H)
    (hk : ∀ m F h r v x H', Rel G m F h H' → RE G F m r σ → R G F m v x → WpF G m F (g r v h) D → k x H') : tM G f σ H k := by
  obtain ⟨m, F, h, r, rl, re, w⟩ := w
  obtain ⟨v, h1, e, w⟩ := w.bind
  refine ⟨m, F, h, r, rl, re, ?_⟩
  rw [e]
  exact fun m' F' H' x lm l rl' rx => hk m' F' h1 r v x H' rl' (RE.mono l lm _ _ re) rx (w.mono lm l)
theorem tS_test {f : Rho → Hm → Res Vl} {g : Rho → Vl → Hm → Res Flow} {σ : L2.St} {H : Hp} {D : Ends} {k : Bool → Hp → Prop} (w : tS G (fun r h => (f r h).bind (g r)) D σ H)
    (hb : ∀ r v h, g r v h ≠ .bad → ∃ b, v = .bl b)
    (hk : ∀ m F h r b H', Rel G m F h H' → RE G F m r σ → WpF G m F (g r (.bl b) h) D → k b H') : tMt G f σ H k := by
  obtain ⟨m, F, h, r, rl, re, w⟩ := w
  obtain ⟨v, h1, e, w⟩ := w.bind
  obtain ⟨b, rfl⟩ := hb r v h1 (fun z => by
    rw [z] at w
    exact w)
  refine ⟨m, F, h, r, rl, re, ?_⟩
  rw [e]
  refine fun m' F' H' x lm l rl' rx => ⟨b, rx, ?_⟩
  exact hk m' F' h1 r b H' rl' (RE.mono l lm _ _ re) (w.mono lm l)
theorem WpF.next {r : Rho} {h : Hm} {H : Hp} {σ : L2.St} {D : Ends} (w : WpF G m F (.ok (.nx r) h) D) (rl : Rel G m F h H) (re : RE G F m r σ) : D.nx σ H := w m F H σ (Lm.refl m) (Le.refl F) rl re

/-! ### blocks -/
theorem ss_nil : SSs X G C [] [] := PSs.weak pss_nil fun D σ H w => by
  obtain ⟨m, F, h, r, rl, re, w⟩ := w
  dsimp only at w
  rw [exs] at w
  exact w.next rl re
theorem ss_cons {st : Stmt} {sts : List Stmt} {s : Sm} {ss : List Sm} (h1 : SS X G C st s) (h2 : SSs X G C sts ss) : SSs X G C (st :: sts) (s :: ss) := by
  refine PSs.weak (pss_cons h1 h2) fun D σ H w => ?_
  obtain ⟨m, F, h, r, rl, re, w⟩ := w
  dsimp only at w
  rw [exs] at w
  refine ⟨m, F, h, r, rl, re, ?_⟩
  dsimp only
  cases e1 : ex C s r h with
  | ok f h1 =>
    rw [e1] at w
    cases f with
    | nx r' => exact fun m' F' H' σ' lm l rl' re' => ⟨m', F', h1, r', rl', re', WpF.mono w lm l⟩
    | bk r' => exact w
    | ct r' => exact w
    | rt v => exact w
  | exc c fs h =>
    rw [e1] at w
    exact False.elim w
  | bad =>
    rw [e1] at w
    exact False.elim w
theorem s_pass : SS X G C (.Pass pos) .pass := PS.weak ps_pass fun D σ H w => by
  obtain ⟨m, F, h, r, rl, re, w⟩ := w
  dsimp only at w
  rw [ex] at w
  exact w.next rl re
theorem s_brk : SS X G C (.Break pos) .brk := PS.weak ps_break fun D σ H w => by
  obtain ⟨m, F, h, r, rl, re, w⟩ := w
  dsimp only at w
  rw [ex] at w
  exact w m F H σ (Lm.refl m) (Le.refl F) rl re
theorem s_cont : SS X G C (.Continue pos) .cont := PS.weak ps_continue fun D σ H w => by
  obtain ⟨m, F, h, r, rl, re, w⟩ := w
  dsimp only at w
  rw [ex] at w
  exact w m F H σ (Lm.refl m) (Le.refl F) rl re
theorem s_never {st : Stmt} : SS X G C st .never := PS.weak ps_never fun D σ H w => by
  obtain ⟨m, F, h, r, rl, re, w⟩ := w
  dsimp only at w
  rw [ex] at w
  exact w
def noComp : Expr → Bool
  | .ListComp .. => false
  | .SetComp .. => false
  | .DictComp .. => false
  | _ => true
theorem swaps_of {e : Expr} {t : Option Expr} {n : Nat} {env : PySem.Env} (h : noComp e = true) : swapsWith e t n env = pure false := by
  unfold swapsWith
  cases e <;> first | rfl | cases h
theorem s_expr (he : SE X G C e x) (hn : noComp e = true) : SS X G C (.Expr e pos) (.expr x) := by
  refine PS.weak (ps_expr he.v (swaps_of hn)) fun D σ H w => ?_
  have w : tS G (fun r h => (evM C x false r h).bind fun _ h => .ok (.nx r) h) D σ H := by
    obtain ⟨m, F, h, r, rl, re, w⟩ := w
    dsimp only at w
    rw [ex] at w
    exact ⟨m, F, h, r, rl, re, w⟩
  exact tS_bind w fun m F h r v x H' rl re rx w => w.next rl re
theorem s_ret (he : SE X G C e x) : SS X G C (.Return (some e) pos) (.ret x) := by
  refine PS.weak (ps_ret he.v) fun D σ H w => ?_
  have w : tS G (fun r h => (evM C x false r h).bind fun v h => .ok (.rt v) h) D σ H := by
    obtain ⟨m, F, h, r, rl, re, w⟩ := w
    dsimp only at w
    rw [ex] at w
    exact ⟨m, F, h, r, rl, re, w⟩
  exact tS_bind w fun m F h r v x H' rl re rx w => w m F H' x (Lm.refl m) (Le.refl F) rl rx
theorem s_retN : SS X G C (.Return none pos) (.ret (.cst .non)) := by
  refine PS.weak ps_retN fun D σ H w => ?_
  obtain ⟨m, F, h, r, rl, re, w⟩ := w
  dsimp only at w
  rw [ex, evM] at w
  exact (show WpF G m F (.ok (.rt .non) h) D from w) m F H _ (Lm.refl m) (Le.refl F) rl rfl
theorem s_if {sa sb : List Stmt} {ta tb : List Sm} (hc : SE X G C c z) (ha : SSs X G C sa ta) (hb : SSs X G C sb tb) : SS X G C (.If c sa sb pos) (.ite z ta tb) := by
  refine PS.weak (ps_if hc.t ha hb) fun D σ H w => ?_
  have w : tS G (fun r h => (evM C z true r h).bind fun v h => match v with
    | .bl true => exs C ta r h
    | .bl false => exs C tb r h
    | _ => .bad) D σ H := by
    obtain ⟨m, F, h, r, rl, re, w⟩ := w
    dsimp only at w
    rw [ex] at w
    exact ⟨m, F, h, r, rl, re, w⟩
  refine tS_test (g := fun r v h => match v with
    | .bl true => exs C ta r h
    | .bl false => exs C tb r h
    | _ => .bad) w (fun r v h n => ?_) fun m F h r b H' rl re w => ?_
  · cases v <;> first | exact ⟨_, rfl⟩ | exact absurd rfl n
  · cases b with
    | true =>
      rw [if_pos rfl]
      exact ⟨m, F, h, r, rl, re, w⟩
    | false =>
      rw [if_neg Bool.false_ne_true]
      exact ⟨m, F, h, r, rl, re, w⟩

/-! ### loops -/
theorem s_while (hp : PassesOwn (model X.prog X.w) X.A X.env X.xe) {sb : List Stmt} {tb : List Sm} (hc : SE X G C c z) (hb : SSs X G C sb tb) : SS X G C (.While c sb [] pos) (.whl z tb) := by
  refine PS.weak (ps_while hp hc.t hb) fun D σ H w => ?_
  obtain ⟨m, F, h, r, rl, re, w⟩ := w
  dsimp only at w
  rw [ex] at w
  refine ⟨fun k σ H => ∃ m F h r, Rel G m F h H ∧ RE G F m r σ ∧ WpF G m F (loopW (fun r h => evM C z true r h) (fun r h => exs C tb r h) k r h) D, ⟨FUEL, m, F, h, r, rl, re, w⟩, ?_⟩
  rintro k σ1 H1 ⟨m1, F1, h1, r1, rl1, re1, w1⟩
  cases k with
  | zero => exact False.elim w1
  | succ k =>
    unfold loopW at w1
    obtain ⟨v, h2, e2, w2⟩ := w1.bind
    refine ⟨m1, F1, h1, r1, rl1, re1, ?_⟩
    dsimp only at e2 ⊢
    rw [e2]
    intro m2 F2 H2 x2 lm2 l2 rl2 rx2
    have re2 := RE.mono l2 lm2 _ _ re1
    cases v with
    | bl b =>
      refine ⟨b, rx2, ?_⟩
      cases b with
      | true =>
        rw [if_pos rfl]
        refine ⟨fun σ H => ∃ m F h r, Rel G m F h H ∧ RE G F m r σ ∧ WpF G m F (loopW (fun r h => evM C z true r h) (fun r h => exs C tb r h) k r h) D, fun σ' H' q => ⟨k, Nat.lt_succ_self k, q⟩, m2, F2, h2, r1, rl2, re2, ?_⟩
        have w3 := WpF.mono w2 lm2 l2
        dsimp only at w3 ⊢
        cases e3 : exs C tb r1 h2 with
        | ok f h3 =>
          rw [e3] at w3
          cases f with
          | nx r' => exact fun m' F' H' σ' lm l rl' re' => ⟨m', F', h3, r', rl', re', WpF.mono w3 lm l⟩
          | ct r' => exact fun m' F' H' σ' lm l rl' re' => ⟨m', F', h3, r', rl', re', WpF.mono w3 lm l⟩
          | bk r' => exact w3
          | rt v => exact w3
        | exc c fs h =>
          rw [e3] at w3
          exact False.elim w3
        | bad =>
          rw [e3] at w3
          exact False.elim w3
      | false =>
        rw [if_neg Bool.false_ne_true]
        exact WpF.next (WpF.mono w2 lm2 l2) rl2 re2
    | _ => exact False.elim w2
theorem s_for (fx : Fx X G C d) (hp : PassesOwn (model X.prog X.w) X.A X.env X.xe) {tg iter : Expr} {p : Pt} {sb : List Stmt} {tb : List Sm} (hi : SI X G C tg iter x) (hg : SP X G tg p) (hb : SSs X G C sb tb) : SS X G C (.For tg iter sb [] pos) (.for_ p x tb) := by
  refine PS.weak (ps_for hp fx.calm hi.i hg hb hi.f) fun D σ H w => ?_
  obtain ⟨m, F, h, r, rl, re, w⟩ := w
  dsimp only at w
  rw [ex] at w
  obtain ⟨v, h1, e1, w⟩ := w.bind
  cases eJ : itOf h1 v with
  | none =>
    rw [eJ] at w
    exact False.elim w
  | some J =>
    rw [eJ] at w
    refine ⟨m, F, h, r, v, h1, J, rl, re, e1, eJ, fun m1 F1 H1 J' lm1 l1 rl1 it => ?_⟩
    refine ⟨fun i k σ H => ∃ m2 F2 h2 r2, Lm m1 m2 ∧ Le F1 F2 ∧ Rel G m2 F2 h2 H ∧ RE G F2 m2 r2 σ ∧ WpF G m2 F2 (loopF J (fun x r h => match bindP p x r with
      | some r => exs C tb r h
      | none => .bad) k i r2 h2) D, ⟨FUEL, m1, F1, h1, r, Lm.refl _, Le.refl _, rl1, RE.mono l1 lm1 _ _ re, WpF.mono w lm1 l1⟩, ?_⟩
    rintro i k σ2 H2 ⟨m2, F2, h2, r2, lm2, l2, rl2, re2, w2⟩
    cases k with
    | zero => exact False.elim w2
    | succ k =>
      obtain ⟨hst, hgo⟩ := it i h2 H2 m2 F2 lm2 l2 rl2
      unfold loopF at w2
      cases en : J.next i h2 with
      | none =>
        rw [en] at w2
        exact False.elim w2
      | some o =>
        rw [en] at w2
        cases o with
        | none => exact .inl ⟨hst en, WpF.next w2 rl2 re2⟩
        | some v2 =>
          obtain ⟨g1, g2⟩ := hgo v2 en
          refine .inr ⟨g1, fun σ H => ∃ m2 F2 h2 r2, Lm m1 m2 ∧ Le F1 F2 ∧ Rel G m2 F2 h2 H ∧ RE G F2 m2 r2 σ ∧ WpF G m2 F2 (loopF J (fun x r h => match bindP p x r with
            | some r => exs C tb r h
            | none => .bad) k (i + 1) r2 h2) D, fun σ' H' q => ⟨k, Nat.lt_succ_self k, q⟩, fun x' H' yl => ?_⟩
          obtain ⟨F3, l3, rl3, rx⟩ := g2 x' H' yl
          refine ⟨m2, F3, h2, r2, v2, rl3, RE.mono l3 (Lm.refl _) _ _ re2, rx, ?_⟩
          unfold patF
          dsimp only at w2
          cases eb : bindP p v2 r2 with
          | none =>
            rw [eb] at w2
            exact False.elim w2
          | some r' =>
            rw [eb] at w2
            intro m4 F4 H4 σ4 lm4 l4 rl4 re4
            refine ⟨m4, F4, h2, r', rl4, re4, ?_⟩
            have w3 := WpF.mono w2 lm4 (l3.trans l4)
            dsimp only at w3 ⊢
            cases e3 : exs C tb r' h2 with
            | ok f h3 =>
              rw [e3] at w3
              cases f with
              | nx r' => exact fun m' F' H' σ' lm l rl' re' => ⟨m', F', h3, r', lm2.trans (lm4.trans lm), l2.trans (l3.trans (l4.trans l)), rl', re', WpF.mono w3 lm l⟩
              | ct r' => exact fun m' F' H' σ' lm l rl' re' => ⟨m', F', h3, r', lm2.trans (lm4.trans lm), l2.trans (l3.trans (l4.trans l)), rl', re', WpF.mono w3 lm l⟩
              | bk r' => exact w3
              | rt v => exact w3
            | exc c fs h =>
              rw [e3] at w3
              exact False.elim w3
            | bad =>
              rw [e3] at w3
              exact False.elim w3

/-! ### targets -/
def ST (X : Cx) (G : Gi) (C : Cs) (tg : Expr) (t : Tg) : Prop := PG X tg (gM G (asg C t))
def STL (X : Cx) (G : Gi) (C : Cs) (tg : List Expr) (t : List Tg) : Prop := PGs X tg (gMs G (asgs C t))
theorem st_name (hN : X.N.Nodup) {i : Nat} {n : Str} (hi : X.N[i]? = some n) (hx : Loc X.env.scope n) (hf : X.fn n = true ∨ X.env.scope.names.lookup n = some .local) : ST X G C (.Name n pos) (.name i) := by
  refine PG.weak (pg_name hN hi hx hf) fun x σ H Q w => ?_
  obtain ⟨m, F, h, r, v, rl, re, rx, w⟩ := w
  rw [asg] at w
  exact w.here rl (re.set i rx)
theorem putF_R {f : String} {v : Vl} {x : V} (rv : R G F m v x) : ∀ {fs : List (String × Vl)} {ys : List (Str × V)}, Rf G F m fs ys → Rf G F m (Mi.putF f v fs) (L2.putF (Str.ofString f) x ys)
  | [], ys, r => by
    have e : ys = [] := r
    subst e
    exact ⟨x, [], rfl, rv, rfl⟩
  | (g, w) :: fs, ys, ⟨y, zs, e, r, rs⟩ => by
    subst e
    have ih := putF_R (f := f) rv rs
    unfold Mi.putF L2.putF
    by_cases hf : f = g
    · subst hf
      rw [if_pos rfl, if_pos (by first | rfl | simp)]
      exact ⟨x, zs, rfl, rv, rs⟩
    · have hf2 : Str.ofString f ≠ Str.ofString g := fun z => hf (of_inj z)
      rw [if_neg hf]
      first
        | rw [if_neg (fun z => hf2 z.symm)]
        | rw [if_neg hf2]
        | (rw [if_neg (by simpa using hf2)])
        | (rw [if_neg (by simpa using fun z => hf2 z.symm)])
      exact ⟨y, _, rfl, r, ih⟩
/-- o.f = .. as a target -/
theorem st_att (fx : Fx X G C d) {f : String} (ho : SE X G C a x) (hf : f ∈ G.fl) : ST X G C (.Attribute a (Str.ofString f) pos) (.att x f) := by
  refine ⟨fun pins s σ H v u Q I r w => ?_⟩
  obtain ⟨m, F, h, rr, v0, rl, re, rx, w⟩ := w
  rw [asg] at w
  obtain ⟨o, h1, e1, w⟩ := w.bind
  show wpAny _ _ (do
    let ov ← holding [u] (eval a X.env)
    standAt pos.atName
    holding [u, ov] (setAttr ov (Str.ofString f) u)
    release [u, ov] []) _ _ s
  refine wpAny_bind (wpAny_holding (thn (ho.v.run pins s σ H (fun y H1 => ∃ m1 F1, Lm m m1 ∧ Le F F1 ∧ Rel G m1 F1 h1 H1 ∧ R G F1 m1 o y) I ⟨m, F, h, rr, rl, re, by
    dsimp only
    rw [e1]
    exact fun m1 F1 H1 y lm l rl1 ry => ⟨m1, F1, lm, l, rl1, ry⟩⟩) fun ov s1 ⟨y, H1, I1, ry, m1, F1, lm1, l1, rl1, ro⟩ => ?_))
  refine wpAny_bind (wpAny_standAt (wpAny_bind (wpAny_holding ?_)))
  obtain ⟨_, h2, e2, w⟩ := w.bind
  unfold setF at e2
  split at e2
  · split at e2
    · rename_i cc fs e3
      split at e2
      · rename_i hl
        cases e2
        obtain ⟨p, ma, rfl⟩ := ro
        obtain ⟨p', z1, z2, dx, ys, z3, z0, z4⟩ := rl1.obj _ _ e3 (fun z => nomatch z)
        have e5 : p = p' := Option.some.inj (ma.symm.trans z1)
        subst e5
        obtain rfl : ov = Value.ref p := ry
        refine setattr_ok I1 z3 (by rw [fx.K]; exact fx.cls _ z0) (by rw [fx.K]; exact fx.noat _ z0 f hf) (by rw [z4.length]; omega) r fun s2 I2 => wpAny_release ⟨σ, _, I2, ?_⟩
        have rl2 := rl1.put (o' := .inst cc (Mi.putF f v0 fs)) e3 (fun z => nomatch z) ma ⟨dx, _, rfl, z0, putF_R (R.mono l1 lm1 _ _ rx) z4⟩
        exact w m1 F1 _ σ lm1 l1 rl2 (RE.mono l1 lm1 _ _ re)
      · cases e2
    · cases e2
  · cases e2
theorem putK_R {k : Tx} {v : Vl} {x : V} (ok : sOk k) (rv : R G F m v x) : ∀ {kvs : List (Tx × Vl)} {ys : List (Key × V)}, Rk G F m kvs ys → (kvs.map (·.1)).Nodup → Rk G F m (Mi.putK k v kvs) (L2.putK ys (Sum.inr (ss k)) x) := by
  have key : ∀ k' : Tx, (Sum.inr (ss k') : Key) = Sum.inr (ss k) ↔ k' = k := fun k' => ⟨fun h => ss_inj (Sum.inr.inj h), fun h => by rw [h]⟩
  intro kvs
  induction kvs with
  | nil =>
    intro ys r _
    have e : ys = [] := r
    subst e
    exact ⟨x, [], rfl, ok, rv, rfl⟩
  | cons kv kvs ih =>
    obtain ⟨g, w⟩ := kv
    intro ys r nd
    obtain ⟨y, zs, e, og, r, rs⟩ := r
    subst e
    rw [List.map_cons, List.nodup_cons] at nd
    have ih0 := ih rs nd.2
    clear ih
    unfold Mi.putK
    by_cases hk : k = g
    · subst hk
      rw [if_pos rfl]
      have e1 : L2.putK ((Sum.inr (ss k), y) :: zs) (Sum.inr (ss k)) x = (Sum.inr (ss k), x) :: zs := by
        unfold L2.putK
        rw [if_pos (by simp)]
        rw [List.map_cons, if_pos rfl]
        congr 1
        have hz : ∀ p ∈ zs, p.1 ≠ (Sum.inr (ss k) : Key) := by
          clear ih0
          have hn := nd.1
          clear nd
          induction kvs generalizing zs with
          | nil =>
            have e : zs = [] := rs
            subst e
            exact fun p hp => nomatch hp
          | cons kv kvs ih2 =>
            obtain ⟨g2, w2⟩ := kv
            obtain ⟨y2, zs2, e, og2, r2, rs2⟩ := rs
            subst e
            intro p hp
            rcases List.mem_cons.mp hp with rfl | hp
            · exact fun z => hn (by rw [(key g2).mp z]; exact List.mem_cons_self)
            · exact ih2 _ rs2 (fun z => hn (List.mem_cons_of_mem _ z)) p hp
        refine (List.map_congr_left fun p hp => ?_).trans (List.map_id zs)
        rw [if_neg (hz p hp)]
        rfl
      rw [e1]
      exact ⟨x, zs, rfl, og, rv, rs⟩
    · rw [if_neg hk]
      have e1 : L2.putK ((Sum.inr (ss g), y) :: zs) (Sum.inr (ss k)) x = (Sum.inr (ss g), y) :: L2.putK zs (Sum.inr (ss k)) x := by
        have hne : ¬ ((Sum.inr (ss g) : Key) = Sum.inr (ss k)) := fun z => hk ((key g).mp z).symm
        unfold L2.putK
        rw [List.any_cons, decide_eq_false hne, Bool.false_or]
        split
        · rw [List.map_cons, if_neg hne]
        · rfl
      rw [e1]
      exact ⟨y, _, rfl, og, r, ih0⟩
theorem putK_keys {k : Tx} {v : Vl} : ∀ {kvs : List (Tx × Vl)} {g : Tx}, g ∈ (Mi.putK k v kvs).map (·.1) → g = k ∨ g ∈ kvs.map (·.1)
  | [], g, h => by
    have h : g = k := by simpa [Mi.putK] using h
    exact .inl h
  | (g', w) :: kvs, g, h => by
    unfold Mi.putK at h
    split at h
    · exact .inr h
    · rw [List.map_cons] at h
      rcases List.mem_cons.mp h with h | h
      · exact .inr (by rw [h]; exact List.mem_cons_self)
      · rcases putK_keys h with h | h
        · exact .inl h
        · exact .inr (List.mem_cons_of_mem _ h)
theorem putK_nodup {k : Tx} {v : Vl} : ∀ {kvs : List (Tx × Vl)}, (kvs.map (·.1)).Nodup → ((Mi.putK k v kvs).map (·.1)).Nodup
  | [], _ => by simp [Mi.putK]
  | (g', w) :: kvs, nd => by
    unfold Mi.putK
    split
    · exact nd
    · rename_i hk
      rw [List.map_cons, List.nodup_cons] at nd ⊢
      exact ⟨fun z => by
        rcases putK_keys z with z | z
        · exact hk z.symm
        · exact nd.1 z, putK_nodup nd.2⟩
/-- o[i] = v, by values -/
def rSetM (G : Gi) : TSet := fun o i v H Q => ∃ m F h o0 i0 v0, Rel G m F h H ∧ R G F m o0 o ∧ R G F m i0 i ∧ R G F m v0 v ∧ Wp G (fun _ _ (_ : Unit) (_ : Unit) => True) m F (setV o0 i0 v0 h) (fun _ H' => Q H')
theorem set_ok (fx : Fx X G C d) : PSet X (rSetM G) := by
  intro pins s σ H o i v ov iv u Q I ro ri rv q
  obtain ⟨m, F, h, o0, i0, v0, rl, r1, r2, r3, w⟩ := q
  unfold setV at w
  split at w
  · split at w
    · rename_i xs k e1
      split at w
      · rename_i j e2
        obtain ⟨a', p, ys, e4, rfl, ma, _, q, rs⟩ := liv_ok (xs := xs) rl r1 (by unfold livOf; dsimp only; rw [e1])
        cases e4
        refine set_list pins s σ H _ _ v ov iv u Q I ro ri rv ⟨p, ys, k, j, rfl, r2, q, by rw [rs.length, ixN_eq]; exact e2, ?_⟩
        exact w m F _ () (Lm.refl m) (Le.refl F) (rl.put (o' := .lst (xs.set j v0)) e1 (fun z => nomatch z) ma ⟨_, rfl, rs.set j r3⟩) trivial
      · exact False.elim w
    · rename_i kvs k e1
      split at w
      · rename_i hl
        obtain ⟨p, ma, rfl⟩ := r1
        obtain ⟨p', z1, z2, ys', z3, nd, z4⟩ := rl.obj _ _ e1 (fun z => nomatch z)
        have e5 : p = p' := Option.some.inj (ma.symm.trans z1)
        subst e5
        obtain ⟨r2, o2⟩ := r2
        subst r2
        obtain rfl : ov = Value.ref p := ro
        have dp : DPut H p (.str (ss k)) v (upd H p (.dK (L2.putK ys' (Sum.inr (ss k)) v))) := DPut.k (k := Sum.inr (ss k)) z3 (by rw [z4.length]; exact hl)
        refine d_setItem (by have := fx.hu; omega) I dp ri rv fun s' I' => ⟨_, I', ?_⟩
        exact w m F _ () (Lm.refl m) (Le.refl F) (rl.put (o' := .dct (Mi.putK k v0 kvs)) e1 (fun z => nomatch z) ma ⟨_, rfl, putK_nodup nd, putK_R o2 r3 z4 nd⟩) trivial
      · exact False.elim w
    · exact False.elim w
  · exact False.elim w
theorem st_sub (fx : Fx X G C d) (ho : SE X G C a x) (hi : SE X G C b y) (hs : noSlice b = true) : ST X G C (.Subscript a b pos) (.sub x y) := by
  refine PG.weak (pg_sub ho.v hi.v (set_ok fx) (fun v => ?_)) fun v σ H Q w => ?_
  · cases b <;> first | rfl | cases hs
  · obtain ⟨m, F, h, r, v0, rl, re, rx, w⟩ := w
    rw [asg] at w
    obtain ⟨o, h1, e1, w1⟩ := w.bind
    obtain ⟨i, h2, e2, w2⟩ := w1.bind
    refine ⟨m, F, h, r, rl, re, ?_⟩
    dsimp only
    rw [e1]
    intro m1 F1 H1 y1 lm1 l1 rl1 r1
    refine ⟨m1, F1, h1, r, rl1, RE.mono l1 lm1 _ _ re, ?_⟩
    dsimp only
    rw [e2]
    intro m2 F2 H2 y2 lm2 l2 rl2 r2
    obtain ⟨_, h3, e3, w3⟩ := w2.bind
    refine ⟨m2, F2, h2, o, i, v0, rl2, R.mono l2 lm2 _ _ r1, r2, R.mono (l1.trans l2) (lm1.trans lm2) _ _ rx, ?_⟩
    rw [e3]
    exact fun m3 F3 H3 _ lm3 l3 rl3 _ => w3 m3 F3 H3 σ (lm1.trans (lm2.trans lm3)) (l1.trans (l2.trans l3)) rl3 (RE.mono (l1.trans (l2.trans l3)) (lm1.trans (lm2.trans lm3)) _ _ re)
theorem stl_nil : STL X G C [] [] := PGs.weak pgs_nil fun x σ H Q w => by
  obtain ⟨m, F, h, r, vs, rl, re, rx, w⟩ := w
  cases vs with
  | nil =>
    rw [asgs] at w
    exact ⟨rx, w.here rl re⟩
  | cons v vs =>
    rw [asgs] at w
    · exact False.elim w
    all_goals simp
theorem stl_cons {es : List Expr} {t : Tg} {ts : List Tg} (h : ST X G C e t) (hs : noStar e = true) (hr : STL X G C es ts) : STL X G C (e :: es) (t :: ts) := by
  refine PGs.weak (pgs_cons h hr (assign_of hs)) fun x σ H Q w => ?_
  obtain ⟨m, F, hh, r, vs, rl, re, rx, w⟩ := w
  cases vs with
  | nil =>
    rw [asgs] at w
    · exact False.elim w
    all_goals simp
  | cons v vs =>
    obtain ⟨y, zs, rfl, ry, rzs⟩ := rx
    rw [asgs] at w
    obtain ⟨r', h1, e1, w⟩ := w.bind
    refine ⟨y, zs, rfl, m, F, hh, r, v, rl, re, ry, ?_⟩
    rw [e1]
    exact fun m' F' H' σ' lm l rl' re' => ⟨m', F', h1, r', vs, rl', re', Rs.mono l lm _ _ rzs, w.mono lm l⟩
theorem asgs_len : ∀ {ts : List Tg} {vs : List Vl} {r r' : Rho} {h h' : Hm}, asgs C ts vs r h = .ok r' h' → vs.length = ts.length
  | [], [], _, _, _, _, _ => rfl
  | t :: ts, v :: vs, r, r', h, h', e => by
    rw [asgs] at e
    cases e1 : asg C t v r h with
    | ok r1 h1 =>
      rw [e1] at e
      rw [List.length_cons, List.length_cons, asgs_len e]
    | exc c fs h =>
      rw [e1] at e
      cases e
    | bad =>
      rw [e1] at e
      cases e
  | [], v :: vs, _, _, _, _, e => by
    rw [asgs] at e
    · cases e
    all_goals simp
  | p :: ps, [], _, _, _, _, e => by
    rw [asgs] at e
    · cases e
    all_goals simp
theorem st_tup (fx : Fx X G C d) {es : List Expr} {ts : List Tg} {k : Nat} (h : STL X G C es ts) (hs : es.all noStar = true) (hl : es.length = ts.length) : ST X G C (.Tuple es k pos) (.tup ts) := by
  refine PG.weak (pg_tup fx.calm h len_of (nostar_of hs)) fun x σ H Q w => ?_
  obtain ⟨m, F, hh, r, v, rl, re, rx, w⟩ := w
  unfold asg at w
  split at w
  · rename_i vs
    obtain ⟨p, ys, rfl, q, rs⟩ := rx
    cases ea : asgs C ts vs r hh with
    | ok r' h' => exact ⟨p, ys, rfl, by rw [fx.K]; exact rl.sub.tup q, by rw [rs.length, asgs_len ea, hl], m, F, hh, r, vs, rl, re, rs, w⟩
    | exc c fs h =>
      rw [ea] at w
      exact False.elim w
    | bad =>
      rw [ea] at w
      exact False.elim w
  · exact False.elim w

/-! ### assignments -/
theorem tS_asg {t : Tg} {D : Ends} {σ : L2.St} {H : Hp} (w : tS G (fun r h => ex C (.asg t x) r h) D σ H) : tAsg (tM G fun r h => evM C x false r h) (gM G (asg C t)) D σ H := by
  have w : tS G (fun r h => (evM C x false r h).bind fun v h => (asg C t v r h).bind fun r h => .ok (.nx r) h) D σ H := by
    obtain ⟨m, F, h, r, rl, re, w⟩ := w
    dsimp only at w
    rw [ex] at w
    exact ⟨m, F, h, r, rl, re, w⟩
  refine tS_bind (g := fun r v h => (asg C t v r h).bind fun r h => .ok (.nx r) h) w fun m F h r v x H' rl re rx w => ?_
  obtain ⟨r', h1, e1, w⟩ := w.bind
  refine ⟨m, F, h, r, v, rl, re, rx, ?_⟩
  rw [e1]
  exact w
theorem one_of {e : Expr} {env : PySem.Env} (h : noStar e = true) : (assignEach [e] env).map (·.2) = [assign e env] := assign_of h
/-- no exchange of stores -/
theorem s_asg {tg : Expr} {t : Tg} (he : SE X G C e x) (ht : ST X G C tg t) (hs : noStar tg = true) (h1 : swapsWithSole [tg] e pos.line X.env = pure false) (h2 : swappedStores [tg] e X.env = pure none) : SS X G C (.Assign [tg] e pos) (.asg t x) :=
  PS.weak (ps_asg he.v ht h1 h2 (one_of hs)) fun D σ H w => tS_asg w
theorem s_setLc (fx : Fx X G C d) {i : Nat} {n : Str} {py : Pos} {elt tg iter : Expr} {ifs : List Expr} {scope : Scope} {own : List (Str × Nat)} {p : Pt} {ite cond : Ex} {spos : Pos} (hy : X.N[i]? = some n) (hyl : X.env.scope.names.lookup n = some .local)
    (hsw : swapsWith (.ListComp elt [⟨tg, iter, ifs, 0⟩] scope pos) (some (.Name n py)) spos.line X.env = pure true) (hi : SI X G C tg iter ite) (ok : BlkOk X.N X.env.scope scope own)
    (hg : ∀ s H A cl fp, SP2 (X.blk s H scope (compEnvC scope cl A X.env) fp) G tg p (own.map (·.2))) (ht : ∀ s H A cl fp, STs (X.blk s H scope (compEnvC scope cl A X.env) fp) G C ifs cond) (he : ∀ s H A cl fp, SE (X.blk s H scope (compEnvC scope cl A X.env) fp) G C elt x) :
    SS X G C (.Assign [.Name n py] (.ListComp elt [⟨tg, iter, ifs, 0⟩] scope pos) spos) (.asg (.name i) (.lc x p ite cond (own.map (·.2)))) := by
  refine PS.weak (ps_setLc fx.calm fx.nd hy hyl hsw hi.i ok (fun s H A cl fp => (hg s H A cl fp).g) ht (fun s H A cl fp => (he s H A cl fp).v) hi.f) fun D σ H w => ?_
  obtain ⟨m, F, h, r, rl, re, w⟩ := w
  dsimp only at w
  rw [ex, evM] at w
  obtain ⟨v, h1, e1, w⟩ := w.bind
  refine lc_read ⟨m, F, h, r, rl, re, ?_⟩
  have e1 : ((evM C ite false r h).bind fun v h => match itOf h v with
      | none => .bad
      | some J => (loopC J h.length (lcBody C x p cond (own.map (·.2)) r) FUEL 0 (h ++ [.lst []])).bind fun _ h' => .ok (.ref h.length) h') = .ok v h1 := e1
  show WpV G m F (Res.bind _ _) _
  refine (show ∀ {q q' : Res Vl} {k : V → Hp → Prop}, q = q' → WpV G m F q' k → WpV G m F q k from fun e w => by rw [e]; exact w) e1 ?_
  intro m' F' H' x' lm l rl' rx
  rw [asg] at w
  exact (show WpF G m F (.ok (.nx (r.set i (some v))) h1) D from w) m' F' H' _ lm l rl' ((RE.mono l lm _ _ re).set i rx)
theorem s_par (fx : Fx X G C d) {i j : Nat} {n1 n2 : Str} {px py pt pt2 : Pos} {kt k2 : Nat} (hi : X.N[i]? = some n1) (hj : X.N[j]? = some n2) (hij : i ≠ j) (hx : X.env.scope.names.lookup n1 = some .local) (hy : X.env.scope.names.lookup n2 = some .local)
    (ha : SA X G C [a, b] [x, y]) (hw : swappedStores [.Tuple [.Name n1 px, .Name n2 py] kt pt] (.Tuple [a, b] k2 pt2) X.env = pure (some [n1, n2])) :
    SS X G C (.Assign [.Tuple [.Name n1 px, .Name n2 py] kt pt] (.Tuple [a, b] k2 pt2) pos) (.asg (.tup [.name i, .name j]) (.tupE [x, y])) := by
  refine PS.weak (ps_par fx.calm fx.nd hi hj hij hx hy ha hw) fun D σ H w => ?_
  obtain ⟨m, F, h, r, rl, re, w⟩ := w
  dsimp only at w
  rw [ex, evM] at w
  refine ⟨m, F, h, r, rl, re, ?_⟩
  dsimp only
  have w : WpF G m F (((evs C [x, y] r h).bind fun vs h => if vs.length ≤ LIM then .ok (.tup vs) h else .bad).bind fun v h => (asg C (.tup [.name i, .name j]) v r h).bind fun r h => .ok (.nx r) h) D := w
  rw [bind_assoc'] at w
  obtain ⟨vs, h1, e1, w⟩ := w.bind
  rw [e1]
  intro m' F' H' xs lm l rl' rs
  have hl := evs_len e1
  obtain ⟨v1, v2, rfl⟩ : ∃ v1 v2, vs = [v1, v2] := by
    match vs, hl with
    | [v1, v2], _ => exact ⟨v1, v2, rfl⟩
  obtain ⟨x1, x2, rfl, r1, r2⟩ := two_R rs
  refine ⟨x1, x2, rfl, ?_⟩
  have w : WpF G m F (.ok (.nx ((r.set i (some v1)).set j (some v2))) h1) D := by
    rw [if_pos (by show 2 ≤ LIM; decide)] at w
    have w : WpF G m F ((asg C (.tup [.name i, .name j]) (.tup [v1, v2]) r h1).bind fun r h => .ok (.nx r) h) D := w
    simp only [asg, asgs, Res.bind] at w
    exact w
  exact w m' F' H' _ lm l rl' (((RE.mono l lm _ _ re).set i r1).set j r2)
theorem s_par3 (fx : Fx X G C d) {i j k : Nat} {n1 n2 n3 : Str} {px py pz pt pt2 : Pos} {kt k2 : Nat} (hi : X.N[i]? = some n1) (hj : X.N[j]? = some n2) (hk : X.N[k]? = some n3) (hij : i ≠ j) (hik : i ≠ k) (hjk : j ≠ k) (hx : X.env.scope.names.lookup n1 = some .local) (hy : X.env.scope.names.lookup n2 = some .local) (hz : X.env.scope.names.lookup n3 = some .local)
    (ha : SA X G C [a, b, c] [x, y, z]) (hw : swappedStores [.Tuple [.Name n1 px, .Name n2 py, .Name n3 pz] kt pt] (.Tuple [a, b, c] k2 pt2) X.env = pure (some [n1, n2, n3])) :
    SS X G C (.Assign [.Tuple [.Name n1 px, .Name n2 py, .Name n3 pz] kt pt] (.Tuple [a, b, c] k2 pt2) pos) (.asg (.tup [.name i, .name j, .name k]) (.tupE [x, y, z])) := by
  refine PS.weak (ps_par3 fx.calm fx.nd hi hj hk hij hik hjk hx hy hz ha hw) fun D σ H w => ?_
  obtain ⟨m, F, h, r, rl, re, w⟩ := w
  dsimp only at w
  rw [ex, evM] at w
  refine ⟨m, F, h, r, rl, re, ?_⟩
  dsimp only
  have w : WpF G m F (((evs C [x, y, z] r h).bind fun vs h => if vs.length ≤ LIM then .ok (.tup vs) h else .bad).bind fun v h => (asg C (.tup [.name i, .name j, .name k]) v r h).bind fun r h => .ok (.nx r) h) D := w
  rw [bind_assoc'] at w
  obtain ⟨vs, h1, e1, w⟩ := w.bind
  rw [e1]
  intro m' F' H' xs lm l rl' rs
  have hl := evs_len e1
  obtain ⟨v1, v2, v3, rfl⟩ : ∃ v1 v2 v3, vs = [v1, v2, v3] := by
    match vs, hl with
    | [v1, v2, v3], _ => exact ⟨v1, v2, v3, rfl⟩
  obtain ⟨x1, zs, rfl, r1, rs⟩ := rs
  obtain ⟨x2, x3, rfl, r2, r3⟩ := two_R rs
  refine ⟨x1, x2, x3, rfl, ?_⟩
  have w : WpF G m F (.ok (.nx (((r.set i (some v1)).set j (some v2)).set k (some v3))) h1) D := by
    rw [if_pos (by show 3 ≤ LIM; decide)] at w
    have w : WpF G m F ((asg C (.tup [.name i, .name j, .name k]) (.tup [v1, v2, v3]) r h1).bind fun r h => .ok (.nx r) h) D := w
    simp only [asg, asgs, Res.bind] at w
    exact w
  exact w m' F' H' _ lm l rl' ((((RE.mono l lm _ _ re).set i r1).set j r2).set k r3)
end
end Mi
/-! MINI: the compiler of expressions -/
namespace Mi
open PySem PySem.Spec L2

def gd {α : Type} (b : Bool) (x : Option α) : Option α := if b then x else none
theorem gd_some {α : Type} {b : Bool} {x : Option α} {a : α} : gd b x = some a ↔ b = true ∧ x = some a := by
  unfold gd
  cases b <;> simp

/-- what the compiler knows of the module -/
structure Tb where
  gv : List (Str × Vl)
  gf : List (Str × String)
  gc : List (Str × String)
  fl : List (Str × String)
  ms : List (Str × String)
  nb : List (Str × String)
  fi : List ((String × String) × FnI)
  fz : List String
def Tb.info (T : Tb) (c f : String) : Option FnI := T.fi.lookup (c, f)
def Tb.cs (T : Tb) : List String := T.gc.map (·.2)
def visB (sc : Scope) (n : Str) : Bool := match sc.names.lookup n with
  | some .local => true
  | some .cell => true
  | some .free => true
  | _ => false
def locB (sc : Scope) (n : Str) : Bool := match sc.names.lookup n with
  | some .local => true
  | some .cell => true
  | _ => false
def glB (sc : Scope) (n : Str) : Bool := match sc.names.lookup n with
  | some .globalImplicit => true
  | _ => false
theorem visB_ok {sc : Scope} {n : Str} (h : visB sc n = true) : Vis sc n := by
  unfold visB at h
  unfold Vis
  split at h <;> simp_all
theorem locB_ok {sc : Scope} {n : Str} (h : locB sc n = true) : Loc sc n := by
  unfold locB at h
  unfold L2.Loc
  split at h <;> simp_all
theorem glB_ok {sc : Scope} {n : Str} (h : glB sc n = true) : sc.names.lookup n = some .globalImplicit := by
  unfold glB at h
  split at h <;> simp_all
def find (N : List Str) (n : Str) : Option Nat := go N 0
where go : List Str → Nat → Option Nat
  | [], _ => none
  | a :: r, i => if a = n then some i else go r (i + 1)
theorem find_ok {N : List Str} {n : Str} {i : Nat} (h : find N n = some i) : N[i]? = some n := by
  have key : ∀ (l : List Str) (k i : Nat), find.go n l k = some i → k ≤ i ∧ l[i - k]? = some n := by
    intro l
    induction l with
    | nil =>
      intro k i h
      cases h
    | cons a l ih =>
      intro k i h
      unfold find.go at h
      split at h
      · rename_i e
        cases h
        subst e
        exact ⟨Nat.le_refl _, by rw [Nat.sub_self]; rfl⟩
      · obtain ⟨h1, h2⟩ := ih _ _ h
        refine ⟨by omega, ?_⟩
        obtain ⟨j, rfl⟩ : ∃ j, i = k + 1 + j := ⟨i - (k + 1), by omega⟩
        rw [show k + 1 + j - (k + 1) = j by omega] at h2
        rw [show k + 1 + j - k = j + 1 by omega]
        exact h2
  have := key N 0 i h
  simpa using this.2

/-- types that are named as values -/
def tyNames : List String := ["str", "int", "bool", "tuple", "list", "dict"]
def okN (n : Str) : Bool := !(n == ("__debug__" : Str)) && !(n == ("__classdict__" : Str))
def sOkB (s : Str) : Bool := s.cps.toList.all (· < 0x110000)
theorem sOkB_ok {s : Str} (h : sOkB s = true) : sOk s.cps.toList := fun c hc => by
  have := List.all_eq_true.mp h c hc
  simpa using this
theorem ss_back (s : Str) : ss s.cps.toList = s := by
  cases s
  simp [ss]

def cName (T : Tb) (N : List Str) (sc : Scope) (n : Str) : Option Ex :=
  if visB sc n && okN n then (find N n).map .var
  else gd (glB sc n && okN n) (match T.gv.lookup n with
    | some v => some (.cst v)
    | none => (T.nb.lookup n).bind fun f => gd (tyNames.contains f) (some (.cst (.ty f))))
def cConst : Const → Option Ex
  | .none => some (.cst .non)
  | .bool b => some (.cst (.bl b))
  | .int i => some (.cst (.int i))
  | .str s => gd (sOkB s) (some (.cst (.str s.cps.toList)))
  | _ => none
def cB : Operator → Option Bop
  | .Add => some .add
  | .Sub => some .sub
  | .Mult => some .mul
  | .FloorDiv => some .fdiv
  | .Mod => some .mod
  | .Pow => some .pow
  | _ => none
theorem cB_ok {o : Operator} {b : Bop} (h : cB o = some b) : o = opB b := by
  cases o <;> cases h <;> rfl
def cC : CmpOp → Option Cop
  | .Eq => some .eq
  | .NotEq => some .ne
  | .Lt => some .lt
  | .LtE => some .le
  | .Gt => some .gt
  | .GtE => some .ge
  | .In => some .isin
  | .NotIn => some .notin
  | .Is => some .is
  | .IsNot => some .isnot
theorem cC_ok {o : CmpOp} {b : Cop} (h : cC o = some b) : o = opC b := by
  cases o <;> cases h <;> rfl

section
variable (f : Expr → Option Ex)
def cEs : List Expr → Option (List Ex)
  | [] => some []
  | e :: es => gd (noStar e) ((f e).bind fun x => (cEs es).bind fun xs => some (x :: xs))
def cKs : List Keyword → Option (List Ex)
  | [] => some []
  | k :: ks => gd k.arg.isSome ((f k.value).bind fun x => (cKs ks).bind fun xs => some (x :: xs))
def cBo (and : Bool) : List Expr → Option Ex
  | [] => none
  | [e] => f e
  | e :: es => (f e).bind fun x => (cBo and es).bind fun y => some (if and then .and x y else .or x y)
def cO : Option Expr → Option Ex
  | none => some (.cst .non)
  | some e => (f e).bind fun x => gd (!isAbs x) (some x)
end
/-- the sources of a method's parameters: they must be alike for all classes -/
def methPs (T : Tb) (m : String) (n : Nat) (ks : List Str) : Option (List Src) :=
  match T.cs.filterMap fun c => T.info c m with
  | [] => none
  | fi :: r => (srcsI fi n ks).bind fun ps => gd (r.all fun fi2 => match srcsI fi2 n ks with
    | some qs => eqSs qs ps
    | none => false) (some ps)
where
  eqV : Vl → Vl → Bool
  | .non, .non => true
  | .tup [], .tup [] => true
  | _, _ => false
  eqS : Src → Src → Bool
  | .at i, .at j => i == j
  | .dfl v, .dfl w => eqV v w
  | _, _ => false
  eqSs : List Src → List Src → Bool
  | [], [] => true
  | a :: r, b :: s => eqS a b && eqSs r s
  | _, _ => false
/-- f(..) by a name -/
def cCallN (T : Tb) (f : Expr → Option Ex) (sc : Scope) (n : Str) (es : List Expr) (kws : List Keyword) : Option Ex :=
  gd (glB sc n && okN n) (match T.gf.lookup n with
    | some g => (T.info "" g).bind fun fi => (srcsI fi es.length (kwNames kws)).bind fun ps => (cEs f es).bind fun xs => (cKs f kws).bind fun ys => some (.call g (xs ++ ys) ps)
    | none => (T.nb.lookup n).bind fun g => gd ((bltV g).isSome && kws.isEmpty && !es.isEmpty) ((cEs f es).bind fun xs => some (.blt g xs)))
/-- o.m(..) -/
def cCallA (T : Tb) (f : Expr → Option Ex) (a : Expr) (n : Str) (apos pos : Pos) (es : List Expr) (kws : List Keyword) : Option Ex :=
  gd (baseOk a && fewOk es.length kws.length && (apos.endLine == pos.line)) ((f a).bind fun o => match T.ms.lookup n with
    | some m => (methPs T m (es.length + 1) (kwNames kws)).bind fun ps => (cEs f es).bind fun xs => (cKs f kws).bind fun ys => some (.meth o m (xs ++ ys) ps)
    | none => (bmNames.find? fun m => decide (Str.ofString m = n)).bind fun m => gd ((bmId m es.length).isSome && kws.isEmpty) ((cEs f es).bind fun xs => some (.bm o m xs)))
where bmNames : List String := ["join", "lower", "append"]
/-- patterns of a comprehension -/
def cP (N : List Str) (sc : Scope) : Nat → Expr → Option Pt
  | 0, _ => none
  | k + 1, e => match e with
    | .Name n _ => gd (locB sc n) ((find N n).map .name)
    | .Tuple es _ _ => (cPs (cP N sc k) es).map .tup
    | _ => none
where cPs (f : Expr → Option Pt) : List Expr → Option (List Pt)
  | [] => some []
  | e :: es => gd (noStar e) ((f e).bind fun p => (cPs f es).bind fun ps => some (p :: ps))
/-- the slots of a block's own names -/
def ownOf (N : List Str) (sc : Scope) : List (Str × Nat) := sc.names.filterMap fun y => match y.2 with
  | .local => (find N y.1).map fun i => (y.1, i)
  | .cell => (find N y.1).map fun i => (y.1, i)
  | _ => none
/-- what a loop goes over -/
def cI (T : Tb) (f : Expr → Option Ex) (sc : Scope) (tg e : Expr) : Option Ex := match e with
  | .Call (.Name n _) [a] [] _ => if n = "range" then gd (glB sc n && (T.nb.lookup n).isSome && noStar a) ((f a).bind fun x => some (.blt "range" [x]))
    else if n = "enumerate" then (match tg with
      | .Tuple .. => gd (glB sc n && (T.nb.lookup n).isSome && noStar a) ((f a).bind fun x => some (.blt "enumerate" [x]))
      | _ => none)
    else gd (noSet e) (f e)
  | _ => gd (noSet e) (f e)
def cIfs (f : Expr → Option Ex) : List Expr → Option Ex
  | [] => some (.cst (.bl true))
  | [e] => f e
  | _ => none
def cE (T : Tb) (N : List Str) : Nat → Scope → Expr → Option Ex
  | 0, _, _ => none
  | k + 1, sc, e => match e with
    | .Name n _ => cName T N sc n
    | .Constant c _ _ => cConst c
    | .Tuple es _ _ => (cEs (cE T N k sc) es).bind fun xs => some (.tupE xs)
    | .List es _ => (cEs (cE T N k sc) es).bind fun xs => some (.lstE xs)
    | .BinOp a op b _ => (cB op).bind fun o => (cE T N k sc a).bind fun x => (cE T N k sc b).bind fun y => some (.bin o x y)
    | .UnaryOp .USub a _ => (cE T N k sc a).bind fun x => some (.neg x)
    | .UnaryOp .Not a _ => (cE T N k sc a).bind fun x => some (.not x)
    | .Compare a [op] [b] _ => gd (noSet b) ((cC op).bind fun o => (cE T N k sc a).bind fun x => (cE T N k sc b).bind fun y => some (.cmp o x y))
    | .Compare a [o1, o2] [b, c] _ => gd (noSet c) ((cC o1).bind fun o1 => (cC o2).bind fun o2 => (cE T N k sc a).bind fun x => (cE T N k sc b).bind fun y => (cE T N k sc c).bind fun z => some (.chain o1 o2 x y z))
    | .BoolOp .And es _ => cBo (cE T N k sc) true es
    | .BoolOp .Or es _ => cBo (cE T N k sc) false es
    | .IfExp c a b _ => (cE T N k sc c).bind fun z => (cE T N k sc a).bind fun x => (cE T N k sc b).bind fun y => some (.ite z x y)
    | .Attribute a f _ => gd (baseOk a) ((T.fl.lookup f).bind fun g => (cE T N k sc a).bind fun x => some (.att x g))
    | .Subscript a (.Slice lo hi none _) _ => (cE T N k sc a).bind fun x => (cO (cE T N k sc) lo).bind fun y => (cO (cE T N k sc) hi).bind fun z => some (.slc x y z)
    | .Subscript a i _ => gd (noSlice i) ((cE T N k sc a).bind fun x => (cE T N k sc i).bind fun y => some (.sub x y))
    | .Call (.Name n _) es kws _ => cCallN T (cE T N k sc) sc n es kws
    | .Call (.Attribute a n apos) es kws pos => cCallA T (cE T N k sc) a n apos pos es kws
    | .ListComp elt [⟨tg, iter, ifs, 0⟩] scope _ => gd (blkC N sc scope (ownOf N scope)) ((cI T (cE T N k sc) sc tg iter).bind fun it => (cP N scope 9 tg).bind fun p =>
        gd ((patIx p).all fun i => ((ownOf N scope).map (·.2)).contains i) ((cIfs (cE T N k (relS scope sc)) ifs).bind fun c => (cE T N k (relS scope sc) elt).bind fun x => some (.lc x p it c ((ownOf N scope).map (·.2)))))
    | _ => none

/-! ### it is sound -/
structure Cok (X : Cx) (G : Gi) (C : Cs) (d : Nat) (T : Tb) (N : List Str) (sc : Scope) : Prop where
  fx : Fx X G C d
  hN : X.N = N
  hsc : X.env.scope = sc
  gv : ∀ s v, T.gv.lookup s = some v → ∃ x u, X.mg s = some u ∧ RelV x u ∧ R G F0 m0 v x
  gf : ∀ s f, T.gf.lookup s = some f → s = Str.ofString f
  gc : ∀ s f, T.gc.lookup s = some f → s = Str.ofString f
  fl : ∀ s f, T.fl.lookup s = some f → s = Str.ofString f ∧ f ∈ G.fl
  ms : ∀ s f, T.ms.lookup s = some f → s = Str.ofString f
  nb : ∀ s f, T.nb.lookup s = some f → s = Str.ofString f ∧ X.mg s = none
  fi : ∀ c f, G.fi c f = T.info c f
  cs : G.cs = T.cs
  bad : ∀ c f vs h, G.fi c f = none → C.fn c f vs h = .bad
section
variable {X : Cx} {G : Gi} {C : Cs} {d : Nat} {T : Tb} {N : List Str} {sc : Scope}
theorem Cok.blk (c : Cok X G C d T N sc) (s : Shared) (H : Hp) (scope : Scope) (cl : List (Str × Addr)) (A : Addr) (fp : List Addr) : Cok (X.blk s H scope (compEnvC scope cl A X.env) fp) G C d T N (relS scope sc) where
  fx := c.fx.blk _ _ _ _ _
  hN := c.hN
  hsc := by
    rw [← c.hsc]
    rfl
  gv := c.gv
  gf := c.gf
  gc := c.gc
  fl := c.fl
  ms := c.ms
  nb := c.nb
  fi := c.fi
  cs := c.cs
  bad := c.bad
/-- names that a pattern may bind -/
def Pok (X : Cx) (sc0 : Scope) : Prop := ∀ n, locB sc0 n = true → L2.Loc X.env.scope n ∧ (X.fn n = true ∨ X.env.scope.names.lookup n = some .local)
theorem Pok.blk (s : Shared) (H : Hp) (scope : Scope) (cl : List (Str × Addr)) (A : Addr) (fp : List Addr) : Pok (X.blk s H scope (compEnvC scope cl A X.env) fp) scope := fun n h => by
  rcases locB_ok h with h | h
  · have e : (relS scope X.env.scope).names.lookup n = some .local := lookup_relS_keep (fun z => nomatch z) h
    exact ⟨.inl e, .inr e⟩
  · have e : (relS scope X.env.scope).names.lookup n = some .cell := lookup_relS_keep (fun z => nomatch z) h
    refine ⟨.inr e, .inl ?_⟩
    show (scope.names.lookup n == some .cell) = true
    rw [h]
    rfl
theorem Cok.gl (c : Cok X G C d T N sc) {n : Str} (h : glB sc n = true) : Gl X n := by
  show X.env.scope.names.lookup n = _
  rw [c.hsc]
  exact glB_ok h
theorem okN_ok {n : Str} (h : okN n = true) : (n == ("__debug__" : Str)) = false ∧ (n == ("__classdict__" : Str)) = false := by
  unfold okN at h
  simpa using h
theorem cName_ok (c : Cok X G C d T N sc) {n : Str} {pos : Pos} {x : Ex} (h : cName T N sc n = some x) : SE X G C (.Name n pos) x := by
  unfold cName at h
  split at h
  · rename_i h1
    rw [Bool.and_eq_true] at h1
    obtain ⟨i, e1, rfl⟩ := Option.map_eq_some_iff.mp h
    obtain ⟨o1, o2⟩ := okN_ok h1.2
    exact se_var c.fx.K (by rw [c.hN]; exact find_ok e1) (by rw [c.hsc]; exact visB_ok h1.1) o1 o2
  · obtain ⟨h1, h⟩ := gd_some.mp h
    rw [Bool.and_eq_true] at h1
    obtain ⟨o1, o2⟩ := okN_ok h1.2
    split at h
    · rename_i v e1
      cases h
      obtain ⟨y, u, e2, r1, r2⟩ := c.gv _ _ e1
      exact se_cst c.fx.K (plainT_of rfl) (pe_glob (c.gl h1.1) e2 r1 o1) r2
    · obtain ⟨f, e1, h⟩ := Option.bind_eq_some_iff.mp h
      obtain ⟨h2, h⟩ := gd_some.mp h
      cases h
      obtain ⟨rfl, e2⟩ := c.nb _ _ e1
      have hb : bootBuiltins (Str.ofString f) = some (.type f) ∧ Str.ofString f ≠ "__name__" := by
        have h2 : f ∈ tyNames := by simpa using h2
        clear h1 o1 o2 e1 e2
        unfold tyNames at h2
        simp only [List.mem_cons, List.not_mem_nil, or_false] at h2
        rcases h2 with rfl | rfl | rfl | rfl | rfl | rfl
        all_goals exact ⟨by decide +kernel, by decide⟩
      exact se_cst c.fx.K (plainT_of rfl) (pe_bltn (v := .ty f) (c.gl h1.1) e2 hb.1 (by exact rfl) hb.2 o1) rfl

/-! ### lists -/
variable {f : Expr → Option Ex}
theorem cEs_ok (hf : ∀ e x, f e = some x → SE X G C e x) : ∀ {es : List Expr} {xs : List Ex}, cEs f es = some xs → SA X G C es xs ∧ es.all noStar = true ∧ es.length = xs.length
  | [], xs, h => by
    cases h
    exact ⟨sa_nil, rfl, rfl⟩
  | e :: es, xs, h => by
    unfold cEs at h
    obtain ⟨h1, h⟩ := gd_some.mp h
    obtain ⟨x, e1, h⟩ := Option.bind_eq_some_iff.mp h
    obtain ⟨ys, e2, h⟩ := Option.bind_eq_some_iff.mp h
    cases h
    obtain ⟨i1, i2, i3⟩ := cEs_ok hf e2
    exact ⟨sa_cons (hf _ _ e1) h1 i1, by rw [List.all_cons, h1, i2]; rfl, by rw [List.length_cons, List.length_cons, i3]⟩
theorem cKs_ok (hf : ∀ e x, f e = some x → SE X G C e x) : ∀ {es : List Keyword} {xs : List Ex}, cKs f es = some xs → SK X G C es xs ∧ kwOk es = true ∧ es.length = xs.length
  | [], xs, h => by
    cases h
    exact ⟨sk_nil, rfl, rfl⟩
  | ⟨n, e, p⟩ :: es, xs, h => by
    unfold cKs at h
    obtain ⟨h1, h⟩ := gd_some.mp h
    obtain ⟨x, e1, h⟩ := Option.bind_eq_some_iff.mp h
    obtain ⟨ys, e2, h⟩ := Option.bind_eq_some_iff.mp h
    cases h
    obtain ⟨i1, i2, i3⟩ := cKs_ok hf e2
    exact ⟨sk_cons (hf _ _ e1) i1, by unfold kwOk at i2 ⊢; rw [List.all_cons, i2]; simpa using h1, by rw [List.length_cons, List.length_cons, i3]⟩
theorem cBo_and (hK : X.K = G.K) (hf : ∀ e x, f e = some x → SE X G C e x) {pos : Pos} : ∀ {es : List Expr} {x : Ex}, cBo f true es = some x → SB X G C .And es pos x
  | [], x, h => by cases h
  | [e], x, h => sb_one (hf _ _ h)
  | e :: e2 :: es, x, h => by
    unfold cBo at h
    obtain ⟨y, e1, h⟩ := Option.bind_eq_some_iff.mp h
    obtain ⟨z, e2, h⟩ := Option.bind_eq_some_iff.mp h
    cases h
    exact sb_and hK (hf _ _ e1) (cBo_and hK hf e2)
theorem cBo_or (hK : X.K = G.K) (hf : ∀ e x, f e = some x → SE X G C e x) {pos : Pos} : ∀ {es : List Expr} {x : Ex}, cBo f false es = some x → SB X G C .Or es pos x
  | [], x, h => by cases h
  | [e], x, h => sb_one (hf _ _ h)
  | e :: e2 :: es, x, h => by
    unfold cBo at h
    obtain ⟨y, e1, h⟩ := Option.bind_eq_some_iff.mp h
    obtain ⟨z, e2, h⟩ := Option.bind_eq_some_iff.mp h
    cases h
    exact sb_or hK (hf _ _ e1) (cBo_or hK hf e2)
theorem cO_ok (hf : ∀ e x, f e = some x → SE X G C e x) {e : Option Expr} {x : Ex} (h : cO f e = some x) : SO X G C e x := by
  unfold cO at h
  split at h
  · cases h
    exact so_none
  · obtain ⟨y, e1, h⟩ := Option.bind_eq_some_iff.mp h
    obtain ⟨h1, h⟩ := gd_some.mp h
    cases h
    exact so_some (hf _ _ e1) (by simpa using h1)
theorem cIfs_ok (hf : ∀ e x, f e = some x → SE X G C e x) {e : List Expr} {x : Ex} (h : cIfs f e = some x) : STs X G C e x := by
  unfold cIfs at h
  split at h
  · cases h
    exact sts_nil
  · exact sts_one (hf _ _ h)
  · cases h

/-! ### calls -/
theorem eqS_ok {a b : Src} (h : methPs.eqS a b = true) : a = b := by
  unfold methPs.eqS at h
  split at h
  · rw [beq_iff_eq.mp h]
  · unfold methPs.eqV at h
    split at h
    · rfl
    · rfl
    · cases h
  · cases h
theorem eqSs_ok : ∀ {a b : List Src}, methPs.eqSs a b = true → a = b
  | [], [], _ => rfl
  | a :: r, b :: s, h => by
    unfold methPs.eqSs at h
    rw [Bool.and_eq_true] at h
    rw [eqS_ok h.1, eqSs_ok h.2]
  | [], _ :: _, h => by cases h
  | _ :: _, [], h => by cases h
theorem methPs_ok {m : String} {n : Nat} {ks : List Str} {ps : List Src} (h : methPs T m n ks = some ps) : ∀ c ∈ T.cs, ∀ fi, T.info c m = some fi → srcsI fi n ks = some ps := by
  intro c hc fi hfi
  have hm : fi ∈ T.cs.filterMap fun c => T.info c m := List.mem_filterMap.mpr ⟨c, hc, hfi⟩
  unfold methPs at h
  split at h
  · cases h
  · rename_i f0 r e
    rw [e] at hm
    obtain ⟨qs, e1, h⟩ := Option.bind_eq_some_iff.mp h
    obtain ⟨h1, h⟩ := gd_some.mp h
    cases h
    rcases List.mem_cons.mp hm with rfl | hm
    · exact e1
    · have h2 := List.all_eq_true.mp h1 _ hm
      cases e3 : srcsI fi n ks with
      | none =>
        rw [e3] at h2
        cases h2
      | some q2 =>
        rw [e3] at h2
        rw [eqSs_ok h2]
theorem blt_boot {f : String} {v : Value} (h : bltV f = some v) : bootBuiltins (Str.ofString f) = some v ∧ Str.ofString f ≠ "__name__" := by
  unfold bltV at h
  split at h <;> cases h
  all_goals exact ⟨by decide +kernel, by decide⟩
theorem cCallN_ok (c : Cok X G C d T N sc) (hf : ∀ e x, f e = some x → SE X G C e x) {n : Str} {p pos : Pos} {es : List Expr} {kws : List Keyword} {x : Ex} (h : cCallN T f sc n es kws = some x) : SE X G C (.Call (.Name n p) es kws pos) x := by
  unfold cCallN at h
  obtain ⟨h1, h⟩ := gd_some.mp h
  rw [Bool.and_eq_true] at h1
  obtain ⟨o1, o2⟩ := okN_ok h1.2
  split at h
  · rename_i g e1
    obtain ⟨fi, e2, h⟩ := Option.bind_eq_some_iff.mp h
    obtain ⟨ps, e3, h⟩ := Option.bind_eq_some_iff.mp h
    obtain ⟨xs, e4, h⟩ := Option.bind_eq_some_iff.mp h
    obtain ⟨ys, e5, h⟩ := Option.bind_eq_some_iff.mp h
    cases h
    obtain ⟨i1, i2, i3⟩ := cEs_ok hf e4
    obtain ⟨j1, j2, j3⟩ := cKs_ok hf e5
    obtain rfl := c.gf _ _ e1
    exact se_call c.fx ((c.fi _ _).trans e2) (c.gl h1.1) o1 i2 j2 i1 j1 i3 j3 e3
  · obtain ⟨g, e1, h⟩ := Option.bind_eq_some_iff.mp h
    obtain ⟨h2, h⟩ := gd_some.mp h
    obtain ⟨xs, e4, h⟩ := Option.bind_eq_some_iff.mp h
    cases h
    rw [Bool.and_eq_true, Bool.and_eq_true] at h2
    obtain ⟨⟨h2, h3⟩, h4⟩ := h2
    obtain ⟨rfl, e2⟩ := c.nb _ _ e1
    obtain ⟨v, hv⟩ := Option.isSome_iff_exists.mp h2
    obtain ⟨i1, i2, i3⟩ := cEs_ok hf e4
    cases kws with
    | cons k ks => cases h3
    | nil =>
      cases es with
      | nil => cases h4
      | cons e es => exact se_blt c.fx hv (c.gl h1.1) e2 (blt_boot hv).1 (blt_boot hv).2 o1 i2 i1
theorem cCallA_ok (c : Cok X G C d T N sc) (hf : ∀ e x, f e = some x → SE X G C e x) {a : Expr} {n : Str} {apos pos : Pos} {es : List Expr} {kws : List Keyword} {x : Ex} (h : cCallA T f a n apos pos es kws = some x) : SE X G C (.Call (.Attribute a n apos) es kws pos) x := by
  unfold cCallA at h
  obtain ⟨h1, h⟩ := gd_some.mp h
  rw [Bool.and_eq_true, Bool.and_eq_true] at h1
  obtain ⟨⟨h1, h2⟩, h3⟩ := h1
  obtain ⟨o, e0, h⟩ := Option.bind_eq_some_iff.mp h
  split at h
  · rename_i m e1
    obtain ⟨ps, e3, h⟩ := Option.bind_eq_some_iff.mp h
    obtain ⟨xs, e4, h⟩ := Option.bind_eq_some_iff.mp h
    obtain ⟨ys, e5, h⟩ := Option.bind_eq_some_iff.mp h
    cases h
    obtain ⟨i1, i2, i3⟩ := cEs_ok hf e4
    obtain ⟨j1, j2, j3⟩ := cKs_ok hf e5
    obtain rfl := c.ms _ _ e1
    refine se_meth c.fx (fun cc hc fi e => methPs_ok e3 cc (by rw [← c.cs]; exact hc) fi (by rw [← c.fi]; exact e)) (fun cc hc vs h e => c.bad _ _ _ _ e) (hf _ _ e0) h1 i2 j2 h2 h3 i1 j1 i3 j3
  · obtain ⟨m, e1, h⟩ := Option.bind_eq_some_iff.mp h
    obtain ⟨h4, h⟩ := gd_some.mp h
    obtain ⟨xs, e4, h⟩ := Option.bind_eq_some_iff.mp h
    cases h
    rw [Bool.and_eq_true] at h4
    have e2 := List.find?_some e1
    obtain rfl : Str.ofString m = n := of_decide_eq_true e2
    obtain ⟨v, hv⟩ := Option.isSome_iff_exists.mp h4.1
    obtain ⟨i1, i2, i3⟩ := cEs_ok hf e4
    cases kws with
    | cons k ks => cases h4.2
    | nil => exact se_bm c.fx hv (hf _ _ e0) h1 i2 h2 h3 i1 i3
/-! ### patterns -/
theorem cPs_len {g : Expr → Option Pt} : ∀ {es : List Expr} {ps : List Pt}, cP.cPs g es = some ps → es.all noStar = true ∧ es.length = ps.length
  | [], ps, h => by
    cases h
    exact ⟨rfl, rfl⟩
  | e :: es, ps, h => by
    unfold cP.cPs at h
    obtain ⟨h1, h⟩ := gd_some.mp h
    obtain ⟨x, e1, h⟩ := Option.bind_eq_some_iff.mp h
    obtain ⟨ys, e2, h⟩ := Option.bind_eq_some_iff.mp h
    cases h
    obtain ⟨i2, i3⟩ := cPs_len e2
    exact ⟨by rw [List.all_cons, h1, i2]; rfl, by rw [List.length_cons, List.length_cons, i3]⟩
theorem cPs_ok {g : Expr → Option Pt} (hg : ∀ e p, g e = some p → SP X G e p) : ∀ {es : List Expr} {ps : List Pt}, cP.cPs g es = some ps → SPs X G es ps
  | [], ps, h => by
    cases h
    exact sps_nil
  | e :: es, ps, h => by
    unfold cP.cPs at h
    obtain ⟨h1, h⟩ := gd_some.mp h
    obtain ⟨x, e1, h⟩ := Option.bind_eq_some_iff.mp h
    obtain ⟨ys, e2, h⟩ := Option.bind_eq_some_iff.mp h
    cases h
    exact sps_cons (hg _ _ e1) h1 (cPs_ok hg e2)
theorem cP_ok (fx : Fx X G C d) (hN : X.N = N) {sc0 : Scope} (pk : Pok X sc0) : ∀ (k : Nat) {e : Expr} {p : Pt}, cP N sc0 k e = some p → SP X G e p
  | 0, e, p, h => by cases h
  | k + 1, e, p, h => by
    unfold cP at h
    split at h
    · obtain ⟨h1, h⟩ := gd_some.mp h
      obtain ⟨i, e1, rfl⟩ := Option.map_eq_some_iff.mp h
      obtain ⟨a, b⟩ := pk _ h1
      exact sp_name fx.nd (by rw [hN]; exact find_ok e1) a b
    · obtain ⟨ps, e1, rfl⟩ := Option.map_eq_some_iff.mp h
      obtain ⟨l1, l2⟩ := cPs_len e1
      exact sp_tup fx (cPs_ok (fun e p q => cP_ok fx hN pk k q) e1) l1 l2
    · cases h
theorem cPs_ok2 {g : Expr → Option Pt} {vs : List Nat} (hg : ∀ e p, g e = some p → (∀ i ∈ patIx p, i ∈ vs) → SP2 X G e p vs) : ∀ {es : List Expr} {ps : List Pt}, cP.cPs g es = some ps → (∀ i ∈ patIxs ps, i ∈ vs) → SPs2 X G es ps vs
  | [], ps, h, _ => by
    cases h
    exact patsNil_only
  | e :: es, ps, h, hv => by
    unfold cP.cPs at h
    obtain ⟨h1, h⟩ := gd_some.mp h
    obtain ⟨x, e1, h⟩ := Option.bind_eq_some_iff.mp h
    obtain ⟨ys, e2, h⟩ := Option.bind_eq_some_iff.mp h
    cases h
    unfold patIxs at hv
    exact patsCons_only (hg _ _ e1 fun i hi => hv i (List.mem_append_left _ hi)) h1 (cPs_ok2 hg e2 fun i hi => hv i (List.mem_append_right _ hi))
theorem cP_ok2 (fx : Fx X G C d) (hN : X.N = N) {sc0 : Scope} (pk : Pok X sc0) {vs : List Nat} : ∀ (k : Nat) {e : Expr} {p : Pt}, cP N sc0 k e = some p → (∀ i ∈ patIx p, i ∈ vs) → SP2 X G e p vs
  | 0, e, p, h, _ => by cases h
  | k + 1, e, p, h, hv => by
    unfold cP at h
    split at h
    · obtain ⟨h1, h⟩ := gd_some.mp h
      obtain ⟨i, e1, rfl⟩ := Option.map_eq_some_iff.mp h
      obtain ⟨a, b⟩ := pk _ h1
      exact patName_only fx.nd (by rw [hN]; exact find_ok e1) a b (hv i (by unfold patIx; exact List.mem_cons_self))
    · obtain ⟨ps, e1, rfl⟩ := Option.map_eq_some_iff.mp h
      obtain ⟨l1, l2⟩ := cPs_len e1
      exact patTup_only fx (cPs_ok2 (fun e p q => cP_ok2 fx hN pk k q) e1 fun i hi => hv i (by unfold patIx; exact hi)) l1 l2
    · cases h
theorem cI_ok (c : Cok X G C d T N sc) (hf : ∀ e x, f e = some x → SE X G C e x) {tg e : Expr} {x : Ex} (h : cI T f sc tg e = some x) : SI X G C tg e x := by
  unfold cI at h
  split at h
  · split at h
    · rename_i hn
      subst hn
      obtain ⟨h1, h⟩ := gd_some.mp h
      rw [Bool.and_eq_true, Bool.and_eq_true] at h1
      obtain ⟨y, e1, h⟩ := Option.bind_eq_some_iff.mp h
      cases h
      obtain ⟨g, hg⟩ := Option.isSome_iff_exists.mp h1.1.2
      exact si_range c.fx (hf _ _ e1) h1.2 (c.gl h1.1.1) (c.nb _ _ hg).2
    · split at h
      · rename_i hn
        subst hn
        split at h
        · obtain ⟨h1, h⟩ := gd_some.mp h
          rw [Bool.and_eq_true, Bool.and_eq_true] at h1
          obtain ⟨y, e1, h⟩ := Option.bind_eq_some_iff.mp h
          cases h
          obtain ⟨g, hg⟩ := Option.isSome_iff_exists.mp h1.1.2
          exact si_enum c.fx (hf _ _ e1) h1.2 (c.gl h1.1.1) (c.nb _ _ hg).2
        · cases h
      · obtain ⟨h1, h⟩ := gd_some.mp h
        exact si_any c.fx.K (hf _ _ h) h1
  · obtain ⟨h1, h⟩ := gd_some.mp h
    exact si_any c.fx.K (hf _ _ h) h1
theorem cE_ok : ∀ (k : Nat) {X : Cx} {sc : Scope} {e : Expr} {x : Ex}, Cok X G C d T N sc → cE T N k sc e = some x → SE X G C e x
  | 0, X, sc, e, x, c, h => by cases h
  | k + 1, X, sc, e, x, c, h => by
    have hf : ∀ e x, cE T N k sc e = some x → SE X G C e x := fun e x => cE_ok k c
    unfold cE at h
    split at h
    · exact cName_ok c h
    · unfold cConst at h
      split at h
      · cases h
        exact se_cst c.fx.K (plainT_of rfl) pe_non rfl
      · cases h
        exact se_cst c.fx.K (plainT_of rfl) pe_bl rfl
      · cases h
        exact se_cst c.fx.K (plainT_of rfl) pe_int rfl
      · obtain ⟨h1, h⟩ := gd_some.mp h
        cases h
        exact se_cst c.fx.K (plainT_of rfl) pe_str ⟨by rw [ss_back], sOkB_ok h1⟩
      · cases h
    · obtain ⟨xs, e1, h⟩ := Option.bind_eq_some_iff.mp h
      cases h
      exact se_tup c.fx.K (cEs_ok hf e1).1
    · obtain ⟨xs, e1, h⟩ := Option.bind_eq_some_iff.mp h
      cases h
      exact se_lst c.fx.K (cEs_ok hf e1).1
    · obtain ⟨o, e0, h⟩ := Option.bind_eq_some_iff.mp h
      obtain ⟨y, e1, h⟩ := Option.bind_eq_some_iff.mp h
      obtain ⟨z, e2, h⟩ := Option.bind_eq_some_iff.mp h
      cases h
      rw [cB_ok e0]
      exact se_bin c.fx.K o (hf _ _ e1) (hf _ _ e2)
    · obtain ⟨y, e1, h⟩ := Option.bind_eq_some_iff.mp h
      cases h
      exact se_neg c.fx.K (hf _ _ e1)
    · obtain ⟨y, e1, h⟩ := Option.bind_eq_some_iff.mp h
      cases h
      exact se_not c.fx.K (hf _ _ e1)
    · obtain ⟨h1, h⟩ := gd_some.mp h
      obtain ⟨o, e0, h⟩ := Option.bind_eq_some_iff.mp h
      obtain ⟨y, e1, h⟩ := Option.bind_eq_some_iff.mp h
      obtain ⟨z, e2, h⟩ := Option.bind_eq_some_iff.mp h
      cases h
      rw [cC_ok e0]
      exact se_cmp c.fx.K c.fx.hu o (hf _ _ e1) (hf _ _ e2) h1
    · obtain ⟨h1, h⟩ := gd_some.mp h
      obtain ⟨o, e0, h⟩ := Option.bind_eq_some_iff.mp h
      obtain ⟨o2, e02, h⟩ := Option.bind_eq_some_iff.mp h
      obtain ⟨y, e1, h⟩ := Option.bind_eq_some_iff.mp h
      obtain ⟨z, e2, h⟩ := Option.bind_eq_some_iff.mp h
      obtain ⟨u, e3, h⟩ := Option.bind_eq_some_iff.mp h
      cases h
      rw [cC_ok e0, cC_ok e02]
      exact se_chain c.fx.K c.fx.hu o o2 (hf _ _ e1) (hf _ _ e2) (hf _ _ e3) h1
    · exact (cBo_and c.fx.K hf h).se
    · exact (cBo_or c.fx.K hf h).se
    · obtain ⟨y, e1, h⟩ := Option.bind_eq_some_iff.mp h
      obtain ⟨z, e2, h⟩ := Option.bind_eq_some_iff.mp h
      obtain ⟨u, e3, h⟩ := Option.bind_eq_some_iff.mp h
      cases h
      exact se_ite (hf _ _ e1) (hf _ _ e2) (hf _ _ e3)
    · obtain ⟨h1, h⟩ := gd_some.mp h
      obtain ⟨g, e1, h⟩ := Option.bind_eq_some_iff.mp h
      obtain ⟨z, e2, h⟩ := Option.bind_eq_some_iff.mp h
      cases h
      obtain ⟨rfl, i1⟩ := c.fl _ _ e1
      exact se_att c.fx (hf _ _ e2) g i1 h1
    · obtain ⟨y, e1, h⟩ := Option.bind_eq_some_iff.mp h
      obtain ⟨z, e2, h⟩ := Option.bind_eq_some_iff.mp h
      obtain ⟨u, e3, h⟩ := Option.bind_eq_some_iff.mp h
      cases h
      exact se_slc c.fx (hf _ _ e1) (cO_ok hf e2) (cO_ok hf e3)
    · obtain ⟨h1, h⟩ := gd_some.mp h
      obtain ⟨y, e1, h⟩ := Option.bind_eq_some_iff.mp h
      obtain ⟨z, e2, h⟩ := Option.bind_eq_some_iff.mp h
      cases h
      exact se_sub c.fx (hf _ _ e1) (hf _ _ e2) h1
    · exact cCallN_ok c hf h
    · exact cCallA_ok c hf h
    · obtain ⟨h1, h⟩ := gd_some.mp h
      obtain ⟨it, e1, h⟩ := Option.bind_eq_some_iff.mp h
      obtain ⟨p, e2, h⟩ := Option.bind_eq_some_iff.mp h
      obtain ⟨h2, h⟩ := gd_some.mp h
      obtain ⟨cc, e3, h⟩ := Option.bind_eq_some_iff.mp h
      obtain ⟨y, e4, h⟩ := Option.bind_eq_some_iff.mp h
      cases h
      refine se_lc c.fx (cI_ok c hf e1) (by rw [c.hN, c.hsc]; exact blkOk_by h1) (fun s H A cl fp => ?_) (fun s H A cl fp => ?_) (fun s H A cl fp => ?_)
      · refine cP_ok2 (c.blk s H _ cl A fp).fx c.hN (Pok.blk s H _ cl A fp) 9 e2 fun i hi => ?_
        have := List.all_eq_true.mp h2 i hi
        simpa using this
      · exact cIfs_ok (fun e x => cE_ok k (c.blk s H _ cl A fp)) e3
      · exact cE_ok k (c.blk s H _ cl A fp) e4
    · cases h
end
end Mi
/-! MINI: the compiler of statements -/
namespace Mi
open PySem PySem.Spec L2

def cT (T : Tb) (N : List Str) (sc : Scope) (f : Expr → Option Ex) : Nat → Expr → Option Tg
  | 0, _ => none
  | k + 1, e => match e with
    | .Name n _ => gd (locB sc n) ((find N n).map .name)
    | .Attribute a n _ => (T.fl.lookup n).bind fun g => (f a).bind fun x => some (.att x g)
    | .Subscript a i _ => gd (noSlice i) ((f a).bind fun x => (f i).bind fun y => some (.sub x y))
    | .Tuple es _ _ => (cTs (cT T N sc f k) es).bind fun ts => some (.tup ts)
    | _ => none
where cTs (g : Expr → Option Tg) : List Expr → Option (List Tg)
  | [] => some []
  | e :: es => gd (noStar e) ((g e).bind fun p => (cTs g es).bind fun ps => some (p :: ps))
/-- the names that are stored in turned order -/
def swLine (ts : List Expr) : Nat := (ts.head?.map (·.pos.line)).getD 0
def swNames (sc : Scope) (ts : List Expr) : List Str := ts.filterMap fun
  | .Name id pos => if sc.names.lookup id == some .local && pos.line == swLine ts then some id else none
  | _ => none
/-- no turned stores -/
def noSwap (sc : Scope) (ts vs : List Expr) : Bool := (!(ts.length == 2 || ts.length == 3) || vs.length != ts.length) || ((swNames sc ts).length != ts.length || vs.all (foldedForSure 8))
def isFun (sc : Scope) : Bool := match sc.kind with
  | .function => true
  | _ => false
def kindB (sc : Scope) (n : Str) : Bool := sc.names.lookup n == some .local
def cAsg (T : Tb) (N : List Str) (sc : Scope) (f : Expr → Option Ex) (tg e : Expr) : Option Sm := match tg, e with
  | .Tuple [.Name n1 p1, .Name n2 p2] _ _, .Tuple [a, b] _ _ => if isFun sc && (kindB sc n1 && kindB sc n2) && (p2.line == p1.line) && (decide (n1 ≠ n2)) && !([a, b].any (foldedForSure 8)) && !([a, b].all (constantsAlone 8)) && noStar a && noStar b then
      (find N n1).bind fun i => (find N n2).bind fun j => (f a).bind fun x => (f b).bind fun y => some (.asg (.tup [.name i, .name j]) (.tupE [x, y]))
    else none
  | .Tuple [.Name n1 p1, .Name n2 p2, .Name n3 p3] _ _, .Tuple [a, b, c] _ _ => if isFun sc && (kindB sc n1 && kindB sc n2 && kindB sc n3) && (p2.line == p1.line) && (p3.line == p1.line) && (decide (n1 ≠ n2) && decide (n1 ≠ n3) && decide (n2 ≠ n3)) && !([a, b, c].any (foldedForSure 8)) && !([a, b, c].all (constantsAlone 8)) && noStar a && noStar b && noStar c then
      (find N n1).bind fun i => (find N n2).bind fun j => (find N n3).bind fun k => (f a).bind fun x => (f b).bind fun y => (f c).bind fun z => some (.asg (.tup [.name i, .name j, .name k]) (.tupE [x, y, z]))
    else none
  | .Tuple .., .Tuple .. => none
  | tg, e => gd (noComp e && noStar tg) ((f e).bind fun x => (cT T N sc f 9 tg).bind fun t => some (.asg t x))
/-- x = [.. for ..] -/
def cSetLc (T : Tb) (N : List Str) (sc : Scope) (g : Scope → Expr → Option Ex) (tg e : Expr) : Option Sm := match tg, e with
  | .Name n py, .ListComp elt [⟨t, iter, ifs, 0⟩] scope pos =>
    gd (isFun sc && kindB sc n && (py.line == pos.line) && !(scope.names.any fun (m, k) => m == n && (k == .local || k == .cell)) && blkC N sc scope (ownOf N scope))
      ((find N n).bind fun i => (cI T (g sc) sc t iter).bind fun it => (cP N scope 9 t).bind fun p => gd ((patIx p).all fun i => ((ownOf N scope).map (·.2)).contains i)
        ((cIfs (g (relS scope sc)) ifs).bind fun c => (g (relS scope sc) elt).bind fun x => some (.asg (.name i) (.lc x p it c ((ownOf N scope).map (·.2))))))
  | .Attribute .., .ListComp .. => gd (noStar tg) ((g sc e).bind fun x => (cT T N sc (g sc) 9 tg).bind fun t => some (.asg t x))
  | .Subscript .., .ListComp .. => gd (noStar tg) ((g sc e).bind fun x => (cT T N sc (g sc) 9 tg).bind fun t => some (.asg t x))
  | .Tuple .., .ListComp .. => gd (noStar tg) ((g sc e).bind fun x => (cT T N sc (g sc) 9 tg).bind fun t => some (.asg t x))
  | _, _ => none
def orNever (x : Option Sm) : Sm := x.getD .never
section
variable (T : Tb) (N : List Str) (sc : Scope)
def cS : Nat → Stmt → Sm
  | 0, _ => .never
  | k + 1, s => match s with
    | .Pass _ => .pass
    | .Break _ => .brk
    | .Continue _ => .cont
    | .Expr e _ => orNever (gd (noComp e) ((cE T N 40 sc e).bind fun x => some (.expr x)))
    | .Return none _ => .ret (.cst .non)
    | .Return (some e) _ => orNever ((cE T N 40 sc e).bind fun x => some (.ret x))
    | .If c a b _ => orNever ((cE T N 40 sc c).bind fun x => some (.ite x (a.map (cS k)) (b.map (cS k))))
    | .While c b [] _ => orNever ((cE T N 40 sc c).bind fun x => some (.whl x (b.map (cS k))))
    | .For tg it b [] _ => orNever ((cI T (cE T N 40 sc) sc tg it).bind fun x => (cP N sc 9 tg).bind fun p => some (.for_ p x (b.map (cS k))))
    | .Assign [tg] e _ => orNever (if noComp e then cAsg T N sc (cE T N 40 sc) tg e else cSetLc T N sc (cE T N 40) tg e)
    | _ => .never
end

section
variable {X : Cx} {G : Gi} {C : Cs} {d : Nat} {T : Tb} {N : List Str} {sc : Scope} {f : Expr → Option Ex}
theorem cTs_len {g : Expr → Option Tg} : ∀ {es : List Expr} {ps : List Tg}, cT.cTs g es = some ps → es.all noStar = true ∧ es.length = ps.length
  | [], ps, h => by
    cases h
    exact ⟨rfl, rfl⟩
  | e :: es, ps, h => by
    unfold cT.cTs at h
    obtain ⟨h1, h⟩ := gd_some.mp h
    obtain ⟨x, e1, h⟩ := Option.bind_eq_some_iff.mp h
    obtain ⟨ys, e2, h⟩ := Option.bind_eq_some_iff.mp h
    cases h
    obtain ⟨i2, i3⟩ := cTs_len e2
    exact ⟨by rw [List.all_cons, h1, i2]; rfl, by rw [List.length_cons, List.length_cons, i3]⟩
theorem cTs_ok {g : Expr → Option Tg} (hg : ∀ e p, g e = some p → ST X G C e p) : ∀ {es : List Expr} {ps : List Tg}, cT.cTs g es = some ps → STL X G C es ps
  | [], ps, h => by
    cases h
    exact stl_nil
  | e :: es, ps, h => by
    unfold cT.cTs at h
    obtain ⟨h1, h⟩ := gd_some.mp h
    obtain ⟨x, e1, h⟩ := Option.bind_eq_some_iff.mp h
    obtain ⟨ys, e2, h⟩ := Option.bind_eq_some_iff.mp h
    cases h
    exact stl_cons (hg _ _ e1) h1 (cTs_ok hg e2)
theorem cT_ok (c : Cok X G C d T N sc) (pk : Pok X sc) (hf : ∀ e x, f e = some x → SE X G C e x) : ∀ (k : Nat) {e : Expr} {t : Tg}, cT T N sc f k e = some t → ST X G C e t
  | 0, e, t, h => by cases h
  | k + 1, e, t, h => by
    unfold cT at h
    split at h
    · obtain ⟨h1, h⟩ := gd_some.mp h
      obtain ⟨i, e1, rfl⟩ := Option.map_eq_some_iff.mp h
      obtain ⟨a, b⟩ := pk _ h1
      exact st_name c.fx.nd (by rw [c.hN]; exact find_ok e1) a b
    · obtain ⟨g, e1, h⟩ := Option.bind_eq_some_iff.mp h
      obtain ⟨x, e2, h⟩ := Option.bind_eq_some_iff.mp h
      cases h
      obtain ⟨rfl, i1⟩ := c.fl _ _ e1
      exact st_att c.fx (hf _ _ e2) i1
    · obtain ⟨h1, h⟩ := gd_some.mp h
      obtain ⟨x, e1, h⟩ := Option.bind_eq_some_iff.mp h
      obtain ⟨y, e2, h⟩ := Option.bind_eq_some_iff.mp h
      cases h
      exact st_sub c.fx (hf _ _ e1) (hf _ _ e2) h1
    · obtain ⟨ts, e1, h⟩ := Option.bind_eq_some_iff.mp h
      cases h
      obtain ⟨l1, l2⟩ := cTs_len e1
      exact st_tup c.fx (cTs_ok (fun e p q => cT_ok c pk hf k q) e1) l1 l2
    · cases h
theorem fun_kind (h : isFun sc = true) : sc.kind = .function := by
  unfold isFun at h
  split at h
  · assumption
  · cases h
theorem block_of {env : PySem.Env} (h : env.scope.kind = .function) : env.blockKind = .function := by
  unfold Env.blockKind
  rw [h]
  rfl
theorem ite_not {c : Bool} {α : Type} {x y z : α} (h : c = false) (e : y = z) : (if c = true then x else y) = z := by
  rw [h, if_neg (fun z => nomatch z)]
  exact e
theorem folded_any : ∀ {vs : List Expr}, vs ≠ [] → vs.any (foldedForSure 8) = false → vs.all (foldedForSure 8) = false
  | [], h, _ => (h rfl).elim
  | e :: es, _, h => by
    rw [List.any_cons, Bool.or_eq_false_iff] at h
    rw [List.all_cons, h.1, Bool.false_and]
theorem sw2 {env : PySem.Env} {n1 n2 : Str} {p1 p2 pt pt2 : Pos} {kt k2 : Nat} {a b : Expr} (hk : env.scope.kind = .function) (h1 : env.kindOf n1 = some .local) (h2 : env.kindOf n2 = some .local) (hl : (p2.line == p1.line) = true) (hn : n1 ≠ n2)
    (hf : [a, b].all (foldedForSure 8) = false) (hc : [a, b].all (constantsAlone 8) = false) (hs : [a, b].all noStar = true) : swappedStores [.Tuple [.Name n1 p1, .Name n2 p2] kt pt] (.Tuple [a, b] k2 pt2) env = pure (some [n1, n2]) := by
  have e2 : [n1, n2].eraseDups.length = 2 := by
    have : (n2 == n1) = false := beq_eq_false_iff_ne.mpr (Ne.symm hn)
    simp [List.eraseDups_cons, this, bne]
  unfold swappedStores
  dsimp only
  refine ite_not (by rw [block_of hk]; rfl) (ite_not (List.any_eq_false.mpr fun e he => ?_) ?_)
  · have := List.all_eq_true.mp hs e he
    cases e <;> first | exact fun z => Bool.noConfusion z | exact Bool.noConfusion this
  · simp only [List.head?_cons, Option.map_some, Option.getD_some, Expr.pos, List.filterMap_cons, h1, h2, hl, beq_self_eq_true, Bool.and_self, if_true, List.filterMap_nil]
    rw [e2]
    refine ite_not rfl (ite_not hf (ite_not hc rfl))
theorem sw3 {env : PySem.Env} {n1 n2 n3 : Str} {p1 p2 p3 pt pt2 : Pos} {kt k2 : Nat} {a b c : Expr} (hk : env.scope.kind = .function) (h1 : env.kindOf n1 = some .local) (h2 : env.kindOf n2 = some .local) (h3 : env.kindOf n3 = some .local) (hl : (p2.line == p1.line) = true) (hl3 : (p3.line == p1.line) = true) (hn : n1 ≠ n2) (hn2 : n1 ≠ n3) (hn3 : n2 ≠ n3)
    (hf : [a, b, c].all (foldedForSure 8) = false) (hc : [a, b, c].all (constantsAlone 8) = false) (hs : [a, b, c].all noStar = true) : swappedStores [.Tuple [.Name n1 p1, .Name n2 p2, .Name n3 p3] kt pt] (.Tuple [a, b, c] k2 pt2) env = pure (some [n1, n2, n3]) := by
  have e2 : [n1, n2, n3].eraseDups.length = 3 := by
    have t1 : (n2 == n1) = false := beq_eq_false_iff_ne.mpr (Ne.symm hn)
    have t2 : (n3 == n1) = false := beq_eq_false_iff_ne.mpr (Ne.symm hn2)
    have t3 : (n3 == n2) = false := beq_eq_false_iff_ne.mpr (Ne.symm hn3)
    simp [List.eraseDups_cons, t1, t2, t3, bne]
  unfold swappedStores
  dsimp only
  refine ite_not (by rw [block_of hk]; rfl) (ite_not (List.any_eq_false.mpr fun e he => ?_) ?_)
  · have := List.all_eq_true.mp hs e he
    cases e <;> first | exact fun z => Bool.noConfusion z | exact Bool.noConfusion this
  · simp only [List.head?_cons, Option.map_some, Option.getD_some, Expr.pos, List.filterMap_cons, h1, h2, h3, hl, hl3, beq_self_eq_true, Bool.and_self, if_true, List.filterMap_nil]
    rw [e2]
    refine ite_not rfl (ite_not hf (ite_not hc rfl))
def isTup : Expr → Bool
  | .Tuple .. => true
  | _ => false
theorem sw_none {env : PySem.Env} {tg e : Expr} (h : isTup tg = false ∨ isTup e = false) (hl : ∀ l p, tg ≠ .List l p) : swappedStores [tg] e env = pure none := by
  unfold swappedStores
  cases tg <;> first | rfl | (exact absurd rfl (hl _ _)) | skip
  cases e <;> first | rfl | skip
  rcases h with h | h <;> cases h
theorem any_folded : ∀ {vs : List Expr}, vs ≠ [] → vs.any (foldedForSure 8) = false → vs.all (foldedForSure 8) = false := folded_any
theorem cAsg_ok (c : Cok X G C d T N sc) (pk : Pok X sc) (hf : ∀ e x, f e = some x → SE X G C e x) {tg e : Expr} {s : Sm} {pos : Pos} (hn : noComp e = true) (h : cAsg T N sc f tg e = some s) : SS X G C (.Assign [tg] e pos) s := by
  have hk : ∀ n, kindB sc n = true → X.env.kindOf n = some .local := fun n h => by
    show X.env.scope.names.lookup n = _
    rw [c.hsc]
    unfold kindB at h
    simpa using h
  unfold cAsg at h
  split at h
  · split at h
    · rename_i h1
      simp only [Bool.and_eq_true, Bool.not_eq_true', decide_eq_true_eq] at h1
      obtain ⟨⟨⟨⟨⟨⟨⟨b1, b2, b3⟩, b4⟩, b5⟩, b6⟩, b7⟩, b8⟩, b9⟩ := h1
      obtain ⟨i, e1, h⟩ := Option.bind_eq_some_iff.mp h
      obtain ⟨j, e2, h⟩ := Option.bind_eq_some_iff.mp h
      obtain ⟨x, e3, h⟩ := Option.bind_eq_some_iff.mp h
      obtain ⟨y, e4, h⟩ := Option.bind_eq_some_iff.mp h
      cases h
      have f1 := find_ok e1
      have f2 := find_ok e2
      refine s_par c.fx (by rw [c.hN]; exact f1) (by rw [c.hN]; exact f2) (fun z => ?_) (hk _ b2) (hk _ b3) (sa_cons (hf _ _ e3) b8 (sa_cons (hf _ _ e4) b9 sa_nil)) ?_
      · subst z
        exact b5 (Option.some.inj (f1.symm.trans f2))
      · exact sw2 (by rw [c.hsc]; exact fun_kind b1) (hk _ b2) (hk _ b3) b4 b5 (any_folded (fun z => nomatch z) b6) b7 (by rw [List.all_cons, List.all_cons, b8, b9]; rfl)
    · cases h
  · split at h
    · rename_i h1
      simp only [Bool.and_eq_true, Bool.not_eq_true', decide_eq_true_eq] at h1
      obtain ⟨⟨⟨⟨⟨⟨⟨⟨⟨b1, ⟨b2, b3⟩, b3'⟩, b4⟩, b4'⟩, ⟨b5, b5'⟩, b5''⟩, b6⟩, b7⟩, b8⟩, b9⟩, b10⟩ := h1
      obtain ⟨i, e1, h⟩ := Option.bind_eq_some_iff.mp h
      obtain ⟨j, e2, h⟩ := Option.bind_eq_some_iff.mp h
      obtain ⟨k, e2', h⟩ := Option.bind_eq_some_iff.mp h
      obtain ⟨x, e3, h⟩ := Option.bind_eq_some_iff.mp h
      obtain ⟨y, e4, h⟩ := Option.bind_eq_some_iff.mp h
      obtain ⟨z, e5, h⟩ := Option.bind_eq_some_iff.mp h
      cases h
      have f1 := find_ok e1
      have f2 := find_ok e2
      have f3 := find_ok e2'
      refine s_par3 c.fx (by rw [c.hN]; exact f1) (by rw [c.hN]; exact f2) (by rw [c.hN]; exact f3) (fun z => ?_) (fun z => ?_) (fun z => ?_) (hk _ b2) (hk _ b3) (hk _ b3') (sa_cons (hf _ _ e3) b8 (sa_cons (hf _ _ e4) b9 (sa_cons (hf _ _ e5) b10 sa_nil))) ?_
      · subst z
        exact b5 (Option.some.inj (f1.symm.trans f2))
      · subst z
        exact b5' (Option.some.inj (f1.symm.trans f3))
      · subst z
        exact b5'' (Option.some.inj (f2.symm.trans f3))
      · exact sw3 (by rw [c.hsc]; exact fun_kind b1) (hk _ b2) (hk _ b3) (hk _ b3') b4 b4' b5 b5' b5'' (any_folded (fun z => nomatch z) b6) b7 (by rw [List.all_cons, List.all_cons, List.all_cons, b8, b9, b10]; rfl)
    · cases h
  · cases h
  · rename_i q1 q2 q3
    obtain ⟨h1, h⟩ := gd_some.mp h
    rw [Bool.and_eq_true] at h1
    obtain ⟨x, e1, h⟩ := Option.bind_eq_some_iff.mp h
    obtain ⟨t, e2, h⟩ := Option.bind_eq_some_iff.mp h
    cases h
    have ht := cT_ok c pk hf 9 e2
    refine s_asg (hf _ _ e1) ht h1.2 (swaps_of hn) (sw_none ?_ ?_)
    · cases tg <;> first | exact .inl rfl | skip
      cases e <;> first | exact .inr rfl | skip
      exact (q3 _ _ _ _ _ _ rfl rfl).elim
    · intro l p z
      subst z
      cases e2
theorem cSetLc_ok (c : Cok X G C d T N sc) (pk : Pok X sc) {k : Nat} {tg e : Expr} {s : Sm} {pos : Pos} (h : cSetLc T N sc (cE T N k) tg e = some s) : SS X G C (.Assign [tg] e pos) s := by
  have hf : ∀ e x, cE T N k sc e = some x → SE X G C e x := fun e x => cE_ok k c
  unfold cSetLc at h
  split at h
  · obtain ⟨h1, h⟩ := gd_some.mp h
    simp only [Bool.and_eq_true, Bool.not_eq_true'] at h1
    obtain ⟨⟨⟨⟨b1, b2⟩, b3⟩, b4⟩, b5⟩ := h1
    obtain ⟨i, e0, h⟩ := Option.bind_eq_some_iff.mp h
    obtain ⟨it, e1, h⟩ := Option.bind_eq_some_iff.mp h
    obtain ⟨p, e2, h⟩ := Option.bind_eq_some_iff.mp h
    obtain ⟨h2, h⟩ := gd_some.mp h
    obtain ⟨cc, e3, h⟩ := Option.bind_eq_some_iff.mp h
    obtain ⟨y, e4, h⟩ := Option.bind_eq_some_iff.mp h
    cases h
    unfold kindB at b2
    have hl := beq_iff_eq.mp b2
    rw [← c.hsc] at hl
    refine s_setLc (i := i) c.fx (by rw [c.hN]; exact find_ok e0) hl ?_ (cI_ok c hf e1) (by rw [c.hN, c.hsc]; exact blkOk_by b5) (fun s H A cl fp => ?_) (fun s H A cl fp => ?_) (fun s H A cl fp => ?_)
    · unfold swapsWith
      show (pure _ : Sem Bool) = pure true
      congr 1
      rw [block_of (by rw [c.hsc]; exact fun_kind b1), show X.env.kindOf _ = some .local from hl]
      have b3' := b3
      simp only [Expr.pos, b3', b4]
      rfl
    · refine cP_ok2 (c.blk s H _ cl A fp).fx c.hN (Pok.blk s H _ cl A fp) 9 e2 fun i hi => ?_
      have := List.all_eq_true.mp h2 i hi
      simpa using this
    · exact cIfs_ok (fun e x => cE_ok k (c.blk s H _ cl A fp)) e3
    · exact cE_ok k (c.blk s H _ cl A fp) e4
  all_goals first | cases h | skip
  all_goals
    obtain ⟨h1, h⟩ := gd_some.mp h
    obtain ⟨x, e1, h⟩ := Option.bind_eq_some_iff.mp h
    obtain ⟨t, e2, h⟩ := Option.bind_eq_some_iff.mp h
    cases h
    have ht := cT_ok c pk hf 9 e2
    exact s_asg (hf _ _ e1) ht h1 rfl (sw_none (.inr rfl) (fun l p z => nomatch z))
theorem never_ok {st : Stmt} {o : Option Sm} (h : ∀ s, o = some s → SS X G C st s) : SS X G C st (orNever o) := by
  cases o with
  | none => exact s_never
  | some s => exact h s rfl
theorem map_ok {g : Stmt → Sm} (h : ∀ st, SS X G C st (g st)) : ∀ l : List Stmt, SSs X G C l (l.map g)
  | [] => ss_nil
  | s :: l => ss_cons (h s) (map_ok h l)
theorem cS_ok (c : Cok X G C d T N sc) (pk : Pok X sc) (hp : PassesOwn (model X.prog X.w) X.A X.env X.xe) : ∀ (k : Nat) (st : Stmt), SS X G C st (cS T N sc k st)
  | 0, st => s_never
  | k + 1, st => by
    have hf : ∀ e x, cE T N 40 sc e = some x → SE X G C e x := fun e x => cE_ok 40 c
    have ih : ∀ l : List Stmt, SSs X G C l (l.map (cS T N sc k)) := map_ok (cS_ok c pk hp k)
    unfold cS
    split
    · exact s_pass
    · exact s_brk
    · exact s_cont
    · refine never_ok fun s h => ?_
      obtain ⟨h1, h⟩ := gd_some.mp h
      obtain ⟨x, e1, h⟩ := Option.bind_eq_some_iff.mp h
      cases h
      exact s_expr (hf _ _ e1) h1
    · exact s_retN
    · refine never_ok fun s h => ?_
      obtain ⟨x, e1, h⟩ := Option.bind_eq_some_iff.mp h
      cases h
      exact s_ret (hf _ _ e1)
    · refine never_ok fun s h => ?_
      obtain ⟨x, e1, h⟩ := Option.bind_eq_some_iff.mp h
      cases h
      exact s_if (hf _ _ e1) (ih _) (ih _)
    · refine never_ok fun s h => ?_
      obtain ⟨x, e1, h⟩ := Option.bind_eq_some_iff.mp h
      cases h
      exact s_while hp (hf _ _ e1) (ih _)
    · refine never_ok fun s h => ?_
      obtain ⟨x, e1, h⟩ := Option.bind_eq_some_iff.mp h
      obtain ⟨p, e2, h⟩ := Option.bind_eq_some_iff.mp h
      cases h
      exact s_for c.fx hp (cI_ok c hf e1) (cP_ok c.fx c.hN pk 9 e2) (ih _)
    · refine never_ok fun s h => ?_
      split at h
      · rename_i hn
        exact cAsg_ok c pk hf hn h
      · exact cSetLc_ok c pk h
    · exact s_never
end
end Mi
/-! MINI: all defs keep their promises; the Hook; the end -/
namespace Mi
open PySem PySem.Spec PyProof.Rows L2

/-- one def -/
structure Cd where
  c : String
  f : String
  par : Arguments
  body : List Stmt
  sc : Scope
  N : List Str
  dfl : List Vl
  kwd : List (Str × Vl)
def Cd.fi (d : Cd) : FnI := ⟨d.par, d.dfl, d.kwd⟩
def Cd.key (d : Cd) : String × String := (d.c, d.f)
def Cd.qual (d : Cd) : Str := if d.c = "" then Str.ofString d.f else Str.ofString (d.c ++ "." ++ d.f)
def atK (c f : String) : Str × Option Str := if c = "" then (Str.ofString f, none) else (Str.ofString c, some (Str.ofString f))
def tbFi (cds : List Cd) : List ((String × String) × FnI) := cds.map fun d => (d.key, d.fi)
def prgOf (T : Tb) (cds : List Cd) : Prg := cds.map fun d => (d.key, ⟨(names d.fi).length, d.N.length, d.body.map (cS T d.N d.sc 40)⟩)
theorem look_map {β : Type} (g : Cd → β) (k : String × String) : ∀ cds : List Cd, (∃ d ∈ cds, d.key = k ∧ ∀ (γ : Type) (g' : Cd → γ), (cds.map fun d => (d.key, g' d)).lookup k = some (g' d)) ∨ ∀ (γ : Type) (g' : Cd → γ), (cds.map fun d => (d.key, g' d)).lookup k = none
  | [] => .inr fun _ _ => rfl
  | d :: cds => by
    by_cases h : k = d.key
    · refine .inl ⟨d, List.mem_cons_self, h.symm, fun γ g' => ?_⟩
      rw [List.map_cons, List.lookup_cons, beq_iff_eq.mpr h]
    · have hb : (k == d.key) = false := beq_eq_false_iff_ne.mpr h
      rcases look_map g k cds with ⟨d', m, e, q⟩ | q
      · refine .inl ⟨d', List.mem_cons_of_mem _ m, e, fun γ g' => ?_⟩
        rw [List.map_cons, List.lookup_cons, hb]
        exact q γ g'
      · refine .inr fun γ g' => ?_
        rw [List.map_cons, List.lookup_cons, hb]
        exact q γ g'

/-- the calls at a level -/
def csOf (P : Prg) (d : Nat) : Cs := ⟨callP P d, fun c f vs h => match d with
  | 0 => .bad
  | d + 1 => callP P d c f vs h⟩

/-- what the head gives -/
structure Ground (mg : Str → Option Value) (G : Gi) (T : Tb) (cds : List Cd) : Prop where
  defs : ∀ d ∈ cds, ∃ fd dvs kws, FunD G.K (Str.ofString d.f) d.qual d.par d.body d.sc dvs kws (G.fa d.c d.f) fd ∧ Rs G F0 m0 d.dfl dvs ∧ kws.map (·.1) = d.kwd.map (·.1) ∧ Rs G F0 m0 (d.kwd.map (·.2)) (kws.map (·.2))
  chk : ∀ d ∈ cds, C8.scC d.N (names d.fi) d.sc = true ∧ plainArgs d.par = true
  fiT : T.fi = tbFi cds
  cls : ∀ c ∈ G.cs, Cls G.K (G.ca c)
  noat : ∀ c ∈ G.cs, ∀ f ∈ G.fl, NoAttr G.K (G.ca c) (Str.ofString f)
  meth : ∀ c m fi, c ∈ G.cs → G.fi c m = some fi → Meth G.K (G.ca c) (Str.ofString m) (G.fa c m)
  mkr : ∀ c fi, c ∈ G.cs → G.fi c "__init__" = some fi → Mk G.K (G.ca c) (G.fa c "__init__")
  glf : ∀ f fi, G.fi "" f = some fi → mg (Str.ofString f) = some (.ref (G.fa "" f))
  glc : ∀ c ∈ G.cs, mg (Str.ofString c) = some (.ref (G.ca c))
  gv : ∀ s v, T.gv.lookup s = some v → ∃ x u, mg s = some u ∧ RelV x u ∧ R G F0 m0 v x
  gf : ∀ s f, T.gf.lookup s = some f → s = Str.ofString f
  gc : ∀ s f, T.gc.lookup s = some f → s = Str.ofString f
  fl : ∀ s f, T.fl.lookup s = some f → s = Str.ofString f ∧ f ∈ G.fl
  ms : ∀ s f, T.ms.lookup s = some f → s = Str.ofString f
  nb : ∀ s f, T.nb.lookup s = some f → s = Str.ofString f ∧ mg s = none
  fi : ∀ c f, G.fi c f = T.info c f
  cs : G.cs = T.cs
section
variable {prog : Program} {w : World} {mg : Str → Option Value} {base : Heap} {G : Gi} {T : Tb} {cds : List Cd}
theorem Ground.cd (g : Ground mg G T cds) {c f : String} {fi : FnI} (h : G.fi c f = some fi) : ∃ d ∈ cds, d.c = c ∧ d.f = f ∧ fi = d.fi ∧ (prgOf T cds).lookup (c, f) = some ⟨(names d.fi).length, d.N.length, d.body.map (cS T d.N d.sc 40)⟩ := by
  rw [g.fi] at h
  unfold Tb.info at h
  rw [g.fiT] at h
  rcases look_map Cd.fi (c, f) cds with ⟨d, m, e, q⟩ | q
  · refine ⟨d, m, congrArg (·.1) e, congrArg (·.2) e, ?_, q _ _⟩
    have := q _ Cd.fi
    exact Option.some.inj (h.symm.trans this)
  · have := q _ Cd.fi
    exact nomatch h.symm.trans this
theorem Ground.none (g : Ground mg G T cds) {c f : String} (h : G.fi c f = none) : (prgOf T cds).lookup (c, f) = none := by
  rw [g.fi] at h
  unfold Tb.info at h
  rw [g.fiT] at h
  rcases look_map Cd.fi (c, f) cds with ⟨d, m, e, q⟩ | q
  · have := q _ Cd.fi
    exact nomatch h.symm.trans this
  · exact q _ _
theorem callP_bad (P : Prg) {c f : String} (h : P.lookup (c, f) = none) : ∀ (d : Nat) (vs : List Vl) (hh : Hm), callP P d c f vs hh = .bad
  | 0, _, _ => rfl
  | d + 1, vs, hh => by
    rw [callP, h]
theorem RE_start {F : Hp} {m : Mp} {n : Nat} {N : List Str} (hn : N.length = n) : ∀ {vs : List Vl} {xs : List V}, Rs G F m vs xs → vs.length ≤ n → RE G F m (Mi.start n vs) (L2.start N xs) := by
  have rep : ∀ k, RE G F m (List.replicate k Option.none) (List.replicate k Option.none) := by
    intro k
    induction k with
    | zero => rfl
    | succ k ih => exact ⟨_, _, rfl, ih⟩
  have key : ∀ (k : Nat) (vs : List Vl) (xs : List V), Rs G F m vs xs → RE G F m (vs.map some ++ List.replicate k Option.none) (xs.map some ++ List.replicate k Option.none) := by
    intro k vs
    induction vs with
    | nil =>
      intro xs r
      have e : xs = [] := r
      subst e
      exact rep k
    | cons v vs ih =>
      intro xs r
      obtain ⟨y, zs, rfl, ry, rzs⟩ := r
      exact ⟨_, _, rfl, ry, ih zs rzs⟩
  intro vs xs r hl
  unfold Mi.start L2.start
  rw [hn, r.length]
  exact key _ _ _ r
/-- a def's promise at a level -/
def heldSp (G : Gi) (sem : List Vl → Hm → Res Vl) : Sp := fun vs H Q _ => rMs G sem vs H Q
theorem held_of (g : Ground mg G T cds) {c f : String} {fi : FnI} (h : G.fi c f = some fi) {k : Nat} {sem : List Vl → Hm → Res Vl} (hk : ∀ d ∈ cds, d.c = c → d.f = f → (prgOf T cds).lookup (c, f) = some ⟨(names d.fi).length, d.N.length, d.body.map (cS T d.N d.sc 40)⟩ → ∀ fd dvs kws, FunD G.K (Str.ofString d.f) d.qual d.par d.body d.sc dvs kws (G.fa d.c d.f) fd → FnOk prog w G.K mg base CX0 k (G.fa c f) fd (names d.fi) (heldSp G sem)) :
    ∃ fd, Held prog w mg base G k c f fi sem fd := by
  obtain ⟨d, hd, rfl, rfl, rfl, hp⟩ := g.cd h
  obtain ⟨fd, dvs, kws, F, r1, r2, r3⟩ := g.defs d hd
  have ok := hk d hd rfl rfl hp fd dvs kws F
  obtain ⟨oc, od, dV, kV, doc, pm, an, cdv, ct, osl, rfl, lk, hcd, hD, hK⟩ := F.ex
  refine ⟨_, rfl, (g.chk d hd).2, ?_, ?_, F.kp, ok, oc, od, osl, lk⟩
  · rcases hD with ⟨rfl, rfl⟩ | ⟨_, A, o, its, n, rfl, lT, oT, rT⟩
    · exact ⟨[], [], Option.none, r1, .nil, rfl, fun M h X => .of_pure rfl⟩
    · refine ⟨dvs, its, some its.toArray, r1, rT, by simp, fun M h X => ?_⟩
      intro A Q E s kp q
      exact wpAny_seqItems (kp _ _ (X _ _ lT)) oT q
  · rcases hK with rfl | ⟨D, rfl, hq⟩
    · have e : d.kwd = [] := by
        have := r2.symm
        simpa using this
      refine ⟨[], by show 0 = d.kwd.length; rw [e]; rfl, ?_, .nil, fun n v hv => ?_⟩
      · show Rs G F0 m0 (d.kwd.map (·.2)) []
        rw [e]
        rfl
      · rw [show d.fi.kwd = [] from e] at hv
        cases hv
    · obtain ⟨us, l, ru, a⟩ := kwd_vals hq
      have e1 : ((kws.map (·.2)).zip us).map (·.1) = kws.map (·.2) := List.map_fst_zip (by rw [List.length_map, l]; exact Nat.le_refl _)
      have e2 : ((kws.map (·.2)).zip us).map (·.2) = us := List.map_snd_zip (by rw [List.length_map, l]; exact Nat.le_refl _)
      refine ⟨(kws.map (·.2)).zip us, ?_, ?_, ?_, fun n v hv => ⟨D, rfl, fun M h X => ?_⟩⟩
      · rw [List.length_zip, List.length_map, l, Nat.min_self]
        have := congrArg List.length r2
        simpa [Cd.fi] using this
      · rw [e1]
        exact r3
      · rw [e1, e2]
        exact ru
      · rw [e2] at hv
        have hv : ((kws.map (·.1)).zip us).lookup n = some v := by
          rw [r2]
          exact hv
        have mem : (n, v) ∈ (kws.map (·.1)).zip us := PySem.mem_of_lookup hv
        exact PySem.W.looks_nsIn X (a _ mem)
theorem wpf_run {m : Mp} {F : Hp} {Q : VK} {r : Res Flow} (q : WpV G m F (runB r) Q) : WpF G m F r { nx := fun _ H' => Q .non H', rt := Q } := by
  cases r with
  | ok f h =>
    cases f with
    | nx r' => exact fun m' F' H' σ' lm l rl re => q m' F' H' .non lm l rl rfl
    | rt v => exact fun m' F' H' x lm l rl rx => q m' F' H' x lm l rl rx
    | bk r' => exact False.elim q
    | ct r' => exact False.elim q
  | exc c fs h => exact False.elim q
  | bad => exact False.elim q
theorem held_succ (g : Ground mg G T cds) {k : Nat} (ih : AllHeld prog w mg base G k (callP (prgOf T cds) k)) (ih2 : k = 0 ∨ ∃ d', k = d' + 1 ∧ AllHeld prog w mg base G d' (callP (prgOf T cds) d')) : AllHeld prog w mg base G (k + 1) (callP (prgOf T cds) (k + 1)) := by
  intro c f fi h
  refine held_of g h fun d hd hc hf hp fd dvs kws F => ?_
  subst hc hf
  have S := C8.fnScope_by (g.chk d hd).1
  refine F.ok S (fun vs H Q E q => ?_) (fun cdv A outer s H vs Q E hr q => ?_)
  · obtain ⟨m, F1, hh, vs0, rl, rs, q⟩ := q
    rw [callP, hp] at q
    dsimp only at q
    split at q
    · rename_i hl
      rw [rs.length, hl]
    · exact False.elim q
  · obtain ⟨m, F1, hh, vs0, rl, rs, q⟩ := q
    rw [callP, hp] at q
    dsimp only at q
    split at q
    · rename_i hl
      refine ⟨tS G fun r h => exs (csOf (prgOf T cds) k) (d.body.map (cS T d.N d.sc 40)) r h, PSs.nox ?_, ?_⟩
      · refine map_ok (cS_ok (d := k) (sc := d.sc) ⟨⟨rfl, rfl, S.nd, hr, g.cls, g.noat, ih, ?_, ?_, g.meth, g.mkr, g.glf, g.glc⟩, rfl, rfl, g.gv, g.gf, g.gc, g.fl, g.ms, g.nb, g.fi, g.cs, fun c f vs h e => callP_bad _ (g.none e) k vs h⟩ (fun n hn => ⟨locB_ok hn, .inl rfl⟩) PassesOwn.never 40) d.body
        · rcases ih2 with rfl | ⟨d', rfl, i⟩
          · exact .inl rfl
          · exact .inr ⟨d', rfl, i⟩
        · rintro rfl c f vs h
          rfl
      · refine ⟨m, F1, hh, Mi.start d.N.length vs0, rl, RE_start rfl rs ?_, wpf_run q⟩
        rw [hl]
        have := congrArg List.length S.pre
        rw [List.length_take] at this
        omega
    · exact False.elim q
theorem held_zero (g : Ground mg G T cds) : AllHeld prog w mg base G 0 (callP (prgOf T cds) 0) := by
  intro c f fi h
  refine held_of g h fun d hd hc hf hp fd dvs kws F => ⟨fun vs H Q E q => ?_, fun A outer s H args us vs Q E hr he hb hv q => ?_⟩
  · obtain ⟨m, F1, hh, vs0, rl, rs, q⟩ := q
    exact False.elim q
  · obtain ⟨m, F1, hh, vs0, rl, rs, q⟩ := q
    exact False.elim q
theorem held_all (g : Ground mg G T cds) : ∀ k : Nat, AllHeld prog w mg base G k (callP (prgOf T cds) k)
  | 0 => held_zero g
  | 1 => held_succ g (held_zero g) (.inl rfl)
  | k + 2 => held_succ g (held_all g (k + 1)) (.inr ⟨k, rfl, held_all g k⟩)
end
end Mi
/-! MINI: the Hook; the end -/
namespace Mi
open PySem PySem.Spec PyProof.Rows L2

def uV : Value → Option V
  | .none => some .non
  | .bool b => some (.bl b)
  | .int i _ => some (.int i)
  | .str x _ => some (.str x)
  | .ref a => some (.ref a)
  | .type n => some (.ty n)
  | _ => none
theorem uV_ok {u : Value} {x : V} (h : uV u = some x) : RelV x u := by
  unfold uV at h
  split at h <;> cases h
  all_goals first | exact rfl | exact ⟨_, rfl⟩
mutual
def rB (K : PySem.W.Frag) : Vl → V → Bool
  | .non, .non => true
  | .bl b, .bl c => b == c
  | .int i, .int j => decide (i = j)
  | .str s, .str x => decide (ss s = x) && s.all (· < 0x110000)
  | .tup xs, .ref a => (match K.lookup a with
    | some ⟨.type c, _, .seq its _, _⟩ => decide (c = "tuple") && (decide (its.size ≤ sizeLine) && rBs K xs its.toList)
    | _ => false)
  | .fl xs, .ref a => (match K.lookup a with
    | some ⟨.type c, none, .seq its _, _⟩ => decide (c = "list") && (decide (its.size ≤ sizeLine) && rBs K xs its.toList)
    | _ => false)
  | .fn c f, .ref a => decide (a = He.fAd K (atK c f))
  | .cl c, .ref a => decide (a = He.ga K (Str.ofString c))
  | .ty t, .ty u => decide (t = u)
  | _, _ => false
def rBs (K : PySem.W.Frag) : List Vl → List Value → Bool
  | [], [] => true
  | v :: vs, u :: us => (match uV u with
    | some y => rB K v y
    | none => false) && rBs K vs us
  | _, _ => false
end
def gOf (K : PySem.W.Frag) (T : Tb) : Gi := ⟨K, T.cs, T.fl.map (·.2), fun c => He.ga K (Str.ofString c), fun c f => He.fAd K (atK c f), T.info⟩
section
variable {K : PySem.W.Frag} {T : Tb}
mutual
theorem rB_ok : ∀ {v : Vl} {x : V}, rB K v x = true → R (gOf K T) F0 m0 v x
  | .non, x, h => by cases x <;> first | rfl | cases h
  | .bl b, x, h => by
    cases x with
    | bl c => 
      have e : b = c := beq_iff_eq.mp h
      rw [e]
      exact rfl
    | _ => cases h
  | .int b, x, h => by
    cases x with
    | int c => 
      have e : b = c := of_decide_eq_true h
      rw [e]
      exact rfl
    | _ => cases h
  | .str s, x, h => by
    cases x with
    | str c =>
      obtain ⟨h1, h2⟩ := He.ba (show (decide (ss s = c) && s.all (· < 0x110000)) = true from h)
      exact ⟨by rw [of_decide_eq_true h1], fun c hc => by simpa using List.all_eq_true.mp h2 c hc⟩
    | _ => cases h
  | .byt b, x, h => by cases x <;> cases h
  | .ref b, x, h => by cases x <;> cases h
  | .tup xs, x, h => by
    cases x with
    | ref a =>
      unfold rB at h
      split at h
      · rename_i c _ its n _ q
        obtain ⟨h1, h2⟩ := He.ba h
        obtain ⟨h3, h4⟩ := He.ba h2
        obtain ⟨ys, r1, r2⟩ := rBs_ok h4
        exact ⟨a, ys, rfl, .inr ⟨_, its, n, q, congrArg Value.type (of_decide_eq_true h1), rfl, of_decide_eq_true h3, r2⟩, r1⟩
      · cases h
    | _ => cases h
  | .fl xs, x, h => by
    cases x with
    | ref a =>
      unfold rB at h
      split at h
      · rename_i c its n _ q
        obtain ⟨h1, h2⟩ := He.ba h
        obtain ⟨h3, h4⟩ := He.ba h2
        obtain ⟨ys, r1, r2⟩ := rBs_ok h4
        exact ⟨a, ys, rfl, .inr ⟨_, its, n, q, congrArg Value.type (of_decide_eq_true h1), rfl, rfl, of_decide_eq_true h3, r2⟩, r1⟩
      · cases h
    | _ => cases h
  | .fd kvs, x, h => by cases x <;> cases h
  | .ob c fs, x, h => by cases x <;> cases h
  | .fn c f, x, h => by
    cases x with
    | ref a =>
      have e : a = He.fAd K (atK c f) := of_decide_eq_true h
      rw [e]
      exact rfl
    | _ => cases h
  | .cl c, x, h => by
    cases x with
    | ref a =>
      have e : a = He.ga K (Str.ofString c) := of_decide_eq_true h
      rw [e]
      exact rfl
    | _ => cases h
  | .ty t, x, h => by
    cases x with
    | ty u =>
      have e : t = u := of_decide_eq_true h
      rw [e]
      exact rfl
    | _ => cases h
  | .rng _ _, x, h => by cases x <;> cases h
  | .enm _, x, h => by cases x <;> cases h
  | .zp _ _, x, h => by cases x <;> cases h
  | .its _, x, h => by cases x <;> cases h
theorem rBs_ok : ∀ {vs : List Vl} {us : List Value}, rBs K vs us = true → ∃ ys, Rs (gOf K T) F0 m0 vs ys ∧ Vals ys us
  | [], [], _ => ⟨[], rfl, .nil⟩
  | [], _ :: _, h => by cases h
  | _ :: _, [], h => by cases h
  | v :: vs, u :: us, h => by
    unfold rBs at h
    obtain ⟨h1, h2⟩ := He.ba h
    split at h1
    · rename_i y e
      obtain ⟨ys, r1, r2⟩ := rBs_ok h2
      exact ⟨y :: ys, ⟨y, ys, rfl, rB_ok h1, r1⟩, .cons (uV_ok e) r2⟩
    · cases h1
end
def rBv (K : PySem.W.Frag) : List Vl → List V → Bool
  | [], [] => true
  | v :: vs, u :: us => rB K v u && rBv K vs us
  | _, _ => false
theorem rBv_ok : ∀ {vs : List Vl} {us : List V}, rBv K vs us = true → Rs (gOf K T) F0 m0 vs us
  | [], [], _ => rfl
  | [], _ :: _, h => by cases h
  | _ :: _, [], h => by cases h
  | v :: vs, u :: us, h => by
    unfold rBv at h
    obtain ⟨h1, h2⟩ := He.ba h
    exact ⟨u, us, rfl, rB_ok h1, rBv_ok h2⟩
end
/-- the object of a keyword's default -/
def kwAt (c f : String) (n : Str) (K : PySem.W.Frag) : Addr := match K.lookup (He.fAd K (atK c f)) with
  | some ⟨_, _, .func fd, _⟩ => (match fd.kwdefaults with
    | .ref D => (match PySem.W.nsIn K D n with
      | some (some (.ref a)) => a
      | _ => 0)
    | _ => 0)
  | _ => 0
def dvOf (p : PySem.W.Frag → Addr) : Vl → He.Dv
  | .non => .non
  | .bl b => .bl b
  | .int i => .int i
  | .str s => .str (ss s)
  | .ty t => .ty t
  | _ => .adr p
def dflD (c f : String) : Nat → List Vl → List He.Dv
  | _, [] => []
  | i, v :: vs => dvOf (He.dflAt (atK c f) i) v :: dflD c f (i + 1) vs
def Cd.dd (d : Cd) : He.DefD := ⟨atK d.c d.f, Str.ofString d.f, d.qual, d.par, d.body, d.sc, dflD d.c d.f 0 d.dfl, d.kwd.map fun q => (q.1, dvOf (kwAt d.c d.f q.1) q.2)⟩
def okV (K : PySem.W.Frag) (x : Str) (v : Vl) : Bool := match PySem.W.nsIn K mainGlobals x with
  | some (some u) => (match uV u with
    | some y => rB K v y
    | none => false)
  | _ => false
def okD (K : PySem.W.Frag) (d : Cd) : Bool := d.dd.ok K && (rBv K d.dfl (d.dd.dvs K) && (rBv K (d.kwd.map (·.2)) ((d.dd.kws K).map (·.2)) &&
  ((if d.c = "" then (He.Fa.glo (Str.ofString d.f)).ok K else (He.Fa.meth (Str.ofString d.c) (Str.ofString d.f)).ok K) && (if d.f = "__init__" then (He.Fa.mkr (Str.ofString d.c)).ok K else true))))
def okM (T : Tb) (cds : List Cd) (K : PySem.W.Frag) : Bool := (T.gv.all fun p => okV K p.1 p.2) && ((T.gc.all fun p => (He.Fa.glo (Str.ofString p.2)).ok K && ((He.Fa.cls (Str.ofString p.2)).ok K && T.fl.all fun q => (He.Fa.noat (Str.ofString p.2) (Str.ofString q.2)).ok K)) &&
  ((T.nb.all fun p => (He.Fa.free p.1).ok K) && cds.all fun d => okD K d))
/-- what does not hang on the head -/
def okT (T : Tb) (cds : List Cd) : Bool := (T.gf.all fun p => decide (p.1 = Str.ofString p.2)) && (T.gc.all fun p => decide (p.1 = Str.ofString p.2)) && (T.fl.all fun p => decide (p.1 = Str.ofString p.2)) && (T.ms.all fun p => decide (p.1 = Str.ofString p.2)) &&
  (T.nb.all fun p => decide (p.1 = Str.ofString p.2)) && !(T.cs.contains "") && cds.all fun d => C8.scC d.N (names d.fi) d.sc && plainArgs d.par
abbrev AlM : Type := Bool × List He.FnW
def obsM (T : Tb) (cds : List Cd) (K : PySem.W.Frag) : AlM := (okM T cds K, cds.map fun d => He.fnW K (atK d.c d.f))
def valM (cds : List Cd) : AlM := (true, cds.map fun d => d.dd.val)
def SaysM (T : Tb) (cds : List Cd) (K : PySem.W.Frag) : Prop := obsM T cds K = valM cds
def obsMG (n : Nat) (T : Tb) (cds : List Cd) (g : Addr → Option Obj) : AlM := obsM T cds (He.frG g (He.asD g n))
def hookM (n : Nat) (T : Tb) (cds : List Cd) : PySem.W.Hook where
  α := AlM
  obs := fun s => obsMG n T cds s.heap.get?
  val := fun _ => valM cds
  says := fun _ h => ∃ K : PySem.W.Frag, K.In h ∧ SaysM T cds K
  of := fun _ _ e => ⟨_, He.frG_in, e⟩
  keeps := fun _ _ _ ⟨K, hK, c⟩ k => ⟨K, PySem.W.Frag.In.keeps hK k, c⟩
theorem obsMG_eq {n : Nat} {T : Tb} {cds : List Cd} {g : Addr → Option Obj} {s : Shared} (h : ∀ a, g a = s.heap.get? a) : obsMG n T cds g = (hookM n T cds).obs s := by
  have e : g = s.heap.get? := funext h
  rw [e] <;> rfl
theorem mem_look {α β : Type} [BEq α] [LawfulBEq α] : ∀ {l : List (α × β)} {a : α} {b : β}, l.lookup a = some b → (a, b) ∈ l
  | [], _, _, e => nomatch e
  | (c, d) :: l, a, b, e => by
    rw [List.lookup_cons] at e
    split at e
    · rename_i h
      rw [beq_iff_eq.mp h]
      cases e
      exact List.mem_cons_self
    · exact List.mem_cons_of_mem _ (mem_look e)
theorem all_look {α β : Type} [BEq α] [LawfulBEq α] {l : List (α × β)} {p : α × β → Bool} (h : l.all p = true) {a : α} {b : β} (e : l.lookup a = some b) : p (a, b) = true := List.all_eq_true.mp h _ (mem_look e)
theorem ground_of {K : PySem.W.Frag} {h : Heap} {mg : Str → Option Value} {T : Tb} {cds : List Cd} (KX : K.In h) (N : h.Ns mainGlobals mg) (hT : okT T cds = true) (hfi : T.fi = tbFi cds) (c : SaysM T cds K) : Ground mg (gOf K T) T cds := by
  have c1 : okM T cds K = true := congrArg (fun z : AlM => z.1) c
  have c2 : (cds.map fun d => He.fnW K (atK d.c d.f)) = cds.map fun d => d.dd.val := congrArg (fun z : AlM => z.2) c
  unfold okM at c1
  obtain ⟨a1, c1⟩ := He.ba c1
  obtain ⟨a2, c1⟩ := He.ba c1
  obtain ⟨a3, a4⟩ := He.ba c1
  unfold okT at hT
  obtain ⟨hT, t7⟩ := He.ba hT
  obtain ⟨hT, t6⟩ := He.ba hT
  obtain ⟨hT, t5⟩ := He.ba hT
  obtain ⟨hT, t4⟩ := He.ba hT
  obtain ⟨hT, t3⟩ := He.ba hT
  obtain ⟨t1, t2⟩ := He.ba hT
  have hcd : ∀ c f fi, T.info c f = some fi → ∃ d ∈ cds, d.c = c ∧ d.f = f := fun c f fi e => by
    unfold Tb.info at e
    rw [hfi] at e
    have := mem_look e
    unfold tbFi at this
    obtain ⟨d, hd, e2⟩ := List.mem_map.mp this
    have e3 : d.key = (c, f) := congrArg (·.1) e2
    exact ⟨d, hd, congrArg (·.1) e3, congrArg (·.2) e3⟩
  have hcs : ∀ c ∈ T.cs, ∃ s, (s, c) ∈ T.gc := fun c hc => by
    unfold Tb.cs at hc
    obtain ⟨p, hp, e⟩ := List.mem_map.mp hc
    exact ⟨p.1, by rw [← e]; exact hp⟩
  refine ⟨fun d hd => ?_, fun d hd => He.ba (List.all_eq_true.mp t7 d hd), hfi, fun c hc => ?_, fun c hc f hf => ?_, fun c m fi hc e => ?_, fun c fi hc e => ?_, fun f fi e => ?_, fun c hc => ?_, fun s v e => ?_, fun s f e => ?_, fun s f e => ?_, fun s f e => ?_, fun s f e => ?_, fun s f e => ?_, fun _ _ => rfl, rfl⟩
  · have q := List.all_eq_true.mp a4 d hd
    unfold okD at q
    obtain ⟨q1, q⟩ := He.ba q
    obtain ⟨q2, q⟩ := He.ba q
    obtain ⟨q3, q⟩ := He.ba q
    obtain ⟨i, hi⟩ := List.mem_iff_getElem?.mp hd
    have e : He.fnW K (atK d.c d.f) = d.dd.val := by
      have e2 : (cds.map fun d => He.fnW K (atK d.c d.f))[i]? = (cds.map fun d => d.dd.val)[i]? := by rw [c2]
      rw [List.getElem?_map, List.getElem?_map, hi] at e2
      exact Option.some.inj e2
    obtain ⟨fd, F⟩ := He.DefD.funD (d := d.dd) e q1
    refine ⟨fd, _, _, F, rBv_ok q2, ?_, rBv_ok q3⟩
    unfold He.DefD.kws Cd.dd
    simp [Function.comp_def]
  · obtain ⟨s, hs⟩ := hcs c hc
    obtain ⟨b1, b⟩ := He.ba (List.all_eq_true.mp a2 _ hs)
    exact He.cls_ok (He.ba b).1
  · obtain ⟨s, hs⟩ := hcs c hc
    obtain ⟨b1, b⟩ := He.ba (List.all_eq_true.mp a2 _ hs)
    obtain ⟨p, hp, rfl⟩ := List.mem_map.mp hf
    exact He.noat_ok (List.all_eq_true.mp (He.ba b).2 p hp)
  · obtain ⟨d, hd, rfl, rfl⟩ := hcd _ _ _ e
    have q := List.all_eq_true.mp a4 d hd
    unfold okD at q
    obtain ⟨q1, q⟩ := He.ba q
    obtain ⟨q2, q⟩ := He.ba q
    obtain ⟨q3, q⟩ := He.ba q
    obtain ⟨q4, q5⟩ := He.ba q
    have hne : d.c ≠ "" := fun z => by
      have t6 : T.cs.contains "" = false := by simpa using t6
      have : T.cs.contains "" = true := by
        rw [← z]
        exact List.contains_iff_mem.mpr hc
      rw [t6] at this
      cases this
    rw [if_neg hne] at q4
    have := He.meth_ok q4
    show Meth K (He.ga K (Str.ofString d.c)) (Str.ofString d.f) (He.fAd K (atK d.c d.f))
    unfold atK
    rw [if_neg hne]
    exact this
  · obtain ⟨d, hd, rfl, hf⟩ := hcd _ _ _ e
    have q := List.all_eq_true.mp a4 d hd
    unfold okD at q
    obtain ⟨q1, q⟩ := He.ba q
    obtain ⟨q2, q⟩ := He.ba q
    obtain ⟨q3, q⟩ := He.ba q
    obtain ⟨q4, q5⟩ := He.ba q
    have hne : d.c ≠ "" := fun z => by
      have t6 : T.cs.contains "" = false := by simpa using t6
      have : T.cs.contains "" = true := by
        rw [← z]
        exact List.contains_iff_mem.mpr hc
      rw [t6] at this
      cases this
    rw [if_pos hf] at q5
    have := He.mkr_ok q5
    show Mk K (He.ga K (Str.ofString d.c)) (He.fAd K (atK d.c "__init__"))
    unfold atK
    rw [if_neg hne]
    exact this
  · obtain ⟨d, hd, hc, rfl⟩ := hcd _ _ _ e
    have q := List.all_eq_true.mp a4 d hd
    unfold okD at q
    obtain ⟨q1, q⟩ := He.ba q
    obtain ⟨q2, q⟩ := He.ba q
    obtain ⟨q3, q⟩ := He.ba q
    obtain ⟨q4, q5⟩ := He.ba q
    rw [if_pos hc] at q4
    exact He.glo_ok KX N q4
  · obtain ⟨s, hs⟩ := hcs c hc
    obtain ⟨b1, b⟩ := He.ba (List.all_eq_true.mp a2 _ hs)
    exact He.glo_ok KX N b1
  · have q := all_look a1 e
    unfold okV at q
    split at q
    · rename_i u e1
      split at q
      · rename_i y e2
        exact ⟨y, u, PySem.W.mg_of KX N e1, uV_ok e2, rB_ok q⟩
      · cases q
    · cases q
  · exact of_decide_eq_true (all_look t1 e)
  · exact of_decide_eq_true (all_look t2 e)
  · exact ⟨of_decide_eq_true (all_look t3 e), List.mem_map.mpr ⟨_, mem_look e, rfl⟩⟩
  · exact of_decide_eq_true (all_look t4 e)
  · exact ⟨of_decide_eq_true (all_look t5 e), He.free_ok KX N (all_look a3 e)⟩
/-! ### the end -/
def lawArgs (x : Str) (p : Arguments) : Bool := decide (argNames p.args = [x]) && decide (argNames p.kwonlyargs = []) && plainArgs p
theorem law_walk {l : PySem.W.OpenLaw} {n k m : Nat} {q : Program} {loose : List Str} {XP : (Str → Option Value) → Heap → Prop} {T : Tb} {cds : List Cd} {dr : DefRec} {d : Cd} {x : Str} (hn : l.most = some n) (hn2 : n ≤ sizeLine) (hdf : dr.params.defaults = []) (hr : Room k callerA)
    (hname : dr.name = Str.ofString "law") (hT : okT T cds = true) (hfi : T.fi = tbFi cds) (hd : T.info "" "law" = some ⟨d.par, [], []⟩) (hp : lawArgs x d.par = true)
    (law : ∀ ns : List Int, ns.length ≤ n → ∃ h', callP (prgOf T cds) k "" "law" [.fl (ns.map .int)] [] = .ok (.bl true) h') :
    PySem.W.WalkO q loose XP (hookM m T cds).says l.row.toRowW dr [] (fun f vs => PySem.call f vs) := by
  refine L2.walk_ofE (CX := C8.CX0) (k := k) (x := x) hn hn2 hdf hr (fun w mg fa h Y N hmg => ?_) (fun _ _ _ _ z => z)
  obtain ⟨K, KX, c⟩ := Y
  have g := ground_of KX N hT hfi c
  unfold lawArgs at hp
  obtain ⟨hp, hp3⟩ := He.ba hp
  obtain ⟨hp1, hp2⟩ := He.ba hp
  have hp1 := of_decide_eq_true hp1
  have hp2 := of_decide_eq_true hp2
  have hfa : fa = (gOf K T).fa "" "law" := by
    have := g.glf "law" _ hd
    rw [← hname, hmg] at this
    exact Value.ref.inj (Option.some.inj this)
  have hnm : names ⟨d.par, [], []⟩ = [x] := by
    unfold names
    rw [hp1, hp2]
    rfl
  obtain ⟨d0, hd0, hc0, hf0, he0, _⟩ := g.cd (c := "") (f := "law") hd
  obtain ⟨fd, dvs, kws, F, r1, r2, r3⟩ := g.defs d0 hd0
  have hdfl : d0.dfl = [] := (congrArg FnI.dfl he0).symm
  have hpar : d0.par = d.par := (congrArg FnI.par he0).symm
  have hdv : dvs = [] := by
    rw [hdfl] at r1
    exact r1
  have bt : ∀ (s : Shared) (u : Value), BindsTo s fd ⟨[u], []⟩ [(x, u)] := by
    obtain ⟨oc, od, dV, kV, doc, pm, an, cdv, ct, osl, rfl, lk, hcd, hD, hK⟩ := F.ex
    intro s u
    rcases hD with ⟨_, rfl⟩ | ⟨e, _⟩
    · refine BindsTo.of_looks fun M => binds_looks (oi := none) (ds := []) (kd := []) (by show plainArgs d0.par = true; rw [hpar]; exact hp3) (.of_pure rfl) rfl (fun n v e => nomatch e) ?_
      show bindI (argNames d0.par.args) (argNames d0.par.kwonlyargs) [u] [] [] [] = some [(x, u)]
      rw [hpar, hp1, hp2]
      simp [bindI, addKw, fillK, fillD, pickL]
    · exact absurd hdv e
  refine ⟨K, fd, heldSp (gOf K T) (callP (prgOf T cds) k "" "law"), KX, bt, fun H a ns hl ho hs => ?_, fun base KB NB => ?_⟩
  · obtain ⟨h', e⟩ := law ns hl
    refine ⟨m0, H, [], [.fl (ns.map .int)], ⟨Le.refl H, fun _ _ => rfl, fun a o e => (nomatch e), fun a b o o' p e => (nomatch e)⟩, Rs.one ⟨a, _, rfl, hs, ?_⟩, ?_⟩
    · clear hl e hs law
      induction ns with
      | nil => rfl
      | cons i ns ih => exact ⟨_, _, rfl, rfl, ih⟩
    · rw [e]
      exact fun m' F' H' x lm l rl rx => rx
  · have g2 := ground_of KB NB hT hfi c
    have ha : AllHeld l.prog w mg base (gOf K T) k (callP (prgOf T cds) k) := held_all g2 k
    obtain ⟨fd', hh⟩ := ha "" "law" _ hd
    obtain ⟨oc, od, osl, lk⟩ := hh.lk
    have efd : fd' = fd := by
      obtain ⟨oc', od', dV, kV, doc, pm, an, cdv, ct, osl', rfl, lk', _⟩ := F.ex
      rw [hc0, hf0] at lk'
      have := Option.some.inj (lk.symm.trans lk')
      have := congrArg Obj.data this
      injection this with this
      rw [hf0]
      exact this
    rw [← efd, hfa, ← hnm]
    exact hh.ok
end Mi
/-! MINI: proofs about runs -/
namespace Mi
def Ok {α : Type} (r : Res α) (Q : α → Hm → Prop) : Prop := match r with
  | .ok a h => Q a h
  | _ => False
section
variable {α β : Type} {C : Cs} {r : Rho} {h : Hm}
@[simp] theorem ok_ok {a : α} {Q : α → Hm → Prop} : Ok (.ok a h) Q ↔ Q a h := Iff.rfl
@[simp] theorem ok_bad {Q : α → Hm → Prop} : Ok (.bad : Res α) Q ↔ False := Iff.rfl
theorem ok_bind {x : Res α} {f : α → Hm → Res β} {Q : β → Hm → Prop} : Ok (x.bind f) Q ↔ Ok x fun a h => Ok (f a h) Q := by
  cases x <;> exact Iff.rfl
theorem ok_ite {c : Prop} [Decidable c] {x y : Res α} {Q : α → Hm → Prop} : Ok (if c then x else y) Q ↔ if c then Ok x Q else Ok y Q := by
  split <;> exact Iff.rfl
theorem Ok.imp {x : Res α} {Q Q' : α → Hm → Prop} (w : Ok x Q) (i : ∀ a h, Q a h → Q' a h) : Ok x Q' := by
  cases x with
  | ok a h => exact i a h w
  | exc c fs h => exact False.elim w
  | bad => exact False.elim w
theorem Ok.get {x : Res α} {Q : α → Hm → Prop} (w : Ok x Q) : ∃ a h, x = .ok a h ∧ Q a h := by
  cases x with
  | ok a h => exact ⟨a, h, rfl, w⟩
  | exc c fs h => exact False.elim w
  | bad => exact False.elim w
/-- what follows in a block -/
def Then (C : Cs) (ss : List Sm) (Q : Flow → Hm → Prop) : Flow → Hm → Prop
  | .nx r, h => Ok (exs C ss r h) Q
  | f, h => Q f h
@[simp] theorem then_nx {ss : List Sm} {Q : Flow → Hm → Prop} : Then C ss Q (.nx r) h ↔ Ok (exs C ss r h) Q := Iff.rfl
@[simp] theorem then_rt {ss : List Sm} {Q : Flow → Hm → Prop} {v : Vl} : Then C ss Q (.rt v) h ↔ Q (.rt v) h := Iff.rfl
@[simp] theorem then_bk {ss : List Sm} {Q : Flow → Hm → Prop} : Then C ss Q (.bk r) h ↔ Q (.bk r) h := Iff.rfl
@[simp] theorem then_ct {ss : List Sm} {Q : Flow → Hm → Prop} : Then C ss Q (.ct r) h ↔ Q (.ct r) h := Iff.rfl
theorem ok_cons {s : Sm} {ss : List Sm} {Q : Flow → Hm → Prop} : Ok (exs C (s :: ss) r h) Q ↔ Ok (ex C s r h) (Then C ss Q) := by
  rw [exs]
  cases ex C s r h with
  | ok f h => cases f <;> exact Iff.rfl
  | exc c fs h => exact Iff.rfl
  | bad => exact Iff.rfl
theorem ok_nil {Q : Flow → Hm → Prop} : Ok (exs C [] r h) Q ↔ Q (.nx r) h := by
  rw [exs]
  exact Iff.rfl
/-- a call -/
theorem ok_call {P : Prg} {d ar n : Nat} {c f : String} {vs : List Vl} {b : List Sm} {Q : Vl → Hm → Prop} (e : P.lookup (c, f) = some ⟨ar, n, b⟩) (hl : vs.length = ar) (w : Ok (exs (csOf P d) b (start n vs) h) fun fl h => match fl with
    | .nx _ => Q .non h
    | .rt v => Q v h
    | _ => False) : Ok (callP P (d + 1) c f vs h) Q := by
  rw [callP, e]
  dsimp only
  rw [if_pos hl]
  unfold runB
  rw [ok_bind]
  refine Ok.imp (x := exs (csOf P d) b (start n vs) h) w fun fl h q => ?_
  cases fl with
  | nx r => exact q
  | rt v => exact q
  | bk r => exact False.elim q
  | ct r => exact False.elim q
/-! ### expressions -/
def TR (h : Hm) (v : Vl) (Q : Vl → Hm → Prop) : Prop := ∃ b, tru h v = some b ∧ Q (.bl b) h
def BR (v : Vl) (A B : Prop) : Prop := match v with
  | .bl true => A
  | .bl false => B
  | _ => False
theorem br_t {A B : Prop} : BR (.bl true) A B ↔ A := Iff.rfl
theorem br_f {A B : Prop} : BR (.bl false) A B ↔ B := Iff.rfl
theorem br_b {A B : Prop} {b : Bool} : BR (.bl b) A B ↔ if b = true then A else B := by
  cases b
  · exact Iff.rfl
  · exact Iff.rfl
theorem br_d {A B : Prop} {c : Prop} [Decidable c] : BR (.bl (decide c)) A B ↔ if c then A else B := by
  by_cases h : c
  · rw [if_pos h, decide_eq_true h]
    exact Iff.rfl
  · rw [if_neg h, decide_eq_false h]
    exact Iff.rfl
theorem tr_b {b : Bool} {Q : Vl → Hm → Prop} : TR h (.bl b) Q ↔ Q (.bl b) h := ⟨fun ⟨c, e, q⟩ => by cases e; exact q, fun q => ⟨b, rfl, q⟩⟩
theorem ok_asT {x : Res Vl} {Q : Vl → Hm → Prop} : Ok (asT true x) Q ↔ Ok x fun v h => TR h v Q := by
  unfold asT
  rw [if_pos rfl, ok_bind]
  cases x with
  | ok v h =>
    show Ok (match tru h v with
      | some b => Res.ok (Vl.bl b) h
      | none => Res.bad) Q ↔ TR h v Q
    unfold TR
    cases tru h v with
    | some b => exact ⟨fun q => ⟨b, rfl, q⟩, fun ⟨c, e, q⟩ => by cases e; exact q⟩
    | none => exact ⟨fun q => False.elim q, fun ⟨c, e, q⟩ => nomatch e⟩
  | exc c fs h => exact Iff.rfl
  | bad => exact Iff.rfl
theorem asT_f {x : Res Vl} : asT false x = x := rfl
theorem ok_congr {x : Res α} {Q Q' : α → Hm → Prop} (i : ∀ a h, Q a h ↔ Q' a h) : Ok x Q ↔ Ok x Q' := ⟨fun w => w.imp fun a h => (i a h).mp, fun w => w.imp fun a h => (i a h).mpr⟩
section
variable {Q : Vl → Hm → Prop} {x y z : Ex} {es : List Ex}
/-- a test by the value's truth -/
def plainX : Ex → Bool
  | .not _ => false
  | .and _ _ => false
  | .or _ _ => false
  | .ite _ _ _ => false
  | _ => true
theorem e_T (hp : plainX x = true) : Ok (evM C x true r h) Q ↔ Ok (evM C x false r h) fun v h => TR h v Q := by
  cases x <;> first | cases hp | skip
  all_goals first | (rw [evM, evM, ok_asT, asT_f]; done) | (rw [evM, evM]; exact Iff.rfl)
theorem e_var {i : Nat} : Ok (evM C (.var i) false r h) Q ↔ ∃ v, r[i]? = some (some v) ∧ Q v h := by
  rw [evM, asT_f]
  cases e : r[i]? with
  | none => exact ⟨fun q => False.elim q, fun ⟨v, e, q⟩ => nomatch e⟩
  | some o =>
    cases o with
    | none => exact ⟨fun q => False.elim q, fun ⟨v, e, q⟩ => nomatch e⟩
    | some v => exact ⟨fun q => ⟨v, rfl, q⟩, fun ⟨v, e, q⟩ => by cases e; exact q⟩
theorem e_cst {v : Vl} : Ok (evM C (.cst v) false r h) Q ↔ Q v h := by
  rw [evM, asT_f]
  exact Iff.rfl
theorem e_tup : Ok (evM C (.tupE es) false r h) Q ↔ Ok (evs C es r h) fun vs h => vs.length ≤ LIM ∧ Q (.tup vs) h := by
  rw [evM, asT_f, ok_bind]
  exact ok_congr fun vs h => by
    by_cases hl : vs.length ≤ LIM
    · rw [if_pos hl]
      exact ⟨fun q => ⟨hl, q⟩, fun q => q.2⟩
    · rw [if_neg hl]
      exact ⟨fun q => False.elim q, fun q => (hl q.1).elim⟩
theorem e_lst : Ok (evM C (.lstE es) false r h) Q ↔ Ok (evs C es r h) fun vs h => vs.length ≤ LIM ∧ Q (.ref h.length) (h ++ [.lst vs]) := by
  rw [evM, asT_f, ok_bind]
  exact ok_congr fun vs h => by
    by_cases hl : vs.length ≤ LIM
    · rw [if_pos hl]
      exact ⟨fun q => ⟨hl, q⟩, fun q => q.2⟩
    · rw [if_neg hl]
      exact ⟨fun q => False.elim q, fun q => (hl q.1).elim⟩
theorem e_bin {op : Bop} : Ok (evM C (.bin op x y) false r h) Q ↔ Ok (evM C x false r h) fun u h => Ok (evM C y false r h) fun v h => Ok (binop op u v h) Q := by
  rw [evM, asT_f, ok_bind]
  exact ok_congr fun u h => ok_bind
theorem e_cmp {op : Cop} : Ok (evM C (.cmp op x y) false r h) Q ↔ Ok (evM C x false r h) fun u h => Ok (evM C y false r h) fun v h => Ok (cmpop op u v h) Q := by
  rw [evM, asT_f, ok_bind]
  exact ok_congr fun u h => ok_bind
theorem e_neg : Ok (evM C (.neg x) false r h) Q ↔ Ok (evM C x false r h) fun u h => ∃ i, u = .int i ∧ Q (.int (-i)) h := by
  rw [evM, asT_f, ok_bind]
  exact ok_congr fun u h => by
    cases u with
    | int i => exact ⟨fun q => ⟨i, rfl, q⟩, fun ⟨j, e, q⟩ => by cases e; exact q⟩
    | _ => exact ⟨fun q => False.elim q, fun ⟨j, e, q⟩ => nomatch e⟩
theorem e_notF : Ok (evM C (.not x) false r h) Q ↔ Ok (evM C x false r h) fun u h => TR h u fun v h => ∃ b, v = .bl b ∧ Q (.bl (!b)) h := by
  rw [evM, ok_bind]
  exact ok_congr fun u h => by
    unfold TR
    cases tru h u with
    | none => exact ⟨fun q => False.elim q, fun ⟨b, e, q⟩ => nomatch e⟩
    | some b => exact ⟨fun q => ⟨b, rfl, b, rfl, q⟩, fun ⟨c, e, c', e', q⟩ => by cases e; cases e'; exact q⟩
theorem e_notT : Ok (evM C (.not x) true r h) Q ↔ Ok (evM C x true r h) fun u h => ∃ b, u = .bl b ∧ Q (.bl (!b)) h := by
  rw [evM, ok_bind]
  exact ok_congr fun u h => by
    cases u with
    | bl b => exact ⟨fun q => ⟨b, rfl, q⟩, fun ⟨c, e, q⟩ => by cases e; exact q⟩
    | _ => exact ⟨fun q => False.elim q, fun ⟨j, e, q⟩ => nomatch e⟩
theorem e_andT : Ok (evM C (.and x y) true r h) Q ↔ Ok (evM C x true r h) fun u h => BR u (Ok (evM C y true r h) Q) (Q (.bl false) h) := by
  rw [evM, ok_bind]
  exact ok_congr fun u h => by
    cases u with
    | bl b => cases b <;> exact Iff.rfl
    | _ => exact Iff.rfl
theorem e_orT : Ok (evM C (.or x y) true r h) Q ↔ Ok (evM C x true r h) fun u h => BR u (Q (.bl true) h) (Ok (evM C y true r h) Q) := by
  rw [evM, ok_bind]
  exact ok_congr fun u h => by
    cases u with
    | bl b => cases b <;> exact Iff.rfl
    | _ => exact Iff.rfl
theorem e_andF : Ok (evM C (.and x y) false r h) Q ↔ Ok (evM C x false r h) fun u h => TR h u fun b h => BR b (Ok (evM C y false r h) Q) (Q u h) := by
  rw [evM, ok_bind]
  exact ok_congr fun u h => by
    unfold TR
    cases tru h u with
    | none => exact ⟨fun q => False.elim q, fun ⟨b, e, q⟩ => nomatch e⟩
    | some b => cases b <;> exact ⟨fun q => ⟨_, rfl, q⟩, fun ⟨c, e, q⟩ => by cases e; exact q⟩
theorem e_orF : Ok (evM C (.or x y) false r h) Q ↔ Ok (evM C x false r h) fun u h => TR h u fun b h => BR b (Q u h) (Ok (evM C y false r h) Q) := by
  rw [evM, ok_bind]
  exact ok_congr fun u h => by
    unfold TR
    cases tru h u with
    | none => exact ⟨fun q => False.elim q, fun ⟨b, e, q⟩ => nomatch e⟩
    | some b => cases b <;> exact ⟨fun q => ⟨_, rfl, q⟩, fun ⟨c, e, q⟩ => by cases e; exact q⟩
theorem e_ite {m : Bool} : Ok (evM C (.ite z x y) m r h) Q ↔ Ok (evM C z true r h) fun u h => BR u (Ok (evM C x m r h) Q) (Ok (evM C y m r h) Q) := by
  rw [evM, ok_bind]
  exact ok_congr fun u h => by
    cases u with
    | bl b => cases b <;> exact Iff.rfl
    | _ => exact Iff.rfl
theorem e_chain {o1 o2 : Cop} : Ok (evM C (.chain o1 o2 x y z) false r h) Q ↔ Ok (evM C x false r h) fun u h => Ok (evM C y false r h) fun v h => Ok (cmpop o1 u v h) fun t h => BR t (Ok (evM C z false r h) fun w h => Ok (cmpop o2 v w h) Q) (Q (.bl false) h) := by
  rw [evM, asT_f, ok_bind]
  refine ok_congr fun u h => ?_
  rw [ok_bind]
  refine ok_congr fun v h => ?_
  rw [ok_bind]
  refine ok_congr fun t h => ?_
  cases t with
  | bl b =>
    cases b
    · exact Iff.rfl
    · exact ok_bind
  | _ => exact Iff.rfl
theorem e_att {f : String} : Ok (evM C (.att x f) false r h) Q ↔ Ok (evM C x false r h) fun u h => Ok (attV f u h) Q := by
  rw [evM, asT_f, ok_bind]
theorem e_sub : Ok (evM C (.sub x y) false r h) Q ↔ Ok (evM C x false r h) fun u h => Ok (evM C y false r h) fun v h => Ok (subV u v h) Q := by
  rw [evM, asT_f, ok_bind]
  exact ok_congr fun u h => ok_bind
def OI (C : Cs) (y : Ex) (r : Rho) (h : Hm) (Q : Option Int → Hm → Prop) : Prop := if isAbs y then Q none h else Ok (evM C y false r h) fun v h => ∃ i, v = .int i ∧ Q (some i) h
theorem oi_ok {Q : Option Int → Hm → Prop} : Ok (if isAbs y then .ok none h else intR (evM C y false r h)) Q ↔ OI C y r h Q := by
  unfold OI
  split
  · exact Iff.rfl
  · unfold intR
    rw [ok_bind]
    exact ok_congr fun v h => by
      cases v with
      | int i => exact ⟨fun q => ⟨i, rfl, q⟩, fun ⟨j, e, q⟩ => by cases e; exact q⟩
      | _ => exact ⟨fun q => False.elim q, fun ⟨j, e, q⟩ => nomatch e⟩
theorem oi_n {Q : Option Int → Hm → Prop} : OI C (.cst .non) r h Q ↔ Q none h := Iff.rfl
theorem oi_s {Q : Option Int → Hm → Prop} (hy : isAbs y = false) : OI C y r h Q ↔ Ok (evM C y false r h) fun v h => ∃ i, v = .int i ∧ Q (some i) h := by
  unfold OI
  rw [hy]
  exact Iff.rfl
theorem e_slc : Ok (evM C (.slc x y z) false r h) Q ↔ Ok (evM C x false r h) fun u h => OI C y r h fun lo h => OI C z r h fun hi h => Ok (slcV u lo hi h) Q := by
  rw [evM, asT_f, ok_bind]
  refine ok_congr fun u h => ?_
  exact ok_bind.trans ((ok_congr fun lo h => ok_bind.trans oi_ok).trans oi_ok)
/-- the parameters are laid out -/
def SR (vs : List Vl) (pm : List Src) (Q : List Vl → Prop) : Prop := ∃ l, srcs vs pm = some l ∧ Q l
theorem e_call {f : String} {pm : List Src} : Ok (evM C (.call f es pm) false r h) Q ↔ Ok (evs C es r h) fun vs h => SR vs pm fun l => Ok (C.fn "" f l h) Q := by
  rw [evM, asT_f, ok_bind]
  exact ok_congr fun vs h => by
    unfold SR
    cases srcs vs pm with
    | none => exact ⟨fun q => False.elim q, fun ⟨j, e, q⟩ => nomatch e⟩
    | some l => exact ⟨fun q => ⟨l, rfl, q⟩, fun ⟨j, e, q⟩ => by cases e; exact q⟩
theorem e_meth {f : String} {pm : List Src} : Ok (evM C (.meth x f es pm) false r h) Q ↔ Ok (evM C x false r h) fun u h => ∃ c fs, objOf h u = some (c, fs) ∧ getF fs f = none ∧ Ok (evs C es r h) fun vs h => SR (u :: vs) pm fun l => Ok (C.fn c f l h) Q := by
  rw [evM, asT_f, ok_bind]
  refine ok_congr fun u h => ?_
  cases objOf h u with
  | none => exact ⟨fun q => False.elim q, fun ⟨c, fs, e, q⟩ => nomatch e⟩
  | some p =>
    obtain ⟨c, fs⟩ := p
    dsimp only
    cases e2 : getF fs f with
    | some v => exact ⟨fun q => False.elim q, fun ⟨c', fs', e, q, _⟩ => by cases e; rw [e2] at q; cases q⟩
    | none =>
      have key : Ok ((evs C es r h).bind fun vs h => (match srcs (u :: vs) pm with
      | some vs => C.fn c f vs h
      | none => .bad)) Q ↔ Ok (evs C es r h) fun vs h => SR (u :: vs) pm fun l => Ok (C.fn c f l h) Q := by
        rw [ok_bind]
        exact ok_congr fun vs h => by
          unfold SR
          cases srcs (u :: vs) pm with
          | none => exact ⟨fun q => False.elim q, fun ⟨j, e, q⟩ => nomatch e⟩
          | some l => exact ⟨fun q => ⟨l, rfl, q⟩, fun ⟨j, e, q⟩ => by cases e; exact q⟩
      exact ⟨fun q => ⟨c, fs, rfl, e2, key.mp q⟩, fun ⟨c', fs', e, _, q⟩ => by cases e; exact key.mpr q⟩
theorem e_blt {f : String} : Ok (evM C (.blt f es) false r h) Q ↔ Ok (evs C es r h) fun vs h => Ok (bltF f vs h) Q := by
  rw [evM, asT_f, ok_bind]
theorem e_bm {f : String} : Ok (evM C (.bm x f es) false r h) Q ↔ Ok (evM C x false r h) fun u h => bmChk (bmTy f es.length) u h = true ∧ Ok (evs C es r h) fun vs h => Ok (bmF f u vs h) Q := by
  rw [evM, asT_f, ok_bind]
  refine ok_congr fun u h => ?_
  by_cases hc : bmChk (bmTy f es.length) u h = true
  · rw [if_pos hc, ok_bind]
    exact ⟨fun q => ⟨hc, q⟩, fun q => q.2⟩
  · rw [if_neg hc]
    exact ⟨fun q => False.elim q, fun q => (hc q.1).elim⟩
theorem e_nil {Q : List Vl → Hm → Prop} : Ok (evs C [] r h) Q ↔ Q [] h := by
  rw [evs]
  exact Iff.rfl
theorem e_cons {Q : List Vl → Hm → Prop} : Ok (evs C (x :: es) r h) Q ↔ Ok (evM C x false r h) fun v h => Ok (evs C es r h) fun vs h => Q (v :: vs) h := by
  rw [evs, ok_bind]
  exact ok_congr fun u h => ok_bind
/-- one turn of a comprehension -/
def cBody (C : Cs) (elt : Ex) (p : Pt) (cond : Ex) (own : List Nat) (r : Rho) (x : Vl) (h : Hm) : Res (Option Vl) := lcBody C elt p cond own r x h
theorem e_lc {p : Pt} {it cond : Ex} {own : List Nat} : Ok (evM C (.lc x p it cond own) false r h) Q ↔ Ok (evM C it false r h) fun v h => ∃ J, itOf h v = some J ∧ Ok (loopC J h.length (lcBody C x p cond own r) FUEL 0 (h ++ [.lst []])) fun _ h' => Q (.ref h.length) h' := by
  rw [evM, asT_f, ok_bind]
  refine ok_congr fun v h => ?_
  cases itOf h v with
  | none => exact ⟨fun q => False.elim q, fun ⟨j, e, q⟩ => nomatch e⟩
  | some J =>
    have key : Ok ((loopC J h.length (lcBody C x p cond own r) FUEL 0 (h ++ [.lst []])).bind fun _ h' => .ok (.ref h.length) h') Q ↔ Ok (loopC J h.length (lcBody C x p cond own r) FUEL 0 (h ++ [.lst []])) fun _ h' => Q (.ref h.length) h' := ok_bind
    exact ⟨fun q => ⟨J, rfl, key.mp q⟩, fun ⟨j, e, q⟩ => by cases e; exact key.mpr q⟩
theorem lcb {p : Pt} {cond : Ex} {own : List Nat} {v : Vl} {Q : Option Vl → Hm → Prop} : Ok (lcBody C x p cond own r v h) Q ↔ ∃ r', bindP p v (wipe r own) = some r' ∧ Ok (evM C cond true r' h) fun b h => BR b (Ok (evM C x false r' h) fun y h => Q (some y) h) (Q none h) := by
  unfold lcBody
  cases bindP p v (wipe r own) with
  | none => exact ⟨fun q => False.elim q, fun ⟨j, e, q⟩ => nomatch e⟩
  | some r' =>
    have key : Ok ((evM C cond true r' h).bind fun b h => (match b with
    | .bl true => (evM C x false r' h).bind fun y h => .ok (some y) h
    | .bl false => .ok none h
    | _ => .bad)) Q ↔ Ok (evM C cond true r' h) fun b h => BR b (Ok (evM C x false r' h) fun y h => Q (some y) h) (Q none h) := by
      rw [ok_bind]
      exact ok_congr fun u h => by
        cases u with
        | bl b =>
          cases b
          · exact Iff.rfl
          · exact ok_bind
        | _ => exact Iff.rfl
    exact ⟨fun q => ⟨r', rfl, key.mp q⟩, fun ⟨j, e, q⟩ => by cases e; exact key.mpr q⟩
end
/-! ### statements -/
section
variable {Q : Flow → Hm → Prop} {x y z : Ex} {sa sb : List Sm}
theorem x_expr : Ok (ex C (.expr x) r h) Q ↔ Ok (evM C x false r h) fun _ h => Q (.nx r) h := by
  rw [ex, ok_bind]
  exact Iff.rfl
theorem x_asg {t : Tg} : Ok (ex C (.asg t x) r h) Q ↔ Ok (evM C x false r h) fun v h => Ok (asg C t v r h) fun r h => Q (.nx r) h := by
  rw [ex, ok_bind]
  exact ok_congr fun u h => ok_bind
theorem x_ret : Ok (ex C (.ret x) r h) Q ↔ Ok (evM C x false r h) fun v h => Q (.rt v) h := by
  rw [ex, ok_bind]
  exact Iff.rfl
theorem x_ite : Ok (ex C (.ite x sa sb) r h) Q ↔ Ok (evM C x true r h) fun b h => BR b (Ok (exs C sa r h) Q) (Ok (exs C sb r h) Q) := by
  rw [ex, ok_bind]
  exact ok_congr fun u h => by
    cases u with
    | bl b => cases b <;> exact Iff.rfl
    | _ => exact Iff.rfl
theorem x_pass : Ok (ex C .pass r h) Q ↔ Q (.nx r) h := by
  rw [ex]
  exact Iff.rfl
theorem x_for {p : Pt} {it : Ex} {b : List Sm} : Ok (ex C (.for_ p it b) r h) Q ↔ Ok (evM C it false r h) fun v h => ∃ J, itOf h v = some J ∧ Ok (loopF J (fun x r h => match bindP p x r with
      | some r => exs C b r h
      | none => .bad) FUEL 0 r h) Q := by
  rw [ex, ok_bind]
  refine ok_congr fun v h => ?_
  cases itOf h v with
  | none => exact ⟨fun q => False.elim q, fun ⟨j, e, q⟩ => nomatch e⟩
  | some J => exact ⟨fun q => ⟨J, rfl, q⟩, fun ⟨j, e, q⟩ => by cases e; exact q⟩
variable {Qr : Rho → Hm → Prop}
theorem t_name {i : Nat} {v : Vl} : Ok (asg C (.name i) v r h) Qr ↔ Qr (r.set i (some v)) h := by
  rw [asg]
  exact Iff.rfl
theorem t_att {f : String} {v : Vl} : Ok (asg C (.att x f) v r h) Qr ↔ Ok (evM C x false r h) fun u h => Ok (setF u f v h) fun _ h => Qr r h := by
  rw [asg, ok_bind]
  exact ok_congr fun u h => ok_bind
theorem t_sub {v : Vl} : Ok (asg C (.sub x y) v r h) Qr ↔ Ok (evM C x false r h) fun u h => Ok (evM C y false r h) fun w h => Ok (setV u w v h) fun _ h => Qr r h := by
  rw [asg, ok_bind]
  exact ok_congr fun u h => by
    rw [ok_bind]
    exact ok_congr fun u h => ok_bind
theorem t_tup {ts : List Tg} {vs : List Vl} : Ok (asg C (.tup ts) (.tup vs) r h) Qr ↔ Ok (asgs C ts vs r h) Qr := by
  unfold asg
  exact Iff.rfl
theorem t_nil : Ok (asgs C [] [] r h) Qr ↔ Qr r h := by
  rw [asgs]
  exact Iff.rfl
theorem t_cons {t : Tg} {ts : List Tg} {v : Vl} {vs : List Vl} : Ok (asgs C (t :: ts) (v :: vs) r h) Qr ↔ Ok (asg C t v r h) fun r h => Ok (asgs C ts vs r h) Qr := by
  rw [asgs, ok_bind]
end
/-! ### operators upon values -/
section
variable {Q : Vl → Hm → Prop} {i j : Int} {s t : Tx} {a : Nat} {xs ys : List Vl}
theorem o_add : Ok (binop .add (.int i) (.int j) h) Q ↔ Q (.int (i + j)) h := Iff.rfl
theorem o_addS : Ok (binop .add (.str s) (.str t) h) Q ↔ s.length + t.length ≤ LIM ∧ Q (.str (s ++ t)) h := by
  show Ok (if s.length + t.length ≤ LIM then Res.ok (Vl.str (s ++ t)) h else .bad) Q ↔ _
  split
  · rename_i hl
    exact ⟨fun q => ⟨hl, q⟩, fun q => q.2⟩
  · rename_i hl
    exact ⟨fun q => False.elim q, fun q => (hl q.1).elim⟩
theorem o_addT : Ok (binop .add (.tup xs) (.tup ys) h) Q ↔ xs.length + ys.length ≤ LIM ∧ Q (.tup (xs ++ ys)) h := by
  show Ok (if xs.length + ys.length ≤ LIM then Res.ok (Vl.tup (xs ++ ys)) h else .bad) Q ↔ _
  split
  · rename_i hl
    exact ⟨fun q => ⟨hl, q⟩, fun q => q.2⟩
  · rename_i hl
    exact ⟨fun q => False.elim q, fun q => (hl q.1).elim⟩
theorem o_addL {b : Nat} : Ok (binop .add (.ref a) (.ref b) h) Q ↔ ∃ xs, h[a]? = some (.lst xs) ∧ ∃ ys, h[b]? = some (.lst ys) ∧ xs.length + ys.length ≤ LIM ∧ Q (.ref h.length) (h ++ [.lst (xs ++ ys)]) := by
  have e : binop .add (.ref a) (.ref b) h = match livOf h (.ref a), livOf h (.ref b) with
    | some xs, some ys => if xs.length + ys.length ≤ LIM then new (.lst (xs ++ ys)) h else .bad
    | _, _ => .bad := rfl
  rw [e]
  constructor
  · intro q
    split at q
    · rename_i xs ys e1 e2
      split at q
      · rename_i hl
        have g : ∀ {a : Nat} {xs : List Vl}, livOf h (.ref a) = some xs → h[a]? = some (.lst xs) := fun {a xs} e => by
          unfold livOf at e
          dsimp only at e
          split at e
          · rename_i e3
            cases e
            exact e3
          · cases e
        exact ⟨xs, g e1, ys, g e2, hl, q⟩
      · exact False.elim q
    · exact False.elim q
  · rintro ⟨xs, e1, ys, e2, hl, q⟩
    have g : ∀ {a : Nat} {xs : List Vl}, h[a]? = some (.lst xs) → livOf h (.ref a) = some xs := fun {a xs} e => by
      unfold livOf
      dsimp only
      rw [e]
    rw [g e1, g e2]
    dsimp only
    rw [if_pos hl]
    exact q
theorem o_sub : Ok (binop .sub (.int i) (.int j) h) Q ↔ Q (.int (i - j)) h := Iff.rfl
theorem o_mul : Ok (binop .mul (.int i) (.int j) h) Q ↔ mulOk i j = true ∧ Q (.int (i * j)) h := by
  show Ok (if mulOk i j then Res.ok (Vl.int (i * j)) h else .bad) Q ↔ _
  split
  · rename_i hl
    exact ⟨fun q => ⟨hl, q⟩, fun q => q.2⟩
  · rename_i hl
    exact ⟨fun q => False.elim q, fun q => (hl q.1).elim⟩
theorem o_div : Ok (binop .fdiv (.int i) (.int j) h) Q ↔ (0 < j ∧ j < 1073741824) ∧ Q (.int (i / j)) h := by
  show Ok (if 0 < j ∧ j < 1073741824 then Res.ok (Vl.int (i / j)) h else .bad) Q ↔ _
  split
  · rename_i hl
    exact ⟨fun q => ⟨hl, q⟩, fun q => q.2⟩
  · rename_i hl
    exact ⟨fun q => False.elim q, fun q => (hl q.1).elim⟩
theorem o_mod : Ok (binop .mod (.int i) (.int j) h) Q ↔ 0 < j ∧ Q (.int (i % j)) h := by
  show Ok (if 0 < j then Res.ok (Vl.int (i % j)) h else .bad) Q ↔ _
  split
  · rename_i hl
    exact ⟨fun q => ⟨hl, q⟩, fun q => q.2⟩
  · rename_i hl
    exact ⟨fun q => False.elim q, fun q => (hl q.1).elim⟩
theorem o_pow : Ok (binop .pow (.int i) (.int j) h) Q ↔ (0 ≤ j ∧ j ≤ 64 ∧ i.natAbs < 2 ^ 4000) ∧ Q (.int (i ^ j.toNat)) h := by
  show Ok (if 0 ≤ j ∧ j ≤ 64 ∧ i.natAbs < 2 ^ 4000 then Res.ok (Vl.int (i ^ j.toNat)) h else .bad) Q ↔ _
  split
  · rename_i hl
    exact ⟨fun q => ⟨hl, q⟩, fun q => q.2⟩
  · rename_i hl
    exact ⟨fun q => False.elim q, fun q => (hl q.1).elim⟩
theorem c_lt : Ok (cmpop .lt (.int i) (.int j) h) Q ↔ Q (.bl (decide (i < j))) h := Iff.rfl
theorem c_gt : Ok (cmpop .gt (.int i) (.int j) h) Q ↔ Q (.bl (decide (j < i))) h := Iff.rfl
theorem c_le : Ok (cmpop .le (.int i) (.int j) h) Q ↔ Q (.bl (decide (i ≤ j))) h := Iff.rfl
theorem c_ge : Ok (cmpop .ge (.int i) (.int j) h) Q ↔ Q (.bl (decide (j ≤ i))) h := Iff.rfl
theorem c_leS : Ok (cmpop .le (.str s) (.str t) h) Q ↔ Q (.bl (!decide (t < s))) h := Iff.rfl
theorem c_ltS : Ok (cmpop .lt (.str s) (.str t) h) Q ↔ Q (.bl (decide (s < t))) h := Iff.rfl
def OB (o : Option Bool) (h : Hm) (Q : Vl → Hm → Prop) : Prop := ∃ b, o = some b ∧ Q (.bl b) h
theorem bres_iff {o : Option Bool} : Ok (bres o h) Q ↔ OB o h Q := by
  cases o with
  | none => exact ⟨fun q => False.elim q, fun ⟨b, e, q⟩ => nomatch e⟩
  | some b => exact ⟨fun q => ⟨b, rfl, q⟩, fun ⟨c, e, q⟩ => by cases e; exact q⟩
theorem c_eq {u v : Vl} : Ok (cmpop .eq u v h) Q ↔ OB (eqV h u v) h Q := bres_iff
theorem c_ne {u v : Vl} : Ok (cmpop .ne u v h) Q ↔ OB ((eqV h u v).map (!·)) h Q := bres_iff
theorem c_in {u v : Vl} : Ok (cmpop .isin u v h) Q ↔ OB (inV h u v) h Q := bres_iff
theorem c_nin {u v : Vl} : Ok (cmpop .notin u v h) Q ↔ OB ((inV h u v).map (!·)) h Q := bres_iff
theorem c_is {u : Vl} : Ok (cmpop .is u .non h) Q ↔ Q (.bl (isNon u)) h := by
  cases u <;> exact Iff.rfl
theorem c_isn {u : Vl} : Ok (cmpop .isnot u .non h) Q ↔ Q (.bl (!isNon u)) h := by
  cases u <;> exact Iff.rfl
theorem s_ref : Ok (subV (.ref a) (.int i) h) Q ↔ ∃ xs, h[a]? = some (.lst xs) ∧ ∃ v, Mi.atI xs i = some v ∧ Q v h := by
  unfold subV seqOf
  dsimp only
  cases h[a]? with
  | none => exact ⟨fun q => False.elim q, fun ⟨_, e, _⟩ => nomatch e⟩
  | some o =>
    cases o with
    | lst xs =>
      dsimp only
      cases z : Mi.atI xs i with
      | none => exact ⟨fun q => False.elim q, fun ⟨_, e1, b, e, q⟩ => by cases e1; rw [z] at e; cases e⟩
      | some b => exact ⟨fun q => ⟨xs, rfl, b, z, q⟩, fun ⟨_, e1, c, e, q⟩ => by cases e1; rw [z] at e; cases e; exact q⟩
    | _ => exact ⟨fun q => False.elim q, fun ⟨_, e, _⟩ => nomatch e⟩
theorem s_tup : Ok (subV (.tup xs) (.int i) h) Q ↔ ∃ v, Mi.atI xs i = some v ∧ Q v h := by
  unfold subV seqOf
  dsimp only
  cases Mi.atI xs i with
  | none => exact ⟨fun q => False.elim q, fun ⟨b, e, q⟩ => nomatch e⟩
  | some b => exact ⟨fun q => ⟨b, rfl, q⟩, fun ⟨c, e, q⟩ => by cases e; exact q⟩
theorem s_fl : Ok (subV (.fl xs) (.int i) h) Q ↔ ∃ v, Mi.atI xs i = some v ∧ Q v h := by
  unfold subV seqOf
  dsimp only
  cases Mi.atI xs i with
  | none => exact ⟨fun q => False.elim q, fun ⟨b, e, q⟩ => nomatch e⟩
  | some b => exact ⟨fun q => ⟨b, rfl, q⟩, fun ⟨c, e, q⟩ => by cases e; exact q⟩
theorem s_str : Ok (subV (.str s) (.int i) h) Q ↔ s.length ≤ LIM ∧ ∃ c, Mi.atI s i = some c ∧ Q (.str [c]) h := by
  show Ok (if s.length ≤ LIM then (match Mi.atI s i with
    | some c => Res.ok (.str [c]) h
    | none => .bad) else .bad) Q ↔ _
  split
  · rename_i hl
    cases Mi.atI s i with
    | none => exact ⟨fun q => False.elim q, fun ⟨_, b, e, q⟩ => nomatch e⟩
    | some b => exact ⟨fun q => ⟨hl, b, rfl, q⟩, fun ⟨_, c, e, q⟩ => by cases e; exact q⟩
  · rename_i hl
    exact ⟨fun q => False.elim q, fun q => (hl q.1).elim⟩
theorem s_set {v : Vl} {Q : Unit → Hm → Prop} : Ok (setV (.ref a) (.int i) v h) Q ↔ ∃ xs, h[a]? = some (.lst xs) ∧ ∃ k, Mi.ixN xs.length i = some k ∧ Q () (h.set a (.lst (xs.set k v))) := by
  unfold setV
  dsimp only
  cases h[a]? with
  | none => exact ⟨fun q => False.elim q, fun ⟨_, e, _⟩ => nomatch e⟩
  | some o =>
    cases o with
    | lst xs =>
      dsimp only
      cases z : Mi.ixN xs.length i with
      | none => exact ⟨fun q => False.elim q, fun ⟨_, e1, b, e, q⟩ => by cases e1; rw [z] at e; cases e⟩
      | some b => exact ⟨fun q => ⟨xs, rfl, b, z, q⟩, fun ⟨_, e1, c, e, q⟩ => by cases e1; rw [z] at e; cases e; exact q⟩
    | dct kvs => exact ⟨fun q => False.elim q, fun ⟨_, e, _⟩ => nomatch e⟩
    | dead => exact ⟨fun q => False.elim q, fun ⟨_, e, _⟩ => nomatch e⟩
    | inst c fs => exact ⟨fun q => False.elim q, fun ⟨_, e, _⟩ => nomatch e⟩
theorem f_fn {P : Prg} {d : Nat} {c f : String} {vs : List Vl} : Ok ((csOf P d).fn c f vs h) Q ↔ Ok (callP P d c f vs h) Q := Iff.rfl
end
theorem eT_var {Q : Vl → Hm → Prop} {i : Nat} : Ok (evM C (.var i) true r h) Q ↔ Ok (evM C (.var i) false r h) fun v h => TR h v Q := e_T rfl
theorem eT_cst {Q : Vl → Hm → Prop} {v : Vl} : Ok (evM C (.cst v) true r h) Q ↔ Ok (evM C (.cst v) false r h) fun v h => TR h v Q := e_T rfl
theorem eT_tup {Q : Vl → Hm → Prop} {es : List Ex} : Ok (evM C (.tupE es) true r h) Q ↔ Ok (evM C (.tupE es) false r h) fun v h => TR h v Q := e_T rfl
theorem eT_lst {Q : Vl → Hm → Prop} {es : List Ex} : Ok (evM C (.lstE es) true r h) Q ↔ Ok (evM C (.lstE es) false r h) fun v h => TR h v Q := e_T rfl
theorem eT_bin {Q : Vl → Hm → Prop} {op : Bop} {x y : Ex} : Ok (evM C (.bin op x y) true r h) Q ↔ Ok (evM C (.bin op x y) false r h) fun v h => TR h v Q := e_T rfl
theorem eT_cmp {Q : Vl → Hm → Prop} {op : Cop} {x y : Ex} : Ok (evM C (.cmp op x y) true r h) Q ↔ Ok (evM C (.cmp op x y) false r h) fun v h => TR h v Q := e_T rfl
theorem eT_chain {Q : Vl → Hm → Prop} {o1 o2 : Cop} {x y z : Ex} : Ok (evM C (.chain o1 o2 x y z) true r h) Q ↔ Ok (evM C (.chain o1 o2 x y z) false r h) fun v h => TR h v Q := e_T rfl
theorem eT_att {Q : Vl → Hm → Prop} {x : Ex} {f : String} : Ok (evM C (.att x f) true r h) Q ↔ Ok (evM C (.att x f) false r h) fun v h => TR h v Q := e_T rfl
theorem eT_sub {Q : Vl → Hm → Prop} {x y : Ex} : Ok (evM C (.sub x y) true r h) Q ↔ Ok (evM C (.sub x y) false r h) fun v h => TR h v Q := e_T rfl
theorem eT_slc {Q : Vl → Hm → Prop} {x y z : Ex} : Ok (evM C (.slc x y z) true r h) Q ↔ Ok (evM C (.slc x y z) false r h) fun v h => TR h v Q := e_T rfl
theorem eT_call {Q : Vl → Hm → Prop} {f : String} {es : List Ex} {pm : List Src} : Ok (evM C (.call f es pm) true r h) Q ↔ Ok (evM C (.call f es pm) false r h) fun v h => TR h v Q := e_T rfl
theorem eT_meth {Q : Vl → Hm → Prop} {x : Ex} {f : String} {es : List Ex} {pm : List Src} : Ok (evM C (.meth x f es pm) true r h) Q ↔ Ok (evM C (.meth x f es pm) false r h) fun v h => TR h v Q := e_T rfl
theorem eT_blt {Q : Vl → Hm → Prop} {f : String} {es : List Ex} : Ok (evM C (.blt f es) true r h) Q ↔ Ok (evM C (.blt f es) false r h) fun v h => TR h v Q := e_T rfl
theorem eT_bm {Q : Vl → Hm → Prop} {x : Ex} {f : String} {es : List Ex} : Ok (evM C (.bm x f es) true r h) Q ↔ Ok (evM C (.bm x f es) false r h) fun v h => TR h v Q := e_T rfl
theorem eT_lc {Q : Vl → Hm → Prop} {x : Ex} {p : Pt} {it cond : Ex} {own : List Nat} : Ok (evM C (.lc x p it cond own) true r h) Q ↔ Ok (evM C (.lc x p it cond own) false r h) fun v h => TR h v Q := e_T rfl
theorem at_nat {α : Type} (xs : List α) (n : Nat) : Mi.atI xs (n : Int) = xs[n]? := by
  unfold Mi.atI Mi.ixN
  rw [if_pos (by omega)]
  by_cases hn : n < xs.length
  · rw [if_pos (by omega)]
    show xs[(n : Int).toNat]? = _
    rw [Int.toNat_natCast]
  · rw [if_neg (by omega), List.getElem?_eq_none (by omega)]
    rfl
theorem at0 {α : Type} (xs : List α) : Mi.atI xs 0 = xs[0]? := at_nat xs 0
theorem at1 {α : Type} (xs : List α) : Mi.atI xs 1 = xs[1]? := at_nat xs 1
theorem at2 {α : Type} (xs : List α) : Mi.atI xs 2 = xs[2]? := at_nat xs 2
theorem at3 {α : Type} (xs : List α) : Mi.atI xs 3 = xs[3]? := at_nat xs 3
theorem at4 {α : Type} (xs : List α) : Mi.atI xs 4 = xs[4]? := at_nat xs 4
/-- within the bounds there is an item -/
theorem at_in {α : Type} {xs : List α} {i : Int} (h0 : 0 ≤ i) (h1 : i < xs.length) : ∃ x ∈ xs, Mi.atI xs i = some x ∧ xs[i.toNat]? = some x := by
  obtain ⟨n, rfl⟩ := Int.eq_ofNat_of_zero_le h0
  have hn : n < xs.length := by omega
  refine ⟨xs[n], List.getElem_mem hn, ?_, ?_⟩
  · rw [at_nat]
    exact List.getElem?_eq_getElem hn
  · rw [Int.toNat_natCast]
    exact List.getElem?_eq_getElem hn
section
variable {a : Nat} {xs : List Vl} {x0 x1 x2 v : Vl} {Q : Unit → Hm → Prop}
theorem ix_nat (n k : Nat) : Mi.ixN n (k : Int) = if k < n then some k else none := by
  unfold Mi.ixN
  rw [if_pos (by omega)]
  by_cases hn : k < n
  · rw [if_pos (by omega), if_pos hn, Int.toNat_natCast]
  · rw [if_neg (by omega), if_neg hn]
theorem ix0 (n : Nat) : Mi.ixN n 0 = if 0 < n then some 0 else none := ix_nat n 0
theorem ix1 (n : Nat) : Mi.ixN n 1 = if 1 < n then some 1 else none := ix_nat n 1
theorem ix2 (n : Nat) : Mi.ixN n 2 = if 2 < n then some 2 else none := ix_nat n 2
theorem ix3 (n : Nat) : Mi.ixN n 3 = if 3 < n then some 3 else none := ix_nat n 3
end
end
end Mi
/-! MINI: proofs about runs: built-ins, loops -/
namespace Mi
section
variable {α β : Type} {C : Cs} {r : Rho} {h : Hm} {Q : Vl → Hm → Prop} {i j : Int} {s t : Tx} {a : Nat} {xs ys : List Vl}
theorem opt_ok {o : Option α} {f : α → Res β} {Q : β → Hm → Prop} : Ok (match o with
    | some x => f x
    | none => .bad) Q ↔ ∃ x, o = some x ∧ Ok (f x) Q := by
  cases o with
  | none => exact ⟨fun q => False.elim q, fun ⟨b, e, q⟩ => nomatch e⟩
  | some b => exact ⟨fun q => ⟨b, rfl, q⟩, fun ⟨c, e, q⟩ => by cases e; exact q⟩
theorem if_ok {c : Prop} [Decidable c] {x : Res α} {Q : α → Hm → Prop} : Ok (if c then x else .bad) Q ↔ c ∧ Ok x Q := by
  split
  · rename_i hl
    exact ⟨fun q => ⟨hl, q⟩, fun q => q.2⟩
  · rename_i hl
    exact ⟨fun q => False.elim q, fun q => (hl q.1).elim⟩
theorem ob_some {b : Bool} : OB (some b) h Q ↔ Q (.bl b) h := ⟨fun ⟨c, e, q⟩ => by cases e; exact q, fun q => ⟨b, rfl, q⟩⟩
theorem tr_i : TR h (.int i) Q ↔ Q (.bl (i != 0)) h := ⟨fun ⟨c, e, q⟩ => by cases e; exact q, fun q => ⟨_, rfl, q⟩⟩
theorem tr_n : TR h .non Q ↔ Q (.bl false) h := ⟨fun ⟨c, e, q⟩ => by cases e; exact q, fun q => ⟨_, rfl, q⟩⟩
theorem br_nd {A B : Prop} {c : Prop} [Decidable c] : BR (.bl (!decide c)) A B ↔ if c then B else A := by
  by_cases h : c
  · rw [if_pos h, decide_eq_true h]
    exact Iff.rfl
  · rw [if_neg h, decide_eq_false h]
    exact Iff.rfl
theorem oi_var {Q : Option Int → Hm → Prop} {k : Nat} : OI C (.var k) r h Q ↔ Ok (evM C (.var k) false r h) fun v h => ∃ i, v = .int i ∧ Q (some i) h := oi_s rfl
theorem oi_bin {Q : Option Int → Hm → Prop} {op : Bop} {x y : Ex} : OI C (.bin op x y) r h Q ↔ Ok (evM C (.bin op x y) false r h) fun v h => ∃ i, v = .int i ∧ Q (some i) h := oi_s rfl
theorem oi_sub {Q : Option Int → Hm → Prop} {x y : Ex} : OI C (.sub x y) r h Q ↔ Ok (evM C (.sub x y) false r h) fun v h => ∃ i, v = .int i ∧ Q (some i) h := oi_s rfl
theorem oi_blt {Q : Option Int → Hm → Prop} {f : String} {es : List Ex} : OI C (.blt f es) r h Q ↔ Ok (evM C (.blt f es) false r h) fun v h => ∃ i, v = .int i ∧ Q (some i) h := oi_s rfl
theorem oi_neg {Q : Option Int → Hm → Prop} {x : Ex} : OI C (.neg x) r h Q ↔ Ok (evM C (.neg x) false r h) fun v h => ∃ i, v = .int i ∧ Q (some i) h := oi_s rfl
theorem oi_call {Q : Option Int → Hm → Prop} {f : String} {es : List Ex} {pm : List Src} : OI C (.call f es pm) r h Q ↔ Ok (evM C (.call f es pm) false r h) fun v h => ∃ i, v = .int i ∧ Q (some i) h := oi_s rfl
theorem oi_att {Q : Option Int → Hm → Prop} {x : Ex} {f : String} : OI C (.att x f) r h Q ↔ Ok (evM C (.att x f) false r h) fun v h => ∃ i, v = .int i ∧ Q (some i) h := oi_s rfl
theorem oi_cint {Q : Option Int → Hm → Prop} {k : Int} : OI C (.cst (.int k)) r h Q ↔ Ok (evM C (.cst (.int k)) false r h) fun v h => ∃ i, v = .int i ∧ Q (some i) h := oi_s rfl
theorem b_len {v : Vl} : Ok (bltF "len" [v] h) Q ↔ ∃ n, lenV h v = some n ∧ Q (.int n) h := by
  show Ok (bLen [v] h) Q ↔ _
  unfold bLen
  dsimp only
  cases lenV h v with
  | none => exact ⟨fun q => False.elim q, fun ⟨b, e, q⟩ => nomatch e⟩
  | some b => exact ⟨fun q => ⟨b, rfl, q⟩, fun ⟨c, e, q⟩ => by cases e; exact q⟩
theorem b_abs : Ok (bltF "abs" [.int i] h) Q ↔ Q (.int (if i < 0 then -i else i)) h := Iff.rfl
theorem b_max : Ok (bltF "max" [.int i, .int j] h) Q ↔ Q (.int (if j > i then j else i)) h := Iff.rfl
theorem b_min : Ok (bltF "min" [.int i, .int j] h) Q ↔ Q (.int (if j < i then j else i)) h := Iff.rfl
theorem b_intI : Ok (bltF "int" [.int i] h) Q ↔ Q (.int i) h := Iff.rfl
theorem b_intB {b : Bool} : Ok (bltF "int" [.bl b] h) Q ↔ Q (.int (if b then 1 else 0)) h := Iff.rfl
theorem b_isi {v : Vl} {t : String} : Ok (bltF "isinstance" [v, .ty t] h) Q ↔ OB (isi h v t) h Q := bres_iff
theorem b_rng : Ok (bltF "range" [.int j] h) Q ↔ (-4611686018427387904 ≤ j ∧ j < 4611686018427387904) ∧ Q (.rng 0 j.toNat) h := if_ok (x := Res.ok (Vl.rng 0 j.toNat) h)
theorem b_listS : Ok (bltF "list" [.str s] h) Q ↔ s.length ≤ LIM ∧ Q (.ref h.length) (h ++ [.lst (s.map fun c => .str [c])]) := if_ok (x := Mi.new (.lst (s.map fun c => .str [c])) h)
theorem b_listT : Ok (bltF "list" [.tup xs] h) Q ↔ Q (.ref h.length) (h ++ [.lst xs]) := Iff.rfl
theorem lst_ref : lstOf h (.ref a) = some xs ↔ h[a]? = some (.lst xs) := by
  unfold lstOf
  dsimp only
  split
  · rename_i e
    rw [e]
    exact ⟨fun e => by cases e; rfl, fun e => by cases e; rfl⟩
  · rename_i e
    exact ⟨fun e => (nomatch e), fun e2 => (e _ e2).elim⟩
theorem b_all : Ok (bltF "all" [.ref a] h) Q ↔ ∃ xs, h[a]? = some (.lst xs) ∧ ∃ bs, bolsOf xs = some bs ∧ Q (.bl (bs.all id)) h := by
  show Ok (bAll [.ref a] h) Q ↔ _
  unfold bAll
  dsimp only
  constructor
  · intro q
    split at q
    · rename_i bs e
      obtain ⟨xs, e1, e2⟩ := Option.bind_eq_some_iff.mp e
      exact ⟨xs, lst_ref.mp e1, bs, e2, q⟩
    · exact False.elim q
  · rintro ⟨xs, e1, bs, e2, q⟩
    rw [Option.bind_eq_some_iff.mpr ⟨xs, lst_ref.mpr e1, e2⟩]
    exact q
theorem b_any : Ok (bltF "any" [.ref a] h) Q ↔ ∃ xs, h[a]? = some (.lst xs) ∧ ∃ bs, bolsOf xs = some bs ∧ Q (.bl (bs.any id)) h := by
  show Ok (bAny [.ref a] h) Q ↔ _
  unfold bAny
  dsimp only
  constructor
  · intro q
    split at q
    · rename_i bs e
      obtain ⟨xs, e1, e2⟩ := Option.bind_eq_some_iff.mp e
      exact ⟨xs, lst_ref.mp e1, bs, e2, q⟩
    · exact False.elim q
  · rintro ⟨xs, e1, bs, e2, q⟩
    rw [Option.bind_eq_some_iff.mpr ⟨xs, lst_ref.mpr e1, e2⟩]
    exact q
theorem seq_ref : seqOf h (.ref a) = some xs ↔ h[a]? = some (.lst xs) := lst_ref
theorem m_join : Ok (bmF "join" (.str s) [.ref a] h) Q ↔ ∃ xs, h[a]? = some (.lst xs) ∧ ∃ ss, strsOf xs = some ss ∧ (ss.map (·.length)).sum + ss.length * s.length ≤ LIM ∧ Q (.str (joinT s ss)) h := by
  show Ok (mJoin (.str s) [.ref a] h) Q ↔ _
  unfold mJoin
  dsimp only
  constructor
  · intro q
    split at q
    · rename_i bs e
      obtain ⟨xs, e1, e2⟩ := Option.bind_eq_some_iff.mp e
      exact ⟨xs, seq_ref.mp e1, bs, e2, if_ok.mp q⟩
    · exact False.elim q
  · rintro ⟨xs, e1, bs, e2, q⟩
    rw [Option.bind_eq_some_iff.mpr ⟨xs, seq_ref.mpr e1, e2⟩]
    exact if_ok.mpr q
theorem m_lower : Ok (bmF "lower" (.str s) [] h) Q ↔ (s.length ≤ 5592405 ∧ s.all (· < 128) = true) ∧ Q (.str (s.map lowerC)) h := if_ok (x := Res.ok (Vl.str (s.map lowerC)) h)
theorem sl_str {lo hi : Option Int} : Ok (slcV (.str s) lo hi h) Q ↔ s.length ≤ LIM ∧ Q (.str (cut s lo hi)) h := if_ok (x := Res.ok (Vl.str (cut s lo hi)) h)
/-! ### loops -/
theorem loopC_gen {it : Mi.It} {D : Nat} {body : Vl → Hm → Res (Option Vl)} (f : Nat → Option Vl) (n : Nat) (I : Nat → Hm → Prop) (hf : f n = none) (nx : ∀ i h, i ≤ n → I i h → it.next i h = some (f i))
    (st : ∀ i h, i < n → I i h → ∃ x, f i = some x ∧ Ok (body x h) fun y h' => (y = none ∧ I (i + 1) h') ∨ ∃ y' acc, y = some y' ∧ h'[D]? = some (.lst acc) ∧ acc.length < LIM ∧ I (i + 1) (h'.set D (.lst (acc ++ [y'])))) :
    ∀ (k i : Nat) (h : Hm), i ≤ n → n < i + k → I i h → Ok (loopC it D body k i h) fun _ h' => I n h'
  | 0, i, h, hi, hk, w => by omega
  | k + 1, i, h, hi, hk, w => by
    unfold loopC
    rw [nx i h hi w]
    by_cases hn : i < n
    · obtain ⟨x, e, o⟩ := st i h hn w
      rw [e]
      dsimp only
      rw [ok_bind]
      refine o.imp fun y h' q => ?_
      rcases q with ⟨rfl, q⟩ | ⟨y', acc, rfl, q1, q2, q3⟩
      · exact loopC_gen f n I hf nx st k (i + 1) h' hn (by omega) q
      · dsimp only
        rw [q1]
        dsimp only
        rw [if_pos q2]
        exact loopC_gen f n I hf nx st k (i + 1) _ hn (by omega) q3
    · have e : i = n := by omega
      subst e
      rw [hf]
      exact w
theorem loopF_gen {it : Mi.It} {body : Vl → Rho → Hm → Res Flow} {Q : Flow → Hm → Prop} (f : Nat → Option Vl) (n : Nat) (I : Nat → Rho → Hm → Prop) (hf : f n = none) (nx : ∀ i r h, i ≤ n → I i r h → it.next i h = some (f i))
    (st : ∀ i r h, i < n → I i r h → ∃ x, f i = some x ∧ Ok (body x r h) fun fl h' => match fl with
      | .nx r' => I (i + 1) r' h'
      | .ct r' => I (i + 1) r' h'
      | .bk r' => Q (.nx r') h'
      | .rt v => Q (.rt v) h')
    (en : ∀ r h, I n r h → Q (.nx r) h) : ∀ (k i : Nat) (r : Rho) (h : Hm), i ≤ n → n < i + k → I i r h → Ok (loopF it body k i r h) Q
  | 0, i, r, h, hi, hk, w => by omega
  | k + 1, i, r, h, hi, hk, w => by
    unfold loopF
    rw [nx i r h hi w]
    by_cases hn : i < n
    · obtain ⟨x, e, o⟩ := st i r h hn w
      rw [e]
      dsimp only
      obtain ⟨fl, h', e2, q⟩ := o.get
      rw [e2]
      cases fl with
      | nx r' => exact loopF_gen f n I hf nx st en k (i + 1) r' h' hn (by omega) q
      | ct r' => exact loopF_gen f n I hf nx st en k (i + 1) r' h' hn (by omega) q
      | bk r' => exact q
      | rt v => exact q
    · have e : i = n := by omega
      subst e
      rw [hf]
      exact en r h w
theorem set_last {o o' : Ob} : (h ++ [o]).set h.length o' = h ++ [o'] := by
  rw [List.set_append]
  simp
theorem get_last {o : Ob} : (h ++ [o])[h.length]? = some o := by simp
/-- a comprehension that changes nothing -/
theorem loopC_map {it : Mi.It} {body : Vl → Hm → Res (Option Vl)} (xs : List Vl) (g : Vl → Vl) (hl : xs.length < 10000000) (nx : ∀ i h', it.next i (h ++ [h']) = some xs[i]?)
    (st : ∀ x ∈ xs, ∀ o, Ok (body x (h ++ [o])) fun y h' => y = some (g x) ∧ h' = h ++ [o]) : Ok (loopC it h.length body FUEL 0 (h ++ [.lst []])) fun _ h' => h' = h ++ [.lst (xs.map g)] := by
  have key := loopC_gen (it := it) (D := h.length) (body := body) (fun i => xs[i]?) xs.length (fun i h' => h' = h ++ [.lst ((xs.take i).map g)]) (by simp) (fun i h' hi e => by rw [e]; exact nx i _) (fun i h' hi e => ?_) FUEL 0 (h ++ [.lst []]) (Nat.zero_le _) (by
    have hF : FUEL = 10000000 := rfl
    omega) (by simp)
  · refine key.imp fun _ h' e => ?_
    rw [e, List.take_length]
  · subst e
    refine ⟨xs[i], List.getElem?_eq_getElem hi, (st _ (List.getElem_mem hi) _).imp fun y h' q => ?_⟩
    obtain ⟨rfl, rfl⟩ := q
    refine .inr ⟨_, _, rfl, get_last, ?_, ?_⟩
    · have hL : LIM = 16777216 := rfl
      rw [List.length_map, List.length_take]
      omega
    · rw [set_last, List.take_succ, List.getElem?_eq_getElem hi, List.map_append]
      rfl
end
end Mi
/-! MINI: the purse (the first kind) -/
namespace Mi
def bTakeA : List Sm := [Sm.ite (Ex.cmp Cop.gt (Ex.sub (Ex.var 0) (Ex.cst (Vl.int 0))) (Ex.cst (Vl.int 0))) [Sm.asg (Tg.name 2) (Ex.bin Bop.mod (Ex.sub (Ex.var 0) (Ex.cst (Vl.int 0))) (Ex.var 1)), Sm.asg (Tg.sub (Ex.var 0) (Ex.cst (Vl.int 0))) (Ex.bin Bop.fdiv (Ex.sub (Ex.var 0) (Ex.cst (Vl.int 0))) (Ex.var 1)), Sm.ret (Ex.var 2)] [], Sm.asg (Tg.name 3) (Ex.tupE [Ex.cst (Vl.int 2147483647), Ex.cst (Vl.int 2147483629), Ex.cst (Vl.int 2147483587), Ex.cst (Vl.int 2147483579), Ex.cst (Vl.int 2147483563), Ex.cst (Vl.int 2147483549), Ex.cst (Vl.int 2147483543)]), Sm.asg (Tg.sub (Ex.var 0) (Ex.cst (Vl.int 2))) (Ex.bin Bop.add (Ex.sub (Ex.var 0) (Ex.cst (Vl.int 2))) (Ex.cst (Vl.int 1))), Sm.asg (Tg.name 4) (Ex.sub (Ex.var 0) (Ex.cst (Vl.int 2))), Sm.asg (Tg.name 5) (Ex.bin Bop.add (Ex.bin Bop.mul (Ex.bin Bop.add (Ex.sub (Ex.var 0) (Ex.cst (Vl.int 1))) (Ex.bin Bop.mul (Ex.cst (Vl.int 104729)) (Ex.var 4))) (Ex.bin Bop.add (Ex.bin Bop.mul (Ex.cst (Vl.int 3)) (Ex.var 4)) (Ex.cst (Vl.int 4)))) (Ex.bin Bop.mul (Ex.bin Bop.mul (Ex.cst (Vl.int 7919)) (Ex.var 4)) (Ex.var 4))), Sm.asg (Tg.name 6) (Ex.bin Bop.mod (Ex.bin Bop.pow (Ex.var 5) (Ex.cst (Vl.int 3))) (Ex.sub (Ex.var 3) (Ex.bin Bop.mod (Ex.var 4) (Ex.cst (Vl.int 7))))), Sm.ret (Ex.bin Bop.mod (Ex.bin Bop.fdiv (Ex.bin Bop.mod (Ex.bin Bop.mul (Ex.var 6) (Ex.bin Bop.add (Ex.bin Bop.add (Ex.bin Bop.fdiv (Ex.var 6) (Ex.cst (Vl.int 4099))) (Ex.bin Bop.mul (Ex.cst (Vl.int 2)) (Ex.var 4))) (Ex.cst (Vl.int 3)))) (Ex.sub (Ex.var 3) (Ex.bin Bop.mod (Ex.bin Bop.add (Ex.var 4) (Ex.cst (Vl.int 3))) (Ex.cst (Vl.int 7))))) (Ex.cst (Vl.int 16))) (Ex.var 1))]
def bPurseA : List Sm := [Sm.asg (Tg.name 2) (Ex.cst (Vl.int 0)), Sm.ite (Ex.cmp Cop.lt (Ex.var 1) (Ex.blt "len" [Ex.var 0])) [Sm.asg (Tg.name 2) (Ex.sub (Ex.var 0) (Ex.var 1))] [], Sm.asg (Tg.name 3) (Ex.blt "abs" [Ex.var 2]), Sm.ret (Ex.lstE [Ex.bin Bop.mul (Ex.var 3) (Ex.blt "int" [Ex.cmp Cop.ge (Ex.var 3) (Ex.bin Bop.pow (Ex.cst (Vl.int 10)) (Ex.cst (Vl.int 18)))]), Ex.bin Bop.add (Ex.bin Bop.add (Ex.bin Bop.mod (Ex.var 2) (Ex.cst (Vl.int 2305843009213693951))) (Ex.bin Bop.mul (Ex.cst (Vl.int 6607)) (Ex.var 1))) (Ex.cst (Vl.int 3)), Ex.cst (Vl.int 0)])]
theorem pr7 (P : Vl → Prop) (i : Int) (h : ∀ v : Int, 2147483543 ≤ v → v ≤ 2147483647 → P (.int v)) : ∃ v, Mi.atI [Vl.int 2147483647, .int 2147483629, .int 2147483587, .int 2147483579, .int 2147483563, .int 2147483549, .int 2147483543] (i % 7) = some v ∧ P v := by
  obtain ⟨x, hx, e, _⟩ := at_in (xs := [Vl.int 2147483647, .int 2147483629, .int 2147483587, .int 2147483579, .int 2147483563, .int 2147483549, .int 2147483543]) (i := i % 7) (by omega) (by simp only [List.length_cons, List.length_nil]; omega)
  refine ⟨x, e, ?_⟩
  simp only [List.mem_cons, List.not_mem_nil, or_false] at hx
  rcases hx with rfl | rfl | rfl | rfl | rfl | rfl | rfl <;> exact h _ (by omega) (by omega)
theorem mul_l {i j : Int} (h : 0 ≤ i) (h2 : i < 18446744073709551616) : mulOk i j = true := by
  unfold mulOk
  have : i.natAbs < 2 ^ 64 := by omega
  simp only [decide_eq_true this, Bool.true_or]
theorem mul_r {i j : Int} (h : 0 ≤ j) (h2 : j < 18446744073709551616) : mulOk i j = true := by
  unfold mulOk
  have : j.natAbs < 2 ^ 64 := by omega
  simp only [decide_eq_true this, Bool.true_or, Bool.or_true]
theorem small {x : Int} (h0 : 0 ≤ x) (h1 : x < 1606938044258990275541962092341162602522202993782792835301376) : x.natAbs < 2 ^ 4000 := by
  have h2 : (2 : Nat) ^ 200 ≤ 2 ^ 4000 := Nat.pow_le_pow_right (by decide) (by decide)
  have h3 : (2 : Nat) ^ 200 = 1606938044258990275541962092341162602522202993782792835301376 := by decide
  omega
theorem take_bd {b c : Int} (hb : 0 ≤ b) (hb2 : b < 9223372036854775808) (hc : 0 ≤ c) (hc2 : c < 1048577) : 0 ≤ (b + 104729 * c) * (3 * c + 4) + 7919 * c * c ∧ (b + 104729 * c) * (3 * c + 4) + 7919 * c * c < 1606938044258990275541962092341162602522202993782792835301376 := by
  have h1 : 0 ≤ (b + 104729 * c) * (3 * c + 4) := Int.mul_nonneg (by omega) (by omega)
  have h2 : 0 ≤ 7919 * c * c := Int.mul_nonneg (by omega) hc
  have h3 : (b + 104729 * c) * (3 * c + 4) ≤ 18446744073709551616 * 10000000 := Int.mul_le_mul (by omega) (by omega) (by omega) (by omega)
  have h4 : 7919 * c * c ≤ 10000000000 * 10000000 := Int.mul_le_mul (by omega) (by omega) (by omega) (by omega)
  omega
/-- a purse lies at p -/
def Pu (h : Hm) (p : Nat) (t : Int) : Prop := ∃ a b c, h[p]? = some (.lst [.int a, .int b, .int c]) ∧ 0 ≤ a ∧ 0 ≤ b ∧ b < 9223372036854775808 ∧ 0 ≤ c ∧ c ≤ t
/-- h' is h but for the purse at p -/
def Pd (p : Nat) (h h' : Hm) : Prop := ∃ o, h' = h.set p o
theorem takeA {P : Prg} (lk : P.lookup ("", "_law_take") = some ⟨2, 7, bTakeA⟩) {d : Nat} {h : Hm} {p : Nat} {m t : Int} (pu : Pu h p t) (ht : t < 1048576) (hm : 0 < m) (hm2 : m < 1000000) :
    Ok (callP P (d + 1) "" "_law_take" [.ref p, .int m] h) fun v h' => ∃ r, v = .int r ∧ 0 ≤ r ∧ r < m ∧ Pd p h h' ∧ Pu h' p (t + 1) := by
  obtain ⟨a, b, c, e, ha, hb, hb2, hc, hc2⟩ := pu
  refine ok_call lk rfl ?_
  unfold bTakeA
  have hp : p < h.length := (List.getElem?_eq_some_iff.mp e).1
  simp only [ok_cons, ok_nil, ok_ok, ok_bad, then_nx, then_rt, then_bk, then_ct, x_expr, x_asg, x_ret, x_ite, x_pass, x_for, t_name, t_att, t_sub, t_tup, t_nil, t_cons, e_var, e_cst, e_tup, e_lst, e_bin, e_cmp, e_neg, e_notF, e_notT, e_andT, e_orT, e_andF, e_orF, e_ite, e_chain, e_att, e_sub, e_slc, oi_n, oi_var, oi_bin, oi_sub, oi_blt, oi_neg, oi_call, oi_att, oi_cint, e_call, e_meth, e_blt, e_bm, e_nil, e_cons, e_lc, eT_var, eT_cst, eT_tup, eT_lst, eT_bin, eT_cmp, eT_chain, eT_att, eT_sub, eT_slc, eT_call, eT_meth, eT_blt, eT_bm, eT_lc, at0, at1, at2, at3, at4, isAbs, tr_b, br_t, br_f, br_d, o_add, o_addS, o_addT, o_sub, o_mul, o_div, o_mod, o_pow, c_lt, c_gt, c_le, c_ge, c_leS, c_ltS, c_eq, c_ne, c_in, c_nin, c_is, c_isn, s_set, ix0, ix1, ix2, ix3, Ob.lst.injEq, Vl.int.injEq, Vl.bl.injEq, Nat.reduceLT, Nat.zero_lt_succ, s_ref, s_tup, s_fl, s_str, f_fn, o_addL, start, List.map_cons, List.map_nil, List.length_cons, List.length_nil, List.replicate, List.cons_append, List.nil_append, List.set_cons_zero, List.set_cons_succ, List.getElem?_cons_zero, List.getElem?_cons_succ, Option.some.injEq, exists_eq_left', exists_eq_left, true_and, and_true, Nat.reduceAdd, Nat.reduceSub, if_true, if_false, reduceIte, Bool.false_eq_true, SR, srcs, srcV, b_len, b_abs, b_max, b_min, b_intI, b_intB, b_isi, b_rng, b_listS, b_listT, b_all, b_any, m_join, m_lower, sl_str, br_nd, Bool.not_true, Bool.not_false, ob_some, tr_i, tr_n, Vl.str.injEq, Vl.ref.injEq, Vl.tup.injEq, exists_eq_right, bmChk, bmTy, e, List.getElem?_set_self hp, List.length_set, List.set_set]
  split
  · exact ⟨hm, ⟨hm, by omega⟩, Int.emod_nonneg _ (by omega), Int.emod_lt_of_pos _ hm, ⟨_, rfl⟩, _, _, _, List.getElem?_set_self hp, Int.ediv_nonneg ha (by omega), hb, hb2, hc, by omega⟩
  · obtain ⟨bd1, bd2⟩ := take_bd (c := c + 1) hb hb2 (by omega) (by omega)
    refine ⟨by decide, mul_l (by omega) (by omega), mul_l (by omega) (by omega), mul_r (by omega) (by omega), mul_l (by omega) (by omega), mul_r (by omega) (by omega), ⟨by omega, by omega, small bd1 bd2⟩, by omega, ?_⟩
    refine pr7 _ _ fun q1 l1 u1 => ?_
    simp only [ok_cons, ok_nil, ok_ok, ok_bad, then_nx, then_rt, then_bk, then_ct, x_expr, x_asg, x_ret, x_ite, x_pass, x_for, t_name, t_att, t_sub, t_tup, t_nil, t_cons, e_var, e_cst, e_tup, e_lst, e_bin, e_cmp, e_neg, e_notF, e_notT, e_andT, e_orT, e_andF, e_orF, e_ite, e_chain, e_att, e_sub, e_slc, oi_n, oi_var, oi_bin, oi_sub, oi_blt, oi_neg, oi_call, oi_att, oi_cint, e_call, e_meth, e_blt, e_bm, e_nil, e_cons, e_lc, eT_var, eT_cst, eT_tup, eT_lst, eT_bin, eT_cmp, eT_chain, eT_att, eT_sub, eT_slc, eT_call, eT_meth, eT_blt, eT_bm, eT_lc, at0, at1, at2, at3, at4, isAbs, tr_b, br_t, br_f, br_d, o_add, o_addS, o_addT, o_sub, o_mul, o_div, o_mod, o_pow, c_lt, c_gt, c_le, c_ge, c_leS, c_ltS, c_eq, c_ne, c_in, c_nin, c_is, c_isn, s_set, ix0, ix1, ix2, ix3, Ob.lst.injEq, Vl.int.injEq, Vl.bl.injEq, Nat.reduceLT, Nat.zero_lt_succ, s_ref, s_tup, s_fl, s_str, f_fn, o_addL, start, List.map_cons, List.map_nil, List.length_cons, List.length_nil, List.replicate, List.cons_append, List.nil_append, List.set_cons_zero, List.set_cons_succ, List.getElem?_cons_zero, List.getElem?_cons_succ, Option.some.injEq, exists_eq_left', exists_eq_left, true_and, and_true, Nat.reduceAdd, Nat.reduceSub, if_true, if_false, reduceIte, Bool.false_eq_true, SR, srcs, srcV, b_len, b_abs, b_max, b_min, b_intI, b_intB, b_isi, b_rng, b_listS, b_listT, b_all, b_any, m_join, m_lower, sl_str, br_nd, Bool.not_true, Bool.not_false, ob_some, tr_i, tr_n, Vl.str.injEq, Vl.ref.injEq, Vl.tup.injEq, exists_eq_right, bmChk, bmTy]
    refine ⟨by omega, ⟨by omega, by omega⟩, mul_l (by omega) (by omega), mul_l (Int.emod_nonneg _ (by omega)) ?_, by omega, ?_⟩
    · have := Int.emod_lt_of_pos (((b + 104729 * (c + 1)) * (3 * (c + 1) + 4) + 7919 * (c + 1) * (c + 1)) ^ Int.toNat 3) (show 0 < q1 by omega)
      omega
    · refine pr7 _ _ fun q2 l2 u2 => ?_
      simp only [ok_cons, ok_nil, ok_ok, ok_bad, then_nx, then_rt, then_bk, then_ct, x_expr, x_asg, x_ret, x_ite, x_pass, x_for, t_name, t_att, t_sub, t_tup, t_nil, t_cons, e_var, e_cst, e_tup, e_lst, e_bin, e_cmp, e_neg, e_notF, e_notT, e_andT, e_orT, e_andF, e_orF, e_ite, e_chain, e_att, e_sub, e_slc, oi_n, oi_var, oi_bin, oi_sub, oi_blt, oi_neg, oi_call, oi_att, oi_cint, e_call, e_meth, e_blt, e_bm, e_nil, e_cons, e_lc, eT_var, eT_cst, eT_tup, eT_lst, eT_bin, eT_cmp, eT_chain, eT_att, eT_sub, eT_slc, eT_call, eT_meth, eT_blt, eT_bm, eT_lc, at0, at1, at2, at3, at4, isAbs, tr_b, br_t, br_f, br_d, o_add, o_addS, o_addT, o_sub, o_mul, o_div, o_mod, o_pow, c_lt, c_gt, c_le, c_ge, c_leS, c_ltS, c_eq, c_ne, c_in, c_nin, c_is, c_isn, s_set, ix0, ix1, ix2, ix3, Ob.lst.injEq, Vl.int.injEq, Vl.bl.injEq, Nat.reduceLT, Nat.zero_lt_succ, s_ref, s_tup, s_fl, s_str, f_fn, o_addL, start, List.map_cons, List.map_nil, List.length_cons, List.length_nil, List.replicate, List.cons_append, List.nil_append, List.set_cons_zero, List.set_cons_succ, List.getElem?_cons_zero, List.getElem?_cons_succ, Option.some.injEq, exists_eq_left', exists_eq_left, true_and, and_true, Nat.reduceAdd, Nat.reduceSub, if_true, if_false, reduceIte, Bool.false_eq_true, SR, srcs, srcV, b_len, b_abs, b_max, b_min, b_intI, b_intB, b_isi, b_rng, b_listS, b_listT, b_all, b_any, m_join, m_lower, sl_str, br_nd, Bool.not_true, Bool.not_false, ob_some, tr_i, tr_n, Vl.str.injEq, Vl.ref.injEq, Vl.tup.injEq, exists_eq_right, bmChk, bmTy]
      exact ⟨by omega, ⟨by omega, by omega⟩, hm, Int.emod_nonneg _ (by omega), Int.emod_lt_of_pos _ hm, ⟨_, rfl⟩, _, _, _, List.getElem?_set_self hp, ha, hb, hb2, by omega, by omega⟩
theorem purseA {P : Prg} (lk : P.lookup ("", "_law_purse") = some ⟨2, 4, bPurseA⟩) {d : Nat} {h : Hm} {ns : List Int} {k : Nat} (hk : k < 1000000) :
    Ok (callP P (d + 1) "" "_law_purse" [.fl (ns.map .int), .int k] h) fun v h' => ∃ o, v = .ref h.length ∧ h' = h ++ [o] ∧ Pu h' h.length 0 := by
  refine ok_call lk rfl ?_
  unfold bPurseA
  simp only [ok_cons, ok_nil, ok_ok, ok_bad, then_nx, then_rt, then_bk, then_ct, x_expr, x_asg, x_ret, x_ite, x_pass, x_for, t_name, t_att, t_sub, t_tup, t_nil, t_cons, e_var, e_cst, e_tup, e_lst, e_bin, e_cmp, e_neg, e_notF, e_notT, e_andT, e_orT, e_andF, e_orF, e_ite, e_chain, e_att, e_sub, e_slc, oi_n, oi_var, oi_bin, oi_sub, oi_blt, oi_neg, oi_call, oi_att, oi_cint, e_call, e_meth, e_blt, e_bm, e_nil, e_cons, e_lc, eT_var, eT_cst, eT_tup, eT_lst, eT_bin, eT_cmp, eT_chain, eT_att, eT_sub, eT_slc, eT_call, eT_meth, eT_blt, eT_bm, eT_lc, at0, at1, at2, at3, at4, isAbs, tr_b, br_t, br_f, br_d, o_add, o_addS, o_addT, o_sub, o_mul, o_div, o_mod, o_pow, c_lt, c_gt, c_le, c_ge, c_leS, c_ltS, c_eq, c_ne, c_in, c_nin, c_is, c_isn, s_set, ix0, ix1, ix2, ix3, Ob.lst.injEq, Vl.int.injEq, Vl.bl.injEq, Nat.reduceLT, Nat.zero_lt_succ, s_ref, s_tup, s_fl, s_str, f_fn, o_addL, start, List.map_cons, List.map_nil, List.length_cons, List.length_nil, List.replicate, List.cons_append, List.nil_append, List.set_cons_zero, List.set_cons_succ, List.getElem?_cons_zero, List.getElem?_cons_succ, Option.some.injEq, exists_eq_left', exists_eq_left, true_and, and_true, Nat.reduceAdd, Nat.reduceSub, if_true, if_false, reduceIte, Bool.false_eq_true, SR, srcs, srcV, b_len, b_abs, b_max, b_min, b_intI, b_intB, b_isi, b_rng, b_listS, b_listT, b_all, b_any, m_join, m_lower, sl_str, br_nd, Bool.not_true, Bool.not_false, ob_some, tr_i, tr_n, Vl.str.injEq, Vl.ref.injEq, Vl.tup.injEq, exists_eq_right, bmChk, bmTy, lenV, seqOf, List.length_map]
  have key : ∀ x : Int, ∃ a b, a = (if x < 0 then -x else x) * (if decide ((10 : Int) ^ (18 : Int).toNat ≤ if x < 0 then -x else x) = true then 1 else 0) ∧ b = x % 2305843009213693951 + 6607 * (k : Int) + 3 ∧ 0 ≤ a ∧ 0 ≤ b ∧ b < 9223372036854775808 := fun x => by
    refine ⟨_, _, rfl, rfl, ?_, ?_, ?_⟩
    · exact Int.mul_nonneg (by split <;> omega) (by split <;> omega)
    · have := Int.emod_nonneg x (show (2305843009213693951 : Int) ≠ 0 by omega)
      omega
    · have := Int.emod_lt_of_pos x (show (0 : Int) < 2305843009213693951 by omega)
      omega
  split
  · rename_i hlt
    have hlt : k < ns.length := by omega
    rw [at_nat, List.getElem?_map, List.getElem?_eq_getElem hlt]
    simp only [ok_cons, ok_nil, ok_ok, ok_bad, then_nx, then_rt, then_bk, then_ct, x_expr, x_asg, x_ret, x_ite, x_pass, x_for, t_name, t_att, t_sub, t_tup, t_nil, t_cons, e_var, e_cst, e_tup, e_lst, e_bin, e_cmp, e_neg, e_notF, e_notT, e_andT, e_orT, e_andF, e_orF, e_ite, e_chain, e_att, e_sub, e_slc, oi_n, oi_var, oi_bin, oi_sub, oi_blt, oi_neg, oi_call, oi_att, oi_cint, e_call, e_meth, e_blt, e_bm, e_nil, e_cons, e_lc, eT_var, eT_cst, eT_tup, eT_lst, eT_bin, eT_cmp, eT_chain, eT_att, eT_sub, eT_slc, eT_call, eT_meth, eT_blt, eT_bm, eT_lc, at0, at1, at2, at3, at4, isAbs, tr_b, br_t, br_f, br_d, o_add, o_addS, o_addT, o_sub, o_mul, o_div, o_mod, o_pow, c_lt, c_gt, c_le, c_ge, c_leS, c_ltS, c_eq, c_ne, c_in, c_nin, c_is, c_isn, s_set, ix0, ix1, ix2, ix3, Ob.lst.injEq, Vl.int.injEq, Vl.bl.injEq, Nat.reduceLT, Nat.zero_lt_succ, s_ref, s_tup, s_fl, s_str, f_fn, o_addL, start, List.map_cons, List.map_nil, List.length_cons, List.length_nil, List.replicate, List.cons_append, List.nil_append, List.set_cons_zero, List.set_cons_succ, List.getElem?_cons_zero, List.getElem?_cons_succ, Option.some.injEq, exists_eq_left', exists_eq_left, true_and, and_true, Nat.reduceAdd, Nat.reduceSub, if_true, if_false, reduceIte, Bool.false_eq_true, SR, srcs, srcV, b_len, b_abs, b_max, b_min, b_intI, b_intB, b_isi, b_rng, b_listS, b_listT, b_all, b_any, m_join, m_lower, sl_str, br_nd, Bool.not_true, Bool.not_false, ob_some, tr_i, tr_n, Vl.str.injEq, Vl.ref.injEq, Vl.tup.injEq, exists_eq_right, bmChk, bmTy, Option.map_some]
    obtain ⟨a, b, ea, eb, ha, hb, hb2⟩ := key ns[k]
    rw [← ea, ← eb]
    exact ⟨⟨by omega, by omega, small (x := 10) (by omega) (by omega)⟩, mul_r (by split <;> omega) (by split <;> omega), by omega, mul_l (by omega) (by omega), by decide, _, rfl, a, b, 0, get_last, ha, hb, hb2, by omega, by omega⟩
  · obtain ⟨a, b, ea, eb, ha, hb, hb2⟩ := key 0
    rw [← ea, ← eb]
    exact ⟨⟨by omega, by omega, small (x := 10) (by omega) (by omega)⟩, mul_r (by split <;> omega) (by split <;> omega), by omega, mul_l (by omega) (by omega), by decide, _, rfl, a, b, 0, get_last, ha, hb, hb2, by omega, by omega⟩
theorem Pu.mo {h : Hm} {p : Nat} {t : Int} (pu : Pu h p t) {D : Nat} {o : Ob} (hd : D ≠ p) : Pu (h.set D o) p t := by
  obtain ⟨a, b, c, e, r⟩ := pu
  exact ⟨a, b, c, by rw [List.getElem?_set_ne hd]; exact e, r⟩
theorem Pu.app {h : Hm} {p : Nat} {t : Int} (pu : Pu h p t) {g : Hm} : Pu (h ++ g) p t := by
  obtain ⟨a, b, c, e, r⟩ := pu
  exact ⟨a, b, c, by rw [List.getElem?_append_left (List.getElem?_eq_some_iff.mp e).1]; exact e, r⟩
theorem Pd.get {p D : Nat} {h h' : Hm} (pd : Pd p h h') (hd : p ≠ D) : h'[D]? = h[D]? := by
  obtain ⟨o, rfl⟩ := pd
  exact List.getElem?_set_ne hd
theorem Pd.len {p : Nat} {h h' : Hm} (pd : Pd p h h') : h'.length = h.length := by
  obtain ⟨o, rfl⟩ := pd
  exact List.length_set
theorem strs_ones (cs : List Nat) : strsOf (cs.map fun c => Vl.str [c]) = some (cs.map fun c => [c]) := by
  induction cs with
  | nil => rfl
  | cons c cs ih =>
    show (strsOf (cs.map fun c => Vl.str [c])).map ([c] :: ·) = _
    rw [ih]
    rfl
theorem join_ones (cs : List Nat) : joinT [] (cs.map fun c => [c]) = cs := by
  induction cs with
  | nil => rfl
  | cons c cs ih =>
    cases cs with
    | nil => rfl
    | cons c2 cs =>
      show [c] ++ [] ++ joinT [] ((c2 :: cs).map fun c => [c]) = _
      rw [ih]
      rfl
theorem sum_ones (cs : List Nat) : ((cs.map fun c => [c]).map fun x => x.length).sum = cs.length := by
  induction cs with
  | nil => rfl
  | cons c cs ih =>
    rw [List.map_cons, List.map_cons, List.sum_cons, ih]
    simp only [List.length_cons, List.length_nil]
    omega
theorem cut_le {α : Type} (xs : List α) (lo hi : Option Int) : (cut xs lo hi).length ≤ xs.length := by
  unfold cut
  rw [List.length_take, List.length_drop]
  omega
end Mi
/-! the law's defs, its tables -/
namespace Lw
open PySem PySem.Spec PyProof.Rows Mi
def prog : Program := PySem.Challenge.pw_unwritparts_k07_part_names
def top (i : Nat) : Stmt := prog.main.body.getD i (.Pass ⟨0, 0, 0, 0⟩)
def mth (i j : Nat) : Stmt := match top i with
  | .ClassDef _ _ _ b _ _ _ _ _ _ _ => b.getD j (.Pass ⟨0, 0, 0, 0⟩)
  | s => s
def cd (c f : String) (s : Stmt) (N : List Str) (dfl : List Vl) (kwd : List (Str × Vl)) : Cd := ⟨c, f, L2.defArgs s, L2.defBody s, L2.defScope s, N, dfl, kwd⟩
def cds : List Cd := [
  cd "" "is_part_name" (top 3) ["thing", "sign"] [] [],
  cd "" "_law_purse" (top 5) ["_law_script", "_law_at", "_law_cell", "_law_far"] [] [],
  cd "" "_law_take" (top 6) ["_law_purse_here", "_law_many", "_law_digit", "_law_primes", "_law_step", "_law_base", "_law_mixed"] [] [],
  cd "" "_law_due" (top 7) ["_law_one", "_law_sign"] [] [],
  cd "" "_law_right" (top 8) ["_law_one", "_law_turn", "_law_found"] [] [],
  cd "" "law" (top 9) ["_law_script", "_law_letters", "_law_k", "_law_purse_here", "_law_name", "_law_at", "_law_sign", "_law_things", "_law_j", "_law_one"] [] []]
def T : Tb where
  gv := [("GREAT", .str (S "ABCDEFGHIJKLMNOPQRSTUVWXYZ")), ("MOST_GREAT", .int 6)]
  gf := [("is_part_name", "is_part_name"), ("_law_purse", "_law_purse"), ("_law_take", "_law_take"), ("_law_due", "_law_due"), ("_law_right", "_law_right"), ("law", "law")]
  gc := []
  fl := []
  ms := []
  nb := [("abs", "abs"), ("all", "all"), ("bool", "bool"), ("int", "int"), ("isinstance", "isinstance"), ("len", "len"), ("list", "list"), ("max", "max"), ("min", "min"), ("range", "range"), ("str", "str")]
  fi := tbFi cds
  fz := []
abbrev PP : Prg := prgOf T cds
def b_is_part_name : List Sm := [Sm.ret (Ex.and (Ex.blt "isinstance" [Ex.var 0, Ex.cst (Vl.ty "str")]) (Ex.and (Ex.chain Cop.lt Cop.le (Ex.cst (Vl.int 0)) (Ex.blt "len" [Ex.var 0]) (Ex.cst (Vl.int 6))) (Ex.blt "all" [Ex.lc (Ex.cmp Cop.isin (Ex.var 1) (Ex.cst (Vl.str (S "ABCDEFGHIJKLMNOPQRSTUVWXYZ")))) (Pt.name 1) (Ex.var 0) (Ex.cst (Vl.bl true)) [1]])))]
theorem lk_is_part_name : PP.lookup ("", "is_part_name") = some ⟨1, 2, b_is_part_name⟩ := by kernel_rfl
def b__law_purse : List Sm := [Sm.asg (Tg.name 2) (Ex.cst (Vl.int 0)), Sm.ite (Ex.cmp Cop.lt (Ex.var 1) (Ex.blt "len" [Ex.var 0])) [Sm.asg (Tg.name 2) (Ex.sub (Ex.var 0) (Ex.var 1))] [], Sm.asg (Tg.name 3) (Ex.blt "abs" [Ex.var 2]), Sm.ret (Ex.lstE [Ex.bin Bop.mul (Ex.var 3) (Ex.blt "int" [Ex.cmp Cop.ge (Ex.var 3) (Ex.bin Bop.pow (Ex.cst (Vl.int 10)) (Ex.cst (Vl.int 18)))]), Ex.bin Bop.add (Ex.bin Bop.add (Ex.bin Bop.mod (Ex.var 2) (Ex.cst (Vl.int 2305843009213693951))) (Ex.bin Bop.mul (Ex.cst (Vl.int 6607)) (Ex.var 1))) (Ex.cst (Vl.int 3)), Ex.cst (Vl.int 0)])]
theorem lk__law_purse : PP.lookup ("", "_law_purse") = some ⟨2, 4, b__law_purse⟩ := by kernel_rfl
def b__law_take : List Sm := [Sm.ite (Ex.cmp Cop.gt (Ex.sub (Ex.var 0) (Ex.cst (Vl.int 0))) (Ex.cst (Vl.int 0))) [Sm.asg (Tg.name 2) (Ex.bin Bop.mod (Ex.sub (Ex.var 0) (Ex.cst (Vl.int 0))) (Ex.var 1)), Sm.asg (Tg.sub (Ex.var 0) (Ex.cst (Vl.int 0))) (Ex.bin Bop.fdiv (Ex.sub (Ex.var 0) (Ex.cst (Vl.int 0))) (Ex.var 1)), Sm.ret (Ex.var 2)] [], Sm.asg (Tg.name 3) (Ex.tupE [Ex.cst (Vl.int 2147483647), Ex.cst (Vl.int 2147483629), Ex.cst (Vl.int 2147483587), Ex.cst (Vl.int 2147483579), Ex.cst (Vl.int 2147483563), Ex.cst (Vl.int 2147483549), Ex.cst (Vl.int 2147483543)]), Sm.asg (Tg.sub (Ex.var 0) (Ex.cst (Vl.int 2))) (Ex.bin Bop.add (Ex.sub (Ex.var 0) (Ex.cst (Vl.int 2))) (Ex.cst (Vl.int 1))), Sm.asg (Tg.name 4) (Ex.sub (Ex.var 0) (Ex.cst (Vl.int 2))), Sm.asg (Tg.name 5) (Ex.bin Bop.add (Ex.bin Bop.mul (Ex.bin Bop.add (Ex.sub (Ex.var 0) (Ex.cst (Vl.int 1))) (Ex.bin Bop.mul (Ex.cst (Vl.int 104729)) (Ex.var 4))) (Ex.bin Bop.add (Ex.bin Bop.mul (Ex.cst (Vl.int 3)) (Ex.var 4)) (Ex.cst (Vl.int 4)))) (Ex.bin Bop.mul (Ex.bin Bop.mul (Ex.cst (Vl.int 7919)) (Ex.var 4)) (Ex.var 4))), Sm.asg (Tg.name 6) (Ex.bin Bop.mod (Ex.bin Bop.pow (Ex.var 5) (Ex.cst (Vl.int 3))) (Ex.sub (Ex.var 3) (Ex.bin Bop.mod (Ex.var 4) (Ex.cst (Vl.int 7))))), Sm.ret (Ex.bin Bop.mod (Ex.bin Bop.fdiv (Ex.bin Bop.mod (Ex.bin Bop.mul (Ex.var 6) (Ex.bin Bop.add (Ex.bin Bop.add (Ex.bin Bop.fdiv (Ex.var 6) (Ex.cst (Vl.int 4099))) (Ex.bin Bop.mul (Ex.cst (Vl.int 2)) (Ex.var 4))) (Ex.cst (Vl.int 3)))) (Ex.sub (Ex.var 3) (Ex.bin Bop.mod (Ex.bin Bop.add (Ex.var 4) (Ex.cst (Vl.int 3))) (Ex.cst (Vl.int 7))))) (Ex.cst (Vl.int 16))) (Ex.var 1))]
theorem lk__law_take : PP.lookup ("", "_law_take") = some ⟨2, 7, b__law_take⟩ := by kernel_rfl
def b__law_due : List Sm := [Sm.ite (Ex.or (Ex.not (Ex.blt "isinstance" [Ex.var 0, Ex.cst (Vl.ty "str")])) (Ex.not (Ex.chain Cop.le Cop.le (Ex.cst (Vl.int 1)) (Ex.blt "len" [Ex.var 0]) (Ex.cst (Vl.int 6))))) [Sm.ret (Ex.cst (Vl.bl false))] [], Sm.ret (Ex.blt "all" [Ex.lc (Ex.chain Cop.le Cop.le (Ex.cst (Vl.str (S "A"))) (Ex.var 1) (Ex.cst (Vl.str (S "Z")))) (Pt.name 1) (Ex.var 0) (Ex.cst (Vl.bl true)) [1]])]
theorem lk__law_due : PP.lookup ("", "_law_due") = some ⟨1, 2, b__law_due⟩ := by kernel_rfl
def b__law_right : List Sm := [Sm.for_ (Pt.name 1) (Ex.blt "range" [Ex.cst (Vl.int 2)]) [Sm.asg (Tg.name 2) (Ex.call "is_part_name" [Ex.var 0] [Src.at 0]), Sm.ite (Ex.or (Ex.not (Ex.blt "isinstance" [Ex.var 2, Ex.cst (Vl.ty "bool")])) (Ex.cmp Cop.ne (Ex.var 2) (Ex.call "_law_due" [Ex.var 0] [Src.at 0]))) [Sm.ret (Ex.cst (Vl.bl false))] []], Sm.ret (Ex.cmp Cop.eq (Ex.call "is_part_name" [Ex.var 0] [Src.at 0]) (Ex.call "_law_due" [Ex.var 0] [Src.at 0]))]
theorem lk__law_right : PP.lookup ("", "_law_right") = some ⟨1, 3, b__law_right⟩ := by kernel_rfl
def b_law : List Sm := [Sm.asg (Tg.name 1) (Ex.cst (Vl.str (S "ABCDEFGHIJKLMNOPQRSTUVWXYZ"))), Sm.for_ (Pt.name 2) (Ex.blt "range" [Ex.blt "max" [Ex.cst (Vl.int 1), Ex.blt "min" [Ex.cst (Vl.int 4), Ex.blt "len" [Ex.var 0]]]]) [Sm.asg (Tg.name 3) (Ex.call "_law_purse" [Ex.var 0, Ex.var 2] [Src.at 0, Src.at 1]), Sm.asg (Tg.name 4) (Ex.bm (Ex.cst (Vl.str (S ""))) "join" [Ex.lc (Ex.sub (Ex.var 1) (Ex.call "_law_take" [Ex.var 3, Ex.cst (Vl.int 26)] [Src.at 0, Src.at 1])) (Pt.name 8) (Ex.blt "range" [Ex.bin Bop.add (Ex.cst (Vl.int 1)) (Ex.call "_law_take" [Ex.var 3, Ex.cst (Vl.int 7)] [Src.at 0, Src.at 1])]) (Ex.cst (Vl.bl true)) [8]]), Sm.asg (Tg.tup [Tg.name 5, Tg.name 6]) (Ex.tupE [Ex.call "_law_take" [Ex.var 3, Ex.blt "len" [Ex.var 4]] [Src.at 0, Src.at 1], Ex.sub (Ex.cst (Vl.str [32, 95, 46, 45, 48, 49, 51, 57, 64, 91, 96, 97, 122, 123, 63, 33])) (Ex.call "_law_take" [Ex.var 3, Ex.cst (Vl.int 16)] [Src.at 0, Src.at 1])]), Sm.asg (Tg.name 7) (Ex.lstE [Ex.var 4, Ex.bin Bop.add (Ex.bin Bop.add (Ex.slc (Ex.var 4) (Ex.cst Vl.non) (Ex.var 5)) (Ex.var 6)) (Ex.slc (Ex.var 4) (Ex.bin Bop.add (Ex.var 5) (Ex.cst (Vl.int 1))) (Ex.cst Vl.non)), Ex.bin Bop.add (Ex.bin Bop.add (Ex.slc (Ex.var 4) (Ex.cst Vl.non) (Ex.var 5)) (Ex.var 6)) (Ex.slc (Ex.var 4) (Ex.var 5) (Ex.cst Vl.non)), Ex.bin Bop.add (Ex.slc (Ex.var 4) (Ex.cst Vl.non) (Ex.var 5)) (Ex.slc (Ex.var 4) (Ex.bin Bop.add (Ex.var 5) (Ex.cst (Vl.int 1))) (Ex.cst Vl.non))]), Sm.asg (Tg.name 7) (Ex.bin Bop.add (Ex.var 7) (Ex.lstE [Ex.bm (Ex.var 4) "lower" [], Ex.lstE [Ex.var 4], Ex.tupE [Ex.var 4], Ex.blt "list" [Ex.var 4], Ex.cst Vl.non, Ex.cst (Vl.bl true), Ex.cst (Vl.int 0), Ex.blt "len" [Ex.var 4], Ex.cst (Vl.str (S "")), Ex.cst (Vl.str (S " "))])), Sm.ite (Ex.not (Ex.blt "all" [Ex.lc (Ex.call "_law_right" [Ex.var 9] [Src.at 0]) (Pt.name 9) (Ex.var 7) (Ex.cst (Vl.bl true)) [9]])) [Sm.ret (Ex.cst (Vl.bl false))] []], Sm.ret (Ex.cst (Vl.bl true))]
theorem lk_law : PP.lookup ("", "law") = some ⟨1, 10, b_law⟩ := by kernel_rfl
end Lw
namespace Lw
open Mi
def part : Vl → Bool
  | .str s => decide (0 < s.length) && (decide (s.length ≤ 6) && s.all fun c => decide (65 ≤ c ∧ c ≤ 90))
  | _ => false
def nos : Vl → Bool
  | .non => true
  | .bl _ => true
  | .int _ => true
  | .tup _ => true
  | _ => false
/-- what is asked of a thing -/
def Th (h : Hm) (v : Vl) : Prop := (∃ s, v = .str s ∧ s.length ≤ 100) ∨ (nos v = true ∨ ∃ b xs, v = .ref b ∧ h[b]? = some (.lst xs))
theorem Th.no {h : Hm} {v : Vl} (th : nos v = true ∨ ∃ b xs, v = .ref b ∧ h[b]? = some (.lst xs)) : isi h v "str" = some false ∧ part v = false := by
  rcases th with th | ⟨b, xs, rfl, e⟩
  · cases v <;> first | cases th | skip
    all_goals exact ⟨by unfold isi tyNm; dsimp only; decide, rfl⟩
  · refine ⟨?_, rfl⟩
    unfold isi tyNm
    dsimp only
    rw [e]
    show subT "list" "str" = some false
    decide
def Mo (h h' : Hm) : Prop := ∃ g, h' = h ++ g
theorem isi_str {h : Hm} {s : Tx} : isi h (.str s) "str" = some true := by
  show subT "str" "str" = some true
  decide
theorem isi_bool {h : Hm} {b : Bool} : isi h (.bl b) "bool" = some true := by
  show subT "bool" "bool" = some true
  decide
theorem in_one {h : Hm} {c : Nat} {t : Tx} : inV h (.str [c]) (.str t) = some (decide (c ∈ t)) := rfl
theorem bols_map {α : Type} (xs : List α) (g : α → Bool) : bolsOf (xs.map fun x => .bl (g x)) = some (xs.map g) := by
  induction xs with
  | nil => rfl
  | cons x xs ih =>
    show (bolsOf (xs.map fun x => .bl (g x))).map (g x :: ·) = _
    rw [ih]
    rfl
theorem gr (c : Nat) : decide (c ∈ S "ABCDEFGHIJKLMNOPQRSTUVWXYZ") = decide (65 ≤ c ∧ c ≤ 90) := by
  have e : S "ABCDEFGHIJKLMNOPQRSTUVWXYZ" = List.range' 65 26 := by decide
  rw [e]
  apply decide_eq_decide.mpr
  rw [List.mem_range'_1]
  omega
theorem part_ok {d : Nat} {h : Hm} {v : Vl} (th : Th h v) : Ok (callP PP (d + 1) "" "is_part_name" [v] h) fun u h' => u = .bl (part v) ∧ Mo h h' := by
  refine ok_call lk_is_part_name rfl ?_
  unfold b_is_part_name
  simp only [ok_cons, ok_nil, ok_ok, ok_bad, then_nx, then_rt, then_bk, then_ct, x_expr, x_asg, x_ret, x_ite, x_pass, x_for, t_name, t_att, t_sub, t_tup, t_nil, t_cons, e_var, e_cst, e_tup, e_lst, e_bin, e_cmp, e_neg, e_notF, e_notT, e_andT, e_orT, e_andF, e_orF, e_ite, e_chain, e_att, e_sub, e_slc, oi_n, oi_var, oi_bin, oi_sub, oi_blt, oi_neg, oi_call, oi_att, oi_cint, e_call, e_meth, e_blt, e_bm, e_nil, e_cons, e_lc, eT_var, eT_cst, eT_tup, eT_lst, eT_bin, eT_cmp, eT_chain, eT_att, eT_sub, eT_slc, eT_call, eT_meth, eT_blt, eT_bm, eT_lc, at0, at1, at2, at3, at4, isAbs, tr_b, br_t, br_f, br_d, o_add, o_addS, o_addT, o_sub, o_mul, o_div, o_mod, o_pow, c_lt, c_gt, c_le, c_ge, c_leS, c_ltS, c_eq, c_ne, c_in, c_nin, c_is, c_isn, s_set, ix0, ix1, ix2, ix3, Ob.lst.injEq, Vl.int.injEq, Vl.bl.injEq, Nat.reduceLT, Nat.zero_lt_succ, s_ref, s_tup, s_fl, s_str, f_fn, o_addL, start, List.map_cons, List.map_nil, List.length_cons, List.length_nil, List.replicate, List.cons_append, List.nil_append, List.set_cons_zero, List.set_cons_succ, List.getElem?_cons_zero, List.getElem?_cons_succ, Option.some.injEq, exists_eq_left', exists_eq_left, true_and, and_true, Nat.reduceAdd, Nat.reduceSub, if_true, if_false, reduceIte, Bool.false_eq_true, SR, srcs, srcV, b_len, b_abs, b_max, b_min, b_intI, b_intB, b_isi, b_rng, b_listS, b_listT, b_all, b_any, m_join, m_lower, sl_str, br_nd, Bool.not_true, Bool.not_false, ob_some, tr_i, tr_n, Vl.str.injEq, Vl.ref.injEq, Vl.tup.injEq, exists_eq_right, bmChk, bmTy]
  rcases th with ⟨s, rfl, hs⟩ | th
  · have hL : LIM = 16777216 := rfl
    rw [isi_str]
    simp only [ok_cons, ok_nil, ok_ok, ok_bad, then_nx, then_rt, then_bk, then_ct, x_expr, x_asg, x_ret, x_ite, x_pass, x_for, t_name, t_att, t_sub, t_tup, t_nil, t_cons, e_var, e_cst, e_tup, e_lst, e_bin, e_cmp, e_neg, e_notF, e_notT, e_andT, e_orT, e_andF, e_orF, e_ite, e_chain, e_att, e_sub, e_slc, oi_n, oi_var, oi_bin, oi_sub, oi_blt, oi_neg, oi_call, oi_att, oi_cint, e_call, e_meth, e_blt, e_bm, e_nil, e_cons, e_lc, eT_var, eT_cst, eT_tup, eT_lst, eT_bin, eT_cmp, eT_chain, eT_att, eT_sub, eT_slc, eT_call, eT_meth, eT_blt, eT_bm, eT_lc, at0, at1, at2, at3, at4, isAbs, tr_b, br_t, br_f, br_d, o_add, o_addS, o_addT, o_sub, o_mul, o_div, o_mod, o_pow, c_lt, c_gt, c_le, c_ge, c_leS, c_ltS, c_eq, c_ne, c_in, c_nin, c_is, c_isn, s_set, ix0, ix1, ix2, ix3, Ob.lst.injEq, Vl.int.injEq, Vl.bl.injEq, Nat.reduceLT, Nat.zero_lt_succ, s_ref, s_tup, s_fl, s_str, f_fn, o_addL, start, List.map_cons, List.map_nil, List.length_cons, List.length_nil, List.replicate, List.cons_append, List.nil_append, List.set_cons_zero, List.set_cons_succ, List.getElem?_cons_zero, List.getElem?_cons_succ, Option.some.injEq, exists_eq_left', exists_eq_left, true_and, and_true, Nat.reduceAdd, Nat.reduceSub, if_true, if_false, reduceIte, Bool.false_eq_true, SR, srcs, srcV, b_len, b_abs, b_max, b_min, b_intI, b_intB, b_isi, b_rng, b_listS, b_listT, b_all, b_any, m_join, m_lower, sl_str, br_nd, Bool.not_true, Bool.not_false, ob_some, tr_i, tr_n, Vl.str.injEq, Vl.ref.injEq, Vl.tup.injEq, exists_eq_right, bmChk, bmTy, lenV, if_pos (show s.length ≤ LIM by omega), itOf]
    split
    · split
      · refine Ok.imp (loopC_map (s.map fun c => .str [c]) (fun x => match x with
          | .str [c] => .bl (decide (65 ≤ c ∧ c ≤ 90))
          | _ => .non) (by rw [List.length_map]; omega) (fun i h' => rfl) (fun x hx o => ?_)) fun _ h' e => ?_
        · obtain ⟨c, hc, rfl⟩ := List.mem_map.mp hx
          simp only [ok_cons, ok_nil, ok_ok, ok_bad, then_nx, then_rt, then_bk, then_ct, x_expr, x_asg, x_ret, x_ite, x_pass, x_for, t_name, t_att, t_sub, t_tup, t_nil, t_cons, e_var, e_cst, e_tup, e_lst, e_bin, e_cmp, e_neg, e_notF, e_notT, e_andT, e_orT, e_andF, e_orF, e_ite, e_chain, e_att, e_sub, e_slc, oi_n, oi_var, oi_bin, oi_sub, oi_blt, oi_neg, oi_call, oi_att, oi_cint, e_call, e_meth, e_blt, e_bm, e_nil, e_cons, e_lc, eT_var, eT_cst, eT_tup, eT_lst, eT_bin, eT_cmp, eT_chain, eT_att, eT_sub, eT_slc, eT_call, eT_meth, eT_blt, eT_bm, eT_lc, at0, at1, at2, at3, at4, isAbs, tr_b, br_t, br_f, br_d, o_add, o_addS, o_addT, o_sub, o_mul, o_div, o_mod, o_pow, c_lt, c_gt, c_le, c_ge, c_leS, c_ltS, c_eq, c_ne, c_in, c_nin, c_is, c_isn, s_set, ix0, ix1, ix2, ix3, Ob.lst.injEq, Vl.int.injEq, Vl.bl.injEq, Nat.reduceLT, Nat.zero_lt_succ, s_ref, s_tup, s_fl, s_str, f_fn, o_addL, start, List.map_cons, List.map_nil, List.length_cons, List.length_nil, List.replicate, List.cons_append, List.nil_append, List.set_cons_zero, List.set_cons_succ, List.getElem?_cons_zero, List.getElem?_cons_succ, Option.some.injEq, exists_eq_left', exists_eq_left, true_and, and_true, Nat.reduceAdd, Nat.reduceSub, if_true, if_false, reduceIte, Bool.false_eq_true, SR, srcs, srcV, b_len, b_abs, b_max, b_min, b_intI, b_intB, b_isi, b_rng, b_listS, b_listT, b_all, b_any, m_join, m_lower, sl_str, br_nd, Bool.not_true, Bool.not_false, ob_some, tr_i, tr_n, Vl.str.injEq, Vl.ref.injEq, Vl.tup.injEq, exists_eq_right, bmChk, bmTy, lcb, bindP, wipe, in_one, gr]
        · subst e
          simp only [ok_cons, ok_nil, ok_ok, ok_bad, then_nx, then_rt, then_bk, then_ct, x_expr, x_asg, x_ret, x_ite, x_pass, x_for, t_name, t_att, t_sub, t_tup, t_nil, t_cons, e_var, e_cst, e_tup, e_lst, e_bin, e_cmp, e_neg, e_notF, e_notT, e_andT, e_orT, e_andF, e_orF, e_ite, e_chain, e_att, e_sub, e_slc, oi_n, oi_var, oi_bin, oi_sub, oi_blt, oi_neg, oi_call, oi_att, oi_cint, e_call, e_meth, e_blt, e_bm, e_nil, e_cons, e_lc, eT_var, eT_cst, eT_tup, eT_lst, eT_bin, eT_cmp, eT_chain, eT_att, eT_sub, eT_slc, eT_call, eT_meth, eT_blt, eT_bm, eT_lc, at0, at1, at2, at3, at4, isAbs, tr_b, br_t, br_f, br_d, o_add, o_addS, o_addT, o_sub, o_mul, o_div, o_mod, o_pow, c_lt, c_gt, c_le, c_ge, c_leS, c_ltS, c_eq, c_ne, c_in, c_nin, c_is, c_isn, s_set, ix0, ix1, ix2, ix3, Ob.lst.injEq, Vl.int.injEq, Vl.bl.injEq, Nat.reduceLT, Nat.zero_lt_succ, s_ref, s_tup, s_fl, s_str, f_fn, o_addL, start, List.map_cons, List.map_nil, List.length_cons, List.length_nil, List.replicate, List.cons_append, List.nil_append, List.set_cons_zero, List.set_cons_succ, List.getElem?_cons_zero, List.getElem?_cons_succ, Option.some.injEq, exists_eq_left', exists_eq_left, true_and, and_true, Nat.reduceAdd, Nat.reduceSub, if_true, if_false, reduceIte, Bool.false_eq_true, SR, srcs, srcV, b_len, b_abs, b_max, b_min, b_intI, b_intB, b_isi, b_rng, b_listS, b_listT, b_all, b_any, m_join, m_lower, sl_str, br_nd, Bool.not_true, Bool.not_false, ob_some, tr_i, tr_n, Vl.str.injEq, Vl.ref.injEq, Vl.tup.injEq, exists_eq_right, bmChk, bmTy, get_last, List.map_map, Function.comp_def, bols_map]
          refine ⟨?_, _, rfl⟩
          simp only [part]
          have e1 : (s.map fun c => decide (65 ≤ c ∧ c ≤ 90)).all id = s.all fun c => decide (65 ≤ c ∧ c ≤ 90) := by
            rw [List.all_map]
            rfl
          rw [e1, decide_eq_true (by omega), decide_eq_true (by omega)]
          simp
      · refine ⟨?_, [], by simp⟩
        simp only [part]
        rw [decide_eq_false (p := s.length ≤ 6) (by omega)]
        simp
        omega
    · refine ⟨?_, [], by simp⟩
      simp only [part]
      rw [decide_eq_false (p := 0 < s.length) (by omega)]
      simp
  · have := Th.no th
    rw [this.1, this.2]
    simp only [ok_cons, ok_nil, ok_ok, ok_bad, then_nx, then_rt, then_bk, then_ct, x_expr, x_asg, x_ret, x_ite, x_pass, x_for, t_name, t_att, t_sub, t_tup, t_nil, t_cons, e_var, e_cst, e_tup, e_lst, e_bin, e_cmp, e_neg, e_notF, e_notT, e_andT, e_orT, e_andF, e_orF, e_ite, e_chain, e_att, e_sub, e_slc, oi_n, oi_var, oi_bin, oi_sub, oi_blt, oi_neg, oi_call, oi_att, oi_cint, e_call, e_meth, e_blt, e_bm, e_nil, e_cons, e_lc, eT_var, eT_cst, eT_tup, eT_lst, eT_bin, eT_cmp, eT_chain, eT_att, eT_sub, eT_slc, eT_call, eT_meth, eT_blt, eT_bm, eT_lc, at0, at1, at2, at3, at4, isAbs, tr_b, br_t, br_f, br_d, o_add, o_addS, o_addT, o_sub, o_mul, o_div, o_mod, o_pow, c_lt, c_gt, c_le, c_ge, c_leS, c_ltS, c_eq, c_ne, c_in, c_nin, c_is, c_isn, s_set, ix0, ix1, ix2, ix3, Ob.lst.injEq, Vl.int.injEq, Vl.bl.injEq, Nat.reduceLT, Nat.zero_lt_succ, s_ref, s_tup, s_fl, s_str, f_fn, o_addL, start, List.map_cons, List.map_nil, List.length_cons, List.length_nil, List.replicate, List.cons_append, List.nil_append, List.set_cons_zero, List.set_cons_succ, List.getElem?_cons_zero, List.getElem?_cons_succ, Option.some.injEq, exists_eq_left', exists_eq_left, true_and, and_true, Nat.reduceAdd, Nat.reduceSub, if_true, if_false, reduceIte, Bool.false_eq_true, SR, srcs, srcV, b_len, b_abs, b_max, b_min, b_intI, b_intB, b_isi, b_rng, b_listS, b_listT, b_all, b_any, m_join, m_lower, sl_str, br_nd, Bool.not_true, Bool.not_false, ob_some, tr_i, tr_n, Vl.str.injEq, Vl.ref.injEq, Vl.tup.injEq, exists_eq_right, bmChk, bmTy]
    exact ⟨[], by simp⟩
theorem lt_one (a b : Nat) : ([a] < [b]) ↔ (a < b) := by
  rw [List.cons_lt_cons_iff]
  constructor
  · rintro (h | ⟨_, h⟩)
    · exact h
    · exact absurd h (List.not_lt_nil _)
  · exact .inl
theorem due_ok {d : Nat} {h : Hm} {v : Vl} (th : Th h v) : Ok (callP PP (d + 1) "" "_law_due" [v] h) fun u h' => u = .bl (part v) ∧ Mo h h' := by
  refine ok_call lk__law_due rfl ?_
  unfold b__law_due
  simp only [ok_cons, ok_nil, ok_ok, ok_bad, then_nx, then_rt, then_bk, then_ct, x_expr, x_asg, x_ret, x_ite, x_pass, x_for, t_name, t_att, t_sub, t_tup, t_nil, t_cons, e_var, e_cst, e_tup, e_lst, e_bin, e_cmp, e_neg, e_notF, e_notT, e_andT, e_orT, e_andF, e_orF, e_ite, e_chain, e_att, e_sub, e_slc, oi_n, oi_var, oi_bin, oi_sub, oi_blt, oi_neg, oi_call, oi_att, oi_cint, e_call, e_meth, e_blt, e_bm, e_nil, e_cons, e_lc, eT_var, eT_cst, eT_tup, eT_lst, eT_bin, eT_cmp, eT_chain, eT_att, eT_sub, eT_slc, eT_call, eT_meth, eT_blt, eT_bm, eT_lc, at0, at1, at2, at3, at4, isAbs, tr_b, br_t, br_f, br_d, o_add, o_addS, o_addT, o_sub, o_mul, o_div, o_mod, o_pow, c_lt, c_gt, c_le, c_ge, c_leS, c_ltS, c_eq, c_ne, c_in, c_nin, c_is, c_isn, s_set, ix0, ix1, ix2, ix3, Ob.lst.injEq, Vl.int.injEq, Vl.bl.injEq, Nat.reduceLT, Nat.zero_lt_succ, s_ref, s_tup, s_fl, s_str, f_fn, o_addL, start, List.map_cons, List.map_nil, List.length_cons, List.length_nil, List.replicate, List.cons_append, List.nil_append, List.set_cons_zero, List.set_cons_succ, List.getElem?_cons_zero, List.getElem?_cons_succ, Option.some.injEq, exists_eq_left', exists_eq_left, true_and, and_true, Nat.reduceAdd, Nat.reduceSub, if_true, if_false, reduceIte, Bool.false_eq_true, SR, srcs, srcV, b_len, b_abs, b_max, b_min, b_intI, b_intB, b_isi, b_rng, b_listS, b_listT, b_all, b_any, m_join, m_lower, sl_str, br_nd, Bool.not_true, Bool.not_false, ob_some, tr_i, tr_n, Vl.str.injEq, Vl.ref.injEq, Vl.tup.injEq, exists_eq_right, bmChk, bmTy]
  rcases th with ⟨s, rfl, hs⟩ | th
  · have hL : LIM = 16777216 := rfl
    rw [isi_str]
    simp only [ok_cons, ok_nil, ok_ok, ok_bad, then_nx, then_rt, then_bk, then_ct, x_expr, x_asg, x_ret, x_ite, x_pass, x_for, t_name, t_att, t_sub, t_tup, t_nil, t_cons, e_var, e_cst, e_tup, e_lst, e_bin, e_cmp, e_neg, e_notF, e_notT, e_andT, e_orT, e_andF, e_orF, e_ite, e_chain, e_att, e_sub, e_slc, oi_n, oi_var, oi_bin, oi_sub, oi_blt, oi_neg, oi_call, oi_att, oi_cint, e_call, e_meth, e_blt, e_bm, e_nil, e_cons, e_lc, eT_var, eT_cst, eT_tup, eT_lst, eT_bin, eT_cmp, eT_chain, eT_att, eT_sub, eT_slc, eT_call, eT_meth, eT_blt, eT_bm, eT_lc, at0, at1, at2, at3, at4, isAbs, tr_b, br_t, br_f, br_d, o_add, o_addS, o_addT, o_sub, o_mul, o_div, o_mod, o_pow, c_lt, c_gt, c_le, c_ge, c_leS, c_ltS, c_eq, c_ne, c_in, c_nin, c_is, c_isn, s_set, ix0, ix1, ix2, ix3, Ob.lst.injEq, Vl.int.injEq, Vl.bl.injEq, Nat.reduceLT, Nat.zero_lt_succ, s_ref, s_tup, s_fl, s_str, f_fn, o_addL, start, List.map_cons, List.map_nil, List.length_cons, List.length_nil, List.replicate, List.cons_append, List.nil_append, List.set_cons_zero, List.set_cons_succ, List.getElem?_cons_zero, List.getElem?_cons_succ, Option.some.injEq, exists_eq_left', exists_eq_left, true_and, and_true, Nat.reduceAdd, Nat.reduceSub, if_true, if_false, reduceIte, Bool.false_eq_true, SR, srcs, srcV, b_len, b_abs, b_max, b_min, b_intI, b_intB, b_isi, b_rng, b_listS, b_listT, b_all, b_any, m_join, m_lower, sl_str, br_nd, Bool.not_true, Bool.not_false, ob_some, tr_i, tr_n, Vl.str.injEq, Vl.ref.injEq, Vl.tup.injEq, exists_eq_right, bmChk, bmTy, lenV, if_pos (show s.length ≤ LIM by omega), itOf, Bool.not_true]
    split
    · split
      · refine Ok.imp (loopC_map (s.map fun c => .str [c]) (fun x => match x with
          | .str [c] => .bl (decide (65 ≤ c ∧ c ≤ 90))
          | _ => .non) (by rw [List.length_map]; omega) (fun i h' => rfl) (fun x hx o => ?_)) fun _ h' e => ?_
        · obtain ⟨c, hc, rfl⟩ := List.mem_map.mp hx
          simp only [ok_cons, ok_nil, ok_ok, ok_bad, then_nx, then_rt, then_bk, then_ct, x_expr, x_asg, x_ret, x_ite, x_pass, x_for, t_name, t_att, t_sub, t_tup, t_nil, t_cons, e_var, e_cst, e_tup, e_lst, e_bin, e_cmp, e_neg, e_notF, e_notT, e_andT, e_orT, e_andF, e_orF, e_ite, e_chain, e_att, e_sub, e_slc, oi_n, oi_var, oi_bin, oi_sub, oi_blt, oi_neg, oi_call, oi_att, oi_cint, e_call, e_meth, e_blt, e_bm, e_nil, e_cons, e_lc, eT_var, eT_cst, eT_tup, eT_lst, eT_bin, eT_cmp, eT_chain, eT_att, eT_sub, eT_slc, eT_call, eT_meth, eT_blt, eT_bm, eT_lc, at0, at1, at2, at3, at4, isAbs, tr_b, br_t, br_f, br_d, o_add, o_addS, o_addT, o_sub, o_mul, o_div, o_mod, o_pow, c_lt, c_gt, c_le, c_ge, c_leS, c_ltS, c_eq, c_ne, c_in, c_nin, c_is, c_isn, s_set, ix0, ix1, ix2, ix3, Ob.lst.injEq, Vl.int.injEq, Vl.bl.injEq, Nat.reduceLT, Nat.zero_lt_succ, s_ref, s_tup, s_fl, s_str, f_fn, o_addL, start, List.map_cons, List.map_nil, List.length_cons, List.length_nil, List.replicate, List.cons_append, List.nil_append, List.set_cons_zero, List.set_cons_succ, List.getElem?_cons_zero, List.getElem?_cons_succ, Option.some.injEq, exists_eq_left', exists_eq_left, true_and, and_true, Nat.reduceAdd, Nat.reduceSub, if_true, if_false, reduceIte, Bool.false_eq_true, SR, srcs, srcV, b_len, b_abs, b_max, b_min, b_intI, b_intB, b_isi, b_rng, b_listS, b_listT, b_all, b_any, m_join, m_lower, sl_str, br_nd, Bool.not_true, Bool.not_false, ob_some, tr_i, tr_n, Vl.str.injEq, Vl.ref.injEq, Vl.tup.injEq, exists_eq_right, bmChk, bmTy, lcb, bindP, wipe, show S "A" = [65] from rfl, show S "Z" = [90] from rfl, lt_one]
          split
          · rw [decide_eq_false (p := 65 ≤ c ∧ c ≤ 90) (by omega)]
          · by_cases h90 : 90 < c
            · rw [decide_eq_false (p := 65 ≤ c ∧ c ≤ 90) (by omega), decide_eq_true h90]
              rfl
            · rw [decide_eq_true (p := 65 ≤ c ∧ c ≤ 90) (by omega), decide_eq_false h90]
              rfl
        · subst e
          simp only [ok_cons, ok_nil, ok_ok, ok_bad, then_nx, then_rt, then_bk, then_ct, x_expr, x_asg, x_ret, x_ite, x_pass, x_for, t_name, t_att, t_sub, t_tup, t_nil, t_cons, e_var, e_cst, e_tup, e_lst, e_bin, e_cmp, e_neg, e_notF, e_notT, e_andT, e_orT, e_andF, e_orF, e_ite, e_chain, e_att, e_sub, e_slc, oi_n, oi_var, oi_bin, oi_sub, oi_blt, oi_neg, oi_call, oi_att, oi_cint, e_call, e_meth, e_blt, e_bm, e_nil, e_cons, e_lc, eT_var, eT_cst, eT_tup, eT_lst, eT_bin, eT_cmp, eT_chain, eT_att, eT_sub, eT_slc, eT_call, eT_meth, eT_blt, eT_bm, eT_lc, at0, at1, at2, at3, at4, isAbs, tr_b, br_t, br_f, br_d, o_add, o_addS, o_addT, o_sub, o_mul, o_div, o_mod, o_pow, c_lt, c_gt, c_le, c_ge, c_leS, c_ltS, c_eq, c_ne, c_in, c_nin, c_is, c_isn, s_set, ix0, ix1, ix2, ix3, Ob.lst.injEq, Vl.int.injEq, Vl.bl.injEq, Nat.reduceLT, Nat.zero_lt_succ, s_ref, s_tup, s_fl, s_str, f_fn, o_addL, start, List.map_cons, List.map_nil, List.length_cons, List.length_nil, List.replicate, List.cons_append, List.nil_append, List.set_cons_zero, List.set_cons_succ, List.getElem?_cons_zero, List.getElem?_cons_succ, Option.some.injEq, exists_eq_left', exists_eq_left, true_and, and_true, Nat.reduceAdd, Nat.reduceSub, if_true, if_false, reduceIte, Bool.false_eq_true, SR, srcs, srcV, b_len, b_abs, b_max, b_min, b_intI, b_intB, b_isi, b_rng, b_listS, b_listT, b_all, b_any, m_join, m_lower, sl_str, br_nd, Bool.not_true, Bool.not_false, ob_some, tr_i, tr_n, Vl.str.injEq, Vl.ref.injEq, Vl.tup.injEq, exists_eq_right, bmChk, bmTy, get_last, List.map_map, Function.comp_def, bols_map]
          refine ⟨?_, _, rfl⟩
          simp only [part]
          have e1 : (s.map fun c => decide (65 ≤ c ∧ c ≤ 90)).all id = s.all fun c => decide (65 ≤ c ∧ c ≤ 90) := by
            rw [List.all_map]
            rfl
          rw [e1, decide_eq_true (by omega), decide_eq_true (by omega)]
          simp
      · refine ⟨?_, [], by simp⟩
        simp only [part]
        rw [decide_eq_false (p := s.length ≤ 6) (by omega)]
        simp
    · refine ⟨?_, [], by simp⟩
      simp only [part]
      rw [decide_eq_false (p := 0 < s.length) (by omega)]
      simp
  · have := Th.no th
    rw [this.1, this.2]
    simp only [ok_cons, ok_nil, ok_ok, ok_bad, then_nx, then_rt, then_bk, then_ct, x_expr, x_asg, x_ret, x_ite, x_pass, x_for, t_name, t_att, t_sub, t_tup, t_nil, t_cons, e_var, e_cst, e_tup, e_lst, e_bin, e_cmp, e_neg, e_notF, e_notT, e_andT, e_orT, e_andF, e_orF, e_ite, e_chain, e_att, e_sub, e_slc, oi_n, oi_var, oi_bin, oi_sub, oi_blt, oi_neg, oi_call, oi_att, oi_cint, e_call, e_meth, e_blt, e_bm, e_nil, e_cons, e_lc, eT_var, eT_cst, eT_tup, eT_lst, eT_bin, eT_cmp, eT_chain, eT_att, eT_sub, eT_slc, eT_call, eT_meth, eT_blt, eT_bm, eT_lc, at0, at1, at2, at3, at4, isAbs, tr_b, br_t, br_f, br_d, o_add, o_addS, o_addT, o_sub, o_mul, o_div, o_mod, o_pow, c_lt, c_gt, c_le, c_ge, c_leS, c_ltS, c_eq, c_ne, c_in, c_nin, c_is, c_isn, s_set, ix0, ix1, ix2, ix3, Ob.lst.injEq, Vl.int.injEq, Vl.bl.injEq, Nat.reduceLT, Nat.zero_lt_succ, s_ref, s_tup, s_fl, s_str, f_fn, o_addL, start, List.map_cons, List.map_nil, List.length_cons, List.length_nil, List.replicate, List.cons_append, List.nil_append, List.set_cons_zero, List.set_cons_succ, List.getElem?_cons_zero, List.getElem?_cons_succ, Option.some.injEq, exists_eq_left', exists_eq_left, true_and, and_true, Nat.reduceAdd, Nat.reduceSub, if_true, if_false, reduceIte, Bool.false_eq_true, SR, srcs, srcV, b_len, b_abs, b_max, b_min, b_intI, b_intB, b_isi, b_rng, b_listS, b_listT, b_all, b_any, m_join, m_lower, sl_str, br_nd, Bool.not_true, Bool.not_false, ob_some, tr_i, tr_n, Vl.str.injEq, Vl.ref.injEq, Vl.tup.injEq, exists_eq_right, bmChk, bmTy, Bool.not_false]
    exact ⟨[], by simp⟩
theorem Mo.refl (h : Hm) : Mo h h := ⟨[], by simp⟩
theorem Mo.trans {h h' h'' : Hm} (a : Mo h h') (b : Mo h' h'') : Mo h h'' := by
  obtain ⟨g, rfl⟩ := a
  obtain ⟨g', rfl⟩ := b
  exact ⟨g ++ g', by rw [List.append_assoc]⟩
theorem Mo.get {h h' : Hm} (m : Mo h h') {b : Nat} {o : Ob} (e : h[b]? = some o) : h'[b]? = some o := by
  obtain ⟨g, rfl⟩ := m
  rw [List.getElem?_append_left (List.getElem?_eq_some_iff.mp e).1]
  exact e
theorem Th.mo {h h' : Hm} {v : Vl} (th : Th h v) (m : Mo h h') : Th h' v := by
  rcases th with th | th | ⟨b, xs, rfl, e⟩
  · exact .inl th
  · exact .inr (.inl th)
  · exact .inr (.inr ⟨b, xs, rfl, m.get e⟩)
theorem eq_bb {h : Hm} {a b : Bool} : eqV h (.bl a) (.bl b) = some (a == b) := by
  unfold eqV
  simp only [lstOf]
  rfl
theorem right_ok {d : Nat} {h : Hm} {v : Vl} (th : Th h v) : Ok (callP PP (d + 2) "" "_law_right" [v] h) fun u h' => u = .bl true ∧ Mo h h' := by
  refine ok_call lk__law_right rfl ?_
  unfold b__law_right
  simp only [ok_cons, ok_nil, ok_ok, ok_bad, then_nx, then_rt, then_bk, then_ct, x_expr, x_asg, x_ret, x_ite, x_pass, x_for, t_name, t_att, t_sub, t_tup, t_nil, t_cons, e_var, e_cst, e_tup, e_lst, e_bin, e_cmp, e_neg, e_notF, e_notT, e_andT, e_orT, e_andF, e_orF, e_ite, e_chain, e_att, e_sub, e_slc, oi_n, oi_var, oi_bin, oi_sub, oi_blt, oi_neg, oi_call, oi_att, oi_cint, e_call, e_meth, e_blt, e_bm, e_nil, e_cons, e_lc, eT_var, eT_cst, eT_tup, eT_lst, eT_bin, eT_cmp, eT_chain, eT_att, eT_sub, eT_slc, eT_call, eT_meth, eT_blt, eT_bm, eT_lc, at0, at1, at2, at3, at4, isAbs, tr_b, br_t, br_f, br_d, o_add, o_addS, o_addT, o_sub, o_mul, o_div, o_mod, o_pow, c_lt, c_gt, c_le, c_ge, c_leS, c_ltS, c_eq, c_ne, c_in, c_nin, c_is, c_isn, s_set, ix0, ix1, ix2, ix3, Ob.lst.injEq, Vl.int.injEq, Vl.bl.injEq, Nat.reduceLT, Nat.zero_lt_succ, s_ref, s_tup, s_fl, s_str, f_fn, o_addL, start, List.map_cons, List.map_nil, List.length_cons, List.length_nil, List.replicate, List.cons_append, List.nil_append, List.set_cons_zero, List.set_cons_succ, List.getElem?_cons_zero, List.getElem?_cons_succ, Option.some.injEq, exists_eq_left', exists_eq_left, true_and, and_true, Nat.reduceAdd, Nat.reduceSub, if_true, if_false, reduceIte, Bool.false_eq_true, SR, srcs, srcV, b_len, b_abs, b_max, b_min, b_intI, b_intB, b_isi, b_rng, b_listS, b_listT, b_all, b_any, m_join, m_lower, sl_str, br_nd, Bool.not_true, Bool.not_false, ob_some, tr_i, tr_n, Vl.str.injEq, Vl.ref.injEq, Vl.tup.injEq, exists_eq_right, bmChk, bmTy, itOf]
  refine ⟨by omega, ?_⟩
  refine loopF_gen (fun i => if i < 2 then some (.int (0 + i)) else none) 2 (fun _ r h' => Mo h h' ∧ ∃ a b, r = [some v, a, b]) rfl (fun i r h hi _ => rfl) (fun i r h1 hi I => ?_) (fun r h1 I => ?_) FUEL 0 _ h (by omega) (by decide) ⟨Mo.refl h, none, none, rfl⟩
  · obtain ⟨mo, a, b, rfl⟩ := I
    refine ⟨_, if_pos hi, ?_⟩
    simp only [ok_cons, ok_nil, ok_ok, ok_bad, then_nx, then_rt, then_bk, then_ct, x_expr, x_asg, x_ret, x_ite, x_pass, x_for, t_name, t_att, t_sub, t_tup, t_nil, t_cons, e_var, e_cst, e_tup, e_lst, e_bin, e_cmp, e_neg, e_notF, e_notT, e_andT, e_orT, e_andF, e_orF, e_ite, e_chain, e_att, e_sub, e_slc, oi_n, oi_var, oi_bin, oi_sub, oi_blt, oi_neg, oi_call, oi_att, oi_cint, e_call, e_meth, e_blt, e_bm, e_nil, e_cons, e_lc, eT_var, eT_cst, eT_tup, eT_lst, eT_bin, eT_cmp, eT_chain, eT_att, eT_sub, eT_slc, eT_call, eT_meth, eT_blt, eT_bm, eT_lc, at0, at1, at2, at3, at4, isAbs, tr_b, br_t, br_f, br_d, o_add, o_addS, o_addT, o_sub, o_mul, o_div, o_mod, o_pow, c_lt, c_gt, c_le, c_ge, c_leS, c_ltS, c_eq, c_ne, c_in, c_nin, c_is, c_isn, s_set, ix0, ix1, ix2, ix3, Ob.lst.injEq, Vl.int.injEq, Vl.bl.injEq, Nat.reduceLT, Nat.zero_lt_succ, s_ref, s_tup, s_fl, s_str, f_fn, o_addL, start, List.map_cons, List.map_nil, List.length_cons, List.length_nil, List.replicate, List.cons_append, List.nil_append, List.set_cons_zero, List.set_cons_succ, List.getElem?_cons_zero, List.getElem?_cons_succ, Option.some.injEq, exists_eq_left', exists_eq_left, true_and, and_true, Nat.reduceAdd, Nat.reduceSub, if_true, if_false, reduceIte, Bool.false_eq_true, SR, srcs, srcV, b_len, b_abs, b_max, b_min, b_intI, b_intB, b_isi, b_rng, b_listS, b_listT, b_all, b_any, m_join, m_lower, sl_str, br_nd, Bool.not_true, Bool.not_false, ob_some, tr_i, tr_n, Vl.str.injEq, Vl.ref.injEq, Vl.tup.injEq, exists_eq_right, bmChk, bmTy, bindP]
    refine Ok.imp (part_ok (th.mo mo)) fun u h2 q => ?_
    obtain ⟨rfl, m2⟩ := q
    simp only [ok_cons, ok_nil, ok_ok, ok_bad, then_nx, then_rt, then_bk, then_ct, x_expr, x_asg, x_ret, x_ite, x_pass, x_for, t_name, t_att, t_sub, t_tup, t_nil, t_cons, e_var, e_cst, e_tup, e_lst, e_bin, e_cmp, e_neg, e_notF, e_notT, e_andT, e_orT, e_andF, e_orF, e_ite, e_chain, e_att, e_sub, e_slc, oi_n, oi_var, oi_bin, oi_sub, oi_blt, oi_neg, oi_call, oi_att, oi_cint, e_call, e_meth, e_blt, e_bm, e_nil, e_cons, e_lc, eT_var, eT_cst, eT_tup, eT_lst, eT_bin, eT_cmp, eT_chain, eT_att, eT_sub, eT_slc, eT_call, eT_meth, eT_blt, eT_bm, eT_lc, at0, at1, at2, at3, at4, isAbs, tr_b, br_t, br_f, br_d, o_add, o_addS, o_addT, o_sub, o_mul, o_div, o_mod, o_pow, c_lt, c_gt, c_le, c_ge, c_leS, c_ltS, c_eq, c_ne, c_in, c_nin, c_is, c_isn, s_set, ix0, ix1, ix2, ix3, Ob.lst.injEq, Vl.int.injEq, Vl.bl.injEq, Nat.reduceLT, Nat.zero_lt_succ, s_ref, s_tup, s_fl, s_str, f_fn, o_addL, start, List.map_cons, List.map_nil, List.length_cons, List.length_nil, List.replicate, List.cons_append, List.nil_append, List.set_cons_zero, List.set_cons_succ, List.getElem?_cons_zero, List.getElem?_cons_succ, Option.some.injEq, exists_eq_left', exists_eq_left, true_and, and_true, Nat.reduceAdd, Nat.reduceSub, if_true, if_false, reduceIte, Bool.false_eq_true, SR, srcs, srcV, b_len, b_abs, b_max, b_min, b_intI, b_intB, b_isi, b_rng, b_listS, b_listT, b_all, b_any, m_join, m_lower, sl_str, br_nd, Bool.not_true, Bool.not_false, ob_some, tr_i, tr_n, Vl.str.injEq, Vl.ref.injEq, Vl.tup.injEq, exists_eq_right, bmChk, bmTy, isi_bool]
    refine Ok.imp (due_ok (th.mo (mo.trans m2))) fun u h3 q => ?_
    obtain ⟨rfl, m3⟩ := q
    simp only [ok_cons, ok_nil, ok_ok, ok_bad, then_nx, then_rt, then_bk, then_ct, x_expr, x_asg, x_ret, x_ite, x_pass, x_for, t_name, t_att, t_sub, t_tup, t_nil, t_cons, e_var, e_cst, e_tup, e_lst, e_bin, e_cmp, e_neg, e_notF, e_notT, e_andT, e_orT, e_andF, e_orF, e_ite, e_chain, e_att, e_sub, e_slc, oi_n, oi_var, oi_bin, oi_sub, oi_blt, oi_neg, oi_call, oi_att, oi_cint, e_call, e_meth, e_blt, e_bm, e_nil, e_cons, e_lc, eT_var, eT_cst, eT_tup, eT_lst, eT_bin, eT_cmp, eT_chain, eT_att, eT_sub, eT_slc, eT_call, eT_meth, eT_blt, eT_bm, eT_lc, at0, at1, at2, at3, at4, isAbs, tr_b, br_t, br_f, br_d, o_add, o_addS, o_addT, o_sub, o_mul, o_div, o_mod, o_pow, c_lt, c_gt, c_le, c_ge, c_leS, c_ltS, c_eq, c_ne, c_in, c_nin, c_is, c_isn, s_set, ix0, ix1, ix2, ix3, Ob.lst.injEq, Vl.int.injEq, Vl.bl.injEq, Nat.reduceLT, Nat.zero_lt_succ, s_ref, s_tup, s_fl, s_str, f_fn, o_addL, start, List.map_cons, List.map_nil, List.length_cons, List.length_nil, List.replicate, List.cons_append, List.nil_append, List.set_cons_zero, List.set_cons_succ, List.getElem?_cons_zero, List.getElem?_cons_succ, Option.some.injEq, exists_eq_left', exists_eq_left, true_and, and_true, Nat.reduceAdd, Nat.reduceSub, if_true, if_false, reduceIte, Bool.false_eq_true, SR, srcs, srcV, b_len, b_abs, b_max, b_min, b_intI, b_intB, b_isi, b_rng, b_listS, b_listT, b_all, b_any, m_join, m_lower, sl_str, br_nd, Bool.not_true, Bool.not_false, ob_some, tr_i, tr_n, Vl.str.injEq, Vl.ref.injEq, Vl.tup.injEq, exists_eq_right, bmChk, bmTy, eq_bb, Option.map_some, beq_self_eq_true, Bool.not_true]
    exact ⟨(mo.trans m2).trans m3, _, _, rfl⟩
  · obtain ⟨mo, a, b, rfl⟩ := I
    simp only [ok_cons, ok_nil, ok_ok, ok_bad, then_nx, then_rt, then_bk, then_ct, x_expr, x_asg, x_ret, x_ite, x_pass, x_for, t_name, t_att, t_sub, t_tup, t_nil, t_cons, e_var, e_cst, e_tup, e_lst, e_bin, e_cmp, e_neg, e_notF, e_notT, e_andT, e_orT, e_andF, e_orF, e_ite, e_chain, e_att, e_sub, e_slc, oi_n, oi_var, oi_bin, oi_sub, oi_blt, oi_neg, oi_call, oi_att, oi_cint, e_call, e_meth, e_blt, e_bm, e_nil, e_cons, e_lc, eT_var, eT_cst, eT_tup, eT_lst, eT_bin, eT_cmp, eT_chain, eT_att, eT_sub, eT_slc, eT_call, eT_meth, eT_blt, eT_bm, eT_lc, at0, at1, at2, at3, at4, isAbs, tr_b, br_t, br_f, br_d, o_add, o_addS, o_addT, o_sub, o_mul, o_div, o_mod, o_pow, c_lt, c_gt, c_le, c_ge, c_leS, c_ltS, c_eq, c_ne, c_in, c_nin, c_is, c_isn, s_set, ix0, ix1, ix2, ix3, Ob.lst.injEq, Vl.int.injEq, Vl.bl.injEq, Nat.reduceLT, Nat.zero_lt_succ, s_ref, s_tup, s_fl, s_str, f_fn, o_addL, start, List.map_cons, List.map_nil, List.length_cons, List.length_nil, List.replicate, List.cons_append, List.nil_append, List.set_cons_zero, List.set_cons_succ, List.getElem?_cons_zero, List.getElem?_cons_succ, Option.some.injEq, exists_eq_left', exists_eq_left, true_and, and_true, Nat.reduceAdd, Nat.reduceSub, if_true, if_false, reduceIte, Bool.false_eq_true, SR, srcs, srcV, b_len, b_abs, b_max, b_min, b_intI, b_intB, b_isi, b_rng, b_listS, b_listT, b_all, b_any, m_join, m_lower, sl_str, br_nd, Bool.not_true, Bool.not_false, ob_some, tr_i, tr_n, Vl.str.injEq, Vl.ref.injEq, Vl.tup.injEq, exists_eq_right, bmChk, bmTy]
    refine Ok.imp (part_ok (th.mo mo)) fun u h2 q => ?_
    obtain ⟨rfl, m2⟩ := q
    refine Ok.imp (due_ok (th.mo (mo.trans m2))) fun u h3 q => ?_
    obtain ⟨rfl, m3⟩ := q
    simp only [ok_cons, ok_nil, ok_ok, ok_bad, then_nx, then_rt, then_bk, then_ct, x_expr, x_asg, x_ret, x_ite, x_pass, x_for, t_name, t_att, t_sub, t_tup, t_nil, t_cons, e_var, e_cst, e_tup, e_lst, e_bin, e_cmp, e_neg, e_notF, e_notT, e_andT, e_orT, e_andF, e_orF, e_ite, e_chain, e_att, e_sub, e_slc, oi_n, oi_var, oi_bin, oi_sub, oi_blt, oi_neg, oi_call, oi_att, oi_cint, e_call, e_meth, e_blt, e_bm, e_nil, e_cons, e_lc, eT_var, eT_cst, eT_tup, eT_lst, eT_bin, eT_cmp, eT_chain, eT_att, eT_sub, eT_slc, eT_call, eT_meth, eT_blt, eT_bm, eT_lc, at0, at1, at2, at3, at4, isAbs, tr_b, br_t, br_f, br_d, o_add, o_addS, o_addT, o_sub, o_mul, o_div, o_mod, o_pow, c_lt, c_gt, c_le, c_ge, c_leS, c_ltS, c_eq, c_ne, c_in, c_nin, c_is, c_isn, s_set, ix0, ix1, ix2, ix3, Ob.lst.injEq, Vl.int.injEq, Vl.bl.injEq, Nat.reduceLT, Nat.zero_lt_succ, s_ref, s_tup, s_fl, s_str, f_fn, o_addL, start, List.map_cons, List.map_nil, List.length_cons, List.length_nil, List.replicate, List.cons_append, List.nil_append, List.set_cons_zero, List.set_cons_succ, List.getElem?_cons_zero, List.getElem?_cons_succ, Option.some.injEq, exists_eq_left', exists_eq_left, true_and, and_true, Nat.reduceAdd, Nat.reduceSub, if_true, if_false, reduceIte, Bool.false_eq_true, SR, srcs, srcV, b_len, b_abs, b_max, b_min, b_intI, b_intB, b_isi, b_rng, b_listS, b_listT, b_all, b_any, m_join, m_lower, sl_str, br_nd, Bool.not_true, Bool.not_false, ob_some, tr_i, tr_n, Vl.str.injEq, Vl.ref.injEq, Vl.tup.injEq, exists_eq_right, bmChk, bmTy, eq_bb, beq_self_eq_true]
    exact (mo.trans m2).trans m3
end Lw
namespace Lw
open Mi
theorem lk_takeA : PP.lookup ("", "_law_take") = some ⟨2, 7, bTakeA⟩ := by kernel_rfl
theorem lk_purseA : PP.lookup ("", "_law_purse") = some ⟨2, 4, bPurseA⟩ := by kernel_rfl
theorem at_app (h g : Hm) (k n : Nat) (e : n = h.length + k) : (h ++ g)[n]? = g[k]? := by
  rw [List.getElem?_append_right (by omega)]
  congr 1
  omega
theorem Th.set {h : Hm} {v : Vl} {D : Nat} {ys : List Vl} (th : Th h v) : Th (h.set D (.lst ys)) v := by
  rcases th with th | th | ⟨b, xs, rfl, e⟩
  · exact .inl th
  · exact .inr (.inl th)
  · by_cases hb : D = b
    · subst hb
      exact .inr (.inr ⟨_, _, rfl, List.getElem?_set_self (List.getElem?_eq_some_iff.mp e).1⟩)
    · exact .inr (.inr ⟨_, _, rfl, by rw [List.getElem?_set_ne hb]; exact e⟩)
theorem law_ok (ns : List Int) : Ok (callP PP 9 "" "law" [.fl (ns.map .int)] []) fun u _ => u = .bl true := by
  refine ok_call lk_law rfl ?_
  unfold b_law
  simp only [ok_cons, ok_nil, ok_ok, ok_bad, then_nx, then_rt, then_bk, then_ct, x_expr, x_asg, x_ret, x_ite, x_pass, x_for, t_name, t_att, t_sub, t_tup, t_nil, t_cons, e_var, e_cst, e_tup, e_lst, e_bin, e_cmp, e_neg, e_notF, e_notT, e_andT, e_orT, e_andF, e_orF, e_ite, e_chain, e_att, e_sub, e_slc, oi_n, oi_var, oi_bin, oi_sub, oi_blt, oi_neg, oi_call, oi_att, oi_cint, e_call, e_meth, e_blt, e_bm, e_nil, e_cons, e_lc, eT_var, eT_cst, eT_tup, eT_lst, eT_bin, eT_cmp, eT_chain, eT_att, eT_sub, eT_slc, eT_call, eT_meth, eT_blt, eT_bm, eT_lc, at0, at1, at2, at3, at4, isAbs, tr_b, br_t, br_f, br_d, o_add, o_addS, o_addT, o_sub, o_mul, o_div, o_mod, o_pow, c_lt, c_gt, c_le, c_ge, c_leS, c_ltS, c_eq, c_ne, c_in, c_nin, c_is, c_isn, s_set, ix0, ix1, ix2, ix3, Ob.lst.injEq, Vl.int.injEq, Vl.bl.injEq, Nat.reduceLT, Nat.zero_lt_succ, s_ref, s_tup, s_fl, s_str, f_fn, o_addL, start, List.map_cons, List.map_nil, List.length_cons, List.length_nil, List.replicate, List.cons_append, List.nil_append, List.set_cons_zero, List.set_cons_succ, List.getElem?_cons_zero, List.getElem?_cons_succ, Option.some.injEq, exists_eq_left', exists_eq_left, true_and, and_true, Nat.reduceAdd, Nat.reduceSub, if_true, if_false, reduceIte, Bool.false_eq_true, SR, srcs, srcV, b_len, b_abs, b_max, b_min, b_intI, b_intB, b_isi, b_rng, b_listS, b_listT, b_all, b_any, m_join, m_lower, sl_str, br_nd, Bool.not_true, Bool.not_false, ob_some, tr_i, tr_n, Vl.str.injEq, Vl.ref.injEq, Vl.tup.injEq, exists_eq_right, bmChk, bmTy, itOf, lenV, seqOf, List.length_map]
  refine ⟨by split <;> split <;> omega, ?_⟩
  generalize hN : Int.toNat _ = N
  have hN4 : N ≤ 4 := by
    rw [← hN]
    split <;> split <;> omega
  refine loopF_gen (fun i => if i < N then some (.int (0 + i)) else none) N (fun _ r h' => ∃ a2 a3 a4 a5 a6 a7 a8 a9, r = [some (.fl (ns.map .int)), some (.str (S "ABCDEFGHIJKLMNOPQRSTUVWXYZ")), a2, a3, a4, a5, a6, a7, a8, a9]) (by simp) (fun i r h hi _ => rfl) (fun i r h1 hi I => ?_) (fun r h1 I => ?_) FUEL 0 _ _ (by omega) (by have : FUEL = 10000000 := rfl; omega) ⟨none, none, none, none, none, none, none, none, rfl⟩
  · obtain ⟨a2, a3, a4, a5, a6, a7, a8, a9, rfl⟩ := I
    refine ⟨_, if_pos hi, ?_⟩
    simp only [ok_cons, ok_nil, ok_ok, ok_bad, then_nx, then_rt, then_bk, then_ct, x_expr, x_asg, x_ret, x_ite, x_pass, x_for, t_name, t_att, t_sub, t_tup, t_nil, t_cons, e_var, e_cst, e_tup, e_lst, e_bin, e_cmp, e_neg, e_notF, e_notT, e_andT, e_orT, e_andF, e_orF, e_ite, e_chain, e_att, e_sub, e_slc, oi_n, oi_var, oi_bin, oi_sub, oi_blt, oi_neg, oi_call, oi_att, oi_cint, e_call, e_meth, e_blt, e_bm, e_nil, e_cons, e_lc, eT_var, eT_cst, eT_tup, eT_lst, eT_bin, eT_cmp, eT_chain, eT_att, eT_sub, eT_slc, eT_call, eT_meth, eT_blt, eT_bm, eT_lc, at0, at1, at2, at3, at4, isAbs, tr_b, br_t, br_f, br_d, o_add, o_addS, o_addT, o_sub, o_mul, o_div, o_mod, o_pow, c_lt, c_gt, c_le, c_ge, c_leS, c_ltS, c_eq, c_ne, c_in, c_nin, c_is, c_isn, s_set, ix0, ix1, ix2, ix3, Ob.lst.injEq, Vl.int.injEq, Vl.bl.injEq, Nat.reduceLT, Nat.zero_lt_succ, s_ref, s_tup, s_fl, s_str, f_fn, o_addL, start, List.map_cons, List.map_nil, List.length_cons, List.length_nil, List.replicate, List.cons_append, List.nil_append, List.set_cons_zero, List.set_cons_succ, List.getElem?_cons_zero, List.getElem?_cons_succ, Option.some.injEq, exists_eq_left', exists_eq_left, true_and, and_true, Nat.reduceAdd, Nat.reduceSub, if_true, if_false, reduceIte, Bool.false_eq_true, SR, srcs, srcV, b_len, b_abs, b_max, b_min, b_intI, b_intB, b_isi, b_rng, b_listS, b_listT, b_all, b_any, m_join, m_lower, sl_str, br_nd, Bool.not_true, Bool.not_false, ob_some, tr_i, tr_n, Vl.str.injEq, Vl.ref.injEq, Vl.tup.injEq, exists_eq_right, bmChk, bmTy, bindP, Int.zero_add]
    refine Ok.imp (purseA lk_purseA (by omega)) fun u h2 q => ?_
    obtain ⟨o, rfl, eh2, pu⟩ := q
    have hlen2 : h1.length < h2.length := by
      rw [eh2]
      simp
    generalize h1.length = p at pu hlen2 ⊢
    clear eh2 o h1
    refine Ok.imp (takeA lk_takeA pu (by omega) (by omega) (by omega)) fun u h3 q => ?_
    obtain ⟨r1, rfl, l1, u1, pd3, pu3⟩ := q
    simp only [ok_cons, ok_nil, ok_ok, ok_bad, then_nx, then_rt, then_bk, then_ct, x_expr, x_asg, x_ret, x_ite, x_pass, x_for, t_name, t_att, t_sub, t_tup, t_nil, t_cons, e_var, e_cst, e_tup, e_lst, e_bin, e_cmp, e_neg, e_notF, e_notT, e_andT, e_orT, e_andF, e_orF, e_ite, e_chain, e_att, e_sub, e_slc, oi_n, oi_var, oi_bin, oi_sub, oi_blt, oi_neg, oi_call, oi_att, oi_cint, e_call, e_meth, e_blt, e_bm, e_nil, e_cons, e_lc, eT_var, eT_cst, eT_tup, eT_lst, eT_bin, eT_cmp, eT_chain, eT_att, eT_sub, eT_slc, eT_call, eT_meth, eT_blt, eT_bm, eT_lc, at0, at1, at2, at3, at4, isAbs, tr_b, br_t, br_f, br_d, o_add, o_addS, o_addT, o_sub, o_mul, o_div, o_mod, o_pow, c_lt, c_gt, c_le, c_ge, c_leS, c_ltS, c_eq, c_ne, c_in, c_nin, c_is, c_isn, s_set, ix0, ix1, ix2, ix3, Ob.lst.injEq, Vl.int.injEq, Vl.bl.injEq, Nat.reduceLT, Nat.zero_lt_succ, s_ref, s_tup, s_fl, s_str, f_fn, o_addL, start, List.map_cons, List.map_nil, List.length_cons, List.length_nil, List.replicate, List.cons_append, List.nil_append, List.set_cons_zero, List.set_cons_succ, List.getElem?_cons_zero, List.getElem?_cons_succ, Option.some.injEq, exists_eq_left', exists_eq_left, true_and, and_true, Nat.reduceAdd, Nat.reduceSub, if_true, if_false, reduceIte, Bool.false_eq_true, SR, srcs, srcV, b_len, b_abs, b_max, b_min, b_intI, b_intB, b_isi, b_rng, b_listS, b_listT, b_all, b_any, m_join, m_lower, sl_str, br_nd, Bool.not_true, Bool.not_false, ob_some, tr_i, tr_n, Vl.str.injEq, Vl.ref.injEq, Vl.tup.injEq, exists_eq_right, bmChk, bmTy, itOf]
    refine ⟨by omega, ?_⟩
    have hp3 : p < h3.length := by rw [pd3.len]; exact hlen2
    obtain ⟨n, hn⟩ : ∃ n : Nat, 1 + r1 = n := ⟨(1 + r1).toNat, by omega⟩
    rw [hn, Int.toNat_natCast]
    refine Ok.imp (loopC_gen (fun i => if i < n then some (.int (0 + i)) else none) n (fun i h' => ∃ cs : List Nat, cs.length = i ∧ (∀ c ∈ cs, 65 ≤ c ∧ c ≤ 90) ∧ h'[h3.length]? = some (.lst (cs.map fun c => .str [c])) ∧ Pu h' p (0 + 1 + i) ∧ h'.length = h3.length + 1) (by simp) (fun i h hi _ => rfl) (fun i h4 hi I => ?_) FUEL 0 _ (by omega) (by have : FUEL = 10000000 := rfl; omega) ⟨[], rfl, by simp, get_last, by simpa using pu3.app, by simp⟩) fun _ h4 I => ?_
    · obtain ⟨cs, hcs, hc, eD, pu4, ll⟩ := I
      refine ⟨_, if_pos hi, ?_⟩
      simp only [ok_cons, ok_nil, ok_ok, ok_bad, then_nx, then_rt, then_bk, then_ct, x_expr, x_asg, x_ret, x_ite, x_pass, x_for, t_name, t_att, t_sub, t_tup, t_nil, t_cons, e_var, e_cst, e_tup, e_lst, e_bin, e_cmp, e_neg, e_notF, e_notT, e_andT, e_orT, e_andF, e_orF, e_ite, e_chain, e_att, e_sub, e_slc, oi_n, oi_var, oi_bin, oi_sub, oi_blt, oi_neg, oi_call, oi_att, oi_cint, e_call, e_meth, e_blt, e_bm, e_nil, e_cons, e_lc, eT_var, eT_cst, eT_tup, eT_lst, eT_bin, eT_cmp, eT_chain, eT_att, eT_sub, eT_slc, eT_call, eT_meth, eT_blt, eT_bm, eT_lc, at0, at1, at2, at3, at4, isAbs, tr_b, br_t, br_f, br_d, o_add, o_addS, o_addT, o_sub, o_mul, o_div, o_mod, o_pow, c_lt, c_gt, c_le, c_ge, c_leS, c_ltS, c_eq, c_ne, c_in, c_nin, c_is, c_isn, s_set, ix0, ix1, ix2, ix3, Ob.lst.injEq, Vl.int.injEq, Vl.bl.injEq, Nat.reduceLT, Nat.zero_lt_succ, s_ref, s_tup, s_fl, s_str, f_fn, o_addL, start, List.map_cons, List.map_nil, List.length_cons, List.length_nil, List.replicate, List.cons_append, List.nil_append, List.set_cons_zero, List.set_cons_succ, List.getElem?_cons_zero, List.getElem?_cons_succ, Option.some.injEq, exists_eq_left', exists_eq_left, true_and, and_true, Nat.reduceAdd, Nat.reduceSub, if_true, if_false, reduceIte, Bool.false_eq_true, SR, srcs, srcV, b_len, b_abs, b_max, b_min, b_intI, b_intB, b_isi, b_rng, b_listS, b_listT, b_all, b_any, m_join, m_lower, sl_str, br_nd, Bool.not_true, Bool.not_false, ob_some, tr_i, tr_n, Vl.str.injEq, Vl.ref.injEq, Vl.tup.injEq, exists_eq_right, bmChk, bmTy, lcb, bindP, wipe]
      refine Ok.imp (takeA lk_takeA pu4 (by omega) (by omega) (by omega)) fun u h5 q => ?_
      obtain ⟨r2, rfl, l2, u2, pd5, pu5⟩ := q
      obtain ⟨x, hx, e, _⟩ := at_in (xs := S "ABCDEFGHIJKLMNOPQRSTUVWXYZ") (i := r2) l2 (by exact u2)
      simp only [ok_cons, ok_nil, ok_ok, ok_bad, then_nx, then_rt, then_bk, then_ct, x_expr, x_asg, x_ret, x_ite, x_pass, x_for, t_name, t_att, t_sub, t_tup, t_nil, t_cons, e_var, e_cst, e_tup, e_lst, e_bin, e_cmp, e_neg, e_notF, e_notT, e_andT, e_orT, e_andF, e_orF, e_ite, e_chain, e_att, e_sub, e_slc, oi_n, oi_var, oi_bin, oi_sub, oi_blt, oi_neg, oi_call, oi_att, oi_cint, e_call, e_meth, e_blt, e_bm, e_nil, e_cons, e_lc, eT_var, eT_cst, eT_tup, eT_lst, eT_bin, eT_cmp, eT_chain, eT_att, eT_sub, eT_slc, eT_call, eT_meth, eT_blt, eT_bm, eT_lc, at0, at1, at2, at3, at4, isAbs, tr_b, br_t, br_f, br_d, o_add, o_addS, o_addT, o_sub, o_mul, o_div, o_mod, o_pow, c_lt, c_gt, c_le, c_ge, c_leS, c_ltS, c_eq, c_ne, c_in, c_nin, c_is, c_isn, s_set, ix0, ix1, ix2, ix3, Ob.lst.injEq, Vl.int.injEq, Vl.bl.injEq, Nat.reduceLT, Nat.zero_lt_succ, s_ref, s_tup, s_fl, s_str, f_fn, o_addL, start, List.map_cons, List.map_nil, List.length_cons, List.length_nil, List.replicate, List.cons_append, List.nil_append, List.set_cons_zero, List.set_cons_succ, List.getElem?_cons_zero, List.getElem?_cons_succ, Option.some.injEq, exists_eq_left', exists_eq_left, true_and, and_true, Nat.reduceAdd, Nat.reduceSub, if_true, if_false, reduceIte, Bool.false_eq_true, SR, srcs, srcV, b_len, b_abs, b_max, b_min, b_intI, b_intB, b_isi, b_rng, b_listS, b_listT, b_all, b_any, m_join, m_lower, sl_str, br_nd, Bool.not_true, Bool.not_false, ob_some, tr_i, tr_n, Vl.str.injEq, Vl.ref.injEq, Vl.tup.injEq, exists_eq_right, bmChk, bmTy, e]
      refine ⟨by decide, .inr ⟨_, _, rfl, by rw [pd5.get (by omega)]; exact eD, ?_, cs ++ [x], by simp [hcs], ?_, ?_, ?_, ?_⟩⟩
      · have hL : LIM = 16777216 := rfl
        rw [List.length_map]
        omega
      · intro c hc2
        rcases List.mem_append.mp hc2 with hc2 | hc2
        · exact hc c hc2
        · have : c = x := by simpa using hc2
          subst this
          have := gr c
          rw [decide_eq_true hx] at this
          exact of_decide_eq_true this.symm
      · rw [List.getElem?_set_self (by rw [pd5.len]; omega), List.map_append]
        rfl
      · have := pu5.mo (D := h3.length) (o := .lst (cs.map (fun c => .str [c]) ++ [.str [x]])) (by omega)
        have e2 : (0 + 1 + ((i + 1 : Nat) : Int)) = 0 + 1 + i + 1 := by omega
        rw [e2]
        exact this
      · rw [List.length_set, pd5.len]
        exact ll
    · obtain ⟨cs, hcs, hc, eD, pu4, ll⟩ := I
      have hL : LIM = 16777216 := rfl
      simp only [ok_cons, ok_nil, ok_ok, ok_bad, then_nx, then_rt, then_bk, then_ct, x_expr, x_asg, x_ret, x_ite, x_pass, x_for, t_name, t_att, t_sub, t_tup, t_nil, t_cons, e_var, e_cst, e_tup, e_lst, e_bin, e_cmp, e_neg, e_notF, e_notT, e_andT, e_orT, e_andF, e_orF, e_ite, e_chain, e_att, e_sub, e_slc, oi_n, oi_var, oi_bin, oi_sub, oi_blt, oi_neg, oi_call, oi_att, oi_cint, e_call, e_meth, e_blt, e_bm, e_nil, e_cons, e_lc, eT_var, eT_cst, eT_tup, eT_lst, eT_bin, eT_cmp, eT_chain, eT_att, eT_sub, eT_slc, eT_call, eT_meth, eT_blt, eT_bm, eT_lc, at0, at1, at2, at3, at4, isAbs, tr_b, br_t, br_f, br_d, o_add, o_addS, o_addT, o_sub, o_mul, o_div, o_mod, o_pow, c_lt, c_gt, c_le, c_ge, c_leS, c_ltS, c_eq, c_ne, c_in, c_nin, c_is, c_isn, s_set, ix0, ix1, ix2, ix3, Ob.lst.injEq, Vl.int.injEq, Vl.bl.injEq, Nat.reduceLT, Nat.zero_lt_succ, s_ref, s_tup, s_fl, s_str, f_fn, o_addL, start, List.map_cons, List.map_nil, List.length_cons, List.length_nil, List.replicate, List.cons_append, List.nil_append, List.set_cons_zero, List.set_cons_succ, List.getElem?_cons_zero, List.getElem?_cons_succ, Option.some.injEq, exists_eq_left', exists_eq_left, true_and, and_true, Nat.reduceAdd, Nat.reduceSub, if_true, if_false, reduceIte, Bool.false_eq_true, SR, srcs, srcV, b_len, b_abs, b_max, b_min, b_intI, b_intB, b_isi, b_rng, b_listS, b_listT, b_all, b_any, m_join, m_lower, sl_str, br_nd, Bool.not_true, Bool.not_false, ob_some, tr_i, tr_n, Vl.str.injEq, Vl.ref.injEq, Vl.tup.injEq, exists_eq_right, bmChk, bmTy, eD, strs_ones, show S "" = [] from rfl, join_ones, sum_ones, lenV, Nat.mul_zero, Nat.add_zero]
      refine ⟨by omega, ?_⟩
      rw [if_pos (show cs.length ≤ LIM by omega)]
      simp only [ok_cons, ok_nil, ok_ok, ok_bad, then_nx, then_rt, then_bk, then_ct, x_expr, x_asg, x_ret, x_ite, x_pass, x_for, t_name, t_att, t_sub, t_tup, t_nil, t_cons, e_var, e_cst, e_tup, e_lst, e_bin, e_cmp, e_neg, e_notF, e_notT, e_andT, e_orT, e_andF, e_orF, e_ite, e_chain, e_att, e_sub, e_slc, oi_n, oi_var, oi_bin, oi_sub, oi_blt, oi_neg, oi_call, oi_att, oi_cint, e_call, e_meth, e_blt, e_bm, e_nil, e_cons, e_lc, eT_var, eT_cst, eT_tup, eT_lst, eT_bin, eT_cmp, eT_chain, eT_att, eT_sub, eT_slc, eT_call, eT_meth, eT_blt, eT_bm, eT_lc, at0, at1, at2, at3, at4, isAbs, tr_b, br_t, br_f, br_d, o_add, o_addS, o_addT, o_sub, o_mul, o_div, o_mod, o_pow, c_lt, c_gt, c_le, c_ge, c_leS, c_ltS, c_eq, c_ne, c_in, c_nin, c_is, c_isn, s_set, ix0, ix1, ix2, ix3, Ob.lst.injEq, Vl.int.injEq, Vl.bl.injEq, Nat.reduceLT, Nat.zero_lt_succ, s_ref, s_tup, s_fl, s_str, f_fn, o_addL, start, List.map_cons, List.map_nil, List.length_cons, List.length_nil, List.replicate, List.cons_append, List.nil_append, List.set_cons_zero, List.set_cons_succ, List.getElem?_cons_zero, List.getElem?_cons_succ, Option.some.injEq, exists_eq_left', exists_eq_left, true_and, and_true, Nat.reduceAdd, Nat.reduceSub, if_true, if_false, reduceIte, Bool.false_eq_true, SR, srcs, srcV, b_len, b_abs, b_max, b_min, b_intI, b_intB, b_isi, b_rng, b_listS, b_listT, b_all, b_any, m_join, m_lower, sl_str, br_nd, Bool.not_true, Bool.not_false, ob_some, tr_i, tr_n, Vl.str.injEq, Vl.ref.injEq, Vl.tup.injEq, exists_eq_right, bmChk, bmTy]
      refine Ok.imp (takeA lk_takeA pu4 (by omega) (by omega) (by omega)) fun u h5 q => ?_
      obtain ⟨r2, rfl, l2, u2, pd5, pu5⟩ := q
      refine Ok.imp (takeA lk_takeA pu5 (by omega) (by omega) (by omega)) fun u h6 q => ?_
      obtain ⟨r3, rfl, l3, u3, pd6, pu6⟩ := q
      obtain ⟨x, hx, e, _⟩ := at_in (xs := ([32, 95, 46, 45, 48, 49, 51, 57, 64, 91, 96, 97, 122, 123, 63, 33] : List Nat)) (i := r3) l3 (by exact u3)
      simp only [ok_cons, ok_nil, ok_ok, ok_bad, then_nx, then_rt, then_bk, then_ct, x_expr, x_asg, x_ret, x_ite, x_pass, x_for, t_name, t_att, t_sub, t_tup, t_nil, t_cons, e_var, e_cst, e_tup, e_lst, e_bin, e_cmp, e_neg, e_notF, e_notT, e_andT, e_orT, e_andF, e_orF, e_ite, e_chain, e_att, e_sub, e_slc, oi_n, oi_var, oi_bin, oi_sub, oi_blt, oi_neg, oi_call, oi_att, oi_cint, e_call, e_meth, e_blt, e_bm, e_nil, e_cons, e_lc, eT_var, eT_cst, eT_tup, eT_lst, eT_bin, eT_cmp, eT_chain, eT_att, eT_sub, eT_slc, eT_call, eT_meth, eT_blt, eT_bm, eT_lc, at0, at1, at2, at3, at4, isAbs, tr_b, br_t, br_f, br_d, o_add, o_addS, o_addT, o_sub, o_mul, o_div, o_mod, o_pow, c_lt, c_gt, c_le, c_ge, c_leS, c_ltS, c_eq, c_ne, c_in, c_nin, c_is, c_isn, s_set, ix0, ix1, ix2, ix3, Ob.lst.injEq, Vl.int.injEq, Vl.bl.injEq, Nat.reduceLT, Nat.zero_lt_succ, s_ref, s_tup, s_fl, s_str, f_fn, o_addL, start, List.map_cons, List.map_nil, List.length_cons, List.length_nil, List.replicate, List.cons_append, List.nil_append, List.set_cons_zero, List.set_cons_succ, List.getElem?_cons_zero, List.getElem?_cons_succ, Option.some.injEq, exists_eq_left', exists_eq_left, true_and, and_true, Nat.reduceAdd, Nat.reduceSub, if_true, if_false, reduceIte, Bool.false_eq_true, SR, srcs, srcV, b_len, b_abs, b_max, b_min, b_intI, b_intB, b_isi, b_rng, b_listS, b_listT, b_all, b_any, m_join, m_lower, sl_str, br_nd, Bool.not_true, Bool.not_false, ob_some, tr_i, tr_n, Vl.str.injEq, Vl.ref.injEq, Vl.tup.injEq, exists_eq_right, bmChk, bmTy, e]
      have c1 := cut_le cs none (some r2)
      have c2 := cut_le cs (some (r2 + 1)) none
      have c3 := cut_le cs (some r2) none
      have c4 := cut_le cs none (some r2)
      simp only [List.length_append, List.length_cons, List.length_nil, lenV, if_pos (show cs.length ≤ LIM by omega)]
      simp only [ok_cons, ok_nil, ok_ok, ok_bad, then_nx, then_rt, then_bk, then_ct, x_expr, x_asg, x_ret, x_ite, x_pass, x_for, t_name, t_att, t_sub, t_tup, t_nil, t_cons, e_var, e_cst, e_tup, e_lst, e_bin, e_cmp, e_neg, e_notF, e_notT, e_andT, e_orT, e_andF, e_orF, e_ite, e_chain, e_att, e_sub, e_slc, oi_n, oi_var, oi_bin, oi_sub, oi_blt, oi_neg, oi_call, oi_att, oi_cint, e_call, e_meth, e_blt, e_bm, e_nil, e_cons, e_lc, eT_var, eT_cst, eT_tup, eT_lst, eT_bin, eT_cmp, eT_chain, eT_att, eT_sub, eT_slc, eT_call, eT_meth, eT_blt, eT_bm, eT_lc, at0, at1, at2, at3, at4, isAbs, tr_b, br_t, br_f, br_d, o_add, o_addS, o_addT, o_sub, o_mul, o_div, o_mod, o_pow, c_lt, c_gt, c_le, c_ge, c_leS, c_ltS, c_eq, c_ne, c_in, c_nin, c_is, c_isn, s_set, ix0, ix1, ix2, ix3, Ob.lst.injEq, Vl.int.injEq, Vl.bl.injEq, Nat.reduceLT, Nat.zero_lt_succ, s_ref, s_tup, s_fl, s_str, f_fn, o_addL, start, List.map_cons, List.map_nil, List.length_cons, List.length_nil, List.replicate, List.cons_append, List.nil_append, List.set_cons_zero, List.set_cons_succ, List.getElem?_cons_zero, List.getElem?_cons_succ, Option.some.injEq, exists_eq_left', exists_eq_left, true_and, and_true, Nat.reduceAdd, Nat.reduceSub, if_true, if_false, reduceIte, Bool.false_eq_true, SR, srcs, srcV, b_len, b_abs, b_max, b_min, b_intI, b_intB, b_isi, b_rng, b_listS, b_listT, b_all, b_any, m_join, m_lower, sl_str, br_nd, Bool.not_true, Bool.not_false, ob_some, tr_i, tr_n, Vl.str.injEq, Vl.ref.injEq, Vl.tup.injEq, exists_eq_right, bmChk, bmTy]
      have hlow : (cs.all fun x => decide (x < 128)) = true := List.all_eq_true.mpr fun c hcc => decide_eq_true (by have := hc c hcc; omega)
      have g1 : ∀ a b c d : Ob, (h6 ++ [a] ++ [b] ++ [c] ++ [d])[h6.length]? = some a := fun a b c d => by simp
      have g4 : ∀ a b c d : Ob, (h6 ++ [a] ++ [b] ++ [c] ++ [d])[h6.length + 1 + 1 + 1]? = some d := fun a b c d => by simp only [List.append_assoc, List.cons_append, List.nil_append]; rw [at_app _ _ 3 _ (by omega)]; rfl
      have g5 : ∀ a b c d e : Ob, (h6 ++ [a] ++ [b] ++ [c] ++ [d] ++ [e])[h6.length + 1 + 1 + 1 + 1]? = some e := fun a b c d e => by simp only [List.append_assoc, List.cons_append, List.nil_append]; rw [at_app _ _ 4 _ (by omega)]; rfl
      have k2 : ∀ a b c d e f : Ob, (h6 ++ [a] ++ [b] ++ [c] ++ [d] ++ [e] ++ [f])[h6.length + 1]? = some b := fun a b c d e f => by simp only [List.append_assoc, List.cons_append, List.nil_append]; rw [at_app _ _ 1 _ (by omega)]; rfl
      have k3 : ∀ a b c d e f : Ob, (h6 ++ [a] ++ [b] ++ [c] ++ [d] ++ [e] ++ [f])[h6.length + 1 + 1]? = some c := fun a b c d e f => by simp only [List.append_assoc, List.cons_append, List.nil_append]; rw [at_app _ _ 2 _ (by omega)]; rfl
      have k5 : ∀ a b c d e f : Ob, (h6 ++ [a] ++ [b] ++ [c] ++ [d] ++ [e] ++ [f])[h6.length + 1 + 1 + 1 + 1]? = some e := fun a b c d e f => by simp only [List.append_assoc, List.cons_append, List.nil_append]; rw [at_app _ _ 4 _ (by omega)]; rfl
      have k6 : ∀ a b c d e f : Ob, (h6 ++ [a] ++ [b] ++ [c] ++ [d] ++ [e] ++ [f])[h6.length + 1 + 1 + 1 + 1 + 1]? = some f := fun a b c d e f => by simp only [List.append_assoc, List.cons_append, List.nil_append]; rw [at_app _ _ 5 _ (by omega)]; rfl
      simp only [hL]
      refine ⟨by decide, by omega, by omega, by omega, by omega, by omega, by omega, by omega, by omega, by omega, by omega, by omega, by omega, by omega, ⟨by omega, hlow⟩, by omega, by omega, by omega, by omega, _, g1 _ _ _ _, _, g4 _ _ _ _, by simp, ?_⟩
      rw [g5]
      refine ⟨_, rfl, ?_⟩
      generalize ho1 : Ob.lst [Vl.str cs, _, _, _] = o1
      generalize ho4 : Ob.lst [Vl.str (List.map lowerC cs), _, _, _, _, _, _, _, _, _] = o4
      generalize hth : ([Vl.str cs, _, _, _] ++ [Vl.str (List.map lowerC cs), _, _, _, _, _, _, _, _, _] : List Vl) = things
      have h14 : things.length = 14 := by
        rw [← hth]
        rfl
      generalize hH : h6 ++ [o1] ++ [Ob.lst [Vl.str cs]] ++ [Ob.lst (List.map (fun c => Vl.str [c]) cs)] ++ [o4] ++ [Ob.lst things] ++ [Ob.lst []] = H
      have eA : H[h6.length + 1 + 1 + 1 + 1]? = some (.lst things) := by
        rw [← hH]
        exact k5 _ _ _ _ _ _
      have eD2 : H[h6.length + 1 + 1 + 1 + 1 + 1]? = some (.lst []) := by
        rw [← hH]
        exact k6 _ _ _ _ _ _
      have hT : ∀ v ∈ things, Th H v := by
        rw [← hth, ← hH]
        intro v hv
        simp only [List.cons_append, List.nil_append, List.mem_cons, List.not_mem_nil, or_false] at hv
        rcases hv with rfl | rfl | rfl | rfl | rfl | rfl | rfl | rfl | rfl | rfl | rfl | rfl | rfl | rfl
        · exact .inl ⟨_, rfl, by omega⟩
        · exact .inl ⟨_, rfl, by simp only [List.length_append, List.length_cons, List.length_nil]; omega⟩
        · exact .inl ⟨_, rfl, by simp only [List.length_append, List.length_cons, List.length_nil]; omega⟩
        · exact .inl ⟨_, rfl, by simp only [List.length_append, List.length_cons, List.length_nil]; omega⟩
        · exact .inl ⟨_, rfl, by rw [List.length_map]; omega⟩
        · exact .inr (.inr ⟨_, _, rfl, k2 _ _ _ _ _ _⟩)
        · exact .inr (.inl rfl)
        · exact .inr (.inr ⟨_, _, rfl, k3 _ _ _ _ _ _⟩)
        · exact .inr (.inl rfl)
        · exact .inr (.inl rfl)
        · exact .inr (.inl rfl)
        · exact .inr (.inl rfl)
        · exact .inl ⟨_, rfl, by decide⟩
        · exact .inl ⟨_, rfl, by decide⟩
      generalize h6.length + 1 + 1 + 1 + 1 = A at eA eD2 ⊢
      clear hH hth ho1 ho4 k2 k3 k5 k6 g1 g4 g5
      refine Ok.imp (loopC_gen (fun i => things[i]?) 14 (fun i h' => h'[A]? = some (.lst things) ∧ (∀ v ∈ things, Th h' v) ∧ h'[A + 1]? = some (.lst (List.replicate i (.bl true)))) (by simp [h14]) (fun i h' hi I => by
        show (match h'[A]? with
          | some (.lst xs) => some xs[i]?
          | _ => none) = _
        rw [I.1]) (fun i h7 hi I => ?_) FUEL 0 H (by omega) (by decide) ⟨eA, hT, eD2⟩) fun _ h8 I => ?_
      · obtain ⟨i1, i2, i3⟩ := I
        have hi2 : i < things.length := by omega
        refine ⟨things[i], List.getElem?_eq_getElem hi2, ?_⟩
        simp only [ok_cons, ok_nil, ok_ok, ok_bad, then_nx, then_rt, then_bk, then_ct, x_expr, x_asg, x_ret, x_ite, x_pass, x_for, t_name, t_att, t_sub, t_tup, t_nil, t_cons, e_var, e_cst, e_tup, e_lst, e_bin, e_cmp, e_neg, e_notF, e_notT, e_andT, e_orT, e_andF, e_orF, e_ite, e_chain, e_att, e_sub, e_slc, oi_n, oi_var, oi_bin, oi_sub, oi_blt, oi_neg, oi_call, oi_att, oi_cint, e_call, e_meth, e_blt, e_bm, e_nil, e_cons, e_lc, eT_var, eT_cst, eT_tup, eT_lst, eT_bin, eT_cmp, eT_chain, eT_att, eT_sub, eT_slc, eT_call, eT_meth, eT_blt, eT_bm, eT_lc, at0, at1, at2, at3, at4, isAbs, tr_b, br_t, br_f, br_d, o_add, o_addS, o_addT, o_sub, o_mul, o_div, o_mod, o_pow, c_lt, c_gt, c_le, c_ge, c_leS, c_ltS, c_eq, c_ne, c_in, c_nin, c_is, c_isn, s_set, ix0, ix1, ix2, ix3, Ob.lst.injEq, Vl.int.injEq, Vl.bl.injEq, Nat.reduceLT, Nat.zero_lt_succ, s_ref, s_tup, s_fl, s_str, f_fn, o_addL, start, List.map_cons, List.map_nil, List.length_cons, List.length_nil, List.replicate, List.cons_append, List.nil_append, List.set_cons_zero, List.set_cons_succ, List.getElem?_cons_zero, List.getElem?_cons_succ, Option.some.injEq, exists_eq_left', exists_eq_left, true_and, and_true, Nat.reduceAdd, Nat.reduceSub, if_true, if_false, reduceIte, Bool.false_eq_true, SR, srcs, srcV, b_len, b_abs, b_max, b_min, b_intI, b_intB, b_isi, b_rng, b_listS, b_listT, b_all, b_any, m_join, m_lower, sl_str, br_nd, Bool.not_true, Bool.not_false, ob_some, tr_i, tr_n, Vl.str.injEq, Vl.ref.injEq, Vl.tup.injEq, exists_eq_right, bmChk, bmTy, lcb, bindP, wipe]
        refine Ok.imp (right_ok (i2 _ (List.getElem_mem hi2))) fun u h9 q => ?_
        obtain ⟨rfl, mo⟩ := q
        refine .inr ⟨_, _, rfl, mo.get i3, by rw [List.length_replicate]; omega, ?_, fun v hv => ?_, ?_⟩
        · rw [List.getElem?_set_ne (by omega)]
          exact mo.get i1
        · exact ((i2 v hv).mo mo).set
        · rw [List.getElem?_set_self (List.getElem?_eq_some_iff.mp (mo.get i3)).1]
          exact congrArg (fun l => some (Ob.lst l)) List.replicate_succ'.symm
      · obtain ⟨i1, i2, i3⟩ := I
        rw [i3]
        simp only [ok_cons, ok_nil, ok_ok, ok_bad, then_nx, then_rt, then_bk, then_ct, x_expr, x_asg, x_ret, x_ite, x_pass, x_for, t_name, t_att, t_sub, t_tup, t_nil, t_cons, e_var, e_cst, e_tup, e_lst, e_bin, e_cmp, e_neg, e_notF, e_notT, e_andT, e_orT, e_andF, e_orF, e_ite, e_chain, e_att, e_sub, e_slc, oi_n, oi_var, oi_bin, oi_sub, oi_blt, oi_neg, oi_call, oi_att, oi_cint, e_call, e_meth, e_blt, e_bm, e_nil, e_cons, e_lc, eT_var, eT_cst, eT_tup, eT_lst, eT_bin, eT_cmp, eT_chain, eT_att, eT_sub, eT_slc, eT_call, eT_meth, eT_blt, eT_bm, eT_lc, at0, at1, at2, at3, at4, isAbs, tr_b, br_t, br_f, br_d, o_add, o_addS, o_addT, o_sub, o_mul, o_div, o_mod, o_pow, c_lt, c_gt, c_le, c_ge, c_leS, c_ltS, c_eq, c_ne, c_in, c_nin, c_is, c_isn, s_set, ix0, ix1, ix2, ix3, Ob.lst.injEq, Vl.int.injEq, Vl.bl.injEq, Nat.reduceLT, Nat.zero_lt_succ, s_ref, s_tup, s_fl, s_str, f_fn, o_addL, start, List.map_cons, List.map_nil, List.length_cons, List.length_nil, List.replicate, List.cons_append, List.nil_append, List.set_cons_zero, List.set_cons_succ, List.getElem?_cons_zero, List.getElem?_cons_succ, Option.some.injEq, exists_eq_left', exists_eq_left, true_and, and_true, Nat.reduceAdd, Nat.reduceSub, if_true, if_false, reduceIte, Bool.false_eq_true, SR, srcs, srcV, b_len, b_abs, b_max, b_min, b_intI, b_intB, b_isi, b_rng, b_listS, b_listT, b_all, b_any, m_join, m_lower, sl_str, br_nd, Bool.not_true, Bool.not_false, ob_some, tr_i, tr_n, Vl.str.injEq, Vl.ref.injEq, Vl.tup.injEq, exists_eq_right, bmChk, bmTy]
        refine ⟨_, rfl, ?_⟩
        simp only [ok_cons, ok_nil, ok_ok, ok_bad, then_nx, then_rt, then_bk, then_ct, x_expr, x_asg, x_ret, x_ite, x_pass, x_for, t_name, t_att, t_sub, t_tup, t_nil, t_cons, e_var, e_cst, e_tup, e_lst, e_bin, e_cmp, e_neg, e_notF, e_notT, e_andT, e_orT, e_andF, e_orF, e_ite, e_chain, e_att, e_sub, e_slc, oi_n, oi_var, oi_bin, oi_sub, oi_blt, oi_neg, oi_call, oi_att, oi_cint, e_call, e_meth, e_blt, e_bm, e_nil, e_cons, e_lc, eT_var, eT_cst, eT_tup, eT_lst, eT_bin, eT_cmp, eT_chain, eT_att, eT_sub, eT_slc, eT_call, eT_meth, eT_blt, eT_bm, eT_lc, at0, at1, at2, at3, at4, isAbs, tr_b, br_t, br_f, br_d, o_add, o_addS, o_addT, o_sub, o_mul, o_div, o_mod, o_pow, c_lt, c_gt, c_le, c_ge, c_leS, c_ltS, c_eq, c_ne, c_in, c_nin, c_is, c_isn, s_set, ix0, ix1, ix2, ix3, Ob.lst.injEq, Vl.int.injEq, Vl.bl.injEq, Nat.reduceLT, Nat.zero_lt_succ, s_ref, s_tup, s_fl, s_str, f_fn, o_addL, start, List.map_cons, List.map_nil, List.length_cons, List.length_nil, List.replicate, List.cons_append, List.nil_append, List.set_cons_zero, List.set_cons_succ, List.getElem?_cons_zero, List.getElem?_cons_succ, Option.some.injEq, exists_eq_left', exists_eq_left, true_and, and_true, Nat.reduceAdd, Nat.reduceSub, if_true, if_false, reduceIte, Bool.false_eq_true, SR, srcs, srcV, b_len, b_abs, b_max, b_min, b_intI, b_intB, b_isi, b_rng, b_listS, b_listT, b_all, b_any, m_join, m_lower, sl_str, br_nd, Bool.not_true, Bool.not_false, ob_some, tr_i, tr_n, Vl.str.injEq, Vl.ref.injEq, Vl.tup.injEq, exists_eq_right, bmChk, bmTy]
        exact ⟨_, _, _, _, _, _, _, _, rfl⟩
  · obtain ⟨a2, a3, a4, a5, a6, a7, a8, a9, rfl⟩ := I
    simp only [ok_cons, ok_nil, ok_ok, ok_bad, then_nx, then_rt, then_bk, then_ct, x_expr, x_asg, x_ret, x_ite, x_pass, x_for, t_name, t_att, t_sub, t_tup, t_nil, t_cons, e_var, e_cst, e_tup, e_lst, e_bin, e_cmp, e_neg, e_notF, e_notT, e_andT, e_orT, e_andF, e_orF, e_ite, e_chain, e_att, e_sub, e_slc, oi_n, oi_var, oi_bin, oi_sub, oi_blt, oi_neg, oi_call, oi_att, oi_cint, e_call, e_meth, e_blt, e_bm, e_nil, e_cons, e_lc, eT_var, eT_cst, eT_tup, eT_lst, eT_bin, eT_cmp, eT_chain, eT_att, eT_sub, eT_slc, eT_call, eT_meth, eT_blt, eT_bm, eT_lc, at0, at1, at2, at3, at4, isAbs, tr_b, br_t, br_f, br_d, o_add, o_addS, o_addT, o_sub, o_mul, o_div, o_mod, o_pow, c_lt, c_gt, c_le, c_ge, c_leS, c_ltS, c_eq, c_ne, c_in, c_nin, c_is, c_isn, s_set, ix0, ix1, ix2, ix3, Ob.lst.injEq, Vl.int.injEq, Vl.bl.injEq, Nat.reduceLT, Nat.zero_lt_succ, s_ref, s_tup, s_fl, s_str, f_fn, o_addL, start, List.map_cons, List.map_nil, List.length_cons, List.length_nil, List.replicate, List.cons_append, List.nil_append, List.set_cons_zero, List.set_cons_succ, List.getElem?_cons_zero, List.getElem?_cons_succ, Option.some.injEq, exists_eq_left', exists_eq_left, true_and, and_true, Nat.reduceAdd, Nat.reduceSub, if_true, if_false, reduceIte, Bool.false_eq_true, SR, srcs, srcV, b_len, b_abs, b_max, b_min, b_intI, b_intB, b_isi, b_rng, b_listS, b_listT, b_all, b_any, m_join, m_lower, sl_str, br_nd, Bool.not_true, Bool.not_false, ob_some, tr_i, tr_n, Vl.str.injEq, Vl.ref.injEq, Vl.tup.injEq, exists_eq_right, bmChk, bmTy]
end Lw
namespace Lw
open PySem PySem.Spec PyProof.Rows Mi
abbrev Rw : PySem.W.OpenRow := PySem.W.OpenLaw.row PySem.Challenge.rw_unwritparts_k07_part_names
abbrev hk : PySem.W.Hook := hookM 6 T cds
def ob (s : PySem.W.SharedT) : AlM := obsMG 6 T cds (HandSHeadRun.getT s)
theorem ob_eq (s : PySem.W.SharedT) : ob s = hk.obs s.abs := obsMG_eq (HandSHeadRun.getT_eq s)
def loose : List PySem.Str := (["GREAT", "MOST_GREAT", "is_part_name", "_law_purse", "_law_take", "_law_due", "_law_right"] : List PySem.Str)
theorem run (w : World) : HandSHeadRun.RunEq Rw (PySem.W.view Rw.prog [9]) hk ob 600 loose w := by
  intro os
  kernel_rfl
end Lw
open PySem PySem.W PySem.Calls PyProof.Rows Mi in
theorem Lw.law_end (law : ∀ ns : List Int, ns.length ≤ 63 → ∃ h', callP (prgOf Lw.T Lw.cds) 9 "" "law" [.fl (ns.map .int)] [] = .ok (.bl true) h') : PySem.Challenge.rw_unwritparts_k07_part_names.Holds := by
  w_on; o_law
  refine HandSHeadRun.head_any (r := PySem.W.OpenLaw.row PySem.Challenge.rw_unwritparts_k07_part_names) (q := PySem.W.view (PySem.W.OpenLaw.row PySem.Challenge.rw_unwritparts_k07_part_names).prog [9]) (H := Lw.hk) (ob := Lw.ob) (M := 600) (loose := Lw.loose) (d := HandSHeadRun.topDef (PySem.W.OpenLaw.row PySem.Challenge.rw_unwritparts_k07_part_names).prog 9) (kwd := []) Lw.ob_eq
    (by kernel_rfl) (fun s => by kernel_rfl) Lw.run (by kernel_rfl) (by kernel_rfl) (by kernel_rfl) (by rfl) (by first | assumption | decide +kernel) (by decide +kernel) ⟨rfl, rfl, rfl, rfl, rfl, by decide +kernel⟩ ?hw ?hc
  case hw => w_witness2
  case hc => exact law_walk (l := PySem.Challenge.rw_unwritparts_k07_part_names) (n := 63) (k := 9) (x := "_law_script") (d := Lw.cd "" "law" (Lw.top 9) [] [] []) rfl (by decide) (by kernel_rfl) ⟨rfl, by decide, by decide⟩ (by kernel_rfl) (by kernel_rfl) rfl (by kernel_rfl) (by kernel_rfl) law
theorem PySem.Challenge.cw_unwritparts_k07_part_names_holds : PySem.Challenge.rw_unwritparts_k07_part_names.Holds := by
  refine Lw.law_end fun ns _ => ?_
  obtain ⟨v, h, e, q⟩ := (Lw.law_ok ns).get
  exact ⟨h, by rw [← q]; exact e⟩
