import PyProof.Rows.All
import Wide.All
import OpenK.AllK
import Wide.FinOn
import HandS.ForMost
import HandS.ForExc
import HandS.Star
import HandS.Defaults
import HandS.IsInst
import HandS.TupAny
import HandS.Deep
import HandS.Dict
import HandS.FStr
import HandS.Style
import HandS.Codes
import HandS.WordsDict
import HandS.More
import HandS.CallRecv
import HandS.Zip
import HandS.Conv
import HandS.ClsMeth
import HandS.Steps
import HandS.Head2
import HandS.HeadEnd
import HandS.HeadHook1
import HandS.HeadHook2
import KE.KStateDown
import PySem.Challenge.RW_brimrest_k02_names_and_constants
/-! BrM: the machine. Values with pure tuples, a heap of objects by numbers, own small code, its meaning. Core Lean only. -/
set_option linter.all false
namespace Br

/-- values: texts by their code points; tuples (kt: written ones) and frozen lists are pure -/
inductive AV where
  | non | bl (b : Bool) | int (i : Int) | str (s : List Nat) | tup (xs : List AV) | kt (xs : List AV) | fl (xs : List AV) | ref (i : Nat)
  deriving Inhabited

/-- objects: a list, a dict (tk: its keys are tuples; locked while it is walked), an instance -/
inductive AO where
  | lst (xs : List AV)
  | dct (tk : Bool) (kvs : List (AV × AV)) (lk : Bool)
  | ins (c : Nat) (fs : List (Nat × AV))

abbrev AH := List AO
abbrev Lc := List (Option AV)

inductive Res (α : Type) where
  | ok (v : α) (h : AH)
  | exc (c : Nat) (fs : List (Nat × AV)) (h : AH)
  | fail

/-- what an expression does: the locals are read alone -/
abbrev M (α : Type) := Lc → AH → Res α
@[reducible] def mp {α : Type} (v : α) : M α := fun _ h => .ok v h
@[reducible] def mb {α β : Type} (m : M α) (f : α → M β) : M β := fun a h => match m a h with
  | .ok v h1 => f v a h1
  | .exc c fs h1 => .exc c fs h1
  | .fail => .fail
@[reducible] def mf {α : Type} : M α := fun _ _ => .fail
/-- an operation on values -/
abbrev H1 (α : Type) := AH → Res α
def lim : Nat := 100000
def new (o : AO) : H1 AV := fun h => .ok (.ref h.length) (h ++ [o])
def newL (xs : List AV) : H1 AV := fun h => if xs.length ≤ lim then new (.lst xs) h else .fail

/-! ### trees: what a value is as data -/
inductive T where
  | non | bl (b : Bool) | int (i : Int) | str (s : List Nat) | lst (xs : List T) | tup (xs : List T)
  deriving Inhabited
def b2i (b : Bool) : Int := if b then 1 else 0
mutual
def T.eqv : T → T → Bool
  | .non, .non => true
  | .bl a, .bl b => a == b
  | .bl a, .int j => b2i a == j
  | .int i, .bl b => i == b2i b
  | .int i, .int j => i == j
  | .str x, .str y => decide (x = y)
  | .lst xs, .lst ys => T.eqvs xs ys
  | .tup xs, .tup ys => T.eqvs xs ys
  | _, _ => false
def T.eqvs : List T → List T → Bool
  | [], [] => true
  | x :: xs, y :: ys => T.eqv x y && T.eqvs xs ys
  | _, _ => false
end
/-- a value read as data; deep: what a reference is -/
def toTs (f : AV → Option T) : List AV → Option (List T)
  | [] => some []
  | x :: xs => match f x, toTs f xs with
    | some y, some ys => some (y :: ys)
    | _, _ => none
def okStr (s : List Nat) : Bool := s.all fun c => decide (c < 1114112)
def scT : AV → Option T
  | .non => some .non
  | .bl b => some (.bl b)
  | .int i => some (.int i)
  | .str s => if okStr s then some (.str s) else none
  | _ => none
/-- to a depth n -/
def toT (h : AH) : Nat → AV → Option T
  | 0, v => scT v
  | n + 1, v => match v with
    | .tup xs => (toTs (toT h n) xs).map .tup
    | .kt xs => (toTs (toT h n) xs).map .tup
    | .fl xs => (toTs (toT h n) xs).map .lst
    | .ref i => match h[i]? with
      | some (.lst xs) => (toTs (toT h n) xs).map .lst
      | _ => none
    | v => scT v
/-- the depth to which data are compared -/
def deepN : Nat := 20

/-! ### code -/
inductive Op2 where
  | add | sub | mul | fdiv | mod | pow
inductive Cmp where
  | eq | ne | lt | le | gt | ge | isin | notin
inductive TyC where
  | int | bool | str | list | tuple | cls (g : Nat)
/-- built-in functions and types, methods of built-in types -/
inductive BI where
  | len | int | str | fmt | bool | abs | min | max | sorted | all | any | repr | dict
inductive BM where
  | append | insert | extend | pop | clear | index | get | setdefault | join | split | startswith
/-- what is walked: a value, range(..), enumerate(x), zip(x, y), a dict, x.items() -/
inductive IK where
  | val | range | enum | zip | keys | items
inductive CE where
  | loc (i : Nat)
  | con (v : AV)
  | glo (g : Nat)
  | bin (o : Op2) (a b : CE)
  | neg (a : CE)
  | not (a : CE)
  | and (a b : CE)
  | or (a b : CE)
  | isN (a : CE)
  | notN (a : CE)
  | cmp (o : Cmp) (a b : CE)
  | cmp2 (o o2 : Cmp) (a b c : CE)
  | ite (t a b : CE)
  | lst (es : List CE)
  | tup (es : List CE)
  | star (e : CE)
  | dct (tk : Bool) (kvs : List CE)
  | fst (es : List CE)
  | idx (a i : CE)
  | slc (a : CE) (lo hi : Option CE)
  | rev (a : CE)
  | isi (e : CE) (ts : List TyC)
  | bi (b : BI) (es : List CE)
  | bm (m : BM) (o : CE) (es : List CE)
  | call (f : Nat) (es : List CE) (ks : List Nat) (vs : List CE)
  | mk (c : Nat) (es : List CE) (ks : List Nat) (vs : List CE)
  | meth (m : Nat) (o : CE) (es : List CE) (ks : List Nat) (vs : List CE)
  | smeth (c m : Nat) (es : List CE)
  | attr (o : CE) (a : Nat)
  | cattr (c a : Nat)
  | lis (k : IK) (es : List CE)
  | tpl (k : IK) (es : List CE)
  | lcomp (ts : List Nat) (un : Bool) (k : IK) (it : List CE) (cs : List CE) (e : CE)
  | dcomp (tk : Bool) (ts : List Nat) (un : Bool) (k : IK) (it : List CE) (cs : List CE) (u v : CE)
inductive TgC where
  | loc (i : Nat)
  | attr (o : CE) (a : Nat)
  | idx (o i : CE)
  | tup (is : List Nat) (st : Option Nat)
inductive CS where
  | set (t : TgC) (e : CE)
  | par (is : List Nat) (es : List CE)
  | augl (i : Nat) (o : Op2) (e : CE)
  | auga (x : CE) (a : Nat) (o : Op2) (e : CE)
  | ex (e : CE)
  | ret (e : CE)
  | retn
  | ite (t : CE) (a b : List CS)
  | for (ts : List Nat) (un : Bool) (k : IK) (it : List CE) (b : List CS)
  | whl (t : CE) (b : List CS)
  | cnt
  | pass
  | raise (c : Nat) (es : List CE)

/-! ### the program: numbers for functions, classes, attributes, parameters; a def's key: its class (0 for none), its name -/
abbrev Key2 := Nat × Nat
structure Fn where
  ps : List Nat
  dfl : List AV := []
  va : Bool := false
  kwo : List (Nat × Option AV) := []
  slots : Nat
  body : List CS
structure Cl where
  mro : List Nat
  meths : List (Nat × Key2) := []
  stats : List (Nat × Key2) := []
  props : List (Nat × Key2) := []
  cons : List (Nat × AV) := []
  init : Option Key2 := none
structure Gm where
  fns : List (Key2 × Fn)
  cls : List (Nat × Cl)
  excs : List (Nat × (List Nat × Option Nat)) := []
  cons : List (Nat × AV) := []
/-- special methods' numbers, the number of an error's code -/
def nAdd : Nat := 0
def nSub : Nat := 1
def nEq : Nat := 2
def nContains : Nat := 3
def nLen : Nat := 4
def nBool : Nat := 5
def nRepr : Nat := 6
def nCall : Nat := 7
def nCode : Nat := 8
abbrev Callee := Key2 → List AV → List (Nat × AV) → H1 AV
def clsOf (h : AH) : AV → Option Nat
  | .ref i => match h[i]? with
    | some (.ins c _) => some c
    | _ => none
  | _ => none
def Gm.meth (G : Gm) (c m : Nat) : Option Key2 := (G.cls.lookup c).bind fun k => k.meths.lookup m

/-! ### operations on values -/
def putF (f : Nat) (v : AV) : List (Nat × AV) → List (Nat × AV)
  | [] => [(f, v)]
  | (g, x) :: r => if g = f then (f, v) :: r else (g, x) :: putF f v r
/-- dict keys: ints, texts, tuples of such -/
def isKey1 : AV → Bool
  | .int _ => true
  | .str _ => true
  | _ => false
def isKeyT : AV → Bool
  | .tup xs => xs.all isKey1
  | _ => false
def k1 : AV → AV → Bool
  | .int i, .int j => decide (i = j)
  | .str a, .str b => decide (a = b)
  | _, _ => false
def k1s : List AV → List AV → Bool
  | [], [] => true
  | x :: xs, y :: ys => k1 x y && k1s xs ys
  | _, _ => false
def kEq : AV → AV → Bool
  | .tup xs, .tup ys => k1s xs ys
  | x, y => k1 x y
def keyOk (tk : Bool) (k : AV) : Bool := if tk then isKeyT k else isKey1 k
def dGet (k : AV) : List (AV × AV) → Option AV
  | [] => none
  | (a, v) :: r => if kEq a k then some v else dGet k r
def dPut (k v : AV) (l : List (AV × AV)) : List (AV × AV) := if l.any (fun p => kEq p.1 k) then l.map (fun p => if kEq p.1 k then (p.1, v) else p) else l ++ [(k, v)]
/-- the i-th item, from behind for a negative one -/
def ixN (n : Nat) (i : Int) : Option Nat := if 0 ≤ i then (if i < n then some i.toNat else none) else if 0 ≤ i + n then some (i + n).toNat else none
/-- a slice's end -/
def sEnd (n : Nat) (d : Nat) : Option Int → Nat
  | none => d
  | some i => if i < 0 then (i + n).toNat else min n i.toNat
def cut {α : Type} (xs : List α) (lo hi : Option Int) : List α := (xs.drop (sEnd xs.length 0 lo)).take (sEnd xs.length xs.length hi - sEnd xs.length 0 lo)
def digits (n : Nat) : List Nat := (Nat.toDigits 10 n).map (·.toNat)
def strI (i : Int) : List Nat := if i < 0 then 45 :: digits i.natAbs else digits i.natAbs
def asB : AV → M Bool
  | .bl b => mp b
  | _ => mf
def lift {α : Type} (f : H1 α) : M α := fun _ h => f h
def Res.map {α β : Type} (f : α → β) : Res α → Res β
  | .ok v h => .ok (f v) h
  | .exc c fs h => .exc c fs h
  | .fail => .fail

def bop (o : Op2) (x y : AV) : H1 AV := fun h => match o, x, y with
  | .add, .int i, .int j => .ok (.int (i + j)) h
  | .sub, .int i, .int j => .ok (.int (i - j)) h
  | .mul, .int i, .int j => if (-(2 ^ 64) < i ∧ i < 2 ^ 64) ∨ (-(2 ^ 64) < j ∧ j < 2 ^ 64) then .ok (.int (i * j)) h else .fail
  | .fdiv, .int i, .int j => if 0 < j ∧ j < 1073741824 then .ok (.int (i / j)) h else .fail
  | .mod, .int i, .int j => if 0 < j then .ok (.int (i % j)) h else .fail
  | .pow, .int i, .int j => if 0 ≤ j ∧ j ≤ 1000000 ∧ i.natAbs < 2 ^ 64 then .ok (.int (i ^ j.toNat)) h else .fail
  | .add, .str a, .str b => if a.length + b.length ≤ lim then .ok (.str (a ++ b)) h else .fail
  | .add, .tup a, .tup b => if a.length + b.length ≤ lim then .ok (.tup (a ++ b)) h else .fail
  | .add, .ref i, .ref j => match h[i]?, h[j]? with
    | some (.lst a), some (.lst b) => newL (a ++ b) h
    | _, _ => .fail
  | .mul, .ref i, .int k => match h[i]? with
    | some (.lst a) => if 0 ≤ k ∧ k ≤ lim then newL (List.replicate k.toNat a).flatten h else .fail
    | _ => .fail
  | _, _, _ => .fail
/-- an operator: the left one's own method, or the built-in one -/
def bopC (G : Gm) (C : Callee) (o : Op2) (x y : AV) : H1 AV := fun h => match clsOf h x with
  | some c => match o with
    | .add => match G.meth c nAdd with
      | some k => C k [x, y] [] h
      | none => .fail
    | .sub => match G.meth c nSub with
      | some k => C k [x, y] [] h
      | none => .fail
    | _ => .fail
  | none => bop o x y h
/-- texts in order -/
def ltL (a b : List Nat) : Bool := decide (a < b)
def lstOf (h : AH) : AV → Option (List AV)
  | .fl xs => some xs
  | .ref i => match h[i]? with
    | some (.lst xs) => some xs
    | _ => none
  | _ => none
def seqOf (h : AH) : AV → Option (List AV)
  | .tup xs => some xs
  | .kt xs => some xs
  | .fl xs => some xs
  | .ref i => match h[i]? with
    | some (.lst xs) => some xs
    | _ => none
  | _ => none
/-- a comparison of data; == of dicts -/
def eqD (h : AH) (x y : AV) : Option Bool := match toT h deepN x, toT h deepN y with
  | some a, some b => some (a.eqv b)
  | _, _ => none
def eqV (h : AH) (x y : AV) : Option Bool := eqD h x y
def inD (h : AH) (x : AV) (ys : List AV) : Option Bool := match toT h deepN x, toTs (toT h deepN) ys with
  | some a, some bs => some (bs.any fun b => b.eqv a)
  | _, _ => none
def cmpB (o : Cmp) (x y : AV) : H1 Bool := fun h => match o, x, y with
  | .eq, x, y => match eqV h x y with
    | some b => .ok b h
    | none => .fail
  | .ne, x, y => match eqV h x y with
    | some b => .ok (!b) h
    | none => .fail
  | .lt, .int i, .int j => .ok (decide (i < j)) h
  | .le, .int i, .int j => .ok (decide (i ≤ j)) h
  | .gt, .int i, .int j => .ok (decide (j < i)) h
  | .ge, .int i, .int j => .ok (decide (j ≤ i)) h
  | .lt, .str i, .str j => .ok (ltL i j) h
  | .le, .str i, .str j => .ok (!ltL j i) h
  | .isin, .str [c], .str b => .ok (decide (c ∈ b)) h
  | .notin, .str [c], .str b => .ok (!decide (c ∈ b)) h
  | .isin, x, .ref j => match h[j]? with
    | some (.lst ys) => match inD h x ys with
      | some b => .ok b h
      | none => .fail
    | some (.dct tk kvs _) => if keyOk tk x then .ok (dGet x kvs).isSome h else .fail
    | _ => .fail
  | .notin, x, .ref j => match h[j]? with
    | some (.lst ys) => match inD h x ys with
      | some b => .ok (!b) h
      | none => .fail
    | some (.dct tk kvs _) => if keyOk tk x then .ok (!(dGet x kvs).isSome) h else .fail
    | _ => .fail
  | .isin, x, .tup ys => match inD h x ys with
    | some b => .ok b h
    | none => .fail
  | .notin, x, .tup ys => match inD h x ys with
    | some b => .ok (!b) h
    | none => .fail
  | .isin, x, .kt ys => match inD h x ys with
    | some b => .ok b h
    | none => .fail
  | .notin, x, .kt ys => match inD h x ys with
    | some b => .ok (!b) h
    | none => .fail
  | _, _, _ => .fail
def bres (neg : Bool) : Res AV → Res Bool
  | .ok (.bl b) h => .ok (if neg then !b else b) h
  | .ok _ _ => .fail
  | .exc c fs h => .exc c fs h
  | .fail => .fail
def cmpC (G : Gm) (C : Callee) (o : Cmp) (x y : AV) : H1 Bool := fun h => match o, clsOf h x, clsOf h y with
  | .eq, some c, _ => match G.meth c nEq with
    | some k => bres false (C k [x, y] [] h)
    | none => .fail
  | .ne, some c, _ => match G.meth c nEq with
    | some k => bres true (C k [x, y] [] h)
    | none => .fail
  | .isin, none, some c => match G.meth c nContains with
    | some k => bres false (C k [y, x] [] h)
    | none => .fail
  | .notin, none, some c => match G.meth c nContains with
    | some k => bres true (C k [y, x] [] h)
    | none => .fail
  | _, none, none => cmpB o x y h
  | _, _, _ => .fail
def hasTy (G : Gm) (h : AH) (v : AV) : TyC → Bool
  | .int => match v with
    | .int _ => true
    | .bl _ => true
    | _ => false
  | .bool => match v with
    | .bl _ => true
    | _ => false
  | .str => match v with
    | .str _ => true
    | _ => false
  | .list => match v with
    | .fl _ => true
    | .ref i => match h[i]? with
      | some (.lst _) => true
      | _ => false
    | _ => false
  | .tuple => match v with
    | .tup _ => true
    | .kt _ => true
    | _ => false
  | .cls g => match clsOf h v with
    | some c => match G.cls.lookup c with
      | some k => k.mro.contains g
      | none => false
    | none => false
def subI (x i : AV) : H1 AV := fun h => match x, i with
  | .tup xs, .int i => match (ixN xs.length i).bind fun j => xs[j]? with
    | some v => .ok v h
    | none => .fail
  | .kt xs, .int i => match (ixN xs.length i).bind fun j => xs[j]? with
    | some v => .ok v h
    | none => .fail
  | .fl xs, .int i => match (ixN xs.length i).bind fun j => xs[j]? with
    | some v => .ok v h
    | none => .fail
  | .str xs, .int i => match (ixN xs.length i).bind fun j => xs[j]? with
    | some c => if xs.length ≤ lim then .ok (.str [c]) h else .fail
    | none => .fail
  | .ref r, k => match h[r]? with
    | some (.lst xs) => match k with
      | .int i => match (ixN xs.length i).bind fun j => xs[j]? with
        | some v => .ok v h
        | none => .fail
      | _ => .fail
    | some (.dct tk kvs _) => if keyOk tk k then match dGet k kvs with
        | some v => .ok v h
        | none => .fail
      else .fail
    | _ => .fail
  | _, _ => .fail
def slice (x : AV) (lo hi : Option Int) : H1 AV := fun h => match x with
  | .tup xs => .ok (.tup (cut xs lo hi)) h
  | .str xs => if xs.length ≤ lim then .ok (.str (cut xs lo hi)) h else .fail
  | .fl xs => newL (cut xs lo hi) h
  | .ref r => match h[r]? with
    | some (.lst xs) => newL (cut xs lo hi) h
    | _ => .fail
  | _ => .fail
def revL (x : AV) : H1 AV := fun h => match x with
  | .ref r => match h[r]? with
    | some (.lst xs) => newL xs.reverse h
    | _ => .fail
  | _ => .fail
def setI (x i v : AV) : H1 Unit := fun h => match x with
  | .ref r => match h[r]?, i with
    | some (.lst xs), .int i => match ixN xs.length i with
      | some j => .ok () (h.set r (.lst (xs.set j v)))
      | none => .fail
    | some (.dct tk kvs false), k => if keyOk tk k then (if kvs.length < lim then .ok () (h.set r (.dct tk (dPut k v kvs) false)) else .fail) else .fail
    | _, _ => .fail
  | _ => .fail
def getA (G : Gm) (C : Callee) (x : AV) (a : Nat) : H1 AV := fun h => match x with
  | .ref r => match h[r]? with
    | some (.ins c fs) => match fs.lookup a with
      | some v => .ok v h
      | none => match G.cls.lookup c with
        | some k => match k.props.lookup a with
          | some key => C key [x] [] h
          | none => match k.cons.lookup a with
            | some v => .ok v h
            | none => .fail
        | none => .fail
    | _ => .fail
  | _ => .fail
def setA (x : AV) (a : Nat) (v : AV) : H1 Unit := fun h => match x with
  | .ref r => match h[r]? with
    | some (.ins c fs) => if fs.length < 900 then .ok () (h.set r (.ins c (putF a v fs))) else .fail
    | _ => .fail
  | _ => .fail
/-! what is walked -/
inductive It0 where
  | pure (xs : List AV) | lref (i : Nat) | dkeys (i : Nat) | ditems (i : Nat)
inductive Itr where
  | one (a : It0) | enum (a : It0) | zip (a b : It0)
def It0.at (a : It0) (h : AH) (k : Nat) : Option (Option AV) := match a with
  | .pure xs => some xs[k]?
  | .lref i => match h[i]? with
    | some (.lst xs) => some xs[k]?
    | _ => none
  | .dkeys i => match h[i]? with
    | some (.dct _ kvs _) => some (kvs[k]?.map (·.1))
    | _ => none
  | .ditems i => match h[i]? with
    | some (.dct _ kvs _) => some (kvs[k]?.map fun p => .tup [p.1, p.2])
    | _ => none
def It0.len (a : It0) (h : AH) : Nat := match a with
  | .pure xs => xs.length
  | .lref i => match h[i]? with
    | some (.lst xs) => xs.length
    | _ => 0
  | .dkeys i => match h[i]? with
    | some (.dct _ kvs _) => kvs.length
    | _ => 0
  | .ditems i => match h[i]? with
    | some (.dct _ kvs _) => kvs.length
    | _ => 0
def Itr.at (t : Itr) (h : AH) (k : Nat) : Option (Option AV) := match t with
  | .one a => a.at h k
  | .enum a => (a.at h k).map fun o => o.map fun v => .tup [.int k, v]
  | .zip a b => match a.at h k, b.at h k with
    | some (some x), some (some y) => some (some (.tup [x, y]))
    | some none, some _ => some none
    | some _, some none => some none
    | _, _ => none
def Itr.len (t : Itr) (h : AH) : Nat := match t with
  | .one a => a.len h
  | .enum a => a.len h
  | .zip a b => max (a.len h) (b.len h)
def rangeL (lo hi : Int) : List AV := (List.range (hi - lo).toNat).map fun (i : Nat) => AV.int (lo + i)
def it0 (x : AV) : H1 It0 := fun h => match x with
  | .tup xs => .ok (.pure xs) h
  | .kt xs => .ok (.pure xs) h
  | .fl xs => .ok (.pure xs) h
  | .str s => .ok (.pure (s.map fun c => .str [c])) h
  | .ref i => match h[i]? with
    | some (.lst _) => .ok (.lref i) h
    | _ => .fail
  | _ => .fail
/-- a dict is locked while it is walked -/
def It0.lock (a : It0) (b : Bool) (h : AH) : Option AH := match a with
  | .dkeys i => match h[i]? with
    | some (.dct tk kvs lk) => if lk = b then none else some (h.set i (.dct tk kvs b))
    | _ => none
  | .ditems i => match h[i]? with
    | some (.dct tk kvs lk) => if lk = b then none else some (h.set i (.dct tk kvs b))
    | _ => none
  | _ => some h
def Itr.lock (t : Itr) (b : Bool) (h : AH) : Option AH := match t with
  | .one a => a.lock b h
  | .enum (.dkeys _) => none
  | .enum (.ditems _) => none
  | .zip (.dkeys _) _ => none
  | .zip (.ditems _) _ => none
  | .zip _ (.dkeys _) => none
  | .zip _ (.ditems _) => none
  | _ => some h
/-- all items, where nothing runs between -/
def Itr.all (t : Itr) (h : AH) : Option (List AV) := (List.range (t.len h)).foldr (fun k r => match t.at h k, r with
  | some (some v), some vs => some (v :: vs)
  | some none, some vs => some vs
  | _, _ => none) (some [])
/-- the targets of a loop: one name, or the names of a tuple's parts -/
def setTs : List Nat → List AV → Lc → Option Lc
  | [], [], a => some a
  | i :: is, v :: vs, a => if i < a.length then setTs is vs (a.set i (some v)) else none
  | _, _, _ => none
def tupOf : AV → Option (List AV)
  | .tup xs => some xs
  | .kt xs => some xs
  | _ => none
def setTg (ts : List Nat) (un : Bool) (v : AV) (a : Lc) : Option Lc :=
  if un then (match tupOf v with
    | some vs => setTs ts vs a
    | none => none) else setTs ts [v] a
def wipeC (ts : List Nat) (a : Lc) : Lc := ts.foldr (fun i a => a.set i none) a
/-- the turns of a comprehension: k the turn, n how many are left at most -/
def compGo (t : Itr) (ts : List Nat) (un : Bool) (test : M Bool) (elt : M AV) : Nat → Nat → List AV → M (List AV)
  | 0, _, _ => mf
  | n + 1, k, acc => fun a h => match t.at h k with
    | none => .fail
    | some none => .ok acc h
    | some (some v) => match setTg ts un v (wipeC ts a) with
      | none => .fail
      | some a2 => match test a2 h with
        | .ok false h1 => compGo t ts un test elt n (k + 1) acc a h1
        | .ok true h1 => match elt a2 h1 with
          | .ok w h2 => if acc.length < lim then compGo t ts un test elt n (k + 1) (acc ++ [w]) a h2 else .fail
          | _ => .fail
        | _ => .fail
def compL (t : Itr) (ts : List Nat) (un : Bool) (test : M Bool) (elt : M AV) : M (List AV) := fun a h => match t.lock true h with
  | none => .fail
  | some h0 => match compGo t ts un test elt (t.len h + 1) 0 [] a h0 with
    | .ok vs h1 => match t.lock false h1 with
      | some h2 => if vs.length ≤ lim then .ok vs h2 else .fail
      | none => .fail
    | _ => .fail
def itL (h : AH) : AV → Option It0
  | .fl xs => some (.pure xs)
  | .ref i => match h[i]? with
    | some (.lst _) => some (.lref i)
    | _ => none
  | _ => none
def mkI (k : IK) (vs : List AV) : H1 Itr := fun h => match k, vs with
  | .val, [v] => (it0 v h).map .one
  | .range, [.int j] => if -lim ≤ j ∧ j ≤ lim then .ok (.one (.pure (rangeL 0 j))) h else .fail
  | .range, [.int i, .int j] => if (-lim ≤ i ∧ i ≤ lim) ∧ -lim ≤ j ∧ j ≤ lim then .ok (.one (.pure (rangeL i j))) h else .fail
  | .enum, [v] => match itL h v with
    | some t => .ok (.enum t) h
    | none => .fail
  | .zip, [v, w] => match itL h v, itL h w with
    | some t, some u => .ok (.zip t u) h
    | _, _ => match tupOf v, tupOf w with
      | some xs, some ys => .ok (.zip (.pure xs) (.pure ys)) h
      | _, _ => .fail
  | .keys, [.ref i] => match h[i]? with
    | some (.dct _ _ _) => .ok (.one (.dkeys i)) h
    | _ => .fail
  | .items, [.ref i] => match h[i]? with
    | some (.dct _ _ _) => .ok (.one (.ditems i)) h
    | _ => .fail
  | _, _ => .fail
/-- tuple(x): of a written tuple nothing is said -/
def notKt : AV → Bool
  | .kt _ => false
  | _ => true
/-- list(..), tuple(..) of a value, a range, a dict -/
def listOf (k : IK) (h : AH) (vs : List AV) : Option (List AV) := match k, vs with
  | .val, [v] => seqOf h v
  | .range, [.int j] => if -lim ≤ j ∧ j ≤ lim then some (rangeL 0 j) else none
  | .range, [.int i, .int j] => if (-lim ≤ i ∧ i ≤ lim) ∧ -lim ≤ j ∧ j ≤ lim then some (rangeL i j) else none
  | .keys, [.ref i] => match h[i]? with
    | some (.dct _ kvs _) => some (kvs.map (·.1))
    | _ => none
  | _, _ => none
def pairUp : List AV → Option (List (AV × AV))
  | [] => some []
  | k :: v :: r => (pairUp r).map ((k, v) :: ·)
  | [_] => none
def ltKey : AV → AV → Option Bool
  | .int i, .int j => some (decide (i < j))
  | .str a, .str b => some (ltL a b)
  | _, _ => none
/-- insertion by an order, stable -/
def insA (v : AV) : List AV → Option (List AV)
  | [] => some [v]
  | w :: r => match ltKey v w with
    | some true => some (v :: w :: r)
    | some false => (insA v r).map (w :: ·)
    | none => none
def sortA : List AV → Option (List AV)
  | [] => some []
  | v :: r => match sortA r with
    | some s => insA v s
    | none => none
def allB : List AV → Option (List Bool)
  | [] => some []
  | .bl b :: r => (allB r).map (b :: ·)
  | _ :: _ => none
def allI : List AV → Option (List Int)
  | [] => some []
  | .int b :: r => (allI r).map (b :: ·)
  | _ :: _ => none
def allS : List AV → Option (List (List Nat))
  | [] => some []
  | .str b :: r => (allS r).map (b :: ·)
  | _ :: _ => none
def maxI : Int → List Int → Int
  | m, [] => m
  | m, x :: r => maxI (if x > m then x else m) r
def minI : Int → List Int → Int
  | m, [] => m
  | m, x :: r => minI (if x < m then x else m) r
def lenV (h : AH) : AV → Option Nat
  | .str s => if s.length ≤ lim then some s.length else none
  | .tup xs => some xs.length
  | .kt xs => some xs.length
  | .fl xs => some xs.length
  | .ref i => match h[i]? with
    | some (.lst xs) => some xs.length
    | some (.dct false kvs false) => some kvs.length
    | _ => none
  | _ => none
def pairsOf : List AV → Option (List (AV × AV))
  | [] => some []
  | .tup [k, v] :: r => (pairsOf r).map ((k, v) :: ·)
  | _ :: _ => none
def dOf (l : List (AV × AV)) : List (AV × AV) := l.foldl (fun d p => dPut p.1 p.2 d) []
/-- built-in functions of values -/
def biF (G : Gm) (C : Callee) (b : BI) (vs : List AV) : H1 AV := fun h => match b, vs with
  | .len, [x] => match clsOf h x with
    | some c => match G.meth c nLen with
      | some k => C k [x] [] h
      | none => .fail
    | none => match lenV h x with
      | some n => .ok (.int n) h
      | none => .fail
  | .int, [.int i] => .ok (.int i) h
  | .int, [.bl b] => .ok (.int (b2i b)) h
  | .str, [.int i] => if i.natAbs.log2 < 1920 then .ok (.str (strI i)) h else .fail
  | .fmt, [.int i] => if i.natAbs.log2 < 1920 then .ok (.str (strI i)) h else .fail
  | .fmt, [.str s] => if s.length ≤ lim then .ok (.str s) h else .fail
  | .bool, [x] => match clsOf h x with
    | some c => match G.meth c nBool with
      | some k => C k [x] [] h
      | none => .fail
    | none => .fail
  | .repr, [x] => match clsOf h x with
    | some c => match G.meth c nRepr with
      | some k => C k [x] [] h
      | none => .fail
    | none => .fail
  | .abs, [.int i] => .ok (.int (if i < 0 then -i else i)) h
  | .max, [.int i, .int j] => .ok (.int (if j > i then j else i)) h
  | .min, [.int i, .int j] => .ok (.int (if j < i then j else i)) h
  | .max, [x] => match (lstOf h x).bind allI with
    | some (m :: r) => .ok (.int (maxI m r)) h
    | _ => .fail
  | .min, [x] => match (lstOf h x).bind allI with
    | some (m :: r) => .ok (.int (minI m r)) h
    | _ => .fail
  | .all, [x] => match (lstOf h x).bind allB with
    | some bs => .ok (.bl (bs.all id)) h
    | none => .fail
  | .any, [x] => match (lstOf h x).bind allB with
    | some bs => .ok (.bl (bs.any id)) h
    | none => .fail
  | .sorted, [x] => match (lstOf h x).bind sortA with
    | some ys => if ys.length < 64 then newL ys h else .fail
    | none => .fail
  | .dict, [x] => match (lstOf h x).bind pairsOf with
    | some ps => if ps.length ≤ lim ∧ ps.all (fun p => isKey1 p.1) = true then new (.dct false (dOf ps) false) h else .fail
    | none => .fail
  | _, _ => .fail
def joinL (sep : List Nat) : List (List Nat) → List Nat
  | [] => []
  | [x] => x
  | x :: y :: r => x ++ (sep ++ joinL sep (y :: r))
def splitL (sep : List Nat) (fuel : Nat) (cur : List Nat) (s : List Nat) : List (List Nat) := match fuel, s with
  | 0, _ => [cur ++ s]
  | _, [] => [cur]
  | f + 1, c :: r => if sep.isPrefixOf (c :: r) then cur :: splitL sep f [] ((c :: r).drop sep.length) else splitL sep f (cur ++ [c]) r
/-- methods of built-in types -/
def bmF (m : BM) (o : AV) (vs : List AV) : H1 AV := fun h => match m, o, vs with
  | .append, .ref r, [v] => match h[r]? with
    | some (.lst xs) => if xs.length < lim then .ok .non (h.set r (.lst (xs ++ [v]))) else .fail
    | _ => .fail
  | .insert, .ref r, [.int i, v] => match h[r]? with
    | some (.lst xs) => if xs.length < lim ∧ 0 ≤ i ∧ i < lim then .ok .non (h.set r (.lst (xs.take i.toNat ++ [v] ++ xs.drop i.toNat))) else .fail
    | _ => .fail
  | .extend, .ref r, [.ref q] => match h[r]?, h[q]? with
    | some (.lst xs), some (.lst ys) => if xs.length + ys.length ≤ lim then .ok .non (h.set r (.lst (xs ++ ys))) else .fail
    | _, _ => .fail
  | .pop, .ref r, [] => match h[r]? with
    | some (.lst xs) => match xs[xs.length - 1]? with
      | some v => .ok v (h.set r (.lst xs.dropLast))
      | none => .fail
    | _ => .fail
  | .clear, .ref r, [] => match h[r]? with
    | some (.lst _) => .ok .non (h.set r (.lst []))
    | _ => .fail
  | .get, .ref r, [k, d] => match h[r]? with
    | some (.dct false kvs _) => if isKey1 k then .ok ((dGet k kvs).getD d) h else .fail
    | _ => .fail
  | .join, .str s, [x] => match (seqOf h x).bind allS with
    | some ys => if (ys.map (·.length)).sum + ys.length * s.length ≤ lim then .ok (.str (joinL s ys)) h else .fail
    | none => .fail
  | .split, .str s, [.str t] => if t.length = 1 ∧ s.length + 2 ≤ lim then newL ((splitL t (s.length + 1) [] s).map .str) h else .fail
  | .startswith, .str s, [.str t] => .ok (.bl (t.isPrefixOf s)) h
  | _, _, _ => .fail
/-- what a built-in type's method is asked of -/
def bmTy (m : BM) (h : AH) (v : AV) : Bool := match m, v with
  | .join, .str _ => true
  | .split, .str _ => true
  | .startswith, .str _ => true
  | .join, _ => false
  | .split, _ => false
  | .startswith, _ => false
  | .get, .ref i => match h[i]? with
    | some (.dct _ _ _) => true
    | _ => false
  | .setdefault, .ref i => match h[i]? with
    | some (.dct _ _ _) => true
    | _ => false
  | .get, _ => false
  | .setdefault, _ => false
  | _, .ref i => match h[i]? with
    | some (.lst _) => true
    | _ => false
  | _, _ => false
/-- isinstance is asked of such -/
def isiOk (G : Gm) (h : AH) : AV → Bool
  | .ref i => match h[i]? with
    | some (.lst _) => true
    | some (.dct _ _ lk) => !lk
    | some (.ins c _) => (G.cls.lookup c).isSome
    | none => false
  | _ => true
/-- the fields of an error that is made -/
def excF (p : List Nat × Option Nat) (vs : List AV) : Option (List (Nat × AV)) := match p.2, vs with
  | none, [] => some [(nCode, .str p.1)]
  | some a, [v] => some [(nCode, .str p.1), (a, v)]
  | _, _ => none
mutual
def evE (G : Gm) (C : Callee) : CE → M AV
  | .loc i => fun a h => match a[i]? with
    | some (some v) => .ok v h
    | _ => .fail
  | .con v => mp v
  | .glo g => fun _ h => match G.cons.lookup g with
    | some v => .ok v h
    | none => .fail
  | .bin o x y => mb (evE G C x) fun v => mb (evE G C y) fun w => lift (bopC G C o v w)
  | .neg x => mb (evE G C x) fun v => match v with
    | .int i => mp (.int (-i))
    | _ => mf
  | .not x => mb (evE G C x) fun v => mb (asB v) fun b => mp (.bl (!b))
  | .and x y => mb (evE G C x) fun v => mb (asB v) fun b => if b then evE G C y else mp (.bl false)
  | .or x y => mb (evE G C x) fun v => mb (asB v) fun b => if b then mp (.bl true) else evE G C y
  | .isN x => mb (evE G C x) fun v => match v with
    | .non => mp (.bl true)
    | _ => mp (.bl false)
  | .notN x => mb (evE G C x) fun v => match v with
    | .non => mp (.bl false)
    | _ => mp (.bl true)
  | .cmp o x y => mb (evE G C x) fun v => mb (evE G C y) fun w => mb (lift (cmpC G C o v w)) fun b => mp (.bl b)
  | .cmp2 o o2 x y z => mb (evE G C x) fun v => mb (evE G C y) fun w => mb (lift (cmpB o v w)) fun b => if b then mb (evE G C z) fun u => mb (lift (cmpB o2 w u)) fun b => mp (.bl b) else mp (.bl false)
  | .ite t x y => mb (evE G C t) fun v => mb (asB v) fun b => if b then evE G C x else evE G C y
  | .lst es => mb (evEs G C es) fun vs => lift (newL vs)
  | .tup es => mb (evEs G C es) fun vs => if vs.length ≤ lim then mp (.tup vs) else mf
  | .star _ => mf
  | .dct tk kvs => mb (evEs G C kvs) fun vs => match pairUp vs with
    | some ps => if ps.all (fun p => keyOk tk p.1) then lift (new (.dct tk (dOf ps) false)) else mf
    | none => mf
  | .fst es => evF G C es []
  | .idx x i => mb (evE G C x) fun v => mb (evE G C i) fun w => lift (subI v w)
  | .slc x lo hi => mb (evE G C x) fun v => mb (evO G C lo) fun l => mb (evO G C hi) fun r => lift (slice v l r)
  | .rev x => mb (evE G C x) fun v => lift (revL v)
  | .isi x ts => mb (evE G C x) fun v => fun _ h => if isiOk G h v then .ok (.bl (ts.any fun t => hasTy G h v t)) h else .fail
  | .bi b es => mb (evEs G C es) fun vs => lift (biF G C b vs)
  | .bm m x es => mb (evE G C x) fun v => fun a h => if bmTy m h v then (mb (evEs G C es) fun vs => lift (bmF m v vs)) a h else .fail
  | .call f es ks vs => mb (evEs G C es) fun ws => mb (evEs G C vs) fun us => lift (C (0, f) ws (ks.zip us))
  | .mk c es ks vs => mb (evEs G C es) fun ws => mb (evEs G C vs) fun us => fun _ h => match (G.cls.lookup c).bind (·.init) with
    | some k => match C k (.ref h.length :: ws) (ks.zip us) (h ++ [.ins c []]) with
      | .ok .non h2 => .ok (.ref h.length) h2
      | .exc c fs h2 => .exc c fs h2
      | _ => .fail
    | none => .fail
  | .meth m x es ks vs => mb (evE G C x) fun v => fun a h => match clsOf h v with
    | some c => match G.meth c m with
      | some k => (mb (evEs G C es) fun ws => mb (evEs G C vs) fun us => lift (C k (v :: ws) (ks.zip us))) a h
      | none => .fail
    | none => .fail
  | .smeth c m es => fun a h => match (G.cls.lookup c).bind fun k => k.stats.lookup m with
    | some k => (mb (evEs G C es) fun ws => lift (C k ws [])) a h
    | none => .fail
  | .attr x n => mb (evE G C x) fun v => lift (getA G C v n)
  | .cattr c n => fun _ h => match (G.cls.lookup c).bind fun k => k.cons.lookup n with
    | some v => .ok v h
    | none => .fail
  | .lis k es => mb (evEs G C es) fun vs => fun _ h => match listOf k h vs with
    | some vs => newL vs h
    | none => .fail
  | .tpl k es => mb (evEs G C es) fun vs => fun _ h => match listOf k h vs with
    | some xs => if xs.length ≤ lim ∧ vs.all notKt = true then .ok (.tup xs) h else .fail
    | none => .fail
  | .lcomp ts un k it cs e => mb (evEs G C it) fun vs => mb (lift (mkI k vs)) fun t => mb (compL t ts un (evT G C cs) (evE G C e)) fun vs => lift (newL vs)
  | .dcomp tk ts un k it cs u e => mb (evEs G C it) fun vs => mb (lift (mkI k vs)) fun t => mb (compL t ts un (evT G C cs) (mb (evE G C u) fun u => mb (evE G C e) fun v => if keyOk tk u then mp (.tup [u, v]) else mf)) fun vs => lift (match pairsOf vs with
    | some ps => new (.dct tk (dOf ps) false)
    | none => fun _ => .fail)
def evEs (G : Gm) (C : Callee) : List CE → M (List AV)
  | [] => mp []
  | .star e :: r => mb (evE G C e) fun v => fun a h => match seqOf h v with
    | some xs => (mb (evEs G C r) fun vs => mp (xs ++ vs)) a h
    | none => .fail
  | e :: r => mb (evE G C e) fun v => mb (evEs G C r) fun vs => mp (v :: vs)
/-- the parts of an f-string -/
def evF (G : Gm) (C : Callee) : List CE → List Nat → M AV
  | [], acc => mp (.str acc)
  | e :: r, acc => mb (evE G C e) fun v => match v with
    | .str s => if acc.length + s.length ≤ lim then evF G C r (acc ++ s) else mf
    | _ => mf
def evO (G : Gm) (C : Callee) : Option CE → M (Option Int)
  | none => mp none
  | some e => mb (evE G C e) fun v => match v with
    | .int i => mp (some i)
    | _ => mf
/-- all tests hold, from the left -/
def evT (G : Gm) (C : Callee) : List CE → M Bool
  | [] => mp true
  | e :: r => mb (evE G C e) fun v => mb (asB v) fun b => if b then evT G C r else mp false
end

/-! ### statements -/
inductive SR where
  | nx (a : Lc) (h : AH) | rt (v : AV) (h : AH) | ct (a : Lc) (h : AH)
  | exc (c : Nat) (fs : List (Nat × AV)) (a : Lc) (h : AH)
  | fail
abbrev SM := Lc → AH → SR
@[reducible] def ms {α : Type} (m : M α) (f : α → SM) : SM := fun a h => match m a h with
  | .ok v h1 => f v a h1
  | .exc c fs h1 => .exc c fs a h1
  | .fail => .fail
@[reducible] def ss (m : SM) (f : SM) : SM := fun a h => match m a h with
  | .nx a1 h1 => f a1 h1
  | r => r
/-- targets set -/
def stT (ts : List Nat) (un : Bool) (v : AV) : SM := fun a h => match setTg ts un v a with
  | some a1 => .nx a1 h
  | none => .fail
def stP (ts : List Nat) (vs : List AV) : SM := fun a h => match setTs ts vs a with
  | some a1 => .nx a1 h
  | none => .fail
/-- x op= y -/
def augB (o : Op2) (x y : AV) : H1 AV := fun h => match o, x, y with
  | .add, .int i, .int j => .ok (.int (i + j)) h
  | .sub, .int i, .int j => .ok (.int (i - j)) h
  | .add, .str a, .str b => if a.length + b.length ≤ lim then .ok (.str (a ++ b)) h else .fail
  | _, _, _ => .fail
def setG (G : Gm) (C : Callee) (t : TgC) (v : AV) : SM := match t with
  | .loc i => fun a h => if i < a.length then .nx (a.set i (some v)) h else .fail
  | .attr o n => ms (evE G C o) fun x => fun a h => match setA x n v h with
    | .ok _ h1 => .nx a h1
    | _ => .fail
  | .idx o i => ms (evE G C o) fun x => ms (evE G C i) fun j => fun a h => match setI x j v h with
    | .ok _ h1 => .nx a h1
    | _ => .fail
  | .tup is none => stT is true v
  | .tup is (some k) => fun a h => match seqOf h v with
    | some xs => if is.length ≤ xs.length + 1 ∧ k < is.length then
        match setTs is (xs.take k ++ [.ref h.length] ++ xs.drop (xs.length + k + 1 - is.length)) a with
        | some a1 => .nx a1 (h ++ [.lst ((xs.take (xs.length + k + 1 - is.length)).drop k)])
        | none => .fail
      else .fail
    | none => .fail
/-- the turns of a for -/
def forGo (t : Itr) (ts : List Nat) (un : Bool) (body : SM) : Nat → Nat → SM
  | 0, _ => fun _ _ => .fail
  | n + 1, k => fun a h => match t.at h k with
    | none => .fail
    | some none => .nx a h
    | some (some v) => match setTg ts un v a with
      | none => .fail
      | some a1 => match body a1 h with
        | .nx a2 h2 => forGo t ts un body n (k + 1) a2 h2
        | .ct a2 h2 => forGo t ts un body n (k + 1) a2 h2
        | r => r
def SR.unlock (t : Itr) : SR → SR
  | .nx a h => match t.lock false h with
    | some h1 => .nx a h1
    | none => .fail
  | .rt v h => match t.lock false h with
    | some h1 => .rt v h1
    | none => .fail
  | .ct a h => match t.lock false h with
    | some h1 => .ct a h1
    | none => .fail
  | .exc c fs a h => match t.lock false h with
    | some h1 => .exc c fs a h1
    | none => .fail
  | .fail => .fail
def forL (t : Itr) (ts : List Nat) (un : Bool) (body : SM) : SM := fun a h => match t.lock true h with
  | none => .fail
  | some h0 => (forGo t ts un body (t.len h + 1) 0 a h0).unlock t
/-- a while, n turns at most: none where they do not do -/
def whlN (test : M Bool) (body : SM) : Nat → Lc → AH → Option SR
  | 0, _, _ => none
  | n + 1, a, h => match test a h with
    | .ok true h1 => match body a h1 with
      | .nx a2 h2 => whlN test body n a2 h2
      | .ct a2 h2 => whlN test body n a2 h2
      | r => some r
    | .ok false h1 => some (.nx a h1)
    | .exc c fs h1 => some (.exc c fs a h1)
    | .fail => some .fail
open Classical in
noncomputable def whl (test : M Bool) (body : SM) : SM := fun a h => if e : ∃ n r, whlN test body n a h = some r then e.choose_spec.choose else .fail
theorem whlN_mono {test : M Bool} {body : SM} : ∀ {n m : Nat} {a : Lc} {h : AH} {r : SR}, whlN test body n a h = some r → n ≤ m → whlN test body m a h = some r
  | 0, _, _, _, _, e, _ => by cases e
  | n + 1, 0, _, _, _, _, l => absurd l (Nat.not_succ_le_zero n)
  | n + 1, m + 1, a, h, r, e, l => by
    unfold whlN at e ⊢
    cases q : test a h with
    | ok b h1 =>
      rw [q] at e
      cases b with
      | false => exact e
      | true =>
        cases q2 : body a h1 with
        | nx a2 h2 =>
          simp only [q2] at e ⊢
          exact whlN_mono e (Nat.le_of_succ_le_succ l)
        | ct a2 h2 =>
          simp only [q2] at e ⊢
          exact whlN_mono e (Nat.le_of_succ_le_succ l)
        | rt v h2 =>
          simp only [q2] at e ⊢
          exact e
        | exc c fs a2 h2 =>
          simp only [q2] at e ⊢
          exact e
        | fail =>
          simp only [q2] at e ⊢
          exact e
    | exc c fs h1 =>
      rw [q] at e
      exact e
    | fail =>
      rw [q] at e
      exact e
theorem whl_of {test : M Bool} {body : SM} {n : Nat} {a : Lc} {h : AH} {r : SR} (e : whlN test body n a h = some r) : whl test body a h = r := by
  unfold whl
  have ex : ∃ n r, whlN test body n a h = some r := ⟨n, r, e⟩
  rw [dif_pos ex]
  have s := ex.choose_spec.choose_spec
  have s1 := whlN_mono s (Nat.le_max_left ex.choose n)
  have s2 := whlN_mono e (Nat.le_max_right ex.choose n)
  rw [s1] at s2
  exact Option.some.inj s2
mutual
noncomputable def evS (G : Gm) (C : Callee) : CS → SM
  | .set t e => ms (evE G C e) fun v => setG G C t v
  | .par is es => ms (evEs G C es) fun vs => stP is vs
  | .augl i o e => ms (evE G C (.loc i)) fun x => ms (evE G C e) fun y => ms (lift (augB o x y)) fun v => setG G C (.loc i) v
  | .auga x n o e => ms (evE G C x) fun p => ms (lift (getA G C p n)) fun u => ms (evE G C e) fun y => ms (lift (augB o u y)) fun v => fun a h => match setA p n v h with
    | .ok _ h1 => .nx a h1
    | _ => .fail
  | .ex e => ms (evE G C e) fun _ => fun a h => .nx a h
  | .ret e => ms (evE G C e) fun v => fun _ h => .rt v h
  | .retn => fun _ h => .rt .non h
  | .ite t x y => ms (evT G C [t]) fun b => if b then evB G C x else evB G C y
  | .for ts un k it b => ms (evEs G C it) fun vs => ms (lift (mkI k vs)) fun t => forL t ts un (evB G C b)
  | .whl t b => whl (evT G C [t]) (evB G C b)
  | .cnt => fun a h => .ct a h
  | .pass => fun a h => .nx a h
  | .raise c es => ms (evEs G C es) fun vs => fun a h => match (G.excs.lookup c).bind fun p => excF p vs with
    | some fs => .exc c fs a h
    | none => .fail
noncomputable def evB (G : Gm) (C : Callee) : List CS → SM
  | [] => fun a h => .nx a h
  | s :: r => ss (evS G C s) (evB G C r)
end
/-- how arguments come to parameters: what is given by name or place, else the default -/
def orD : Option AV → Option AV → Option AV
  | some v, _ => some v
  | none, d => d
def valsOf (sl : List (Nat × AV)) : List (Nat × Option AV) → Option (List AV)
  | [] => some []
  | p :: r => match orD (sl.lookup p.1) p.2, valsOf sl r with
    | some v, some vs => some (v :: vs)
    | _, _ => none
/-- no name twice, none that is given already -/
def newKw (sl : List (Nat × AV)) : List (Nat × AV) → Bool
  | [] => true
  | p :: r => (sl.lookup p.1).isNone && newKw (sl ++ [p]) r
def Fn.pds (f : Fn) : List (Nat × Option AV) := f.ps.zip (List.replicate (f.ps.length - f.dfl.length) none ++ f.dfl.map some)
def Fn.bind (f : Fn) (vs : List AV) (kw : List (Nat × AV)) : Option (List AV) :=
  if kw.all (fun p => f.ps.contains p.1 || (f.kwo.map (·.1)).contains p.1) && newKw (f.ps.zip vs) kw && (f.va || decide (vs.length ≤ f.ps.length)) && decide (vs.length ≤ lim) then
    match valsOf (f.ps.zip vs ++ kw) (f.pds ++ f.kwo) with
    | some ws => some (ws ++ if f.va then [.tup (vs.drop f.ps.length)] else [])
    | none => none
  else none
/-- a call, k rooms -/
noncomputable def callAt (G : Gm) : Nat → Callee
  | 0 => fun _ _ _ _ => .fail
  | k + 1 => fun key vs kw h => match G.fns.lookup key with
    | none => .fail
    | some f => match f.bind vs kw with
      | none => .fail
      | some ws => match evB G (callAt G k) f.body (ws.map some ++ List.replicate (f.slots - ws.length) none) h with
        | .nx _ h1 => .ok .non h1
        | .rt v h1 => .ok v h1
        | .exc c fs _ h1 => .exc c fs h1
        | _ => .fail
end Br

set_option linter.all false
set_option Elab.async false
set_option autoImplicit false
set_option maxRecDepth 100000
set_option maxHeartbeats 2000000
/-! BrR: how the machine's state lies in the layer's. -/
namespace Br
open PySem PySem.Spec PyProof.Rows L2

abbrev sO (s : List Nat) : Str := ⟨s.toArray⟩
/-- what stands still for the whole law -/
structure Sx where
  P : Program
  w : World
  K : PySem.W.Frag
  mg : Str → Option Value
  base : Heap
  G : Gm
  /-- all names by number; a class's address, a def's address -/
  at_ : List Str
  cA : Nat → Addr
  fA : Key2 → Addr
def Sx.aN (S : Sx) (i : Nat) : Str := (S.at_[i]?).getD ⟨#[]⟩

/-- a written tuple; a list that stands still -/
def Kt (K : PySem.W.Frag) (a : Addr) (xs : List V) : Prop :=
  ∃ (o : Obj) (its : Array Value) (n : Nat), K.lookup a = some o ∧ o.cls = .type "tuple" ∧ o.data = .seq its n ∧ its.size ≤ sizeLine ∧ Vals xs its.toList
def Fz (K : PySem.W.Frag) (H : Hp) (a : Addr) (xs : List V) : Prop :=
  (∃ o, H a = some (.frz o (.lst xs))) ∨ ∃ (o : Obj) (its : Array Value) (n : Nat), K.lookup a = some o ∧ o.cls = .type "list" ∧ o.dict = none ∧ o.data = .seq its n ∧ its.size ≤ sizeLine ∧ Vals xs its.toList
theorem Kt.sqT {K : PySem.W.Frag} {H : Hp} {a : Addr} {xs : List V} (h : Kt K a xs) : SqT K H a xs := .inr h
theorem sqT_of {K : PySem.W.Frag} {H : Hp} {a : Addr} {xs : List V} (h : H a = some (.tup xs)) : SqT K H a xs := .inl (.inl h)
theorem Fz.sqL {K : PySem.W.Frag} {H : Hp} {a : Addr} {xs : List V} (h : Fz K H a xs) : SqL K H a xs := h.elim (fun h => .inl (.inr h)) .inr

mutual
/-- a value lies as x: mu where the objects are, n how many -/
def RA (K : PySem.W.Frag) (μ : Nat → Addr) (n : Nat) (H : Hp) : AV → V → Prop
  | .non, x => x = .non
  | .bl b, x => x = .bl b
  | .int i, x => x = .int i
  | .str s, x => x = .str (sO s)
  | .tup xs, x => ∃ a vs, x = .ref a ∧ H a = some (.tup vs) ∧ RAs K μ n H xs vs
  | .kt xs, x => ∃ a vs, x = .ref a ∧ Kt K a vs ∧ RAs K μ n H xs vs
  | .fl xs, x => ∃ a vs, x = .ref a ∧ Fz K H a vs ∧ RAs K μ n H xs vs
  | .ref i, x => i < n ∧ x = .ref (μ i)
def RAs (K : PySem.W.Frag) (μ : Nat → Addr) (n : Nat) (H : Hp) : List AV → List V → Prop
  | [], [] => True
  | x :: xs, y :: ys => RA K μ n H x y ∧ RAs K μ n H xs ys
  | [], _ :: _ => False
  | _ :: _, [] => False
end
/-- fields by name -/
def RF (S : Sx) (μ : Nat → Addr) (n : Nat) (H : Hp) : List (Nat × AV) → List (Str × V) → Prop
  | [], [] => True
  | p :: ps, q :: qs => S.aN p.1 = q.1 ∧ RA S.K μ n H p.2 q.2 ∧ RF S μ n H ps qs
  | [], _ :: _ => False
  | _ :: _, [] => False
/-- a dict's keys -/
def keyA : Key → AV
  | .inl i => .int i
  | .inr x => .str x.cps.toList
def RDk (S : Sx) (μ : Nat → Addr) (n : Nat) (H : Hp) : List (AV × AV) → List (Key × V) → Prop
  | [], [] => True
  | p :: ps, q :: qs => p.1 = keyA q.1 ∧ RA S.K μ n H p.2 q.2 ∧ RDk S μ n H ps qs
  | [], _ :: _ => False
  | _ :: _, [] => False
def RDt (S : Sx) (μ : Nat → Addr) (n : Nat) (H : Hp) : List (AV × AV) → List (List Key × V) → Prop
  | [], [] => True
  | p :: ps, q :: qs => p.1 = .tup (q.1.map keyA) ∧ RA S.K μ n H p.2 q.2 ∧ RDt S μ n H ps qs
  | [], _ :: _ => False
  | _ :: _, [] => False
def RD (S : Sx) (μ : Nat → Addr) (n : Nat) (H : Hp) (kvs : List (AV × AV)) (d : HO) : Bool → Prop
  | false => ∃ ks, d = .dK ks ∧ RDk S μ n H kvs ks
  | true => ∃ ks, d = .dT ks ∧ RDt S μ n H kvs ks
def RO (S : Sx) (μ : Nat → Addr) (n : Nat) (H : Hp) : AO → HO → Prop
  | .lst xs, o => ∃ vs, o = .lst vs ∧ RAs S.K μ n H xs vs
  | .dct tk kvs lk, o => ∃ d, (if lk = true then ∃ ob, o = .frz ob d else o = d) ∧ RD S μ n H kvs d tk
  | .ins c fs, o => ∃ dx gs, o = .ins (S.cA c) dx gs ∧ RF S μ n H fs gs
/-- the machine's heap lies in H -/
structure At (S : Sx) (μ : Nat → Addr) (h : AH) (H : Hp) : Prop where
  inj : ∀ i j, i < h.length → j < h.length → μ i = μ j → i = j
  obj : ∀ i o, h[i]? = some o → ∃ ho, H (μ i) = some ho ∧ RO S μ h.length H o ho
/-- tuples and frozen lists stay -/
structure Kp (H H' : Hp) : Prop where
  tup : ∀ a xs, H a = some (.tup xs) → H' a = some (.tup xs)
  frz : ∀ a o xs, H a = some (.frz o (.lst xs)) → H' a = some (.frz o (.lst xs))
theorem Kp.refl (H : Hp) : Kp H H := ⟨fun _ _ h => h, fun _ _ _ h => h⟩
theorem Kp.trans {H H1 H2 : Hp} (a : Kp H H1) (b : Kp H1 H2) : Kp H H2 := ⟨fun c xs h => b.tup c xs (a.tup c xs h), fun c o xs h => b.frz c o xs (a.frz c o xs h)⟩
structure Ext (μ : Nat → Addr) (n : Nat) (H : Hp) (μ' : Nat → Addr) (n' : Nat) (H' : Hp) : Prop where
  le : n ≤ n'
  mu : ∀ i, i < n → μ' i = μ i
  kp : Kp H H'
  /-- what the machine does not know stays -/
  fr : ∀ b o, H b = some o → (∀ i, i < n → μ i ≠ b) → H' b = some o
  nw : ∀ i, n ≤ i → i < n' → H (μ' i) = none
  st : ∀ b, H' b = none → H b = none
section
variable {K : PySem.W.Frag} {S : Sx} {μ μ' μ2 : Nat → Addr} {n n' n2 : Nat} {H H' H2 : Hp}
theorem Ext.refl : Ext μ n H μ n H := ⟨Nat.le_refl _, fun _ _ => rfl, Kp.refl H, fun _ _ h _ => h, fun i a b => absurd (Nat.lt_of_lt_of_le b a) (Nat.lt_irrefl _), fun _ h => h⟩
theorem Ext.trans (a : Ext μ n H μ' n' H') (b : Ext μ' n' H' μ2 n2 H2) : Ext μ n H μ2 n2 H2 := by
  refine ⟨Nat.le_trans a.le b.le, fun i hi => (b.mu i (Nat.lt_of_lt_of_le hi a.le)).trans (a.mu i hi), a.kp.trans b.kp, fun c o h k => ?_, fun i h1 h2 => ?_, fun c h => a.st c (b.st c h)⟩
  · refine b.fr c o (a.fr c o h k) fun i hi e => ?_
    by_cases h1 : i < n
    · rw [a.mu i h1] at e
      exact k i h1 e
    · have := a.nw i (by omega) hi
      rw [e, h] at this
      cases this
  · by_cases h3 : i < n'
    · rw [b.mu i h3]
      exact a.nw i h1 h3
    · exact a.st _ (b.nw i (by omega) h2)
theorem Fz.mono (k : Kp H H') {a : Addr} {xs : List V} (h : Fz K H a xs) : Fz K H' a xs := h.elim (fun ⟨o, h⟩ => .inl ⟨o, k.frz _ _ _ h⟩) .inr
structure Ex0 (μ : Nat → Addr) (n : Nat) (H : Hp) (μ' : Nat → Addr) (n' : Nat) (H' : Hp) : Prop where
  le : n ≤ n'
  mu : ∀ i, i < n → μ' i = μ i
  kp : Kp H H'
theorem Ext.e0 (e : Ext μ n H μ' n' H') : Ex0 μ n H μ' n' H' := ⟨e.le, e.mu, e.kp⟩
mutual
theorem RA.mono0 (e : Ex0 μ n H μ' n' H') : ∀ {v : AV} {x : V}, RA K μ n H v x → RA K μ' n' H' v x
  | .non, x, h => by rw [RA] at h ⊢; exact h
  | .bl _, x, h => by rw [RA] at h ⊢; exact h
  | .int _, x, h => by rw [RA] at h ⊢; exact h
  | .str _, x, h => by rw [RA] at h ⊢; exact h
  | .tup xs, x, h => by
    rw [RA] at h ⊢
    obtain ⟨a, vs, e1, t, r⟩ := h
    exact ⟨a, vs, e1, e.kp.tup _ _ t, RAs.mono0 e r⟩
  | .kt xs, x, h => by
    rw [RA] at h ⊢
    obtain ⟨a, vs, e1, t, r⟩ := h
    exact ⟨a, vs, e1, t, RAs.mono0 e r⟩
  | .fl xs, x, h => by
    rw [RA] at h ⊢
    obtain ⟨a, vs, e1, t, r⟩ := h
    exact ⟨a, vs, e1, t.mono e.kp, RAs.mono0 e r⟩
  | .ref i, x, h => by
    rw [RA] at h ⊢
    exact ⟨Nat.lt_of_lt_of_le h.1 e.le, by rw [e.mu i h.1]; exact h.2⟩
theorem RAs.mono0 (e : Ex0 μ n H μ' n' H') : ∀ {vs : List AV} {xs : List V}, RAs K μ n H vs xs → RAs K μ' n' H' vs xs
  | [], [], h => by rw [RAs]; trivial
  | v :: vs, x :: xs, h => by
    rw [RAs] at h ⊢
    exact ⟨RA.mono0 e h.1, RAs.mono0 e h.2⟩
  | [], _ :: _, h => by rw [RAs] at h; exact h.elim
  | _ :: _, [], h => by rw [RAs] at h; exact h.elim
end
theorem RA.mono (e : Ext μ n H μ' n' H') {v : AV} {x : V} (r : RA K μ n H v x) : RA K μ' n' H' v x := r.mono0 e.e0
theorem RAs.mono (e : Ext μ n H μ' n' H') {v : List AV} {x : List V} (r : RAs K μ n H v x) : RAs K μ' n' H' v x := r.mono0 e.e0
theorem RAs.nil : RAs K μ n H [] [] := by rw [RAs]; trivial
theorem RAs.cons {v : AV} {x : V} {vs : List AV} {xs : List V} (a : RA K μ n H v x) (b : RAs K μ n H vs xs) : RAs K μ n H (v :: vs) (x :: xs) := by rw [RAs]; exact ⟨a, b⟩
theorem RAs.of_nil {xs : List V} (h : RAs K μ n H [] xs) : xs = [] := by
  cases xs with
  | nil => rfl
  | cons y ys => rw [RAs] at h; exact h.elim
theorem RAs.of_cons {v : AV} {vs : List AV} {xs : List V} (h : RAs K μ n H (v :: vs) xs) : ∃ y ys, xs = y :: ys ∧ RA K μ n H v y ∧ RAs K μ n H vs ys := by
  cases xs with
  | nil => rw [RAs] at h; exact h.elim
  | cons y ys => rw [RAs] at h; exact ⟨y, ys, rfl, h.1, h.2⟩
theorem RAs.length : ∀ {vs : List AV} {xs : List V}, RAs K μ n H vs xs → vs.length = xs.length
  | [], xs, h => by rw [h.of_nil]; rfl
  | v :: vs, xs, h => by
    obtain ⟨y, ys, rfl, _, h2⟩ := h.of_cons
    rw [List.length_cons, List.length_cons, h2.length]
theorem RAs.append : ∀ {vs ws : List AV} {xs ys : List V}, RAs K μ n H vs xs → RAs K μ n H ws ys → RAs K μ n H (vs ++ ws) (xs ++ ys)
  | [], ws, xs, ys, a, b => by rw [a.of_nil]; exact b
  | v :: vs, ws, xs, ys, a, b => by
    obtain ⟨y, zs, rfl, h1, h2⟩ := a.of_cons
    exact .cons h1 (RAs.append h2 b)
theorem RAs.take : ∀ {vs : List AV} {xs : List V} (k : Nat), RAs K μ n H vs xs → RAs K μ n H (vs.take k) (xs.take k)
  | vs, xs, 0, _ => by rw [List.take_zero, List.take_zero]; exact .nil
  | [], xs, k + 1, a => by rw [a.of_nil]; exact .nil
  | v :: vs, xs, k + 1, a => by
    obtain ⟨y, zs, rfl, h1, h2⟩ := a.of_cons
    exact .cons h1 (RAs.take k h2)
theorem RAs.drop : ∀ {vs : List AV} {xs : List V} (k : Nat), RAs K μ n H vs xs → RAs K μ n H (vs.drop k) (xs.drop k)
  | vs, xs, 0, a => a
  | [], xs, k + 1, a => by rw [a.of_nil]; exact .nil
  | v :: vs, xs, k + 1, a => by
    obtain ⟨y, zs, rfl, h1, h2⟩ := a.of_cons
    exact RAs.drop k h2
theorem RAs.get : ∀ {vs : List AV} {xs : List V} {k : Nat} {v : AV}, RAs K μ n H vs xs → vs[k]? = some v → ∃ x, xs[k]? = some x ∧ RA K μ n H v x
  | [], _, _, _, _, e => by simp at e
  | v :: vs, xs, 0, w, a, e => by
    obtain ⟨y, zs, rfl, h1, h2⟩ := a.of_cons
    have e2 : v = w := Option.some.inj e
    subst e2
    exact ⟨y, rfl, h1⟩
  | v :: vs, xs, k + 1, w, a, e => by
    obtain ⟨y, zs, rfl, h1, h2⟩ := a.of_cons
    exact RAs.get (k := k) h2 e
theorem RAs.set {v : AV} {x : V} (r : RA K μ n H v x) : ∀ {vs : List AV} {xs : List V} (k : Nat), RAs K μ n H vs xs → RAs K μ n H (vs.set k v) (xs.set k x)
  | [], xs, k, a => by rw [a.of_nil]; exact .nil
  | w :: vs, xs, 0, a => by
    obtain ⟨y, zs, rfl, h1, h2⟩ := a.of_cons
    exact .cons r h2
  | w :: vs, xs, k + 1, a => by
    obtain ⟨y, zs, rfl, h1, h2⟩ := a.of_cons
    exact .cons h1 (RAs.set r k h2)
theorem RF.mono0 (e : Ex0 μ n H μ' n' H') : ∀ {fs : List (Nat × AV)} {gs : List (Str × V)}, RF S μ n H fs gs → RF S μ' n' H' fs gs
  | [], [], h => by rw [RF]; trivial
  | p :: fs, q :: gs, h => by
    rw [RF] at h ⊢
    exact ⟨h.1, h.2.1.mono0 e, RF.mono0 e h.2.2⟩
  | [], _ :: _, h => by rw [RF] at h; exact h.elim
  | _ :: _, [], h => by rw [RF] at h; exact h.elim
theorem RDk.mono0 (e : Ex0 μ n H μ' n' H') : ∀ {fs : List (AV × AV)} {gs : List (Key × V)}, RDk S μ n H fs gs → RDk S μ' n' H' fs gs
  | [], [], h => by rw [RDk]; trivial
  | p :: fs, q :: gs, h => by
    rw [RDk] at h ⊢
    exact ⟨h.1, h.2.1.mono0 e, RDk.mono0 e h.2.2⟩
  | [], _ :: _, h => by rw [RDk] at h; exact h.elim
  | _ :: _, [], h => by rw [RDk] at h; exact h.elim
theorem RDt.mono0 (e : Ex0 μ n H μ' n' H') : ∀ {fs : List (AV × AV)} {gs : List (List Key × V)}, RDt S μ n H fs gs → RDt S μ' n' H' fs gs
  | [], [], h => by rw [RDt]; trivial
  | p :: fs, q :: gs, h => by
    rw [RDt] at h ⊢
    exact ⟨h.1, h.2.1.mono0 e, RDt.mono0 e h.2.2⟩
  | [], _ :: _, h => by rw [RDt] at h; exact h.elim
  | _ :: _, [], h => by rw [RDt] at h; exact h.elim
theorem RD.mono0 (e : Ex0 μ n H μ' n' H') {kvs : List (AV × AV)} {d : HO} : ∀ {tk : Bool}, RD S μ n H kvs d tk → RD S μ' n' H' kvs d tk
  | false, ⟨ks, a, b⟩ => ⟨ks, a, b.mono0 e⟩
  | true, ⟨ks, a, b⟩ => ⟨ks, a, b.mono0 e⟩
theorem RO.mono0 (e : Ex0 μ n H μ' n' H') {o : AO} {ho : HO} (h : RO S μ n H o ho) : RO S μ' n' H' o ho := by
  cases o with
  | lst xs =>
    obtain ⟨vs, a, b⟩ := h
    exact ⟨vs, a, b.mono0 e⟩
  | dct tk kvs lk =>
    obtain ⟨d, a, b⟩ := h
    exact ⟨d, a, b.mono0 e⟩
  | ins c fs =>
    obtain ⟨dx, gs, a, b⟩ := h
    exact ⟨dx, gs, a, b.mono0 e⟩
theorem RF.mono (e : Ext μ n H μ' n' H') {fs : List (Nat × AV)} {gs : List (Str × V)} (r : RF S μ n H fs gs) : RF S μ' n' H' fs gs := r.mono0 e.e0
theorem RD.mono (e : Ext μ n H μ' n' H') {kvs : List (AV × AV)} {d : HO} {tk : Bool} (r : RD S μ n H kvs d tk) : RD S μ' n' H' kvs d tk := r.mono0 e.e0
theorem RO.mono (e : Ext μ n H μ' n' H') {o : AO} {ho : HO} (r : RO S μ n H o ho) : RO S μ' n' H' o ho := r.mono0 e.e0
theorem RO.mono' {o : AO} {ho : HO} (r : RO S μ n H o ho) (le : n ≤ n') (mu : ∀ i, i < n → μ' i = μ i) (kp : Kp H H') : RO S μ' n' H' o ho := r.mono0 ⟨le, mu, kp⟩
end
section
variable {S : Sx} {μ : Nat → Addr} {h : AH} {H : Hp}
/-- where the next object lies -/
def muS (μ : Nat → Addr) (n : Nat) (p : Addr) : Nat → Addr := fun i => if i = n then p else μ i
theorem muS_at {n : Nat} {p : Addr} : muS μ n p n = p := if_pos rfl
theorem muS_lt {n i : Nat} {p : Addr} (h : i < n) : muS μ n p i = μ i := if_neg (Nat.ne_of_lt h)
theorem Kp.upd_new {H : Hp} {p : Addr} {o : HO} (hp : H p = none) : Kp H (upd H p o) :=
  ⟨fun a xs e => by rw [upd_ne (ne_of_none e hp)]; exact e, fun a ob xs e => by rw [upd_ne (ne_of_none e hp)]; exact e⟩
theorem At.lt (A : At S μ h H) {i : Nat} (hi : i < h.length) : ∃ ho, H (μ i) = some ho := by
  obtain ⟨ho, e, _⟩ := A.obj i h[i] (List.getElem?_eq_getElem hi)
  exact ⟨ho, e⟩
theorem st_upd {H : Hp} {p : Addr} {o : HO} (b : Addr) (h : upd H p o b = none) : H b = none := by
  by_cases e : b = p
  · subst e
    rw [upd_same] at h
    cases h
  · rw [upd_ne e] at h
    exact h
theorem At.free {p : Addr} (A : At S μ h H) (hp : H p = none) {i : Nat} (hi : i < h.length) : μ i ≠ p := fun e => by
  obtain ⟨ho, q⟩ := A.lt hi
  rw [e, hp] at q
  cases q
theorem Ext.side {p : Addr} {o : HO} {n : Nat} (hp : H p = none) : Ext μ n H μ n (upd H p o) :=
  ⟨Nat.le_refl _, fun _ _ => rfl, Kp.upd_new hp, fun b u e _ => by rw [upd_ne (ne_of_none e hp)]; exact e, fun i a b => absurd (Nat.lt_of_lt_of_le b a) (Nat.lt_irrefl _), st_upd⟩
/-- an object beside (a tuple, a dict of an instance) -/
theorem At.side {p : Addr} {o : HO} (A : At S μ h H) (hp : H p = none) : At S μ h (upd H p o) := by
  refine ⟨A.inj, fun i u e => ?_⟩
  obtain ⟨ho, e1, r⟩ := A.obj i u e
  have hi : i < h.length := (List.getElem?_eq_some_iff.mp e).1
  exact ⟨ho, by rw [upd_ne (A.free hp hi)]; exact e1, r.mono (Ext.side hp)⟩
/-- an object that stands beside is taken in -/
theorem At.adopt {p : Addr} {o : AO} {ho : HO} (A : At S μ h H) (hp : H p = some ho) (hn : ∀ i, i < h.length → μ i ≠ p) (r : RO S μ h.length H o ho) : At S (muS μ h.length p) (h ++ [o]) H := by
  have len : (h ++ [o]).length = h.length + 1 := by rw [List.length_append]; rfl
  have up : ∀ {u : AO} {hu : HO}, RO S μ h.length H u hu → RO S (muS μ h.length p) (h ++ [o]).length H u hu := fun {u hu} r => by
    -- only the addresses of the elder objects matter
    exact r.mono' (by rw [len]; exact Nat.le_succ _) (fun i hi => muS_lt hi) (Kp.refl H)
  refine ⟨fun i j hi hj e => ?_, fun i u e => ?_⟩
  · rw [len] at hi hj
    by_cases h1 : i < h.length
    · by_cases h2 : j < h.length
      · rw [muS_lt h1, muS_lt h2] at e
        exact A.inj i j h1 h2 e
      · have ej : j = h.length := by omega
        rw [muS_lt h1, ej, muS_at] at e
        exact absurd e (hn i h1)
    · have ei : i = h.length := by omega
      by_cases h2 : j < h.length
      · rw [muS_lt h2, ei, muS_at] at e
        exact absurd e.symm (hn j h2)
      · omega
  · by_cases h1 : i < h.length
    · rw [List.getElem?_append_left h1] at e
      obtain ⟨hu, e1, r1⟩ := A.obj i u e
      exact ⟨hu, by rw [muS_lt h1]; exact e1, up r1⟩
    · have hi : i < (h ++ [o]).length := (List.getElem?_eq_some_iff.mp e).1
      have ei : i = h.length := by rw [len] at hi; omega
      subst ei
      rw [List.getElem?_append_right (Nat.le_refl _), Nat.sub_self] at e
      have eo : o = u := Option.some.inj e
      subst eo
      exact ⟨ho, by rw [muS_at]; exact hp, up r⟩
/-- a new object -/
theorem At.alloc {p : Addr} {o : AO} {ho : HO} (A : At S μ h H) (hp : H p = none) (r : RO S μ h.length H o ho) :
    At S (muS μ h.length p) (h ++ [o]) (upd H p ho) ∧ Ext μ h.length H (muS μ h.length p) (h ++ [o]).length (upd H p ho) := by
  have len : (h ++ [o]).length = h.length + 1 := by rw [List.length_append]; rfl
  have E : Ext μ h.length H (muS μ h.length p) (h ++ [o]).length (upd H p ho) :=
    ⟨by rw [len]; exact Nat.le_succ _, fun i hi => muS_lt hi, Kp.upd_new hp, fun b u e _ => by rw [upd_ne (ne_of_none e hp)]; exact e, fun i a b => by
      rw [len] at b
      have ei : i = h.length := by omega
      rw [ei, muS_at]
      exact hp, st_upd⟩
  refine ⟨⟨fun i j hi hj e => ?_, fun i u e => ?_⟩, E⟩
  · rw [len] at hi hj
    by_cases h1 : i < h.length
    · by_cases h2 : j < h.length
      · rw [muS_lt h1, muS_lt h2] at e
        exact A.inj i j h1 h2 e
      · have ej : j = h.length := by omega
        rw [muS_lt h1, ej, muS_at] at e
        exact absurd e (A.free hp h1)
    · have ei : i = h.length := by omega
      by_cases h2 : j < h.length
      · rw [muS_lt h2, ei, muS_at] at e
        exact absurd e.symm (A.free hp h2)
      · omega
  · by_cases h1 : i < h.length
    · rw [List.getElem?_append_left h1] at e
      obtain ⟨hu, e1, r1⟩ := A.obj i u e
      refine ⟨hu, ?_, r1.mono E⟩
      rw [muS_lt h1, upd_ne (A.free hp h1)]
      exact e1
    · have hi : i < (h ++ [o]).length := (List.getElem?_eq_some_iff.mp e).1
      have ei : i = h.length := by rw [len] at hi; omega
      subst ei
      rw [List.getElem?_append_right (Nat.le_refl _), Nat.sub_self] at e
      have eo : o = u := Option.some.inj e
      subst eo
      exact ⟨ho, by rw [muS_at, upd_same], r.mono E⟩
/-- an object is written -/
theorem At.write {i : Nat} {o : AO} {ho ho' : HO} (A : At S μ h H) (hi : i < h.length) (e : H (μ i) = some ho') (n1 : ∀ xs, ho' ≠ .tup xs) (n2 : ∀ ob xs, ho' ≠ .frz ob (.lst xs)) (r : RO S μ h.length H o ho) :
    At S μ (h.set i o) (upd H (μ i) ho) ∧ Ext μ h.length H μ (h.set i o).length (upd H (μ i) ho) := by
  have len : (h.set i o).length = h.length := List.length_set
  have k : Kp H (upd H (μ i) ho) := ⟨fun a xs q => by
      rw [upd_ne (fun z => by rw [z, e] at q; exact n1 xs (Option.some.inj q))]
      exact q, fun a ob xs q => by
      rw [upd_ne (fun z => by rw [z, e] at q; exact n2 ob xs (Option.some.inj q))]
      exact q⟩
  have E : Ext μ h.length H μ (h.set i o).length (upd H (μ i) ho) :=
    ⟨by rw [len]; exact Nat.le_refl _, fun _ _ => rfl, k, fun b u q z => by rw [upd_ne (z i hi).symm]; exact q, fun j a b => by
      rw [len] at b
      exact absurd (Nat.lt_of_lt_of_le b a) (Nat.lt_irrefl _), st_upd⟩
  refine ⟨⟨fun j l hj hl q => A.inj j l (by rw [← len]; exact hj) (by rw [← len]; exact hl) q, fun j u q => ?_⟩, E⟩
  by_cases hj : j = i
  · subst hj
    rw [List.getElem?_set_self hi] at q
    have eo : o = u := Option.some.inj q
    subst eo
    exact ⟨ho, upd_same, r.mono E⟩
  · rw [List.getElem?_set_ne (Ne.symm hj)] at q
    obtain ⟨hu, e1, r1⟩ := A.obj j u q
    have hj2 : j < h.length := (List.getElem?_eq_some_iff.mp q).1
    refine ⟨hu, ?_, r1.mono E⟩
    rw [upd_ne (fun z => hj (A.inj j i hj2 hi z))]
    exact e1
end
end Br

set_option linter.all false
set_option Elab.async false
set_option autoImplicit false
set_option maxRecDepth 100000
set_option maxHeartbeats 2000000
/-! BrD: readings that are told by the machine. -/
namespace Br
open PySem PySem.Spec PyProof.Rows L2

/-- the slots hold what the machine's locals say -/
structure LR (S : Sx) (μ : Nat → Addr) (n : Nat) (H : Hp) (a : Lc) (σ : L2.St) : Prop where
  len : a.length = σ.length
  get : ∀ (i : Nat) (v : AV), a[i]? = some (some v) → ∃ x : V, σ[i]? = some (some x) ∧ RA S.K μ n H v x
section
variable {S : Sx} {W : WX} {σ : L2.St} {μ μ' μ1 : Nat → Addr} {n n' : Nat} {h h1 : AH} {H H' Ha : Hp} {a : Lc}
theorem LR.mono (e : Ext μ n H μ' n' H') (l : LR S μ n H a σ) : LR S μ' n' H' a σ := ⟨l.len, fun i v q => by
  obtain ⟨x, e1, r⟩ := l.get i v q
  exact ⟨x, e1, r.mono e⟩⟩
theorem LR.mono0 (e : Ex0 μ n H μ' n' H') (l : LR S μ n H a σ) : LR S μ' n' H' a σ := ⟨l.len, fun i v q => by
  obtain ⟨x, e1, r⟩ := l.get i v q
  exact ⟨x, e1, r.mono0 e⟩⟩
theorem LR.set {i : Nat} {v : AV} {x : V} (l : LR S μ n H a σ) (r : RA S.K μ n H v x) : LR S μ n H (a.set i (some v)) (σ.set i (some x)) := by
  refine ⟨by rw [List.length_set, List.length_set, l.len], fun j w q => ?_⟩
  by_cases hj : i = j
  · subst hj
    by_cases hi : i < a.length
    · rw [List.getElem?_set_self hi] at q
      have e : v = w := Option.some.inj (Option.some.inj q)
      subst e
      exact ⟨x, by rw [List.getElem?_set_self (by rw [← l.len]; exact hi)], r⟩
    · rw [List.getElem?_eq_none (by rw [List.length_set]; omega)] at q
      cases q
  · rw [List.getElem?_set_ne hj] at q
    obtain ⟨y, e1, r1⟩ := l.get j w q
    exact ⟨y, by rw [List.getElem?_set_ne hj]; exact e1, r1⟩
theorem LR.del {i : Nat} (l : LR S μ n H a σ) : LR S μ n H (a.set i none) (σ.set i none) := by
  refine ⟨by rw [List.length_set, List.length_set, l.len], fun j w q => ?_⟩
  by_cases hj : i = j
  · subst hj
    by_cases hi : i < a.length
    · rw [List.getElem?_set_self hi] at q
      cases q
    · rw [List.getElem?_eq_none (by rw [List.length_set]; omega)] at q
      cases q
  · rw [List.getElem?_set_ne hj] at q
    obtain ⟨y, e1, r1⟩ := l.get j w q
    exact ⟨y, by rw [List.getElem?_set_ne hj]; exact e1, r1⟩

/-- an exception of the class c lies behind -/
def OutX (S : Sx) (W : WX) (σ : L2.St) (μ : Nat → Addr) (n : Nat) (H : Hp) (c : Nat) (fs : List (Nat × AV)) (h' : AH) : Prop :=
  ∀ μ' H' d gs, Ext μ n H μ' h'.length H' → At S μ' h' H' → H' d = some (.xd gs) → RF S μ' h'.length H' fs gs → W (.ref (S.cA c)) (some d) σ H'
/-- what is wanted of the machine's outcome -/
def Out {α β : Type} (S : Sx) (W : WX) (R : (Nat → Addr) → Nat → Hp → α → β → Prop) (σ : L2.St) (μ : Nat → Addr) (n : Nat) (H : Hp) (r : Res α) (Q : β → Hp → Prop) : Prop := match r with
  | .ok v h' => ∀ μ' H' x, Ext μ n H μ' h'.length H' → At S μ' h' H' → R μ' h'.length H' v x → Q x H'
  | .exc c fs h' => OutX S W σ μ n H c fs h'
  | .fail => False
abbrev Rv (S : Sx) (μ : Nat → Addr) (n : Nat) (H : Hp) : AV → V → Prop := RA S.K μ n H
abbrev Rvs (S : Sx) (μ : Nat → Addr) (n : Nat) (H : Hp) : List AV → List V → Prop := RAs S.K μ n H
abbrev Rb (μ : Nat → Addr) (n : Nat) (H : Hp) (a b : Bool) : Prop := a = b
abbrev Ro (μ : Nat → Addr) (n : Nat) (H : Hp) (a b : Option Int) : Prop := a = b
/-- the machine's reading of an expression, an argument list, a test -/
def DR {α β : Type} (S : Sx) (W : WX) (R : (Nat → Addr) → Nat → Hp → α → β → Prop) (m : M α) : L2.St → Hp → (β → Hp → Prop) → Prop := fun σ H Q =>
  ∃ μ h a, At S μ h H ∧ LR S μ h.length H a σ ∧ Out S W R σ μ h.length H (m a h) Q
abbrev DE (S : Sx) (W : WX) (m : M AV) : TE := DR S W (Rv S) m
abbrev DA (S : Sx) (W : WX) (m : M (List AV)) : TA := DR S W (Rvs S) m
abbrev DT (S : Sx) (W : WX) (m : M Bool) : TT := DR S W Rb m
abbrev DO (S : Sx) (W : WX) (m : M (Option Int)) : TO := DR S W Ro m
/-- what is asked behind a first part -/
theorem OutX.shift {c : Nat} {fs : List (Nat × AV)} {h' : AH} (e : Ext μ n H μ1 n' Ha) (o : OutX S W σ μ n H c fs h') : OutX S W σ μ1 n' Ha c fs h' :=
  fun μ' H' d gs e1 A1 q r => o μ' H' d gs (e.trans e1) A1 q r
theorem Out.shift {α β : Type} {R : (Nat → Addr) → Nat → Hp → α → β → Prop} {r : Res α} {Q : β → Hp → Prop} (e : Ext μ n H μ1 n' Ha) (o : Out S W R σ μ n H r Q) : Out S W R σ μ1 n' Ha r Q := by
  cases r with
  | ok v h' => exact fun μ' H' x e1 A1 r1 => o μ' H' x (e.trans e1) A1 r1
  | exc c fs h' => exact OutX.shift e o
  | fail => exact o
/-- one part, then another -/
theorem DR.bind {α β γ δ : Type} {R : (Nat → Addr) → Nat → Hp → α → β → Prop} {R2 : (Nat → Addr) → Nat → Hp → γ → δ → Prop} {m : M α} {f : α → M γ} {Q : δ → Hp → Prop}
    (hA : At S μ h H) (hL : LR S μ h.length H a σ) (ho : Out S W R2 σ μ h.length H (mb m f a h) Q) :
    DR S W R m σ H fun x H1 => ∃ μ1 h1 v, At S μ1 h1 H1 ∧ Ext μ h.length H μ1 h1.length H1 ∧ R μ1 h1.length H1 v x ∧ LR S μ1 h1.length H1 a σ ∧ Out S W R2 σ μ1 h1.length H1 (f v a h1) Q := by
  refine ⟨μ, h, a, hA, hL, ?_⟩
  unfold mb at ho
  cases e : m a h with
  | ok v h1 =>
    rw [e] at ho
    exact fun μ' H' x e1 A1 r1 => ⟨μ', h1, v, A1, e1, r1, hL.mono e1, ho.shift e1⟩
  | exc c fs h1 =>
    rw [e] at ho
    exact ho
  | fail =>
    rw [e] at ho
    exact ho
/-- weaker in what is wanted -/
theorem DR.imp {α β : Type} {R : (Nat → Addr) → Nat → Hp → α → β → Prop} {m : M α} {Q Q' : β → Hp → Prop} (d : DR S W R m σ H Q) (q : ∀ x H', Q x H' → Q' x H') : DR S W R m σ H Q' := by
  obtain ⟨μ, h, a, hA, hL, ho⟩ := d
  refine ⟨μ, h, a, hA, hL, ?_⟩
  cases e : m a h with
  | ok v h1 =>
    rw [e] at ho
    exact fun μ' H' x e1 A1 r1 => q _ _ (ho μ' H' x e1 A1 r1)
  | exc c fs h1 =>
    rw [e] at ho
    exact ho
  | fail =>
    rw [e] at ho
    exact ho
/-- a value that is there already -/
theorem Out.here {α β : Type} {R : (Nat → Addr) → Nat → Hp → α → β → Prop} {v : α} {x : β} {Q : β → Hp → Prop} (hA : At S μ h H) (r : R μ h.length H v x) (o : Out S W R σ μ h.length H (.ok v h) Q) : Q x H :=
  o μ H x Ext.refl hA r
theorem Out.hereB {v : Bool} {Q : Bool → Hp → Prop} (hA : At S μ h H) (o : Out S W Rb σ μ h.length H (.ok v h) Q) : Q v H :=
  o μ H v Ext.refl hA rfl
/-- a new object, laid at p -/
theorem Out.new {o : AO} {ho : HO} {p : Addr} {Q : V → Hp → Prop} (hA : At S μ h H) (r : RO S μ h.length H o ho) (hp : H p = none) (q : Out S W (Rv S) σ μ h.length H (new o h) Q) : Q (.ref p) (upd H p ho) := by
  obtain ⟨A2, E⟩ := hA.alloc hp r
  refine q _ _ _ E A2 ?_
  show RA S.K _ _ _ (.ref h.length) (.ref p)
  rw [RA]
  refine ⟨?_, by rw [muS_at]⟩
  rw [List.length_append]
  exact Nat.lt_succ_self _
/-- a new tuple beside, at p -/
theorem Out.tup {vs : List AV} {xs : List V} {p : Addr} {Q : V → Hp → Prop} (hA : At S μ h H) (r : RAs S.K μ h.length H vs xs) (hp : H p = none) (q : Out S W (Rv S) σ μ h.length H (.ok (.tup vs) h) Q) : Q (.ref p) (upd H p (.tup xs)) := by
  have E : Ext μ h.length H μ h.length (upd H p (.tup xs)) := Ext.side hp
  refine q _ _ _ E (hA.side hp) ?_
  show RA S.K _ _ _ (.tup vs) (.ref p)
  rw [RA]
  exact ⟨p, xs, rfl, upd_same, r.mono E⟩
end
/-! ### rules turned: a reading by the machine in place of the layer's -/
theorem _root_.L2.PE.imp {X : Cx} {e : Expr} {t t' : TE} (h : PE X e t) (i : ∀ σ H Q, t' σ H Q → t σ H Q) : PE X e t' := ⟨fun pins s σ H Q I q => h.run pins s σ H Q I (i σ H Q q)⟩
theorem _root_.L2.PT.imp {X : Cx} {e : Expr} {t t' : TT} (h : PT X e t) (i : ∀ σ H Q, t' σ H Q → t σ H Q) : PT X e t' := ⟨fun pins s σ H Q I q => h.run pins s σ H Q I (i σ H Q q)⟩
theorem _root_.L2.PA.imp {X : Cx} {e : List Expr} {t t' : TA} (h : PA X e t) (i : ∀ σ H Q, t' σ H Q → t σ H Q) : PA X e t' := ⟨fun pos pins s σ H Q I q => h.run pos pins s σ H Q I (i σ H Q q)⟩
theorem _root_.L2.PS.imp {X : Cx} {e : Stmt} {t t' : TS} (h : PS X e t) (i : ∀ D σ H, t' D σ H → t D σ H) : PS X e t' := ⟨fun pins s σ H D I q => h.run pins s σ H D I (i D σ H q)⟩
theorem _root_.L2.PSs.imp {X : Cx} {e : List Stmt} {t t' : TS} (h : PSs X e t) (i : ∀ D σ H, t' D σ H → t D σ H) : PSs X e t' := ⟨fun pins s σ H D I q => h.run pins s σ H D I (i D σ H q)⟩
end Br

set_option linter.all false
set_option Elab.async false
set_option autoImplicit false
set_option maxRecDepth 100000
set_option maxHeartbeats 2000000
/-! BrS1: operations on values are what the machine says. -/
namespace Br
open PySem PySem.Spec PyProof.Rows L2

theorem lim_le {n : Nat} (h : n ≤ lim) : n ≤ sizeLine := Nat.le_trans h (by decide)
theorem lim_lt {n : Nat} (h : n < lim) : n < sizeLine := Nat.lt_of_lt_of_le h (by decide)
theorem sO_len (s : List Nat) : (sO s).length = s.length := by
  show (Array.size s.toArray) = s.length
  simp
theorem sO_app (a b : List Nat) : sO a ++ sO b = sO (a ++ b) := by
  show (⟨a.toArray ++ b.toArray⟩ : Str) = ⟨(a ++ b).toArray⟩
  simp
theorem sO_inj {a b : List Nat} : sO a = sO b ↔ a = b := by
  constructor
  · intro h
    have h2 : a.toArray = b.toArray := congrArg Str.cps h
    simpa using h2
  · intro h; rw [h]
section
variable {K : PySem.W.Frag} {S : Sx} {μ : Nat → Addr} {n : Nat} {H : Hp} {x : V}
theorem RAs.nil_of {xs : List AV} (h : RAs K μ n H xs []) : xs = [] := by
  have e := h.length
  cases xs with
  | nil => rfl
  | cons a r => simp at e
theorem RA.int {i : Int} (h : RA K μ n H (.int i) x) : x = .int i := by rw [RA] at h; exact h
theorem RA.str {s : List Nat} (h : RA K μ n H (.str s) x) : x = .str (sO s) := by rw [RA] at h; exact h
theorem RA.bl {b : Bool} (h : RA K μ n H (.bl b) x) : x = .bl b := by rw [RA] at h; exact h
theorem RA.non (h : RA K μ n H .non x) : x = .non := by rw [RA] at h; exact h
theorem RA.ref {i : Nat} (h : RA K μ n H (.ref i) x) : i < n ∧ x = .ref (μ i) := by rw [RA] at h; exact h
theorem RA.tup {xs : List AV} (h : RA K μ n H (.tup xs) x) : ∃ a vs, x = .ref a ∧ H a = some (.tup vs) ∧ RAs K μ n H xs vs := by rw [RA] at h; exact h
theorem RA.kt {xs : List AV} (h : RA K μ n H (.kt xs) x) : ∃ a vs, x = .ref a ∧ Kt K a vs ∧ RAs K μ n H xs vs := by rw [RA] at h; exact h
theorem RA.fl {xs : List AV} (h : RA K μ n H (.fl xs) x) : ∃ a vs, x = .ref a ∧ Fz K H a vs ∧ RAs K μ n H xs vs := by rw [RA] at h; exact h
theorem ra_int {i : Int} : RA K μ n H (.int i) (.int i) := by rw [RA]
theorem ra_str {s : List Nat} : RA K μ n H (.str s) (.str (sO s)) := by rw [RA]
theorem ra_bl {b : Bool} : RA K μ n H (.bl b) (.bl b) := by rw [RA]
theorem ra_non : RA K μ n H .non .non := by rw [RA]
theorem ra_tup {xs : List AV} {a : Addr} {vs : List V} (t : H a = some (.tup vs)) (r : RAs K μ n H xs vs) : RA K μ n H (.tup xs) (.ref a) := by rw [RA]; exact ⟨a, vs, rfl, t, r⟩
end
section
variable {S : Sx} {W : WX} {σ : L2.St} {μ : Nat → Addr} {h : AH} {H : Hp} {X : Cx} {pins : List (Addr × Obj)} {s : Shared}
theorem At.lst {i : Nat} {xs : List AV} (A : At S μ h H) (e : h[i]? = some (.lst xs)) : ∃ vs, H (μ i) = some (.lst vs) ∧ RAs S.K μ h.length H xs vs := by
  obtain ⟨ho, e1, vs, rfl, r⟩ := A.obj i _ e
  exact ⟨vs, e1, r⟩
theorem At.ins {i c : Nat} {fs : List (Nat × AV)} (A : At S μ h H) (e : h[i]? = some (.ins c fs)) : ∃ dx gs, H (μ i) = some (.ins (S.cA c) dx gs) ∧ RF S μ h.length H fs gs := by
  obtain ⟨ho, e1, dx, gs, rfl, r⟩ := A.obj i _ e
  exact ⟨dx, gs, e1, r⟩
/-- an operation of two values -/
def OpD (S : Sx) (W : WX) (X : Cx) (f : Value → Value → Sem Value) (g : AV → AV → H1 AV) : Prop :=
  ∀ (pins : List (Addr × Obj)) (s : Shared) (σ : L2.St) (H : Hp) (x y : V) (v u : Value) (Q : VK) (μ : Nat → Addr) (h : AH) (p q : AV), Inv X pins σ H s → RelV x v → RelV y u →
    At S μ h H → RA S.K μ h.length H p x → RA S.K μ h.length H q y → Out S W (Rv S) σ μ h.length H (g p q h) Q → wpAny (model X.prog X.w) X.A (f v u) (EP X pins σ Q) X.xe s
theorem Out.newL {xs : List AV} {vs : List V} {Q : VK} (hA : At S μ h H) (r : RAs S.K μ h.length H xs vs) (o : Out S W (Rv S) σ μ h.length H (newL xs h) Q) :
    vs.length ≤ sizeLine ∧ ∀ p, H p = none → Q (.ref p) (upd H p (.lst vs)) := by
  unfold Br.newL at o
  by_cases hl : xs.length ≤ lim
  · rw [if_pos hl] at o
    exact ⟨by rw [← r.length]; exact lim_le hl, fun p hp => Out.new (o := .lst xs) (ho := .lst vs) hA ⟨vs, rfl, r⟩ hp o⟩
  · rw [if_neg hl] at o
    exact o.elim
theorem RAs.replicate {K : PySem.W.Frag} {n : Nat} {xs : List AV} {vs : List V} (r : RAs K μ n H xs vs) : ∀ k : Nat, RAs K μ n H (List.replicate k xs).flatten (List.replicate k vs).flatten
  | 0 => .nil
  | k + 1 => by
    rw [List.replicate_succ, List.replicate_succ, List.flatten_cons, List.flatten_cons]
    exact r.append (RAs.replicate r k)
/-- the built-in operators -/
theorem op_bop (hK : X.K = S.K) (o : Op2) : OpD S W X (binaryOp (match o with | .add => .Add | .sub => .Sub | .mul => .Mult | .fdiv => .FloorDiv | .mod => .Mod | .pow => .Pow)) (bop o) := by
  intro pins s σ H x y v u Q μ h p q I rx ry A rp rq ho
  unfold bop at ho
  split at ho
  · cases rp.int; cases rq.int
    exact op_add pins s σ H _ _ v u Q I rx ry ⟨_, _, rfl, rfl, ho.here A ra_int⟩
  · cases rp.int; cases rq.int
    exact op_sub pins s σ H _ _ v u Q I rx ry ⟨_, _, rfl, rfl, ho.here A ra_int⟩
  · cases rp.int; cases rq.int
    split at ho
    · rename_i hc
      exact op_mul pins s σ H _ _ v u Q I rx ry ⟨_, _, rfl, rfl, hc, ho.here A ra_int⟩
    · exact ho.elim
  · cases rp.int; cases rq.int
    split at ho
    · rename_i hc
      exact op_fdiv pins s σ H _ _ v u Q I rx ry ⟨_, _, rfl, rfl, hc, ho.here A ra_int⟩
    · exact ho.elim
  · cases rp.int; cases rq.int
    split at ho
    · rename_i hc
      exact op_mod pins s σ H _ _ v u Q I rx ry ⟨_, _, rfl, rfl, hc, ho.here A ra_int⟩
    · exact ho.elim
  · cases rp.int; cases rq.int
    split at ho
    · rename_i hc
      exact op_pow pins s σ H _ _ v u Q I rx ry ⟨_, _, rfl, rfl, hc, ho.here A ra_int⟩
    · exact ho.elim
  · rename_i a b
    cases rp.str; cases rq.str
    split at ho
    · rename_i hc
      refine op_add_str pins s σ H _ _ v u Q I rx ry ⟨_, _, rfl, rfl, by rw [sO_len, sO_len]; exact lim_le hc, ?_⟩
      rw [sO_app]
      exact ho.here A ra_str
    · exact ho.elim
  · obtain ⟨a1, v1, rfl, t1, r1⟩ := rp.tup
    obtain ⟨a2, v2, rfl, t2, r2⟩ := rq.tup
    split at ho
    · rename_i hc
      refine op_catA pins s σ H _ _ v u Q I rx ry ⟨a1, a2, v1, v2, rfl, rfl, sqT_of t1, sqT_of t2, by rw [← r1.length, ← r2.length]; exact lim_le hc, fun e => ?_, fun _ e => ?_, fun _ _ p hp => ?_⟩
      · subst e
        obtain rfl := r1.nil_of
        exact ho.here A (ra_tup t2 r2)
      · subst e
        obtain rfl := r2.nil_of
        rw [List.append_nil] at ho
        exact ho.here A (ra_tup t1 r1)
      · exact Out.tup A (r1.append r2) hp ho
    · exact ho.elim
  · obtain ⟨_, rfl⟩ := rp.ref
    obtain ⟨_, rfl⟩ := rq.ref
    split at ho
    · rename_i e1 e2
      obtain ⟨v1, h1, r1⟩ := A.lst e1
      obtain ⟨v2, h2, r2⟩ := A.lst e2
      obtain ⟨z, q⟩ := Out.newL A (r1.append r2) ho
      exact op_cat pins s σ H _ _ v u Q I rx ry ⟨_, _, v1, v2, rfl, rfl, h1, h2, by rw [List.length_append] at z; exact z, q⟩
    · exact ho.elim
  · obtain ⟨_, rfl⟩ := rp.ref
    cases rq.int
    split at ho
    · rename_i e1
      obtain ⟨v1, h1, r1⟩ := A.lst e1
      split at ho
      · rename_i hc
        obtain ⟨z, q⟩ := Out.newL A (r1.replicate _) ho
        refine op_rep pins s σ H _ _ v u Q I rx ry ⟨_, _, v1, rfl, rfl, h1, by omega, by have := hc.2; unfold lim at this; omega, ?_, q⟩
        rw [List.length_flatten, List.map_replicate, List.sum_replicate_nat] at z
        rw [Nat.mul_comm]
        exact z
      · exact ho.elim
    · exact ho.elim
  · exact ho.elim
end
end Br

set_option linter.all false
set_option Elab.async false
set_option autoImplicit false
set_option maxRecDepth 100000
set_option maxHeartbeats 2000000
/-! BrS2: comparisons of data. -/
namespace Br
open PySem PySem.Spec PyProof.Rows L2

mutual
def pd : T → PyData
  | .non => .none
  | .bl b => .bool b
  | .int i => .int i
  | .str s => .str (sO s)
  | .lst xs => .list (pds xs)
  | .tup xs => .tuple (pds xs)
def pds : List T → List PyData
  | [] => []
  | x :: xs => pd x :: pds xs
end
theorem pds_map : ∀ xs : List T, pds xs = xs.map pd
  | [] => by rw [pds]; rfl
  | x :: xs => by rw [pds, pds_map xs]; rfl
theorem sO_beq (a b : List Nat) : (sO a == sO b) = decide (a = b) := by
  by_cases h : a = b
  · subst h
    simp
  · have h2 : sO a ≠ sO b := fun e => h (sO_inj.mp e)
    rw [decide_eq_false h]
    exact beq_eq_false_iff_ne.mpr h2
mutual
theorem eqv_pd : ∀ a b : T, PyData.eqv (pd a) (pd b) = T.eqv a b
  | .non, b => by cases b <;> simp [pd, PyData.eqv, T.eqv]
  | .bl x, b => by cases b <;> simp [pd, PyData.eqv, T.eqv, b2i]
  | .int i, b => by cases b <;> simp [pd, PyData.eqv, T.eqv, b2i]
  | .str s, b => by
    cases b with
    | str t =>
      simp only [pd, PyData.eqv, T.eqv]
      exact sO_beq s t
    | _ => simp [pd, PyData.eqv, T.eqv]
  | .lst xs, b => by
    cases b with
    | lst ys =>
      simp only [pd, PyData.eqv, T.eqv]
      exact eqvs_pd xs ys
    | _ => simp [pd, PyData.eqv, T.eqv]
  | .tup xs, b => by
    cases b with
    | tup ys =>
      simp only [pd, PyData.eqv, T.eqv]
      exact eqvs_pd xs ys
    | _ => simp [pd, PyData.eqv, T.eqv]
theorem eqvs_pd : ∀ a b : List T, PyData.eqvAll (pds a) (pds b) = T.eqvs a b
  | [], [] => by simp [pds, PyData.eqvAll, T.eqvs]
  | [], y :: ys => by simp [pds, PyData.eqvAll, T.eqvs]
  | x :: xs, [] => by simp [pds, PyData.eqvAll, T.eqvs]
  | x :: xs, y :: ys => by
    simp only [pds, PyData.eqvAll, T.eqvs]
    rw [eqv_pd x y, eqvs_pd xs ys]
end
section
variable {S : Sx} {W : WX} {σ : L2.St} {μ : Nat → Addr} {h : AH} {H : Hp} {X : Cx}
def Dk (S : Sx) (H : Hp) (n : Nat) (x : V) (t : T) : Prop := Dp S.K H x (pd t) ∧ (pd t).canLay0 = true ∧ (pd t).depth ≤ n
theorem scT_dk {v : AV} {x : V} {t : T} (e : scT v = some t) (r : RA S.K μ h.length H v x) (n : Nat) : Dk S H n x t := by
  cases v with
  | non => cases e; cases r.non; exact ⟨by rw [pd]; exact .non, by rw [pd]; rfl, by rw [pd]; exact Nat.zero_le _⟩
  | bl b => cases e; cases r.bl; exact ⟨by rw [pd]; exact .bl b, by rw [pd]; rfl, by rw [pd]; exact Nat.zero_le _⟩
  | int b => cases e; cases r.int; exact ⟨by rw [pd]; exact .int b, by rw [pd]; rfl, by rw [pd]; exact Nat.zero_le _⟩
  | str s =>
    simp only [scT] at e
    by_cases hc : okStr s = true
    · rw [if_pos hc] at e
      cases e; cases r.str
      refine ⟨by rw [pd]; exact .str _, ?_, by rw [pd]; exact Nat.zero_le _⟩
      rw [pd]
      show (Array.all s.toArray fun c => decide (c < 0x110000)) = true
      rw [List.all_toArray]
      exact hc
    · rw [if_neg hc] at e
      cases e
  | tup xs => cases e
  | kt xs => cases e
  | fl xs => cases e
  | ref i => cases e
theorem toTs_dk {f : AV → Option T} {n : Nat} (hf : ∀ v x t, f v = some t → RA S.K μ h.length H v x → Dk S H n x t) : ∀ {vs : List AV} {xs : List V} {ts : List T}, toTs f vs = some ts → RAs S.K μ h.length H vs xs →
    DpAll S.K H xs (pds ts) ∧ PyData.canLayAll0 (pds ts) = true ∧ PyData.depthAll (pds ts) ≤ n
  | [], xs, ts, e, r => by
    cases e
    rw [r.of_nil, pds]
    exact ⟨.nil, rfl, Nat.zero_le _⟩
  | v :: vs, xs, ts, e, r => by
    obtain ⟨y, ys, rfl, r1, r2⟩ := r.of_cons
    unfold toTs at e
    cases e1 : f v with
    | none => rw [e1] at e; cases e
    | some t =>
      cases e2 : toTs f vs with
      | none => rw [e1, e2] at e; cases e
      | some us =>
        rw [e1, e2] at e
        cases e
        obtain ⟨a1, a2, a3⟩ := hf v y t e1 r1
        obtain ⟨b1, b2, b3⟩ := toTs_dk hf e2 r2
        rw [pds]
        refine ⟨.cons a1 b1, ?_, ?_⟩
        · rw [PyData.canLayAll0, a2, b2]
          rfl
        · rw [PyData.depthAll]
          exact Nat.max_le.mpr ⟨a3, b3⟩
theorem toT_dk (A : At S μ h H) : ∀ (n : Nat) (v : AV) (x : V) (t : T), toT h n v = some t → RA S.K μ h.length H v x → Dk S H n x t
  | 0, v, x, t, e, r => scT_dk e r 0
  | n + 1, v, x, t, e, r => by
    cases v with
    | tup xs =>
      simp only [toT] at e
      cases e1 : toTs (toT h n) xs with
      | none => rw [e1] at e; cases e
      | some ts =>
        rw [e1] at e
        cases e
        obtain ⟨a, vs, rfl, tp, rs⟩ := r.tup
        obtain ⟨b1, b2, b3⟩ := toTs_dk (toT_dk A n) e1 rs
        rw [Dk, pd]
        refine ⟨.tup (sqT_of tp) b1, ?_, ?_⟩
        · rw [PyData.canLay0]; exact b2
        · rw [PyData.depth]; exact Nat.succ_le_succ b3
    | kt xs =>
      simp only [toT] at e
      cases e1 : toTs (toT h n) xs with
      | none => rw [e1] at e; cases e
      | some ts =>
        rw [e1] at e
        cases e
        obtain ⟨a, vs, rfl, tp, rs⟩ := r.kt
        obtain ⟨b1, b2, b3⟩ := toTs_dk (toT_dk A n) e1 rs
        rw [Dk, pd]
        refine ⟨.tup tp.sqT b1, ?_, ?_⟩
        · rw [PyData.canLay0]; exact b2
        · rw [PyData.depth]; exact Nat.succ_le_succ b3
    | fl xs =>
      simp only [toT] at e
      cases e1 : toTs (toT h n) xs with
      | none => rw [e1] at e; cases e
      | some ts =>
        rw [e1] at e
        cases e
        obtain ⟨a, vs, rfl, tp, rs⟩ := r.fl
        obtain ⟨b1, b2, b3⟩ := toTs_dk (toT_dk A n) e1 rs
        rw [Dk, pd]
        refine ⟨.lst tp.sqL b1, ?_, ?_⟩
        · rw [PyData.canLay0]; exact b2
        · rw [PyData.depth]; exact Nat.succ_le_succ b3
    | ref i =>
      simp only [toT] at e
      split at e
      · rename_i xs e0
        cases e1 : toTs (toT h n) xs with
        | none => rw [e1] at e; cases e
        | some ts =>
          rw [e1] at e
          cases e
          obtain ⟨_, rfl⟩ := r.ref
          obtain ⟨vs, hv, rs⟩ := A.lst e0
          obtain ⟨b1, b2, b3⟩ := toTs_dk (toT_dk A n) e1 rs
          rw [Dk, pd]
          refine ⟨.lst (.of hv) b1, ?_, ?_⟩
          · rw [PyData.canLay0]; exact b2
          · rw [PyData.depth]; exact Nat.succ_le_succ b3
      · cases e
    | non => exact scT_dk (v := .non) e r _
    | bl b => exact scT_dk (v := .bl b) e r _
    | int b => exact scT_dk (v := .int b) e r _
    | str b => exact scT_dk (v := .str b) e r _
theorem Dk.shaped {x : V} {t : T} {n : Nat} (d : Dk S H n x t) (hn : n ≤ 64) : SeqAt.shaped (pd t) = true := by
  unfold SeqAt.shaped
  rw [d.2.1, decide_eq_true (Nat.le_trans d.2.2 hn)]
  rfl
/-- a comparison of two values -/
def CmD (S : Sx) (X : Cx) (f : Value → Value → Sem Value) (g : AV → AV → H1 Bool) : Prop :=
  ∀ (pins : List (Addr × Obj)) (s : Shared) (σ : L2.St) (H : Hp) (x y : V) (v u : Value) (Q : VK) (μ : Nat → Addr) (h : AH) (p q : AV) (W : WX), Inv X pins σ H s → RelV x v → RelV y u →
    At S μ h H → RA S.K μ h.length H p x → RA S.K μ h.length H q y → Out S W Rb σ μ h.length H (g p q h) (fun b H' => Q (.bl b) H') → wpAny (model X.prog X.w) X.A (f v u) (EP X pins σ Q) X.xe s

def cmpO : Cmp → CmpOp
  | .eq => .Eq
  | .ne => .NotEq
  | .lt => .Lt
  | .le => .LtE
  | .gt => .Gt
  | .ge => .GtE
  | .isin => .In
  | .notin => .NotIn
theorem eqD_dp {p q : AV} {x y : V} {b : Bool} (A : At S μ h H) (rp : RA S.K μ h.length H p x) (rq : RA S.K μ h.length H q y) (e : eqD h p q = some b) :
    ∃ d d2, Dp S.K H x d ∧ Dp S.K H y d2 ∧ SeqAt.shaped d = true ∧ SeqAt.shaped d2 = true ∧ PyData.eqv d d2 = b := by
  unfold eqD at e
  cases e1 : toT h deepN p with
  | none => rw [e1] at e; cases e
  | some t =>
    cases e2 : toT h deepN q with
    | none => rw [e1, e2] at e; cases e
    | some t2 =>
      rw [e1, e2] at e
      cases e
      have d1 := toT_dk A deepN p x t e1 rp
      have d2 := toT_dk A deepN q y t2 e2 rq
      exact ⟨pd t, pd t2, d1.1, d2.1, d1.shaped (by decide), d2.shaped (by decide), eqv_pd t t2⟩
theorem any_pd (t : T) : ∀ ts : List T, ((pds ts).any fun z => PyData.eqv z (pd t)) = ts.any fun b => b.eqv t
  | [] => by rw [pds]; rfl
  | x :: xs => by
    rw [pds]
    simp only [List.any_cons]
    rw [eqv_pd x t, any_pd t xs]
theorem inD_dp {p : AV} {qs : List AV} {x : V} {ys : List V} {b : Bool} (A : At S μ h H) (rp : RA S.K μ h.length H p x) (rq : RAs S.K μ h.length H qs ys) (e : inD h p qs = some b) :
    ∃ d ds, Dp S.K H x d ∧ DpAll S.K H ys ds ∧ SeqAt.shaped d = true ∧ PyData.canLayAll0 ds = true ∧ PyData.depthAll ds ≤ 20 ∧ (ds.any fun z => PyData.eqv z d) = b := by
  unfold inD at e
  cases e1 : toT h deepN p with
  | none => rw [e1] at e; cases e
  | some t =>
    cases e2 : toTs (toT h deepN) qs with
    | none => rw [e1, e2] at e; cases e
    | some t2 =>
      rw [e1, e2] at e
      cases e
      have d1 := toT_dk A deepN p x t e1 rp
      obtain ⟨b1, b2, b3⟩ := toTs_dk (toT_dk A deepN) e2 rq
      exact ⟨pd t, pds t2, d1.1, b1, d1.shaped (by decide), b2, b3, any_pd t t2⟩
theorem shaped_list {ds : List PyData} (a : PyData.canLayAll0 ds = true) (b : PyData.depthAll ds ≤ 20) : SeqAt.shaped (.list ds) = true := by
  unfold SeqAt.shaped
  have h1 : (PyData.list ds).canLay0 = true := by rw [PyData.canLay0]; exact a
  have h2 : (PyData.list ds).depth ≤ 64 := by rw [PyData.depth]; omega
  rw [h1, decide_eq_true h2]
  rfl
theorem cps_lt (a b : List Nat) : decide ((sO a).cps.toList < (sO b).cps.toList) = ltL a b := by
  unfold ltL
  simp
theorem sO_keyA (x : Str) : sO x.cps.toList = x := by
  show (⟨x.cps.toList.toArray⟩ : Str) = x
  rw [Array.toArray_toList]
theorem k1_keyA : ∀ (a b : Key), k1 (keyA a) (keyA b) = decide (a = b)
  | .inl i, .inl j => by simp [keyA, k1]
  | .inr x, .inr y => by
    simp only [keyA, k1]
    by_cases h : x = y
    · subst h; simp
    · have h2 : x.cps.toList ≠ y.cps.toList := fun e => h (by rw [← sO_keyA x, ← sO_keyA y, e])
      rw [decide_eq_false h2, decide_eq_false (fun e => h (Sum.inr.inj e))]
  | .inl i, .inr y => by simp [keyA, k1]
  | .inr x, .inl j => by simp [keyA, k1]
theorem k1s_keyA : ∀ (a b : List Key), k1s (a.map keyA) (b.map keyA) = decide (a = b)
  | [], [] => by simp [k1s]
  | [], _ :: _ => by simp [k1s]
  | _ :: _, [] => by simp [k1s]
  | x :: xs, y :: ys => by
    simp only [List.map_cons, k1s]
    rw [k1_keyA x y, k1s_keyA xs ys]
    simp
theorem kEq_keyA (a b : Key) : kEq (keyA a) (keyA b) = decide (a = b) := by
  rw [← k1_keyA]
  cases a <;> cases b <;> rfl
theorem kEq_keyT (a b : List Key) : kEq (.tup (a.map keyA)) (.tup (b.map keyA)) = decide (a = b) := by
  rw [← k1s_keyA]
  rfl
/-- a key's number or text -/
theorem key_of1 {K : PySem.W.Frag} {n : Nat} {p : AV} {x : V} (e : isKey1 p = true) (r : RA K μ n H p x) : ∃ k : Key, p = keyA k ∧ x = kV k := by
  cases p with
  | int i => exact ⟨.inl i, rfl, r.int⟩
  | str s => exact ⟨.inr (sO s), by simp [keyA], r.str⟩
  | _ => cases e
theorem keys_of1 {K : PySem.W.Frag} {n : Nat} : ∀ {ps : List AV} {xs : List V}, ps.all isKey1 = true → RAs K μ n H ps xs → ∃ ks : List Key, ps = ks.map keyA ∧ xs = ks.map kV
  | [], xs, _, r => ⟨[], rfl, r.of_nil⟩
  | p :: ps, xs, e, r => by
    obtain ⟨y, ys, rfl, r1, r2⟩ := r.of_cons
    rw [List.all_cons, Bool.and_eq_true] at e
    obtain ⟨k, rfl, rfl⟩ := key_of1 e.1 r1
    obtain ⟨ks, rfl, rfl⟩ := keys_of1 e.2 r2
    exact ⟨k :: ks, rfl, rfl⟩
/-- what a dict of the machine says of a key -/
def RoV (S : Sx) (μ : Nat → Addr) (n : Nat) (H : Hp) : Option AV → Option V → Prop
  | none, none => True
  | some v, some x => RA S.K μ n H v x
  | _, _ => False
theorem RoV.isSome {n : Nat} : ∀ {o : Option AV} {q : Option V}, RoV S μ n H o q → o.isSome = q.isSome
  | none, none, _ => rfl
  | some _, some _, _ => rfl
  | none, some _, h => h.elim
  | some _, none, h => h.elim
theorem valV_cons {κ : Type} [DecidableEq κ] (p : κ × V) (r : List (κ × V)) (k : κ) : valV (p :: r) k = if p.1 = k then some p.2 else valV r k := by
  unfold valV
  rw [List.find?_cons]
  by_cases h : p.1 = k
  · rw [if_pos h, decide_eq_true h]; rfl
  · rw [if_neg h, decide_eq_false h]
theorem RDk.get {n : Nat} {k : Key} : ∀ {kvs : List (AV × AV)} {ks : List (Key × V)}, RDk S μ n H kvs ks → RoV S μ n H (dGet (keyA k) kvs) (valV ks k)
  | [], [], _ => trivial
  | p :: ps, q :: qs, h => by
    rw [RDk] at h
    unfold dGet
    rw [valV_cons, h.1, kEq_keyA]
    by_cases e : q.1 = k
    · rw [if_pos e, if_pos (decide_eq_true e)]
      exact h.2.1
    · rw [if_neg e, if_neg (by simp [e])]
      exact RDk.get h.2.2
  | [], _ :: _, h => by rw [RDk] at h; exact h.elim
  | _ :: _, [], h => by rw [RDk] at h; exact h.elim
theorem RDt.get {n : Nat} {k : List Key} : ∀ {kvs : List (AV × AV)} {ks : List (List Key × V)}, RDt S μ n H kvs ks → RoV S μ n H (dGet (.tup (k.map keyA)) kvs) (valV ks k)
  | [], [], _ => trivial
  | p :: ps, q :: qs, h => by
    rw [RDt] at h
    unfold dGet
    rw [valV_cons, h.1, kEq_keyT]
    by_cases e : q.1 = k
    · rw [if_pos e, if_pos (decide_eq_true e)]
      exact h.2.1
    · rw [if_neg e, if_neg (by simp [e])]
      exact RDt.get h.2.2
  | [], _ :: _, h => by rw [RDt] at h; exact h.elim
  | _ :: _, [], h => by rw [RDt] at h; exact h.elim
theorem At.dct {i : Nat} {tk lk : Bool} {kvs : List (AV × AV)} (A : At S μ h H) (e : h[i]? = some (.dct tk kvs lk)) : ∃ o d, H (μ i) = some o ∧ (if lk = true then ∃ ob, o = .frz ob d else o = d) ∧ RD S μ h.length H kvs d tk := by
  obtain ⟨ho, e1, d, q, r⟩ := A.obj i _ e
  exact ⟨ho, d, e1, q, r⟩
theorem keyT_of {K : PySem.W.Frag} {n : Nat} {p : AV} {x : V} (e : isKeyT p = true) (r : RA K μ n H p x) : ∃ (k : List Key) (b : Addr), p = .tup (k.map keyA) ∧ x = .ref b ∧ H b = some (.tup (k.map kV)) := by
  cases p with
  | tup xs =>
    obtain ⟨a, vs, rfl, t, rs⟩ := r.tup
    obtain ⟨ks, rfl, rfl⟩ := keys_of1 e rs
    exact ⟨ks, a, rfl, rfl, t⟩
  | _ => cases e
/-- a dict asked for a key -/
theorem At.dget {i : Nat} {tk lk : Bool} {kvs : List (AV × AV)} {p : AV} {x : V} (A : At S μ h H) (e : h[i]? = some (.dct tk kvs lk)) (hk : keyOk tk p = true) (rp : RA S.K μ h.length H p x) :
    ∃ q, DGet H (μ i) x q ∧ RoV S μ h.length H (dGet p kvs) q := by
  obtain ⟨o, d, h1, h2, h3⟩ := A.dct e
  have rd : Rd H (μ i) d := by
    cases lk with
    | true =>
      obtain ⟨ob, rfl⟩ := h2
      exact .inr ⟨ob, h1⟩
    | false =>
      obtain rfl : o = d := h2
      exact .inl h1
  cases tk with
  | false =>
    obtain ⟨ks, rfl, r⟩ := h3
    obtain ⟨k, rfl, rfl⟩ := key_of1 hk rp
    exact ⟨valV ks k, .inl ⟨ks, k, rd, rfl, rfl⟩, r.get⟩
  | true =>
    obtain ⟨ks, rfl, r⟩ := h3
    obtain ⟨k, b, rfl, rfl, hb⟩ := keyT_of hk rp
    exact ⟨valV ks k, .inr ⟨ks, k, b, rd, rfl, hb, rfl⟩, r.get⟩
theorem cm_cmpB (hK : X.K = S.K) (hu : X.A.units + 65 < cLine) (o : Cmp) : CmD S X (compareOp (cmpO o)) (cmpB o) := by
  intro pins s σ H x y v u Q μ h p q W I rx ry A rp rq ho
  unfold cmpB at ho
  split at ho
  · split at ho
    · rename_i b e
      obtain ⟨d, d2, a1, a2, a3, a4, a5⟩ := eqD_dp A rp rq e
      exact op_eqD (by omega) pins s σ H x y v u Q I rx ry ⟨d, d2, by rw [hK]; exact a1, by rw [hK]; exact a2, a3, a4, by rw [a5]; exact ho.hereB A⟩
    · exact ho.elim
  · split at ho
    · rename_i b e
      obtain ⟨d, d2, a1, a2, a3, a4, a5⟩ := eqD_dp A rp rq e
      exact op_neD (by omega) pins s σ H x y v u Q I rx ry ⟨d, d2, by rw [hK]; exact a1, by rw [hK]; exact a2, a3, a4, by rw [a5]; exact ho.hereB A⟩
    · exact ho.elim
  · cases rp.int; cases rq.int
    exact op_lt pins s σ H _ _ v u Q I rx ry ⟨_, _, rfl, rfl, ho.hereB A⟩
  · cases rp.int; cases rq.int
    exact op_le pins s σ H _ _ v u Q I rx ry ⟨_, _, rfl, rfl, ho.hereB A⟩
  · cases rp.int; cases rq.int
    exact op_gt pins s σ H _ _ v u Q I rx ry ⟨_, _, rfl, rfl, ho.hereB A⟩
  · cases rp.int; cases rq.int
    exact op_ge pins s σ H _ _ v u Q I rx ry ⟨_, _, rfl, rfl, ho.hereB A⟩
  · cases rp.str; cases rq.str
    exact op_lt_str pins s σ H _ _ v u Q I rx ry ⟨_, _, rfl, rfl, by rw [cps_lt]; exact ho.hereB A⟩
  · cases rp.str; cases rq.str
    refine op_le_str pins s σ H _ _ v u Q I rx ry ⟨_, _, rfl, rfl, ?_⟩
    have e := ho.hereB A
    rw [← cps_lt] at e
    simpa using e
  · cases rp.str; cases rq.str
    refine op_in_sign pins s σ H _ _ v u Q I rx ry ⟨_, _, rfl, rfl, ?_⟩
    have e := ho.hereB A
    simpa using e
  · cases rp.str; cases rq.str
    refine op_notIn_sign pins s σ H _ _ v u Q I rx ry ⟨_, _, rfl, rfl, ?_⟩
    have e := ho.hereB A
    simpa using e
  · obtain ⟨_, rfl⟩ := rq.ref
    split at ho
    · rename_i e0
      split at ho
      · rename_i b e
        obtain ⟨ys, hv, rs⟩ := A.lst e0
        obtain ⟨d, ds, a1, a2, a3, a4, a5, a6⟩ := inD_dp A rp rs e
        exact op_inD hu pins s σ H x _ v u Q I rx ry ⟨d, ds, by rw [hK]; exact a1, by rw [hK]; exact .lst (.of hv) a2, a3, shaped_list a4 a5, by rw [a6]; exact ho.hereB A⟩
      · exact ho.elim
    · rename_i e0
      split at ho
      · rename_i hk
        obtain ⟨qv, g, rv⟩ := A.dget e0 hk rp
        cases ry
        refine d_in (by omega) I g rx fun s3 I3 => ⟨.bl qv.isSome, H, I3, rfl, ?_⟩
        rw [← rv.isSome]
        exact ho.hereB A
      · exact ho.elim
    · exact ho.elim
  · obtain ⟨_, rfl⟩ := rq.ref
    split at ho
    · rename_i e0
      split at ho
      · rename_i b e
        obtain ⟨ys, hv, rs⟩ := A.lst e0
        obtain ⟨d, ds, a1, a2, a3, a4, a5, a6⟩ := inD_dp A rp rs e
        exact op_notInD hu pins s σ H x _ v u Q I rx ry ⟨d, ds, by rw [hK]; exact a1, by rw [hK]; exact .lst (.of hv) a2, a3, shaped_list a4 a5, by rw [a6]; exact ho.hereB A⟩
      · exact ho.elim
    · rename_i e0
      split at ho
      · rename_i hk
        obtain ⟨qv, g, rv⟩ := A.dget e0 hk rp
        cases ry
        refine d_notIn (by omega) I g rx fun s3 I3 => ⟨.bl (!qv.isSome), H, I3, rfl, ?_⟩
        rw [← rv.isSome]
        exact ho.hereB A
      · exact ho.elim
    · exact ho.elim
  · obtain ⟨a, vs, rfl, tp, rs⟩ := rq.tup
    split at ho
    · rename_i b e
      obtain ⟨d, ds, a1, a2, a3, a4, a5, a6⟩ := inD_dp A rp rs e
      obtain ⟨as, r1⟩ := Dp.reads I d x v (by rw [hK]; exact a1) rx
      obtain ⟨bs, r2⟩ := Dp.reads I (.tuple ds) _ u (by rw [hK]; exact .tup (sqT_of tp) a2) ry
      exact SeqAt.in_tuple_reads r2 r1 a4 (SeqAt.canLay_of_shaped a3) (room_in_shaped a3 hu) ⟨.bl _, H, I, rfl, by rw [a6]; exact ho.hereB A⟩
    · exact ho.elim
  · obtain ⟨a, vs, rfl, tp, rs⟩ := rq.tup
    split at ho
    · rename_i b e
      obtain ⟨d, ds, a1, a2, a3, a4, a5, a6⟩ := inD_dp A rp rs e
      obtain ⟨as, r1⟩ := Dp.reads I d x v (by rw [hK]; exact a1) rx
      obtain ⟨bs, r2⟩ := Dp.reads I (.tuple ds) _ u (by rw [hK]; exact .tup (sqT_of tp) a2) ry
      exact SeqAt.notIn_tuple_reads r2 r1 a4 (SeqAt.canLay_of_shaped a3) (room_in_shaped a3 hu) ⟨.bl _, H, I, rfl, by rw [a6]; exact ho.hereB A⟩
    · exact ho.elim
  · obtain ⟨a, vs, rfl, tp, rs⟩ := rq.kt
    split at ho
    · rename_i b e
      obtain ⟨d, ds, a1, a2, a3, a4, a5, a6⟩ := inD_dp A rp rs e
      obtain ⟨as, r1⟩ := Dp.reads I d x v (by rw [hK]; exact a1) rx
      obtain ⟨bs, r2⟩ := Dp.reads I (.tuple ds) _ u (by rw [hK]; exact .tup tp.sqT a2) ry
      exact SeqAt.in_tuple_reads r2 r1 a4 (SeqAt.canLay_of_shaped a3) (room_in_shaped a3 hu) ⟨.bl _, H, I, rfl, by rw [a6]; exact ho.hereB A⟩
    · exact ho.elim
  · obtain ⟨a, vs, rfl, tp, rs⟩ := rq.kt
    split at ho
    · rename_i b e
      obtain ⟨d, ds, a1, a2, a3, a4, a5, a6⟩ := inD_dp A rp rs e
      obtain ⟨as, r1⟩ := Dp.reads I d x v (by rw [hK]; exact a1) rx
      obtain ⟨bs, r2⟩ := Dp.reads I (.tuple ds) _ u (by rw [hK]; exact .tup tp.sqT a2) ry
      exact SeqAt.notIn_tuple_reads r2 r1 a4 (SeqAt.canLay_of_shaped a3) (room_in_shaped a3 hu) ⟨.bl _, H, I, rfl, by rw [a6]; exact ho.hereB A⟩
    · exact ho.elim
  · exact ho.elim
end
end Br

set_option linter.all false
set_option Elab.async false
set_option autoImplicit false
set_option maxRecDepth 100000
set_option maxHeartbeats 2000000
/-! BrS3: rules for expressions, told by the machine. -/
namespace Br
open PySem PySem.Spec PyProof.Rows L2

section
variable {S : Sx} {W : WX} {X : Cx} {a b c e : Expr} {es : List Expr} {pos : Pos} {ma mb1 mc : M AV} {ms1 : M (List AV)}
/-- a value, then another, then what is done with both -/
theorem DR.two {γ δ : Type} {R2 : (Nat → Addr) → Nat → Hp → γ → δ → Prop} {σ : L2.St} {μ : Nat → Addr} {h : AH} {H : Hp} {al : Lc} {f : AV → AV → M γ} {Q : δ → Hp → Prop}
    (A : At S μ h H) (L : LR S μ h.length H al σ) (ho : Out S W R2 σ μ h.length H (mb ma (fun v => mb mb1 fun w => f v w) al h) Q) :
    DE S W ma σ H fun x H1 => DE S W mb1 σ H1 fun y H2 => ∃ μ2 h2 p q, At S μ2 h2 H2 ∧ LR S μ2 h2.length H2 al σ ∧ RA S.K μ2 h2.length H2 p x ∧ RA S.K μ2 h2.length H2 q y ∧ Out S W R2 σ μ2 h2.length H2 (f p q al h2) Q :=
  (DR.bind A L ho).imp fun x H1 ⟨μ1, h1, p, A1, E1, r1, L1, o1⟩ => (DR.bind A1 L1 o1).imp fun y H2 ⟨μ2, h2, q, A2, E2, r2, L2, o2⟩ =>
    ⟨μ2, h2, p, q, A2, L2, RA.mono E2 r1, r2, o2⟩
theorem d_op2 {f : Value → Value → Sem Value} {g : AV → AV → H1 AV} (hf : OpD S W X f g) (ha : PE X a (DE S W ma)) (hb : PE X b (DE S W mb1))
    {pins : List (Addr × Obj)} {s : Shared} {σ : L2.St} {H : Hp} {Q : VK} (I : L2.Inv X pins σ H s) (d : DE S W (mb ma fun v => mb mb1 fun w => lift (g v w)) σ H Q) :
    wpAny (model X.prog X.w) X.A (eval a X.env) (fun v s₁ => wpAny (model X.prog X.w) X.A (eval b X.env) (fun u s₂ => wpAny (model X.prog X.w) X.A (f v u) (EP X pins σ Q) X.xe s₂) X.xe s₁) X.xe s := by
  obtain ⟨μ, h, al, A, L, ho⟩ := d
  exact binT ha hb I (DR.two A L ho) fun v u s2 x y H2 I2 rx ry ⟨μ2, h2, p, q, A2, _, r1, r2, o2⟩ => hf pins s2 σ H2 x y v u Q μ2 h2 p q I2 rx ry A2 r1 r2 o2
theorem d_bin {g : AV → AV → H1 AV} {op : Operator} (hf : OpD S W X (binaryOp op) g) (ha : PE X a (DE S W ma)) (hb : PE X b (DE S W mb1)) :
    PE X (.BinOp a op b pos) (DE S W (mb ma fun v => mb mb1 fun w => lift (g v w))) :=
  ⟨fun pins s σ H Q I d => wpAny_BinOp (d_op2 hf ha hb I d)⟩
/-- a comparison: its outcome a bool of the machine -/
def CoD (S : Sx) (W : WX) (X : Cx) (f : Value → Value → Sem Value) (g : AV → AV → H1 Bool) : Prop :=
  ∀ (pins : List (Addr × Obj)) (s : Shared) (σ : L2.St) (H : Hp) (x y : V) (v u : Value) (Q : VK) (μ : Nat → Addr) (h : AH) (p q : AV), Inv X pins σ H s → RelV x v → RelV y u →
    At S μ h H → RA S.K μ h.length H p x → RA S.K μ h.length H q y → Out S W Rb σ μ h.length H (g p q h) (fun b H' => Q (.bl b) H') → wpAny (model X.prog X.w) X.A (f v u) (EP X pins σ Q) X.xe s
theorem Out.bl {σ : L2.St} {μ : Nat → Addr} {n : Nat} {H : Hp} {al : Lc} {h : AH} {m : H1 Bool} {Q : VK} (o : Out S W (Rv S) σ μ n H (mb (lift m) (fun b => mp (.bl b)) al h) Q) : Out S W Rb σ μ n H (m h) fun b H' => Q (.bl b) H' := by
  unfold mb lift at o
  cases e : m h with
  | ok b h1 =>
    rw [e] at o
    exact fun μ' H' x E A r => o μ' H' (.bl x) E A (by cases r; exact ra_bl)
  | exc c fs h1 =>
    rw [e] at o
    exact o
  | fail =>
    rw [e] at o
    exact o
theorem d_cmp {g : AV → AV → H1 Bool} {op : CmpOp} (hf : CoD S W X (compareOp op) g) (ha : PE X a (DE S W ma)) (hb : PE X b (DE S W mb1)) (hm : behindInMarks op b = false) :
    PE X (.Compare a [op] [b] pos) (DE S W (mb ma fun v => mb mb1 fun w => mb (lift (g v w)) fun b => mp (.bl b))) := by
  refine ⟨fun pins s σ H Q I ⟨μ, h, al, A, L, ho⟩ => wpAny_Compare1 ?_ hm⟩
  exact binT ha hb I (DR.two A L ho) fun v u s2 x y H2 I2 rx ry ⟨μ2, h2, p, q, A2, _, r1, r2, o2⟩ => hf pins s2 σ H2 x y v u Q μ2 h2 p q I2 rx ry A2 r1 r2 (Out.bl o2)
/-- the machine's test of a value -/
abbrev tst (m : M AV) : M Bool := mb m asB
theorem tst_cmp {g : AV → AV → H1 Bool} {al : Lc} {h : AH} : tst (mb ma fun v => mb mb1 fun w => mb (lift (g v w)) fun b => mp (.bl b)) al h = mb ma (fun v => mb mb1 fun w => lift (g v w)) al h := by
  unfold tst mb lift
  cases ma al h with
  | ok v h1 =>
    dsimp only
    cases mb1 al h1 with
    | ok w h2 =>
      dsimp only
      cases g v w h2 <;> rfl
    | _ => rfl
  | _ => rfl
theorem dt_cmp {g : AV → AV → H1 Bool} {op : CmpOp} (hf : CoD S W X (compareOp op) g) (ha : PE X a (DE S W ma)) (hb : PE X b (DE S W mb1)) (hm : behindInMarks op b = false) :
    PT X (.Compare a [op] [b] pos) (DT S W (tst (mb ma fun v => mb mb1 fun w => mb (lift (g v w)) fun b => mp (.bl b)))) := by
  refine ⟨fun pins s σ H Q I ⟨μ, h, al, A, L, ho⟩ => ?_⟩
  rw [tst_cmp] at ho
  refine wpAny_isTrue_Compare1 (binT ha hb I (DR.two A L ho) fun v u s2 x y H2 I2 rx ry ⟨μ2, h2, p, q, A2, _, r1, r2, o2⟩ => ?_) hm
  refine thn (hf pins s2 σ H2 x y v u (fun z H' => ∃ k, z = .bl k ∧ Q k H') μ2 h2 p q I2 rx ry A2 r1 r2 ?_) fun c s3 ⟨z, H3, I3, r3, k, ez, q3⟩ => ?_
  · cases e : g p q h2 with
    | ok bv h3 =>
      rw [lift, e] at o2
      exact fun μ' H' x E A r => ⟨x, rfl, o2 μ' H' x E A r⟩
    | exc c fs h3 =>
      rw [lift, e] at o2
      exact o2
    | fail =>
      rw [lift, e] at o2
      exact o2
  · subst ez
    cases r3
    exact wpAny_truthy_bool ⟨H3, I3, q3⟩
/-- a value as a test -/
theorem dt_val {σ : L2.St} {H : Hp} {Q : Bool → Hp → Prop} (d : DT S W (tst ma) σ H Q) : DE S W ma σ H fun x H1 => ∃ c, x = .bl c ∧ Q c H1 := by
  obtain ⟨μ, h, al, A, L, ho⟩ := d
  refine (DR.bind A L ho).imp fun x H1 ⟨μ1, h1, v, A1, E1, r1, L1, o1⟩ => ?_
  cases v with
  | bl k => exact ⟨k, r1.bl, o1.hereB A1⟩
  | _ => exact o1.elim
theorem dt_of (he : PE X e (DE S W ma)) (hi : ∀ whole : Sem Value, isTrue e X.env whole = (do let v ← whole; standAt e.pos; holding [v] (truthy v))) : PT X e (DT S W (tst ma)) :=
  (pt_val he hi).imp fun σ H Q d => dt_val d
theorem d_neg (ha : PE X a (DE S W ma)) : PE X (.UnaryOp .USub a pos) (DE S W (mb ma fun v => match v with | .int i => mp (.int (-i)) | _ => mf)) :=
  (pe_un un_neg ha).imp fun σ H Q ⟨μ, h, al, A, L, ho⟩ => (DR.bind A L ho).imp fun x H1 ⟨μ1, h1, v, A1, E1, r1, L1, o1⟩ => by
    cases v with
    | int i => exact ⟨i, r1.int, o1.here A1 ra_int⟩
    | _ => exact o1.elim
theorem d_not (ha : PE X a (DE S W ma)) : PE X (.UnaryOp .Not a pos) (DE S W (mb ma fun v => mb (asB v) fun b => mp (.bl (!b)))) :=
  (pe_not ha).imp fun σ H Q ⟨μ, h, al, A, L, ho⟩ => (DR.bind A L ho).imp fun x H1 ⟨μ1, h1, v, A1, E1, r1, L1, o1⟩ => by
    cases v with
    | bl k => exact ⟨k, r1.bl, o1.here A1 ra_bl⟩
    | _ => exact o1.elim
theorem dt_not (ha : PT X a (DT S W (tst ma))) : PT X (.UnaryOp .Not a pos) (DT S W (tst (mb ma fun v => mb (asB v) fun b => mp (.bl (!b))))) :=
  (pt_not ha).imp fun σ H Q ⟨μ, h, al, A, L, ho⟩ => by
    have e : tst (mb ma fun v => mb (asB v) fun b => mp (.bl (!b))) al h = mb (tst ma) (fun b => mp (!b)) al h := by
      unfold tst mb
      cases ma al h with
      | ok v h1 =>
        dsimp only
        cases v <;> rfl
      | _ => rfl
    rw [e] at ho
    exact (DR.bind (R := Rb) A L ho).imp fun x H1 ⟨μ1, h1, v, A1, E1, r1, L1, o1⟩ => by
      obtain rfl : v = x := r1
      exact o1.hereB A1
theorem d_and {rest : List Expr} (ha : PE X a (DE S W ma)) (hb : PE X (.BoolOp .And (b :: rest) pos) (DE S W mb1)) :
    PE X (.BoolOp .And (a :: b :: rest) pos) (DE S W (mb ma fun v => mb (asB v) fun b => if b then mb1 else mp (.bl false))) :=
  (pe_and ha hb).imp fun σ H Q ⟨μ, h, al, A, L, ho⟩ => (DR.bind A L ho).imp fun x H1 ⟨μ1, h1, v, A1, E1, r1, L1, o1⟩ => by
    cases v with
    | bl k =>
      refine ⟨k, r1.bl, ?_⟩
      cases k with
      | true => exact ⟨μ1, h1, al, A1, L1, o1⟩
      | false => exact o1.here A1 ra_bl
    | _ => exact o1.elim
theorem d_or {rest : List Expr} (ha : PE X a (DE S W ma)) (hb : PE X (.BoolOp .Or (b :: rest) pos) (DE S W mb1)) :
    PE X (.BoolOp .Or (a :: b :: rest) pos) (DE S W (mb ma fun v => mb (asB v) fun b => if b then mp (.bl true) else mb1)) :=
  (pe_or ha hb).imp fun σ H Q ⟨μ, h, al, A, L, ho⟩ => (DR.bind A L ho).imp fun x H1 ⟨μ1, h1, v, A1, E1, r1, L1, o1⟩ => by
    cases v with
    | bl k =>
      refine ⟨k, r1.bl, ?_⟩
      cases k with
      | true => exact o1.here A1 ra_bl
      | false => exact ⟨μ1, h1, al, A1, L1, o1⟩
    | _ => exact o1.elim
theorem tst_and {al : Lc} {h : AH} : tst (mb ma fun v => mb (asB v) fun b => if b then mb1 else mp (.bl false)) al h = mb (tst ma) (fun b => if b then tst mb1 else mp false) al h := by
  unfold tst mb
  cases ma al h with
  | ok v h1 =>
    dsimp only
    cases v with
    | bl k => cases k <;> rfl
    | _ => rfl
  | _ => rfl
theorem tst_or {al : Lc} {h : AH} : tst (mb ma fun v => mb (asB v) fun b => if b then mp (.bl true) else mb1) al h = mb (tst ma) (fun b => if b then mp true else tst mb1) al h := by
  unfold tst mb
  cases ma al h with
  | ok v h1 =>
    dsimp only
    cases v with
    | bl k => cases k <;> rfl
    | _ => rfl
  | _ => rfl
theorem dw_and {rest : List Expr} (ha : PT X a (DT S W (tst ma))) (hb : PW X (.BoolOp .And (b :: rest) pos) (DT S W (tst mb1))) :
    PW X (.BoolOp .And (a :: b :: rest) pos) (DT S W (tst (mb ma fun v => mb (asB v) fun b => if b then mb1 else mp (.bl false)))) := by
  refine ⟨fun wh pins s σ H Q I d => (pw_and ha hb).run wh pins s σ H Q I ?_⟩
  obtain ⟨μ, h, al, A, L, ho⟩ := d
  rw [tst_and] at ho
  refine (DR.bind (R := Rb) A L ho).imp fun x H1 ⟨μ1, h1, v, A1, E1, r1, L1, o1⟩ => ?_
  obtain rfl : v = x := r1
  cases v with
  | true => exact ⟨μ1, h1, al, A1, L1, o1⟩
  | false => exact o1.hereB A1
theorem dw_or {rest : List Expr} (ha : PT X a (DT S W (tst ma))) (hb : PW X (.BoolOp .Or (b :: rest) pos) (DT S W (tst mb1))) :
    PW X (.BoolOp .Or (a :: b :: rest) pos) (DT S W (tst (mb ma fun v => mb (asB v) fun b => if b then mp (.bl true) else mb1))) := by
  refine ⟨fun wh pins s σ H Q I d => (pw_or ha hb).run wh pins s σ H Q I ?_⟩
  obtain ⟨μ, h, al, A, L, ho⟩ := d
  rw [tst_or] at ho
  refine (DR.bind (R := Rb) A L ho).imp fun x H1 ⟨μ1, h1, v, A1, E1, r1, L1, o1⟩ => ?_
  obtain rfl : v = x := r1
  cases v with
  | true => exact o1.hereB A1
  | false => exact ⟨μ1, h1, al, A1, L1, o1⟩
theorem isN_ra {v : AV} {x : V} {μ : Nat → Addr} {n : Nat} {H : Hp} (r : RA S.K μ n H v x) : decide (x = V.non) = (match v with | .non => true | _ => false) := by
  cases v with
  | non => cases r.non; rfl
  | bl b => cases r.bl; rfl
  | int b => cases r.int; rfl
  | str b => cases r.str; rfl
  | tup b => obtain ⟨_, _, rfl, _⟩ := r.tup; rfl
  | kt b => obtain ⟨_, _, rfl, _⟩ := r.kt; rfl
  | fl b => obtain ⟨_, _, rfl, _⟩ := r.fl; rfl
  | ref b => obtain ⟨_, rfl⟩ := r.ref; rfl
theorem d_isN {k2 : Option Str} {p2 : Pos} {j : Nat} (ha : PE X a (DE S W ma)) : PE X (.Compare a [.Is] [.Constant .none j p2] pos) (DE S W (mb ma fun v => match v with | .non => mp (.bl true) | _ => mp (.bl false))) :=
  (pe_cmpR op_isN ha pe_non (nomark _)).imp fun σ H Q ⟨μ, h, al, A, L, ho⟩ => (DR.bind A L ho).imp fun x H1 ⟨μ1, h1, v, A1, E1, r1, L1, o1⟩ => by
    refine ⟨rfl, ?_⟩
    rw [isN_ra r1]
    cases v <;> exact o1.here A1 ra_bl
theorem d_notN {k2 : Option Str} {p2 : Pos} {j : Nat} (ha : PE X a (DE S W ma)) : PE X (.Compare a [.IsNot] [.Constant .none j p2] pos) (DE S W (mb ma fun v => match v with | .non => mp (.bl false) | _ => mp (.bl true))) :=
  (pe_cmpR op_notN ha pe_non (nomark _)).imp fun σ H Q ⟨μ, h, al, A, L, ho⟩ => (DR.bind A L ho).imp fun x H1 ⟨μ1, h1, v, A1, E1, r1, L1, o1⟩ => by
    refine ⟨rfl, ?_⟩
    rw [isN_ra r1]
    cases v <;> exact o1.here A1 ra_bl
theorem dt_isN {k2 : Option Str} {p2 : Pos} {j : Nat} (ha : PE X a (DE S W ma)) : PT X (.Compare a [.Is] [.Constant .none j p2] pos) (DT S W (tst (mb ma fun v => match v with | .non => mp (.bl true) | _ => mp (.bl false)))) :=
  (pt_cmpR op_isN ha pe_non (nomark _)).imp fun σ H Q d => by
    obtain ⟨μ, h, al, A, L, ho⟩ := dt_val d
    refine (DR.bind A L ho).imp fun x H1 ⟨μ1, h1, v, A1, E1, r1, L1, o1⟩ => ⟨rfl, ?_⟩
    rw [isN_ra r1]
    cases v <;> exact o1.here A1 ra_bl
theorem dt_notN {k2 : Option Str} {p2 : Pos} {j : Nat} (ha : PE X a (DE S W ma)) : PT X (.Compare a [.IsNot] [.Constant .none j p2] pos) (DT S W (tst (mb ma fun v => match v with | .non => mp (.bl false) | _ => mp (.bl true)))) :=
  (pt_cmpR op_notN ha pe_non (nomark _)).imp fun σ H Q d => by
    obtain ⟨μ, h, al, A, L, ho⟩ := dt_val d
    refine (DR.bind A L ho).imp fun x H1 ⟨μ1, h1, v, A1, E1, r1, L1, o1⟩ => ⟨rfl, ?_⟩
    rw [isN_ra r1]
    cases v <;> exact o1.here A1 ra_bl
theorem d_ite (hc : PT X c (DT S W (tst mc))) (ha : PE X a (DE S W ma)) (hb : PE X b (DE S W mb1)) :
    PE X (.IfExp c a b pos) (DE S W (mb mc fun v => mb (asB v) fun k => if k then ma else mb1)) :=
  (pe_ifExp hc ha hb).imp fun σ H Q ⟨μ, h, al, A, L, ho⟩ => by
    have e : mb mc (fun v => mb (asB v) fun k => if k then ma else mb1) al h = mb (tst mc) (fun k => if k then ma else mb1) al h := by
      unfold tst mb
      cases mc al h with
      | ok v h1 => cases v <;> rfl
      | _ => rfl
    rw [e] at ho
    exact (DR.bind (R := Rb) A L ho).imp fun x H1 ⟨μ1, h1, v, A1, E1, r1, L1, o1⟩ => by
      obtain rfl : v = x := r1
      cases v with
      | true => exact ⟨μ1, h1, al, A1, L1, o1⟩
      | false => exact ⟨μ1, h1, al, A1, L1, o1⟩
/-! argument lists -/
theorem da_nil : PA X [] (DA S W (mp [])) := pa_nil.imp fun σ H Q ⟨μ, h, al, A, L, ho⟩ => Out.here (R := Rvs S) A .nil ho
theorem da_cons (ha : PE X e (DE S W ma)) (hr : PA X es (DA S W ms1)) (hs : starEach (e :: es) X.env = (false, eval e X.env) :: starEach es X.env) :
    PA X (e :: es) (DA S W (mb ma fun v => mb ms1 fun vs => mp (v :: vs))) :=
  (pa_cons ha hr hs).imp fun σ H Q ⟨μ, h, al, A, L, ho⟩ => (DR.bind A L ho).imp fun x H1 ⟨μ1, h1, v, A1, E1, r1, L1, o1⟩ =>
    (DR.bind A1 L1 o1).imp fun xs H2 ⟨μ2, h2, vs, A2, E2, r2, L2, o2⟩ => o2.here A2 (RAs.cons (RA.mono E2 r1) r2)
theorem seq_ra {h : AH} {v : AV} {x : V} {μ : Nat → Addr} {H : Hp} {xs : List AV} (A : At S μ h H) (e : seqOf h v = some xs) (r : RA S.K μ h.length H v x) : ∃ p vs, x = .ref p ∧ (SqL S.K H p vs ∨ SqT S.K H p vs) ∧ RAs S.K μ h.length H xs vs := by
  cases v with
  | tup ys =>
    cases e
    obtain ⟨p, vs, rfl, t, rs⟩ := r.tup
    exact ⟨p, vs, rfl, .inr (sqT_of t), rs⟩
  | kt ys =>
    cases e
    obtain ⟨p, vs, rfl, t, rs⟩ := r.kt
    exact ⟨p, vs, rfl, .inr t.sqT, rs⟩
  | fl ys =>
    cases e
    obtain ⟨p, vs, rfl, t, rs⟩ := r.fl
    exact ⟨p, vs, rfl, .inl t.sqL, rs⟩
  | ref i =>
    simp only [seqOf] at e
    split at e
    · rename_i ys e0
      cases e
      obtain ⟨_, rfl⟩ := r.ref
      obtain ⟨vs, hv, rs⟩ := A.lst e0
      exact ⟨_, vs, rfl, .inl (.of hv), rs⟩
    · cases e
  | _ => cases e
theorem da_star {p : Pos} (hK : X.K = S.K) (ha : PE X e (DE S W ma)) (hr : PA X es (DA S W ms1)) :
    PA X (.Starred e p :: es) (DA S W (mb ma fun v => fun al h => match seqOf h v with | some xs => (mb ms1 fun vs => mp (xs ++ vs)) al h | none => .fail)) :=
  (StX.pa_star ha hr).imp fun σ H Q ⟨μ, h, al, A, L, ho⟩ => (DR.bind A L ho).imp fun x H1 ⟨μ1, h1, v, A1, E1, r1, L1, o1⟩ => by
    cases e1 : seqOf h1 v with
    | none =>
      rw [e1] at o1
      exact o1.elim
    | some xs =>
      rw [e1] at o1
      obtain ⟨p, vs, rfl, hq, rs⟩ := seq_ra A1 e1 r1
      refine ⟨p, vs, rfl, by rw [hK]; exact hq.symm, ?_⟩
      exact (DR.bind A1 L1 o1).imp fun ys H2 ⟨μ2, h2, ws, A2, E2, r2, L2, o2⟩ => o2.here A2 ((RAs.mono E2 rs).append r2)
theorem d_lst (hs : PA X es (DA S W ms1)) : PE X (.List es pos) (DE S W (mb ms1 fun vs => lift (newL vs))) :=
  (pe_lst hs).imp fun σ H Q ⟨μ, h, al, A, L, ho⟩ => (DR.bind A L ho).imp fun xs H1 ⟨μ1, h1, vs, A1, E1, r1, L1, o1⟩ => Out.newL A1 r1 o1
theorem d_tup {x1 : Nat} (hs : PA X es (DA S W ms1)) : PE X (.Tuple es x1 pos) (DE S W (mb ms1 fun vs => if vs.length ≤ lim then mp (.tup vs) else mf)) :=
  (pe_tup hs).imp fun σ H Q ⟨μ, h, al, A, L, ho⟩ => (DR.bind A L ho).imp fun xs H1 ⟨μ1, h1, vs, A1, E1, r1, L1, o1⟩ => by
    by_cases hl : vs.length ≤ lim
    · rw [if_pos hl] at o1
      exact ⟨by rw [← r1.length]; exact lim_le hl, fun p hp => Out.tup A1 r1 hp o1⟩
    · rw [if_neg hl] at o1
      exact o1.elim
end
end Br

set_option linter.all false
set_option Elab.async false
set_option autoImplicit false
set_option maxRecDepth 100000
set_option maxHeartbeats 2000000
/-! BrS4: subscripts, slices, f-strings. -/
namespace Br
open PySem PySem.Spec PyProof.Rows L2

theorem ixN_eq (n : Nat) (i : Int) : Br.ixN n i = L2.ixN n i := by
  unfold Br.ixN L2.ixN
  by_cases h : 0 ≤ i
  · rw [if_pos h, if_pos h]
  · rw [if_neg h, if_neg h]
    by_cases h2 : 0 ≤ i + n
    · rw [if_pos h2, if_pos (by omega)]
    · rw [if_neg h2, if_neg (by omega)]
section
variable {S : Sx} {W : WX} {X : Cx} {a b e : Expr} {es : List Expr} {pos : Pos} {ma mb1 : M AV} {ms1 : M (List AV)}
theorem RAs.atI {K : PySem.W.Frag} {μ : Nat → Addr} {n : Nat} {H : Hp} {xs : List AV} {vs : List V} {i : Int} {v : AV} (r : RAs K μ n H xs vs) (e : ((Br.ixN xs.length i).bind fun j => xs[j]?) = some v) : ∃ x, L2.atI vs i = some x ∧ RA K μ n H v x := by
  rw [ixN_eq, r.length] at e
  unfold L2.atI
  cases h : L2.ixN vs.length i with
  | none => rw [h] at e; cases e
  | some j =>
    rw [h] at e
    exact r.get e
/-- a subscript of two values -/
def IxD (S : Sx) (W : WX) (X : Cx) (g : AV → AV → H1 AV) : Prop :=
  ∀ (value slice : Expr) (pins : List (Addr × Obj)) (s : Shared) (σ : L2.St) (H : Hp) (x y : V) (v u : Value) (Q : VK) (μ : Nat → Addr) (h : AH) (p q : AV), Inv X pins σ H s → RelV x v → RelV y u →
    At S μ h H → RA S.K μ h.length H p x → RA S.K μ h.length H q y → Out S W (Rv S) σ μ h.length H (g p q h) Q →
    subscripted slice false v u = operate [v, u] (getItem v u) → wpAny (model X.prog X.w) X.A (subscriptTail value slice v u) (EP X pins σ Q) X.xe s
theorem ix_subI (hK : X.K = S.K) (hu : X.A.units + 65 < cLine) : IxD S W X subI := by
  intro value slice pins s σ H x y v u Q μ h p q I rx ry A rp rq ho hs
  unfold subI at ho
  split at ho
  · rename_i xs i
    obtain ⟨pa, vs, rfl, t, rs⟩ := rp.tup
    cases rq.int
    split at ho
    · rename_i w e
      obtain ⟨z, ez, rz⟩ := rs.atI e
      exact ix_tup value slice pins s σ H _ _ v u Q I rx ry ⟨pa, vs, i, z, rfl, rfl, sqT_of t, ez, ho.here A rz⟩ hs
    · exact ho.elim
  · rename_i xs i
    obtain ⟨pa, vs, rfl, t, rs⟩ := rp.kt
    cases rq.int
    split at ho
    · rename_i w e
      obtain ⟨z, ez, rz⟩ := rs.atI e
      exact ix_tup value slice pins s σ H _ _ v u Q I rx ry ⟨pa, vs, i, z, rfl, rfl, by rw [hK]; exact t.sqT, ez, ho.here A rz⟩ hs
    · exact ho.elim
  · rename_i xs i
    obtain ⟨pa, vs, rfl, t, rs⟩ := rp.fl
    cases rq.int
    split at ho
    · rename_i w e
      obtain ⟨z, ez, rz⟩ := rs.atI e
      exact ix_list value slice pins s σ H _ _ v u Q I rx ry ⟨pa, vs, i, z, rfl, rfl, by rw [hK]; exact t.sqL, ez, ho.here A rz⟩ hs
    · exact ho.elim
  · rename_i xs i
    cases rp.str
    cases rq.int
    split at ho
    · rename_i c e
      split at ho
      · rename_i hl
        refine ix_str value slice pins s σ H _ _ v u Q I rx ry ⟨_, i, c, rfl, rfl, by rw [sO_len]; exact lim_le hl, ?_, ho.here A ra_str⟩ hs
        rw [ixN_eq] at e
        unfold L2.atI
        simpa using e
      · exact ho.elim
    · exact ho.elim
  · rename_i r k
    obtain ⟨_, rfl⟩ := rp.ref
    split at ho
    · rename_i xs e0
      obtain ⟨vs, hv, rs⟩ := A.lst e0
      split at ho
      · rename_i i
        cases rq.int
        split at ho
        · rename_i w e
          obtain ⟨z, ez, rz⟩ := rs.atI e
          exact ix_list value slice pins s σ H _ _ v u Q I rx ry ⟨_, vs, i, z, rfl, rfl, .of hv, ez, ho.here A rz⟩ hs
        · exact ho.elim
      · exact ho.elim
    · rename_i tk kvs lk e0
      split at ho
      · rename_i hk
        obtain ⟨qv, g, rv⟩ := A.dget e0 hk rq
        split at ho
        · rename_i w ew
          rw [ew] at rv
          cases qv with
          | none => exact rv.elim
          | some z =>
            cases rx
            exact tail_any (dict_typeIs I g) PySem.F.slot_dict_getitem.lookup (d_getItem (by omega) I g ry fun w' s3 I3 rw' => ⟨z, H, I3, rw', ho.here A rv⟩) hs
        · exact ho.elim
      · exact ho.elim
    · exact ho.elim
  · exact ho.elim
theorem d_idx (hK : X.K = S.K) (hu : X.A.units + 65 < cLine) (ha : PE X a (DE S W ma)) (hb : PE X b (DE S W mb1)) (hs : PlainIx b) : PE X (.Subscript a b pos) (DE S W (mb ma fun v => mb mb1 fun w => lift (subI v w))) := by
  refine ⟨fun pins s σ H Q I ⟨μ, h, al, A, L, ho⟩ => Subscript_ ?_⟩
  exact binT ha hb I (DR.two A L ho) fun v u s2 x y H2 I2 rx ry ⟨μ2, h2, p, q, A2, _, r1, r2, o2⟩ => ix_subI hK hu a b pins s2 σ H2 x y v u Q μ2 h2 p q I2 rx ry A2 r1 r2 o2 (hs _ _)
/-! slices -/
theorem sEnd_eq (n d : Nat) (o : Option Int) : sEnd n d o = HT.sIx n d o := by
  cases o with
  | none => rfl
  | some i =>
    show (if i < 0 then (i + n).toNat else min n i.toNat) = if i < 0 then (i + (n : Int)).toNat else min i.toNat n
    rw [Nat.min_comm]
theorem RAs.cut {K : PySem.W.Frag} {μ : Nat → Addr} {n : Nat} {H : Hp} {xs : List AV} {vs : List V} (r : RAs K μ n H xs vs) (lo hi : Option Int) : RAs K μ n H (Br.cut xs lo hi) (cutV vs lo hi) := by
  unfold Br.cut cutV
  rw [sEnd_eq, sEnd_eq, r.length]
  exact (r.drop _).take _
theorem cut_whole {K : PySem.W.Frag} {μ : Nat → Addr} {n : Nat} {H : Hp} {xs : List AV} {vs : List V} (r : RAs K μ n H xs vs) {lo hi : Option Int} (w : HT.sIx vs.length 0 lo = 0 ∧ HT.sIx vs.length vs.length hi = vs.length) : Br.cut xs lo hi = xs := by
  unfold Br.cut
  rw [sEnd_eq, sEnd_eq, r.length, w.1, w.2, ← r.length]
  simp
def SlD (S : Sx) (W : WX) (X : Cx) (g : AV → Option Int → Option Int → H1 AV) : Prop :=
  ∀ (pins : List (Addr × Obj)) (s : Shared) (σ : L2.St) (H : Hp) (x : V) (v vl vu : Value) (lo hi : Option Int) (sl : Addr) (Q : VK) (μ : Nat → Addr) (h : AH) (p : AV), Inv X pins σ H s → RelV x v →
    s.heap.IsSliceOf sl vl vu Value.none → IsPart vl lo → IsPart vu hi → At S μ h H → RA S.K μ h.length H p x → Out S W (Rv S) σ μ h.length H (g p lo hi h) Q →
    ∃ T id, typeLookup (Value.type T) (Str.ofString "__getitem__") = pure (some (Value.builtin id)) ∧ s.TypeIs v T ∧ wpAny (model X.prog X.w) X.A (getItem v (Value.ref sl)) (EP X pins σ Q) X.xe s
theorem sl_slice (hK : X.K = S.K) : SlD S W X slice := by
  intro pins s σ H x v vl vu lo hi sl Q μ h p I rx hs pl pu A rp ho
  unfold slice at ho
  split at ho
  · rename_i xs
    obtain ⟨pa, vs, rfl, t, rs⟩ := rp.tup
    refine sl_tupA pins s σ H _ v vl vu lo hi sl Q I rx hs pl pu ⟨pa, vs, rfl, sqT_of t, fun w => ?_, fun _ q hq => ?_⟩
    · rw [cut_whole rs w] at ho
      exact ho.here A (ra_tup t rs)
    · exact Out.tup A (rs.cut lo hi) hq ho
  · rename_i xs
    cases rp.str
    split at ho
    · rename_i hl
      refine sl_str pins s σ H _ v vl vu lo hi sl Q I rx hs pl pu ⟨_, rfl, by rw [sO_len]; exact lim_le hl, ?_⟩
      have e : cutS (sO xs) lo hi = sO (Br.cut xs lo hi) := by
        unfold cutS Br.cut
        rw [sEnd_eq, sEnd_eq, sO_len]
      rw [e]
      exact ho.here A ra_str
    · exact ho.elim
  · rename_i xs
    obtain ⟨pa, vs, rfl, t, rs⟩ := rp.fl
    exact sl_list pins s σ H _ v vl vu lo hi sl Q I rx hs pl pu ⟨pa, vs, rfl, by rw [hK]; exact t.sqL, (Out.newL A (rs.cut lo hi) ho).2⟩
  · rename_i r
    obtain ⟨_, rfl⟩ := rp.ref
    split at ho
    · rename_i xs e0
      obtain ⟨vs, hv, rs⟩ := A.lst e0
      exact sl_list pins s σ H _ v vl vu lo hi sl Q I rx hs pl pu ⟨_, vs, rfl, .of hv, (Out.newL A (rs.cut lo hi) ho).2⟩
    · exact ho.elim
  · exact ho.elim
theorem do_none : PO X none (DO S W (mp none)) := ⟨fun pins s σ H Q I ⟨μ, h, al, A, L, ho⟩ => po_none.run pins s σ H Q I (Out.here (R := Ro) A rfl ho)⟩
theorem do_some (ha : PE X a (DE S W ma)) : PO X (some a) (DO S W (mb ma fun v => match v with | .int i => mp (some i) | _ => mf)) :=
  ⟨fun pins s σ H Q I ⟨μ, h, al, A, L, ho⟩ => (po_some ha).run pins s σ H Q I ((DR.bind A L ho).imp fun x H1 ⟨μ1, h1, v, A1, E1, r1, L1, o1⟩ => by
    cases v with
    | int i => exact ⟨i, r1.int, Out.here (R := Ro) A1 rfl o1⟩
    | _ => exact o1.elim)⟩
theorem d_slc {lo hi : Option Expr} {p2 : Pos} {ml mh : M (Option Int)} (hK : X.K = S.K) (he : PE X e (DE S W ma)) (hl : PO X lo (DO S W ml)) (hh : PO X hi (DO S W mh)) :
    PE X (.Subscript e (.Slice lo hi none p2) pos) (DE S W (mb ma fun v => mb ml fun l => mb mh fun r => lift (slice v l r))) := by
  refine ⟨fun pins s σ H Q I ⟨μ, h, al, A, L, ho⟩ => ?_⟩
  refine (pe_slice (r := fun x lo hi H' Q' => ∃ μ h p, At S μ h H' ∧ RA S.K μ h.length H' p x ∧ Out S (fun c d _ H'' => W c d σ H'') (Rv S) σ μ h.length H' (slice p lo hi h) Q')
    (fun pins s σ' H' x v vl vu lo hi sl Q' I' rx hs pl pu ⟨μ', h', p, A', rp, o'⟩ => sl_slice (W := fun c d _ H'' => W c d σ H'') hK pins s σ' H' x v vl vu lo hi sl Q' μ' h' p I' rx hs pl pu A' rp ?_) he hl hh).run pins s σ H Q I ?_
  · revert o'
    cases slice p lo hi h' <;> exact fun z => z
  · refine (DR.bind A L ho).imp fun x H1 ⟨μ1, h1, v, A1, E1, r1, L1, o1⟩ => (DR.bind (R := Ro) A1 L1 o1).imp fun l H2 ⟨μ2, h2, l', A2, E2, r2, L2', o2⟩ => (DR.bind (R := Ro) A2 L2' o2).imp fun k H3 ⟨μ3, h3, k', A3, E3, r3, L3, o3⟩ => ?_
    obtain rfl : l' = l := r2
    obtain rfl : k' = k := r3
    refine ⟨μ3, h3, v, A3, RA.mono E3 (RA.mono E2 r1), ?_⟩
    revert o3
    show Out S W (Rv S) σ _ _ _ (slice v l' k' h3) _ → _
    cases slice v l' k' h3 <;> exact fun z => z
theorem d_rev {k : Nat} {p1 p2 p3 : Pos} (he : PE X e (DE S W ma)) :
    PE X (.Subscript e (.Slice none none (some (.UnaryOp .USub (.Constant (.int 1) k p1) p2)) p3) pos) (DE S W (mb ma fun v => lift (revL v))) :=
  (pe_revL he).imp fun σ H Q ⟨μ, h, al, A, L, ho⟩ => (DR.bind A L ho).imp fun x H1 ⟨μ1, h1, v, A1, E1, r1, L1, o1⟩ => by
    unfold lift revL at o1
    split at o1
    · rename_i r
      obtain ⟨_, rfl⟩ := r1.ref
      split at o1
      · rename_i xs e0
        obtain ⟨vs, hv, rs⟩ := A1.lst e0
        have rr : RAs S.K μ1 h1.length H1 xs.reverse vs.reverse := by
          clear o1 e0 hv
          revert vs
          induction xs with
          | nil => intro vs rs; rw [rs.of_nil]; exact .nil
          | cons y ys ih =>
            intro vs rs
            obtain ⟨z, zs, rfl, a1, a2⟩ := rs.of_cons
            rw [List.reverse_cons, List.reverse_cons]
            exact (ih zs a2).append (.cons a1 .nil)
        exact ⟨_, vs, rfl, .of hv, (Out.newL A1 rr o1).2⟩
      · exact o1.elim
    · exact o1.elim
/-! f-strings -/
def DJ (S : Sx) (W : WX) (m : List Nat → M AV) : List Nat → L2.St → Hp → (Str → Hp → Prop) → Prop := fun acc σ H Q =>
  ∃ μ h a, At S μ h H ∧ LR S μ h.length H a σ ∧ Out S W (Rv S) σ μ h.length H (m acc a h) (fun x H' => ∀ y, x = .str y → Q y H')
structure JOk (S : Sx) (W : WX) (X : Cx) (es : List Expr) (m : List Nat → M AV) : Prop where
  ex : ∃ ts, PJ X es ts ∧ ∀ acc σ H Q, DJ S W m acc σ H Q → tJs ts (sO acc) σ H Q
theorem j_nil : JOk S W X [] (fun acc => mp (.str acc)) := ⟨[], .nil, fun acc σ H Q ⟨μ, h, a, A, L, ho⟩ => Out.here A (ra_str (s := acc)) ho _ rfl⟩
theorem j_cons {m : List Nat → M AV} (he : PE X e (DE S W ma)) (hr : JOk S W X es m) : JOk S W X (e :: es) (fun acc => mb ma fun v => match v with | .str s => if acc.length + s.length ≤ lim then m (acc ++ s) else mf | _ => mf) := by
  obtain ⟨ts, hj, hq⟩ := hr.ex
  refine ⟨_, .cons he hj, fun acc σ H Q ⟨μ, h, a, A, L, ho⟩ => (DR.bind A L ho).imp fun x H1 ⟨μ1, h1, v, A1, E1, r1, L1, o1⟩ => ?_⟩
  cases v with
  | str s =>
    dsimp only at o1
    by_cases hl : acc.length + s.length ≤ lim
    · rw [if_pos hl] at o1
      refine ⟨_, r1.str, ?_, ?_⟩
      · rw [sO_app, sO_len, List.length_append]; exact lim_le hl
      · rw [sO_app]
        exact hq _ _ _ _ ⟨μ1, h1, a, A1, L1, o1⟩
    · rw [if_neg hl] at o1
      exact o1.elim
  | _ => exact o1.elim
theorem d_fst {v1 v2 : Expr} {rest : List Expr} {m : List Nat → M AV} (hj : JOk S W X (v1 :: v2 :: rest) m) : PE X (.JoinedStr (v1 :: v2 :: rest) pos) (DE S W (m [])) := by
  obtain ⟨ts, h1, h2⟩ := hj.ex
  refine (pe_joined h1).imp fun σ H Q ⟨μ, h, a, A, L, ho⟩ => h2 [] σ H _ ⟨μ, h, a, A, L, ?_⟩
  revert ho
  cases m [] a h with
  | ok v h' =>
    intro ho μ' H' x E' A' r' y ey
    subst ey
    exact ho μ' H' _ E' A' r'
  | exc c fs h' => exact fun z => z
  | fail => exact fun z => z
end
end Br

set_option linter.all false
set_option Elab.async false
set_option autoImplicit false
set_option maxRecDepth 100000
set_option maxHeartbeats 2000000
/-! BrS5: built-in functions. -/
namespace Br
open PySem PySem.Spec PyProof.Rows L2

theorem strI_eq (i : Int) : Str.ofString (toString i) = sO (strI i) := by
  unfold strI
  by_cases h : i < 0
  · rw [if_pos h, toString_neg h, Str.ofString_eq_toList]
    have e : (0 - i) = ((i.natAbs : Nat) : Int) := by omega
    rw [e, String.toList_append, List.map_append]
    have k := PySem.W.KIN.signs_num i.natAbs
    rw [Str.ofString_eq_toList] at k
    have k2 : (toString ((i.natAbs : Nat) : Int)).toList.map Char.toNat = digits i.natAbs := by
      unfold digits
      simpa using k
    rw [k2]
    rfl
  · rw [if_neg h]
    have e : i = ((i.natAbs : Nat) : Int) := by omega
    have k := PySem.W.KIN.signs_num i.natAbs
    have z : (Str.ofString (toString i)).cps.toList = digits i.natAbs := by
      rw [e]
      simpa [digits] using k
    have w := sO_keyA (Str.ofString (toString i))
    rw [← w, z]
section
variable {S : Sx} {W : WX} {X : Cx} {G : Gm} {C : Callee} {e : Expr} {es : List Expr} {pos p0 : Pos} {ms1 : M (List AV)}
/-- a call of a value -/
def CrD (S : Sx) (W : WX) (X : Cx) (f : Value) (g : List AV → H1 AV) : Prop :=
  ∀ (pins : List (Addr × Obj)) (s : Shared) (σ : L2.St) (H : Hp) (xs : List V) (us : List Value) (Q : VK) (μ : Nat → Addr) (h : AH) (ps : List AV), Inv X pins σ H s → Vals xs us →
    At S μ h H → RAs S.K μ h.length H ps xs → Out S W (Rv S) σ μ h.length H (g ps h) Q → wpAny (model X.prog X.w) X.A (call f us) (EP X pins σ Q) X.xe s
theorem d_callB {x : Str} {g : List AV → H1 AV} {id : String} (hc : CrD S W X (.builtin id) g) (hg : Gl X x) (hm : X.mg x = none) (hv : bootBuiltins x = some (.builtin id)) (ha : PA X (e :: es) (DA S W ms1)) (hn : x ≠ "__name__") (hdb : (x == ("__debug__" : Str)) = false)
    (he : starEach (e :: es) X.env = (false, eval e X.env) :: starEach es X.env) (hpl : (backTo pos (starEach es X.env)).any (·.1) = false) : PE X (.Call (.Name x p0) (e :: es) [] pos) (DE S W (mb ms1 fun vs => lift (g vs))) := by
  refine ⟨fun pins s σ H Q I ⟨μ, h, al, A, L, ho⟩ => ?_⟩
  refine wpAny_Call_Name_kw (ld_blt I hg hm hv ?_ hn hdb)
  exact PyProof.Rows.callWith_builtin1 (thn (ha.run pos pins s σ H _ I (DR.bind A L ho)) fun us s1 ⟨vs, H1, I1, r1, μ1, h1, ps, A1, E1, rr, L1, o1⟩ => hc pins s1 σ H1 vs us Q μ1 h1 ps I1 r1 A1 rr o1) he hpl
theorem d_callTy {x : Str} {g : List AV → H1 AV} {T : String} (hc : CrD S W X (.type T) g) (hg : Gl X x) (hm : X.mg x = none) (hv : bootBuiltins x = some (.type T)) (ha : PA X (e :: es) (DA S W ms1)) (hn : x ≠ "__name__") (hdb : (x == ("__debug__" : Str)) = false)
    (he : starEach (e :: es) X.env = (false, eval e X.env) :: starEach es X.env) (hpl : (backTo pos (starEach es X.env)).any (·.1) = false) : PE X (.Call (.Name x p0) (e :: es) [] pos) (DE S W (mb ms1 fun vs => lift (g vs))) := by
  refine ⟨fun pins s σ H Q I ⟨μ, h, al, A, L, ho⟩ => ?_⟩
  refine wpAny_Call_Name_kw (ld_blt I hg hm hv ?_ hn hdb)
  exact PyProof.Rows.callWith_type1 (thn (ha.run pos pins s σ H _ I (DR.bind A L ho)) fun us s1 ⟨vs, H1, I1, r1, μ1, h1, ps, A1, E1, rr, L1, o1⟩ => hc pins s1 σ H1 vs us Q μ1 h1 ps I1 r1 A1 rr o1) he hpl
def biN : BI → String
  | .len => "len"
  | .int => "int"
  | .str => "str"
  | .fmt => "str"
  | .bool => "bool"
  | .abs => "abs"
  | .min => "min"
  | .max => "max"
  | .sorted => "sorted"
  | .all => "all"
  | .any => "any"
  | .repr => "repr"
  | .dict => "dict"
def biTy : BI → Bool
  | .int => true
  | .str => true
  | .bool => true
  | .dict => true
  | _ => false
def biV (b : BI) : Value := if biTy b then .type (biN b) else .builtin (biN b)
/-- own methods behind len, bool, repr -/
def OwnBi (S : Sx) (W : WX) (X : Cx) (G : Gm) (C : Callee) : Prop :=
  ∀ (b : BI) (m : Nat), ((b = .len ∧ m = nLen) ∨ (b = .bool ∧ m = nBool) ∨ (b = .repr ∧ m = nRepr)) → ∀ (c : Nat) (key : Key2), G.meth c m = some key →
    ∀ (pins : List (Addr × Obj)) (s : Shared) (σ : L2.St) (H : Hp) (x : V) (u : Value) (Q : VK) (μ : Nat → Addr) (h : AH) (p : AV), Inv X pins σ H s → RelV x u → At S μ h H → RA S.K μ h.length H p x → clsOf h p = some c →
    Out S W (Rv S) σ μ h.length H (C key [p] [] h) Q → wpAny (model X.prog X.w) X.A (call (biV b) [u]) (EP X pins σ Q) X.xe s
/-- the built-in ones that are covered -/
def biOk : BI → Bool
  | .fmt => false
  | .sorted => false
  | .dict => false
  | _ => true
theorem RAs.one {K : PySem.W.Frag} {μ : Nat → Addr} {n : Nat} {H : Hp} {v : AV} {xs : List V} (r : RAs K μ n H [v] xs) : ∃ x, xs = [x] ∧ RA K μ n H v x := by
  obtain ⟨y, ys, rfl, a, b⟩ := r.of_cons
  rw [b.of_nil]
  exact ⟨y, rfl, a⟩
theorem RAs.pair {K : PySem.W.Frag} {μ : Nat → Addr} {n : Nat} {H : Hp} {v w : AV} {xs : List V} (r : RAs K μ n H [v, w] xs) : ∃ x y, xs = [x, y] ∧ RA K μ n H v x ∧ RA K μ n H w y := by
  obtain ⟨y, ys, rfl, a, b⟩ := r.of_cons
  obtain ⟨z, rfl, c⟩ := b.one
  exact ⟨y, z, rfl, a, c⟩
theorem allB_ra {K : PySem.W.Frag} {μ : Nat → Addr} {n : Nat} {H : Hp} : ∀ {vs : List AV} {xs : List V} {bs : List Bool}, allB vs = some bs → RAs K μ n H vs xs → xs = bs.map V.bl
  | [], xs, bs, e, r => by cases e; exact r.of_nil
  | v :: vs, xs, bs, e, r => by
    obtain ⟨y, ys, rfl, a, b⟩ := r.of_cons
    cases v with
    | bl k =>
      simp only [allB] at e
      obtain ⟨cs, e1, rfl⟩ := Option.map_eq_some_iff.mp e
      rw [allB_ra e1 b, a.bl]
      rfl
    | _ => cases e
theorem allI_ra {K : PySem.W.Frag} {μ : Nat → Addr} {n : Nat} {H : Hp} : ∀ {vs : List AV} {xs : List V} {bs : List Int}, allI vs = some bs → RAs K μ n H vs xs → xs = bs.map V.int
  | [], xs, bs, e, r => by cases e; exact r.of_nil
  | v :: vs, xs, bs, e, r => by
    obtain ⟨y, ys, rfl, a, b⟩ := r.of_cons
    cases v with
    | int k =>
      simp only [allI] at e
      obtain ⟨cs, e1, rfl⟩ := Option.map_eq_some_iff.mp e
      rw [allI_ra e1 b, a.int]
      rfl
    | _ => cases e
theorem lst_ra {h : AH} {v : AV} {x : V} {μ : Nat → Addr} {H : Hp} {xs : List AV} (A : At S μ h H) (e : lstOf h v = some xs) (r : RA S.K μ h.length H v x) : ∃ p vs, x = .ref p ∧ SqL S.K H p vs ∧ RAs S.K μ h.length H xs vs := by
  cases v with
  | fl ys =>
    cases e
    obtain ⟨p, vs, rfl, t, rs⟩ := r.fl
    exact ⟨p, vs, rfl, t.sqL, rs⟩
  | ref i =>
    simp only [lstOf] at e
    split at e
    · rename_i ys e0
      cases e
      obtain ⟨_, rfl⟩ := r.ref
      obtain ⟨vs, hv, rs⟩ := A.lst e0
      exact ⟨_, vs, rfl, .of hv, rs⟩
    · cases e
  | _ => cases e
theorem maxI_ge : ∀ (r : List Int) (m : Int), m ≤ maxI m r ∧ (∀ y ∈ r, y ≤ maxI m r) ∧ (maxI m r = m ∨ maxI m r ∈ r)
  | [], m => ⟨Int.le_refl _, (fun _ h => by cases h), Or.inl rfl⟩
  | x :: r, m => by
    unfold maxI
    obtain ⟨h1, h2, h3⟩ := maxI_ge r (if x > m then x else m)
    generalize maxI (if x > m then x else m) r = z at h1 h2 h3
    refine ⟨by split at h1 <;> omega, fun y hy => ?_, ?_⟩
    · rcases List.mem_cons.mp hy with rfl | hy
      · split at h1 <;> omega
      · exact h2 y hy
    · rcases h3 with h3 | h3
      · split at h3
        · exact .inr (by rw [h3]; exact List.mem_cons_self)
        · exact .inl h3
      · exact .inr (List.mem_cons_of_mem _ h3)
theorem minI_ge : ∀ (r : List Int) (m : Int), minI m r ≤ m ∧ (∀ y ∈ r, minI m r ≤ y) ∧ (minI m r = m ∨ minI m r ∈ r)
  | [], m => ⟨Int.le_refl _, (fun _ h => by cases h), Or.inl rfl⟩
  | x :: r, m => by
    unfold minI
    obtain ⟨h1, h2, h3⟩ := minI_ge r (if x < m then x else m)
    generalize minI (if x < m then x else m) r = z at h1 h2 h3
    refine ⟨by split at h1 <;> omega, fun y hy => ?_, ?_⟩
    · rcases List.mem_cons.mp hy with rfl | hy
      · split at h1 <;> omega
      · exact h2 y hy
    · rcases h3 with h3 | h3
      · split at h3
        · exact .inr (by rw [h3]; exact List.mem_cons_self)
        · exact .inl h3
      · exact .inr (List.mem_cons_of_mem _ h3)
theorem len_ra {n : Nat} (hK : X.K = S.K) (pins : List (Addr × Obj)) (s : Shared) (σ : L2.St) (H : Hp) (x : V) (us : List Value) (Q : VK) (μ : Nat → Addr) (h : AH) (v : AV) (I : L2.Inv X pins σ H s) (rs : Vals [x] us)
    (A : At S μ h H) (r1 : RA S.K μ h.length H v x) (hn : lenV h v = some n) (ho : Out S W (Rv S) σ μ h.length H (.ok (.int n) h) Q) : wpAny (model X.prog X.w) X.A (call (.builtin "len") us) (EP X pins σ Q) X.xe s := by
  cases v with
  | str y =>
    simp only [lenV] at hn
    split at hn
    · rename_i hl
      cases hn
      cases r1.str
      exact call_len pins s σ H _ us Q I rs ⟨_, _, rfl, ⟨by rw [sO_len]; exact lim_le hl, (sO_len y).symm⟩, ho.here A ra_int⟩
    · cases hn
  | tup ys =>
    cases hn
    obtain ⟨p, vs, rfl, t, rr⟩ := r1.tup
    exact call_len pins s σ H _ us Q I rs ⟨_, _, rfl, .inr ⟨vs, sqT_of t, rr.length⟩, ho.here A ra_int⟩
  | kt ys =>
    cases hn
    obtain ⟨p, vs, rfl, t, rr⟩ := r1.kt
    exact call_len pins s σ H _ us Q I rs ⟨_, _, rfl, .inr ⟨vs, by rw [hK]; exact t.sqT, rr.length⟩, ho.here A ra_int⟩
  | fl ys =>
    cases hn
    obtain ⟨p, vs, rfl, t, rr⟩ := r1.fl
    exact call_len pins s σ H _ us Q I rs ⟨_, _, rfl, .inl ⟨vs, by rw [hK]; exact t.sqL, rr.length⟩, ho.here A ra_int⟩
  | ref i =>
    obtain ⟨_, rfl⟩ := r1.ref
    simp only [lenV] at hn
    split at hn
    · rename_i ys e0
      cases hn
      obtain ⟨vs, hv, rr⟩ := A.lst e0
      exact call_len pins s σ H _ us Q I rs ⟨_, _, rfl, .inl ⟨vs, .of hv, rr.length⟩, ho.here A ra_int⟩
    · rename_i kvs e0
      cases hn
      obtain ⟨o, d, h1, h2, h3⟩ := A.dct e0
      obtain rfl : o = d := h2
      obtain ⟨ks, rfl, rk⟩ := h3
      have hl : ∀ {a : List (AV × AV)} {b : List (Key × V)}, RDk S μ h.length H a b → a.length = b.length := by
        intro a
        induction a with
        | nil => intro b q; cases b with
          | nil => rfl
          | cons _ _ => rw [RDk] at q; exact q.elim
        | cons p ps ih => intro b q; cases b with
          | nil => rw [RDk] at q; exact q.elim
          | cons q' qs => rw [RDk] at q; rw [List.length_cons, List.length_cons, ih q.2.2]
      refine call_lenD pins s σ H _ us Q I rs ⟨_, ks, rfl, h1, ?_⟩
      rw [hl rk] at ho
      exact ho.here A ra_int
    · cases hn
  | _ => cases hn
theorem cr_biF (hK : X.K = S.K) (hc : X.calm = true) (own : OwnBi S W X G C) (b : BI) (hb : biOk b = true) : CrD S W X (biV b) (biF G C b) := by
  intro pins s σ H xs us Q μ h ps I rs A ra ho
  unfold biF at ho
  split at ho
  · -- len
    obtain ⟨x, rfl, r1⟩ := ra.one
    split at ho
    · rename_i c hcl
      split at ho
      · rename_i key hk
        obtain ⟨u, rfl, ru⟩ := vals1 rs
        exact own .len nLen (.inl ⟨rfl, rfl⟩) c key hk pins s σ H x u Q μ h _ I ru A r1 hcl ho
      · exact ho.elim
    · rename_i hcl
      split at ho
      · rename_i n hn
        exact len_ra hK pins s σ H _ us Q μ h _ I rs A r1 hn ho
      · exact ho.elim
  · obtain ⟨x, rfl, r1⟩ := ra.one
    cases r1.int
    exact call_int1 pins s σ H _ us Q I rs (.inl ⟨_, rfl, ho.here A ra_int⟩)
  · obtain ⟨x, rfl, r1⟩ := ra.one
    cases r1.bl
    refine call_int1 pins s σ H _ us Q I rs (.inr ⟨_, rfl, ?_⟩)
    have e := ho.here A ra_int
    rename_i k
    cases k <;> exact e
  · obtain ⟨x, rfl, r1⟩ := ra.one
    cases r1.int
    split at ho
    · rename_i hl
      refine call_str_int pins s σ H _ us Q I rs ⟨_, rfl, hl, ?_⟩
      have e := ho.here A ra_str
      rw [← strI_eq] at e
      exact e
    · exact ho.elim
  · cases hb
  · cases hb
  · obtain ⟨x, rfl, r1⟩ := ra.one
    split at ho
    · rename_i c hcl
      split at ho
      · rename_i key hk
        obtain ⟨u, rfl, ru⟩ := vals1 rs
        exact own .bool nBool (.inr (.inl ⟨rfl, rfl⟩)) c key hk pins s σ H x u Q μ h _ I ru A r1 hcl ho
      · exact ho.elim
    · exact ho.elim
  · obtain ⟨x, rfl, r1⟩ := ra.one
    split at ho
    · rename_i c hcl
      split at ho
      · rename_i key hk
        obtain ⟨u, rfl, ru⟩ := vals1 rs
        exact own .repr nRepr (.inr (.inr ⟨rfl, rfl⟩)) c key hk pins s σ H x u Q μ h _ I ru A r1 hcl ho
      · exact ho.elim
    · exact ho.elim
  · obtain ⟨x, rfl, r1⟩ := ra.one
    cases r1.int
    exact call_abs pins s σ H _ us Q I rs ⟨_, rfl, ho.here A ra_int⟩
  · obtain ⟨x, y, rfl, r1, r2⟩ := ra.pair
    cases r1.int; cases r2.int
    exact call_max2 hc pins s σ H _ us Q I rs ⟨_, _, rfl, ho.here A ra_int⟩
  · obtain ⟨x, y, rfl, r1, r2⟩ := ra.pair
    cases r1.int; cases r2.int
    exact call_min2 hc pins s σ H _ us Q I rs ⟨_, _, rfl, ho.here A ra_int⟩
  · obtain ⟨x, rfl, r1⟩ := ra.one
    split at ho
    · rename_i m r e
      obtain ⟨ys, e1, e2⟩ := Option.bind_eq_some_iff.mp e
      obtain ⟨p, vs, rfl, hq, rr⟩ := lst_ra A e1 r1
      have ev := allI_ra e2 rr
      subst ev
      refine cr_max hc pins s σ H _ us Q I rs ⟨p, m :: r, rfl, by rw [hK]; exact hq, Nat.succ_pos _, fun z hz hz2 => ?_⟩
      obtain ⟨q1, q2, q3⟩ := maxI_ge r m
      have : z = maxI m r := by
        have a1 : z ≤ maxI m r := by
          rcases List.mem_cons.mp hz with rfl | hz
          · exact q1
          · exact q2 z hz
        have a2 : maxI m r ≤ z := by
          rcases q3 with q3 | q3
          · exact hz2 _ (by rw [q3]; exact List.mem_cons_self)
          · exact hz2 _ (List.mem_cons_of_mem _ q3)
        omega
      rw [this]
      exact ho.here A ra_int
    · exact ho.elim
  · obtain ⟨x, rfl, r1⟩ := ra.one
    split at ho
    · rename_i m r e
      obtain ⟨ys, e1, e2⟩ := Option.bind_eq_some_iff.mp e
      obtain ⟨p, vs, rfl, hq, rr⟩ := lst_ra A e1 r1
      have ev := allI_ra e2 rr
      subst ev
      refine cr_min hc pins s σ H _ us Q I rs ⟨p, m :: r, rfl, by rw [hK]; exact hq, Nat.succ_pos _, fun z hz hz2 => ?_⟩
      obtain ⟨q1, q2, q3⟩ := minI_ge r m
      have : z = minI m r := by
        have a1 : minI m r ≤ z := by
          rcases List.mem_cons.mp hz with rfl | hz
          · exact q1
          · exact q2 z hz
        have a2 : z ≤ minI m r := by
          rcases q3 with q3 | q3
          · exact hz2 _ (by rw [q3]; exact List.mem_cons_self)
          · exact hz2 _ (List.mem_cons_of_mem _ q3)
        omega
      rw [this]
      exact ho.here A ra_int
    · exact ho.elim
  · obtain ⟨x, rfl, r1⟩ := ra.one
    split at ho
    · rename_i bs e
      obtain ⟨ys, e1, e2⟩ := Option.bind_eq_some_iff.mp e
      obtain ⟨p, vs, rfl, hq, rr⟩ := lst_ra A e1 r1
      have ev := allB_ra e2 rr
      subst ev
      exact cr_all hc pins s σ H _ us Q I rs ⟨p, bs, rfl, by rw [hK]; exact hq, ho.here A ra_bl⟩
    · exact ho.elim
  · obtain ⟨x, rfl, r1⟩ := ra.one
    split at ho
    · rename_i bs e
      obtain ⟨ys, e1, e2⟩ := Option.bind_eq_some_iff.mp e
      obtain ⟨p, vs, rfl, hq, rr⟩ := lst_ra A e1 r1
      have ev := allB_ra e2 rr
      subst ev
      exact cr_any hc pins s σ H _ us Q I rs ⟨p, bs, rfl, by rw [hK]; exact hq, ho.here A ra_bl⟩
    · exact ho.elim
  · cases hb
  · cases hb
  · exact ho.elim
/-- a part of an f-string -/
theorem d_fmt {ma : M AV} (he : PE X e (DE S W ma)) : PE X (.FormattedValue e (-1) none pos) (DE S W (mb (mb ma fun v => mb (mp []) fun vs => mp (v :: vs)) fun vs => lift (biF G C .fmt vs))) :=
  (pe_fmt he).imp fun σ H Q ⟨μ, h, al, A, L, ho⟩ => by
    have e1 : mb (mb ma fun v => mb (mp []) fun vs => mp (v :: vs)) (fun vs => lift (biF G C .fmt vs)) al h = mb ma (fun v => lift (biF G C .fmt [v])) al h := by
      unfold mb
      cases ma al h <;> rfl
    rw [e1] at ho
    refine (DR.bind A L ho).imp fun x H1 ⟨μ1, h1, v, A1, E1, r1, L1, o1⟩ => ?_
    unfold lift biF at o1
    cases v with
    | int i =>
      dsimp only at o1
      split at o1
      · rename_i hl
        refine .inr ⟨i, r1.int, hl, ?_⟩
        have e := o1.here A1 ra_str
        rw [← strI_eq] at e
        exact e
      · exact o1.elim
    | str y =>
      dsimp only at o1
      split at o1
      · rename_i hl
        exact .inl ⟨_, r1.str, by rw [sO_len]; exact lim_le hl, o1.here A1 ra_str⟩
      · exact o1.elim
    | _ => exact o1.elim
end
end Br

set_option linter.all false
set_option Elab.async false
set_option autoImplicit false
set_option maxRecDepth 100000
set_option maxHeartbeats 2000000
/-! BrS6: methods of built-in types, isinstance. -/
namespace Br
open PySem PySem.Spec PyProof.Rows L2

def plainBase : Expr → Bool
  | .Call (.Name id _) [] [] _ => id != ("super" : Str)
  | _ => true
theorem base_ok {o : Expr} (h : plainBase o = true) (m : Str) (env : Env) (whole : Sem Value) : attributeBase o m env whole = whole := by
  unfold plainBase at h
  split at h
  · exact abase_call h
  · rename_i k
    unfold attributeBase
    split
    · rename_i e
      exact absurd rfl (k _ _ _)
    · rfl
def noStar : Expr → Bool
  | .Starred _ _ => false
  | _ => true
theorem star_ok {e : Expr} (h : noStar e = true) (es : List Expr) (env : Env) : starEach (e :: es) env = (false, eval e env) :: starEach es env := by
  cases e <;> first | rfl | cases h
theorem stars_any : ∀ {es : List Expr} (env : Env) (pos : Pos), es.all noStar = true → (backTo pos (starEach es env)).any (·.1) = false
  | [], _, _, _ => rfl
  | e :: es, env, pos, h => by
    rw [List.all_cons, Bool.and_eq_true] at h
    rw [star_ok h.1]
    show (false || (backTo pos (starEach es env)).any (·.1)) = false
    rw [stars_any env pos h.2]
    rfl
theorem stars_all {es : List Expr} (env : Env) (pos : Pos) (h : es.all noStar = true) : (backTo pos (starEach es env)).all (fun x => !x.1) = true := by
  have e := stars_any env pos h
  rw [List.any_eq_false] at e
  rw [List.all_eq_true]
  intro x hx
  have := e x hx
  cases hx1 : x.1
  · rfl
  · exact absurd hx1 this
section
variable {S : Sx} {W : WX} {X : Cx} {G : Gm} {C : Callee} {o e : Expr} {es : List Expr} {pos apos cpos p0 : Pos} {ma : M AV} {ms1 : M (List AV)} {name : Str} {T id : String}
/-- a built-in method of a value -/
def MtD (S : Sx) (W : WX) (X : Cx) (id : String) (g : AV → List AV → H1 AV) : Prop :=
  ∀ (pins : List (Addr × Obj)) (s : Shared) (σ : L2.St) (H : Hp) (x : V) (xs : List V) (v : Value) (us : List Value) (Q : VK) (μ : Nat → Addr) (h : AH) (p : AV) (ps : List AV), Inv X pins σ H s → RelV x v → Vals xs us →
    At S μ h H → RA S.K μ h.length H p x → RAs S.K μ h.length H ps xs → Out S W (Rv S) σ μ h.length H (g p ps h) Q → wpAny (model X.prog X.w) X.A (call (.builtin id) (v :: us)) (EP X pins σ Q) X.xe s
/-- what holds of a value that is asked for a method -/
def TyD (S : Sx) (X : Cx) (T : String) (g : AH → AV → Bool) : Prop :=
  ∀ (pins : List (Addr × Obj)) (s : Shared) (σ : L2.St) (H : Hp) (x : V) (v : Value) (μ : Nat → Addr) (h : AH) (p : AV), Inv X pins σ H s → RelV x v → At S μ h H → RA S.K μ h.length H p x → g h p = true →
    s.TypeIs v T ∧ ∀ a, v = .ref a → ∃ ob, s.heap.get? a = some ob ∧ ob.dict = none
theorem d_bm {g : AH → AV → Bool} {f : AV → List AV → H1 AV} (pa : PlainAttrs T) (slot : Slot T name id) (hty : typeOf (.builtin id) = pure (.type "method_descriptor")) (hT : TyD S X T g) (hm : MtD S W X id f) (ho : PE X o (DE S W ma)) (ha : PA X (e :: es) (DA S W ms1))
    (hb : plainBase o = true) (hs : (e :: es).all noStar = true) (hlen : (e :: es).length < 29) (hline : (apos.endLine == cpos.line) = true) :
    PE X (.Call (.Attribute o name apos) (e :: es) [] cpos) (DE S W (mb ma fun v => fun a h => if g h v then (mb ms1 fun vs => lift (f v vs)) a h else .fail)) := by
  refine ⟨fun pins s σ H Q I ⟨μ, h, al, A, L, ho'⟩ => ?_⟩
  have hfew : ((backTo cpos (starEach (e :: es) X.env)).all (fun x => !x.1) && (backToKw cpos (keywordEach [] X.env)).all (fun x => x.1.isSome)
      && decide ((e :: es).length + ([] : List Keyword).length + (if ([] : List Keyword).isEmpty then 0 else 1) < 30)) = true := by
    rw [stars_all X.env cpos hs]
    have : (e :: es).length + ([] : List Keyword).length + (if ([] : List Keyword).isEmpty then 0 else 1) < 30 := by
      show (e :: es).length + 0 + 0 < 30
      omega
    rw [decide_eq_true this]
    rfl
  refine wpAny_Call_method_late (base_ok hb _ _ _) hfew hline rfl (thn (ho.run pins s σ H _ I (DR.bind A L ho')) fun v s1 ⟨x, H1, I1, rx, μ1, h1, p, A1, E1, r1, L1, o1⟩ => ?_)
  split at o1
  · rename_i hg
    obtain ⟨t1, t2⟩ := hT pins s1 σ H1 x v μ1 h1 p I1 rx A1 r1 hg
    refine ⟨T, id, pa, slot, hty, t1, t2, ?_⟩
    have hA := ha.run cpos pins s1 σ H1 _ I1 (DR.bind A1 L1 o1)
    rw [List.all_cons, Bool.and_eq_true] at hs
    rw [star_ok hs.1] at hA ⊢
    refine Calls.callWith_builtin (by show (false || (backTo cpos (starEach es X.env)).any (·.1)) = false; rw [stars_any _ _ hs.2] <;> rfl) (Calls.evalArgs_plain ?_)
    exact thn hA fun us s2 ⟨vs, H2, I2, rv, μ2, h2, ps, A2, E2, r2, L2', o2⟩ => hm pins s2 σ H2 x vs v us Q μ2 h2 p ps I2 rx rv A2 (RA.mono E2 r1) r2 o2
  · exact o1.elim
theorem d_bm0 {g : AH → AV → Bool} {f : AV → List AV → H1 AV} (pa : PlainAttrs T) (slot : Slot T name id) (hty : typeOf (.builtin id) = pure (.type "method_descriptor")) (hT : TyD S X T g) (hm : MtD S W X id f) (ho : PE X o (DE S W ma))
    (hb : plainBase o = true) (hline : (apos.endLine == cpos.line) = true) :
    PE X (.Call (.Attribute o name apos) [] [] cpos) (DE S W (mb ma fun v => fun a h => if g h v then (mb (mp []) fun vs => lift (f v vs)) a h else .fail)) := by
  refine ⟨fun pins s σ H Q I ⟨μ, h, al, A, L, ho'⟩ => ?_⟩
  refine wpAny_Call_method0_late (base_ok hb _ _ _) hline (thn (ho.run pins s σ H _ I (DR.bind A L ho')) fun v s1 ⟨x, H1, I1, rx, μ1, h1, p, A1, E1, r1, L1, o1⟩ => ?_)
  split at o1
  · rename_i hg
    obtain ⟨t1, t2⟩ := hT pins s1 σ H1 x v μ1 h1 p I1 rx A1 r1 hg
    exact ⟨T, id, pa, slot, hty, t1, t2, Calls.callWith_builtin rfl (PySem.evalArgs_none (hm pins s1 σ H1 x [] v [] Q μ1 h1 p [] I1 rx .nil A1 r1 .nil o1))⟩
  · exact o1.elim
def bmN : BM → String
  | .append => "append"
  | .insert => "insert"
  | .extend => "extend"
  | .pop => "pop"
  | .clear => "clear"
  | .index => "index"
  | .get => "get"
  | .setdefault => "setdefault"
  | .join => "join"
  | .split => "split"
  | .startswith => "startswith"
def bmT : BM → String
  | .get => "dict"
  | .setdefault => "dict"
  | .join => "str"
  | .split => "str"
  | .startswith => "str"
  | _ => "list"
def bmI (m : BM) : String := bmT m ++ "." ++ bmN m
/-- the covered ones -/
def bmOk : BM → Bool
  | .index => false
  | .setdefault => false
  | .split => false
  | .startswith => false
  | _ => true
theorem ty_bm (m : BM) : TyD S X (bmT m) (bmTy m) := by
  intro pins s σ H x v μ h p I rx A r e
  have lst : ∀ {i : Nat} {xs : List AV}, p = .ref i → h[i]? = some (.lst xs) → s.TypeIs v "list" ∧ ∀ a, v = .ref a → ∃ ob, s.heap.get? a = some ob ∧ ob.dict = none := fun {i xs} ep e0 => by
    subst ep
    obtain ⟨_, rfl⟩ := r.ref
    obtain ⟨vs, hv, rs⟩ := A.lst e0
    exact tyV_is (T := "list") I rx (.inl ⟨rfl, _, .of hv⟩)
  have dct : ∀ {i : Nat} {tk lk : Bool} {xs : List (AV × AV)}, p = .ref i → h[i]? = some (.dct tk xs lk) → s.TypeIs v "dict" ∧ ∀ a, v = .ref a → ∃ ob, s.heap.get? a = some ob ∧ ob.dict = none := fun {i tk lk xs} ep e0 => by
    subst ep
    obtain ⟨_, rfl⟩ := r.ref
    obtain ⟨o, d, h1, h2, h3⟩ := A.dct e0
    have rd : Rd H (μ i) d := by
      cases lk with
      | true =>
        obtain ⟨ob, rfl⟩ := h2
        exact .inr ⟨ob, h1⟩
      | false =>
        obtain rfl : o = d := h2
        exact .inl h1
    have isd : IsD H (μ i) := by
      cases tk with
      | false => obtain ⟨ks, rfl, _⟩ := h3; exact .inl ⟨ks, rd⟩
      | true => obtain ⟨ks, rfl, _⟩ := h3; exact .inr ⟨ks, rd⟩
    cases rx
    exact ⟨(isD_at I isd).1, (isD_at I isd).2.1⟩
  have str : ∀ {z : List Nat}, p = .str z → s.TypeIs v "str" ∧ ∀ a, v = .ref a → ∃ ob, s.heap.get? a = some ob ∧ ob.dict = none := fun {z} ep => by
    subst ep
    cases r.str
    exact tyV_is (T := "str") I rx rfl
  cases m <;> cases p <;> simp only [bmTy] at e <;> first
    | exact absurd e Bool.false_ne_true
    | exact str rfl
    | (split at e
       · rename_i e0
         first
           | exact lst rfl e0
           | exact dct rfl e0
       · exact absurd e Bool.false_ne_true)
theorem ro_lst {μ : Nat → Addr} {n : Nat} {H : Hp} {xs : List AV} {vs : List V} (r : RAs S.K μ n H xs vs) : RO S μ n H (.lst xs) (.lst vs) := ⟨vs, rfl, r⟩
theorem RoV.getD {μ : Nat → Addr} {n : Nat} {H : Hp} {d : AV} {z : V} (rd : RA S.K μ n H d z) : ∀ {o : Option AV} {q : Option V}, RoV S μ n H o q → RA S.K μ n H (o.getD d) (q.getD z)
  | none, none, _ => rd
  | some _, some _, r => r
  | none, some _, r => r.elim
  | some _, none, r => r.elim
theorem At.wr {i : Nat} {o : AO} {xs : List AV} {vs : List V} {σ : L2.St} {μ : Nat → Addr} {h : AH} {H : Hp} {ho : HO} {Q : VK} (A : At S μ h H) (e : h[i]? = some (.lst xs)) (hv : H (μ i) = some (.lst vs)) (r : RO S μ h.length H o ho)
    (q : Out S W (Rv S) σ μ h.length H (.ok .non (h.set i o)) Q) : Q .non (upd H (μ i) ho) := by
  have hi : i < h.length := (List.getElem?_eq_some_iff.mp e).1
  obtain ⟨A2, E2⟩ := A.write hi hv (fun xs z => by cases z) (fun ob xs z => by cases z) r
  exact q μ _ .non E2 A2 ra_non
theorem RAs.dropLast {K : PySem.W.Frag} {μ : Nat → Addr} {n : Nat} {H : Hp} {xs : List AV} {vs : List V} (r : RAs K μ n H xs vs) : RAs K μ n H xs.dropLast vs.dropLast := by
  rw [List.dropLast_eq_take, List.dropLast_eq_take, r.length]
  exact r.take _
theorem allS_ra {K : PySem.W.Frag} {μ : Nat → Addr} {n : Nat} {H : Hp} : ∀ {vs : List AV} {xs : List V} {bs : List (List Nat)}, allS vs = some bs → RAs K μ n H vs xs → xs = (bs.map sO).map V.str
  | [], xs, bs, e, r => by cases e; exact r.of_nil
  | v :: vs, xs, bs, e, r => by
    obtain ⟨y, ys, rfl, a, b⟩ := r.of_cons
    cases v with
    | str k =>
      simp only [allS] at e
      obtain ⟨cs, e1, rfl⟩ := Option.map_eq_some_iff.mp e
      rw [allS_ra e1 b, a.str]
      rfl
    | _ => cases e
theorem joinL_eq (sep : List Nat) : ∀ ys : List (List Nat), Txt.join (sO sep) (ys.map sO) = sO (joinL sep ys) := by
  intro ys
  rw [TL.join_eq]
  induction ys with
  | nil => rfl
  | cons y r ih =>
    cases r with
    | nil => rfl
    | cons z r =>
      show sO y ++ sO sep ++ Str.join (sO sep) ((z :: r).map sO) = sO (y ++ (sep ++ joinL sep (z :: r)))
      rw [ih, sO_app, sO_app, List.append_assoc]
theorem lens_sO : ∀ ys : List (List Nat), ((ys.map sO).map (·.length)) = ys.map (·.length)
  | [] => rfl
  | y :: r => by rw [List.map_cons, List.map_cons, List.map_cons, lens_sO r, sO_len]
theorem mt_bm (hK : X.K = S.K) (hu : X.A.units + 65 < cLine) (m : BM) (hm : bmOk m = true) : MtD S W X (bmI m) (bmF m) := by
  intro pins s σ H x xs v us Q μ h p ps I rx rs A rp ra ho
  unfold bmF at ho
  split at ho
  · obtain ⟨_, rfl⟩ := rp.ref
    obtain ⟨y, rfl, r1⟩ := ra.one
    split at ho
    · rename_i e0
      split at ho
      · rename_i hl
        obtain ⟨vs, hv, rr⟩ := A.lst e0
        exact mt_append pins s σ H _ _ v us Q I rx rs ⟨_, vs, y, rfl, rfl, hv, by rw [← rr.length]; exact lim_lt hl, A.wr e0 hv (ro_lst (rr.append (.cons r1 .nil))) ho⟩
      · exact ho.elim
    · exact ho.elim
  · obtain ⟨_, rfl⟩ := rp.ref
    obtain ⟨y, z, rfl, r1, r2⟩ := ra.pair
    cases r1.int
    split at ho
    · rename_i e0
      split at ho
      · rename_i hl
        obtain ⟨vs, hv, rr⟩ := A.lst e0
        refine mt_insert pins s σ H _ _ v us Q I rx rs ⟨_, vs, _, z, rfl, rfl, hv, by rw [← rr.length]; exact lim_lt hl.1, hl.2.1, ?_, A.wr e0 hv (ro_lst (((rr.take _).append (.cons r2 .nil)).append (rr.drop _))) ho⟩
        have := hl.2.2
        unfold lim at this
        omega
      · exact ho.elim
    · exact ho.elim
  · obtain ⟨_, rfl⟩ := rp.ref
    obtain ⟨y, rfl, r1⟩ := ra.one
    obtain ⟨_, rfl⟩ := r1.ref
    split at ho
    · rename_i e0 e1
      split at ho
      · rename_i hl
        obtain ⟨vs, hv, rr⟩ := A.lst e0
        obtain ⟨ws, hw, rw'⟩ := A.lst e1
        exact mt_extend pins s σ H _ _ v us Q I rx rs ⟨_, _, vs, ws, rfl, rfl, hv, hw, by rw [← rr.length, ← rw'.length]; exact lim_le hl, A.wr e0 hv (ro_lst (rr.append rw')) ho⟩
      · exact ho.elim
    · exact ho.elim
  · obtain ⟨_, rfl⟩ := rp.ref
    cases ra.of_nil
    split at ho
    · rename_i ys e0
      split at ho
      · rename_i w ew
        obtain ⟨vs, hv, rr⟩ := A.lst e0
        obtain ⟨y, ey, ry⟩ := rr.get ew
        refine mt_pop pins s σ H _ _ v us Q I rx rs ⟨_, vs, y, rfl, rfl, hv, by rw [← rr.length]; exact ey, ?_⟩
        have hi := (List.getElem?_eq_some_iff.mp e0).1
        obtain ⟨A2, E2⟩ := A.write (o := .lst ys.dropLast) (ho := .lst vs.dropLast) hi hv (fun xs z => by cases z) (fun ob xs z => by cases z) ⟨_, rfl, rr.dropLast⟩
        exact ho μ _ y E2 A2 (RA.mono E2 ry)
      · exact ho.elim
    · exact ho.elim
  · obtain ⟨_, rfl⟩ := rp.ref
    cases ra.of_nil
    split at ho
    · rename_i ys e0
      obtain ⟨vs, hv, rr⟩ := A.lst e0
      exact mt_clear pins s σ H _ _ v us Q I rx rs ⟨_, vs, rfl, rfl, hv, A.wr e0 hv (ro_lst .nil) ho⟩
    · exact ho.elim
  · obtain ⟨_, rfl⟩ := rp.ref
    obtain ⟨y, z, rfl, r1, r2⟩ := ra.pair
    split at ho
    · rename_i kvs lk e0
      split at ho
      · rename_i hk
        obtain ⟨qv, g, rv⟩ := A.dget e0 hk r1
        obtain ⟨u1, u2, rfl, ry, rz⟩ := vals2 rs
        cases rx
        exact d_get2 (by omega) I g ry rz fun w' s4 I4 rw' => ⟨_, H, I4, rw', ho.here A (RoV.getD r2 rv)⟩
      · exact ho.elim
    · exact ho.elim
  · cases rp.str
    obtain ⟨y, rfl, r1⟩ := ra.one
    split at ho
    · rename_i ys e
      split at ho
      · rename_i hl
        obtain ⟨zs, e1, e2⟩ := Option.bind_eq_some_iff.mp e
        obtain ⟨q, vs, rfl, hq, rr⟩ := seq_ra A e1 r1
        have ev := allS_ra e2 rr
        subst ev
        refine mt_join pins s σ H _ _ v us Q I rx rs ⟨_, q, ys.map sO, rfl, rfl, by rw [hK]; exact hq, ?_, ?_⟩
        · rw [lens_sO, List.length_map, sO_len]
          exact lim_le hl
        · rw [joinL_eq]
          exact ho.here A ra_str
      · exact ho.elim
    · exact ho.elim
  · cases hm
  · cases hm
  · exact ho.elim
theorem bmPlain (m : BM) : PlainAttrs (bmT m) := by
  cases m <;> first | exact PySem.F.plainAttrs_list | exact PySem.F.plainAttrs_dict | exact PySem.F.plainAttrs_str
end
end Br

set_option linter.all false
set_option Elab.async false
set_option autoImplicit false
set_option maxRecDepth 100000
set_option maxHeartbeats 2000000
/-! BrB: how arguments come to parameters, in the model. -/
namespace Br
open PySem PySem.Spec PyProof.Rows L2
section
variable {M : Model} {A : Around} {E : Value → Shared → Prop} {s : Shared}
theorem wp_each {α β : Type} {f : α → β → Sem (ForInStep β)} {g : α → β → β} : ∀ (l : List α) (b : β) (ok : β → List α → Prop) (Q : β → Shared → Prop), ok b l →
    (∀ b x r, ok b (x :: r) → (∀ Q', Q' (.yield (g x b)) s → wpAny M A (f x b) Q' E s) ∧ ok (g x b) r) → Q (l.foldl (fun b x => g x b) b) s → wpAny M A (forIn l b f) Q E s
  | [], b, ok, Q, h, hf, q => by rw [List.forIn_nil]; exact wpAny_pure q
  | x :: r, b, ok, Q, h, hf, q => by
    rw [List.forIn_cons]
    exact wpAny_bind ((hf b x r h).1 _ (wp_each r (g x b) ok Q (hf b x r h).2 hf q))
/-- the slots: what is given, then what is missing by its default -/
def fillD (sl : List (Str × Value)) (ds : List (Str × Value)) : List (Str × Value) := ds.foldl (fun sl d => if (sl.lookup d.1).isNone then sl ++ [d] else sl) sl
def fillK (kw : Str → Option Value) (sl : List (Str × Value)) (ns : List Str) : List (Str × Value) := ns.foldl (fun sl n => if (sl.lookup n).isNone then (match kw n with | some v => sl ++ [(n, v)] | none => sl) else sl) sl
theorem bind_gen {fd : FuncData} {us : List Value} {kus : List (Str × Value)} {args kwo : List Arg} {va : Option Arg} {kd : List (Option Expr)} {dfs : List Expr} {Q : List (Str × Value) → Shared → Prop} {od : Option (Array Value)} {kw : Str → Option Value}
    (hp : fd.params = ⟨[], args, va, kwo, kd, none, dfs⟩)
    (hk : ∀ p ∈ kus, p.1 ∈ args.map (·.arg) ∨ p.1 ∈ kwo.map (·.arg)) (hnew : ∀ (l r : List (Str × Value)) (p : Str × Value), kus = l ++ p :: r → ((((args.map (·.arg)).zip us) ++ l).lookup p.1) = none)
    (hlen : us.length ≤ args.length ∨ va.isSome = true) (hd : ∀ Q' : Option (Array Value) → Shared → Prop, Q' od s → wpAny M A (seqItems? fd.defaults) Q' E s) (hdl : (od.getD #[]).toList.length ≤ args.length)
    (hmis : ∀ n ∈ (args.map (·.arg)).take (args.length - (od.getD #[]).toList.length), ((((args.map (·.arg)).zip us) ++ kus).lookup n).isSome = true)
    (hkw : ∀ n ∈ kwo.map (·.arg), ((((args.map (·.arg)).zip us) ++ kus).lookup n).isNone = true → ∃ v, kw n = some v ∧ ∃ D, fd.kwdefaults = .ref D ∧ ∀ Q' : Option Value → Shared → Prop, Q' (some v) s → wpAny M A (nsGet D n) Q' E s)
    (hq : ∀ sl, sl = fillK kw (fillD (((args.map (·.arg)).zip us) ++ kus) (((args.map (·.arg)).drop (args.length - (od.getD #[]).toList.length)).zip (od.getD #[]).toList)) (kwo.map (·.arg)) →
      match va with
      | none => Q ((args.map (·.arg) ++ kwo.map (·.arg)).filterMap fun n => (sl.lookup n).map fun v => (n, v)) s
      | some a => wpAny M A (newTuple (us.drop args.length)) (fun t s' => Q (((args.map (·.arg) ++ kwo.map (·.arg)).filterMap fun n => (sl.lookup n).map fun v => (n, v)) ++ [(a.arg, t)]) s') E s) :
    wpAny M A (bindArgs fd ⟨us, kus⟩) Q E s := by
  unfold bindArgs
  rw [hp]
  simp only [List.map_nil, List.nil_append, Option.isSome_none, Bool.false_eq_true, if_false, List.length_map]
  refine wpAny_bind (wp_each (g := fun x (b : List (Str × Value) × List (Str × Value)) => (b.1 ++ [(x.1, x.2)], b.2)) kus _ (fun b r => ∃ l, kus = l ++ r ∧ b = (((args.map (·.arg)).zip us) ++ l, [])) _ ⟨[], rfl, by rw [List.append_nil]⟩ (fun b x r hb => ?_) ?_)
  · obtain ⟨l, e1, rfl⟩ := hb
    have hx := hk x (by rw [e1]; simp)
    have h1 : ((args.map (·.arg)).contains x.1 || (kwo.map (·.arg)).contains x.1) = true := by
      rcases hx with hx | hx
      · rw [List.contains_iff_mem.mpr hx, Bool.true_or]
      · rw [List.contains_iff_mem.mpr hx, Bool.or_true]
    refine ⟨fun Q' q => ?_, l ++ [x], by rw [e1]; simp, by simp⟩
    rw [if_pos h1]
    have h2 := hnew l r x e1
    dsimp only
    rw [h2]
    exact wpAny_pure q
  have efold : ∀ (l : List (Str × Value)) (b : List (Str × Value)), (l.foldl (fun (b : List (Str × Value) × List (Str × Value)) x => (b.1 ++ [(x.1, x.2)], b.2)) (b, [])) = (b ++ l, []) := by
    intro l
    induction l with
    | nil => intro b; rw [List.append_nil]; rfl
    | cons x r ih =>
      intro b
      rw [List.foldl_cons, ih]
      simp
  rw [efold]
  refine wpAny_bind (hd _ ?_)
  generalize hds : (od.getD #[]).toList = ds at *
  have h3 : (decide (us.length > args.length) && va.isNone) = false := by
    rcases hlen with h | h
    · rw [decide_eq_false (by omega)]; rfl
    · cases va with
      | none => cases h
      | some _ => rw [Option.isNone_some, Bool.and_false]
  rw [if_neg (by rw [h3]; exact Bool.false_ne_true)]
  have e0 : ds.drop (ds.length - args.length) = ds := by
    rw [Nat.sub_eq_zero_of_le hdl, List.drop_zero]
  simp only [e0]
  have h4 : (((args.map (·.arg)).take (args.length - ds.length)).filter fun n => (List.lookup n (((args.map (·.arg)).zip us) ++ kus)).isNone) = [] := by
    rw [List.filter_eq_nil_iff]
    intro n hn
    have := hmis n hn
    cases e : List.lookup n (((args.map (·.arg)).zip us) ++ kus) with
    | none => rw [e] at this; cases this
    | some _ => simp
  rw [h4]
  simp only [List.isEmpty_nil, Bool.not_true, Bool.false_eq_true, if_false]
  refine wpAny_bind (wp_each (g := fun x (b : List (Str × Value)) => if (b.lookup x.1).isNone then b ++ [x] else b) _ _ (fun b _ => ∃ r, b = (((args.map (·.arg)).zip us) ++ kus) ++ r) _ ⟨[], by rw [List.append_nil]⟩ (fun b x r hb => ⟨fun Q' q => ?_, ?_⟩) ?_)
  · by_cases h : (List.lookup x.1 b).isNone = true
    · rw [if_pos h] at q ⊢
      exact wpAny_pure q
    · rw [if_neg h] at q ⊢
      exact wpAny_pure q
  · obtain ⟨l, rfl⟩ := hb
    split
    · exact ⟨l ++ [x], by rw [← List.append_assoc]⟩
    · exact ⟨l, rfl⟩
  have hex : ∃ r, fillD (((args.map (·.arg)).zip us) ++ kus) (((args.map (·.arg)).drop (args.length - ds.length)).zip ds) = (((args.map (·.arg)).zip us) ++ kus) ++ r := by
    unfold fillD
    generalize ((args.map (·.arg)).drop (args.length - ds.length)).zip ds = z
    generalize (((args.map (·.arg)).zip us) ++ kus) = y
    have : ∀ (z : List (Str × Value)) (b : List (Str × Value)), ∃ r, z.foldl (fun sl d => if (sl.lookup d.1).isNone then sl ++ [d] else sl) b = b ++ r := by
      intro z
      induction z with
      | nil => intro b; exact ⟨[], by rw [List.append_nil]; rfl⟩
      | cons x z ih =>
        intro b
        rw [List.foldl_cons]
        obtain ⟨r, hr⟩ := ih (if (b.lookup x.1).isNone then b ++ [x] else b)
        rw [hr]
        split
        · exact ⟨x :: r, by rw [List.append_assoc]; rfl⟩
        · exact ⟨r, rfl⟩
    exact this z y
  have hq' := hq _ rfl
  generalize hy : (((args.map (·.arg)).zip us) ++ kus) = y at *
  change wpAny M A (do
      let __s ← forIn (kwo.map (·.arg)) (fillD y (((args.map (·.arg)).drop (args.length - ds.length)).zip ds), ([] : List Str)) _
      _) Q E s
  generalize fillD y (((args.map (·.arg)).drop (args.length - ds.length)).zip ds) = sl1 at *
  obtain ⟨r1, e1⟩ := hex
  refine wpAny_bind (wp_each (g := fun n (b : List (Str × Value) × List Str) => ((if (b.1.lookup n).isNone then (match kw n with | some v => b.1 ++ [(n, v)] | none => b.1) else b.1), b.2)) _ _ (fun b r => (∃ l, b.1 = y ++ l) ∧ b.2 = [] ∧ ∀ n ∈ r, n ∈ kwo.map (·.arg)) _ ⟨⟨r1, e1⟩, rfl, fun n h => h⟩ (fun b x r hb => ⟨fun Q' q => ?_, ?_⟩) ?_)
  · obtain ⟨⟨l, el⟩, e2, e3⟩ := hb
    by_cases h : (List.lookup x b.1).isNone = true
    · have h0 : (y.lookup x).isNone = true := by
        rw [el, List.lookup_append] at h
        cases e : y.lookup x with
        | none => rfl
        | some v => rw [e] at h; cases h
      obtain ⟨v, ev, D, eD, hD⟩ := hkw x (e3 x (List.mem_cons_self ..)) h0
      rw [if_pos h, eD]
      rw [if_pos h, ev] at q
      exact wpAny_bind (hD _ (wpAny_pure q))
    · rw [if_neg h]
      rw [if_neg h] at q
      exact wpAny_pure q
  · obtain ⟨⟨l, el⟩, e2, e3⟩ := hb
    refine ⟨?_, e2, fun n hn => e3 n (List.mem_cons_of_mem _ hn)⟩
    dsimp only
    split
    · split
      · exact ⟨l ++ [_], by rw [el, List.append_assoc]⟩
      · exact ⟨l, el⟩
    · exact ⟨l, el⟩
  have ef : ∀ (ns : List Str) (b : List (Str × Value)), ns.foldl (fun (b : List (Str × Value) × List Str) n => ((if (b.1.lookup n).isNone then (match kw n with | some v => b.1 ++ [(n, v)] | none => b.1) else b.1), b.2)) (b, []) = (fillK kw b ns, []) := by
    intro ns
    induction ns with
    | nil => intro b; rfl
    | cons n ns ih =>
      intro b
      rw [List.foldl_cons, ih]
      rfl
  rw [ef]
  simp only [List.isEmpty_nil, Bool.not_true, Bool.false_eq_true, if_false]
  cases va with
  | none => exact wpAny_pure hq'
  | some a => exact wpAny_bind (wpAny_mono hq' (fun t s' q => wpAny_pure q) fun _ _ z => z)
end
end Br

set_option linter.all false
set_option Elab.async false
set_option autoImplicit false
set_option maxRecDepth 100000
set_option maxHeartbeats 2000000
/-! BrB2: the machine's binding is the model's. -/
namespace Br
open PySem PySem.Spec PyProof.Rows L2

theorem lookup_app {α β : Type} [BEq α] (l r : List (α × β)) (n : α) : (l ++ r).lookup n = (l.lookup n).or (r.lookup n) := List.lookup_append
theorem fillD_look (n : Str) : ∀ (ds sl : List (Str × Value)), (fillD sl ds).lookup n = (sl.lookup n).or (ds.lookup n)
  | [], sl => by
    show sl.lookup n = (sl.lookup n).or none
    rw [Option.or_none]
  | d :: r, sl => by
    show (fillD (if (sl.lookup d.1).isNone then sl ++ [d] else sl) r).lookup n = _
    rw [fillD_look n r]
    by_cases h : (sl.lookup d.1).isNone = true
    · rw [if_pos h, lookup_app, Option.or_assoc]
      congr 1
      show ([d].lookup n).or (r.lookup n) = (d :: r).lookup n
      rw [show d :: r = [d] ++ r from rfl, lookup_app]
    · rw [if_neg h, show d :: r = [d] ++ r from rfl, lookup_app]
      by_cases e : (n == d.1) = true
      · have e2 : n = d.1 := eq_of_beq e
        subst e2
        cases e3 : sl.lookup d.1 with
        | none => rw [e3] at h; exact absurd rfl h
        | some v => rfl
      · have : [d].lookup n = none := by
          rw [List.lookup_cons, Bool.eq_false_iff.mpr e]
          rfl
        rw [this]
        rfl
theorem fillK_look (kw : Str → Option Value) (n : Str) : ∀ (ns : List Str) (sl : List (Str × Value)), (fillK kw sl ns).lookup n = (sl.lookup n).or (if n ∈ ns then kw n else none)
  | [], sl => by
    show sl.lookup n = (sl.lookup n).or (if n ∈ [] then kw n else none)
    rw [if_neg (by simp), Option.or_none]
  | d :: r, sl => by
    show (fillK kw (if (sl.lookup d).isNone then (match kw d with | some v => sl ++ [(d, v)] | none => sl) else sl) r).lookup n = _
    rw [fillK_look kw n r]
    by_cases h : (sl.lookup d).isNone = true
    · rw [if_pos h]
      by_cases e : n = d
      · subst e
        have h0 : sl.lookup n = none := by
          cases e3 : sl.lookup n with
          | none => rfl
          | some v => rw [e3] at h; cases h
        rw [if_pos (List.mem_cons_self ..), h0]
        cases k : kw n with
        | none =>
          dsimp only
          rw [h0]
          by_cases hr : n ∈ r
          · rw [if_pos hr]
          · rw [if_neg hr]
        | some v =>
          dsimp only
          rw [lookup_app, h0]
          simp
      · have hm : (n ∈ d :: r) = (n ∈ r) := by simp [e]
        simp only [hm]
        cases k : kw d with
        | none => rfl
        | some v =>
          dsimp only
          rw [lookup_app]
          have : ([(d, v)] : List (Str × Value)).lookup n = none := by
            have e2 : (n == d) = false := by simp [e]
            rw [List.lookup_cons, e2]
            rfl
          rw [this, Option.or_none]
    · rw [if_neg h]
      by_cases e : n = d
      · subst e
        cases e3 : sl.lookup n with
        | none => rw [e3] at h; exact absurd rfl h
        | some v => rfl
      · have hm : (n ∈ d :: r) = (n ∈ r) := by simp [e]
        simp only [hm]
section
variable {S : Sx} {μ : Nat → Addr} {n : Nat} {H : Hp}
/-- given values by name -/
inductive RSl (S : Sx) (μ : Nat → Addr) (n : Nat) (H : Hp) : List (Nat × AV) → List (Str × Value) → Prop where
  | nil : RSl S μ n H [] []
  | cons {a : Nat} {v : AV} {x : V} {u : Value} {l : List (Nat × AV)} {r : List (Str × Value)} (ha : a < S.at_.length) (hv : RA S.K μ n H v x) (hu : RelV x u) (t : RSl S μ n H l r) : RSl S μ n H ((a, v) :: l) ((S.aN a, u) :: r)
theorem RSl.app {l l2 : List (Nat × AV)} {r r2 : List (Str × Value)} (a : RSl S μ n H l r) (b : RSl S μ n H l2 r2) : RSl S μ n H (l ++ l2) (r ++ r2) := by
  induction a with
  | nil => exact b
  | cons ha hv hu t ih => exact .cons ha hv hu ih
def RoU (S : Sx) (μ : Nat → Addr) (n : Nat) (H : Hp) : Option AV → Option Value → Prop
  | none, none => True
  | some v, some u => ∃ x, RA S.K μ n H v x ∧ RelV x u
  | _, _ => False
theorem aN_inj (nd : S.at_.Nodup) {i j : Nat} (hi : i < S.at_.length) (hj : j < S.at_.length) (e : S.aN i = S.aN j) : i = j := by
  unfold Sx.aN at e
  have e1 := List.getElem?_eq_getElem hi
  have e2 := List.getElem?_eq_getElem hj
  rw [e1, e2] at e
  have e3 : S.at_[i] = S.at_[j] := e
  rw [← e3] at e2
  exact nodup_ix nd e1 e2
theorem RSl.look (nd : S.at_.Nodup) {l : List (Nat × AV)} {r : List (Str × Value)} (a : RSl S μ n H l r) {m : Nat} (hm : m < S.at_.length) : RoU S μ n H (l.lookup m) (r.lookup (S.aN m)) := by
  induction a with
  | nil => exact True.intro
  | @cons a v x u l r ha hv hu t ih =>
    rw [List.lookup_cons, List.lookup_cons]
    by_cases e : m = a
    · subst e
      rw [beq_self_eq_true, beq_self_eq_true]
      exact ⟨x, hv, hu⟩
    · have e1 : (m == a) = false := by simp [e]
      have e2 : (S.aN m == S.aN a) = false := by
        apply Bool.eq_false_iff.mpr
        intro h
        exact e (aN_inj nd hm ha (eq_of_beq h))
      rw [e1, e2]
      exact ih
theorem RSl.zip {ps : List Nat} : ∀ {vs : List AV} {xs : List V} {us : List Value}, (∀ p ∈ ps, p < S.at_.length) → RAs S.K μ n H vs xs → Vals xs us → RSl S μ n H (ps.zip vs) ((ps.map S.aN).zip us) := by
  induction ps with
  | nil => intro vs xs us _ _ _; exact .nil
  | cons p ps ih =>
    intro vs xs us hp ra rv
    cases vs with
    | nil =>
      cases ra.of_nil
      cases rv
      exact .nil
    | cons v vs =>
      obtain ⟨y, ys, rfl, a, b⟩ := ra.of_cons
      cases rv with
      | cons r t => exact .cons (hp p (List.mem_cons_self ..)) a r (ih (fun q hq => hp q (List.mem_cons_of_mem _ hq)) b t)
theorem pds_look : ∀ (k : Nat) (ps : List Nat) (dfl : List AV) (n : Nat) (d : Option AV), ps.Nodup → k + dfl.length = ps.length → (n, d) ∈ ps.zip (List.replicate k none ++ dfl.map some) → d = ((ps.drop k).zip dfl).lookup n
  | 0, ps, dfl, n, d, nd, _, h => by
    rw [List.replicate_zero, List.nil_append] at h
    rw [List.drop_zero]
    induction ps generalizing dfl with
    | nil => cases h
    | cons p ps ih =>
      cases dfl with
      | nil => cases h
      | cons v vs =>
        rw [List.zip_cons_cons, List.lookup_cons]
        rcases List.mem_cons.mp (show (n, d) ∈ (p, some v) :: ps.zip (vs.map some) from h) with e | h2
        · cases e
          rw [beq_self_eq_true]
        · have hne : (n == p) = false := by
            apply Bool.eq_false_iff.mpr
            intro e
            have e := eq_of_beq e
            subst e
            exact (List.nodup_cons.mp nd).1 (List.of_mem_zip h2).1
          rw [hne]
          exact ih vs (List.nodup_cons.mp nd).2 (by simp at *; omega) h2
  | k + 1, ps, dfl, n, d, nd, hl, h => by
    cases ps with
    | nil => simp at hl
    | cons p ps =>
      rw [List.drop_succ_cons]
      rcases List.mem_cons.mp (show (n, d) ∈ (p, none) :: ps.zip (List.replicate k none ++ dfl.map some) from h) with e | h
      · cases e
        have hn : n ∉ ps := (List.nodup_cons.mp nd).1
        have : ((ps.drop k).zip dfl).lookup n = none := by
          apply List.lookup_eq_none_iff.mpr
          intro q hq
          have := List.mem_of_mem_drop (List.of_mem_zip hq).1
          apply bne_iff_ne.mpr
          intro e
          rw [e] at hn
          exact hn this
        exact this.symm
      · exact pds_look k ps dfl n d (List.nodup_cons.mp nd).2 (by simp at hl; omega) h
theorem vals_of {sl : List (Nat × AV)} {fin : List (Str × Value)} : ∀ {L : List (Nat × Option AV)} {ws : List AV}, valsOf sl L = some ws → (∀ p ∈ L, RoU S μ n H (orD (sl.lookup p.1) p.2) (fin.lookup (S.aN p.1))) →
    ∃ (xs : List V) (us : List Value), (L.map fun p => S.aN p.1).filterMap (fun m => (fin.lookup m).map fun v => (m, v)) = (L.map fun p => S.aN p.1).zip us ∧ RAs S.K μ n H ws xs ∧ Vals xs us ∧ us.length = L.length
  | [], ws, e, _ => by
    cases e
    exact ⟨[], [], rfl, .nil, .nil, rfl⟩
  | p :: L, ws, e, h => by
    unfold valsOf at e
    have hp := h p (List.mem_cons_self ..)
    cases e1 : orD (sl.lookup p.1) p.2 with
    | none => rw [e1] at e; cases e
    | some v =>
      cases e2 : valsOf sl L with
      | none => rw [e1, e2] at e; cases e
      | some vs =>
        rw [e1, e2] at e
        cases e
        rw [e1] at hp
        obtain ⟨xs, us, a, b, c, d⟩ := vals_of e2 fun q hq => h q (List.mem_cons_of_mem _ hq)
        cases e3 : fin.lookup (S.aN p.1) with
        | none => rw [e3] at hp; exact hp.elim
        | some u =>
          rw [e3] at hp
          obtain ⟨x, r1, r2⟩ := hp
          refine ⟨x :: xs, u :: us, ?_, .cons r1 b, .cons r2 c, congrArg Nat.succ d⟩
          rw [List.map_cons, List.filterMap_cons, e3]
          show (S.aN p.1, u) :: _ = (S.aN p.1, u) :: _
          exact congrArg _ a
/-- a written value: a constant -/
def RC (v : AV) (x : V) : Prop := ∀ (K : PySem.W.Frag) (μ : Nat → Addr) (n : Nat) (H : Hp), RA K μ n H v x
inductive RCs : List AV → List V → Prop where
  | nil : RCs [] []
  | cons {v : AV} {x : V} {vs : List AV} {xs : List V} (a : RC v x) (t : RCs vs xs) : RCs (v :: vs) (x :: xs)
theorem RCs.ra {vs : List AV} {xs : List V} (h : RCs vs xs) : RAs S.K μ n H vs xs := by
  induction h with
  | nil => exact .nil
  | cons a t ih => exact .cons (a _ _ _ _) ih
/-- the keyword-only defaults -/
def kwD (f : Fn) : List (Nat × AV) := f.kwo.filterMap fun p => p.2.map fun v => (p.1, v)
inductive RKw (S : Sx) : List (Nat × AV) → List (Str × V) → Prop where
  | nil : RKw S [] []
  | cons {a : Nat} {v : AV} {x : V} {l : List (Nat × AV)} {r : List (Str × V)} (ha : a < S.at_.length) (h : RC v x) (t : RKw S l r) : RKw S ((a, v) :: l) ((S.aN a, x) :: r)
theorem RKw.sl {l : List (Nat × AV)} {r : List (Str × V)} (h : RKw S l r) : ∀ {us : List Value}, Vals (r.map (·.2)) us → RSl S μ n H l ((r.map (·.1)).zip us) := by
  induction h with
  | nil => intro us v; exact .nil
  | cons ha h t ih =>
    intro us v
    cases v with
    | cons r v => exact .cons ha (h _ _ _ _) r (ih v)
theorem kwD_look {n : Nat} {d : Option AV} : ∀ {l : List (Nat × Option AV)}, (l.map (·.1)).Nodup → (n, d) ∈ l → (l.filterMap fun p => p.2.map fun v => (p.1, v)).lookup n = d
  | [], _, h => by cases h
  | p :: l, nd, h => by
    rw [List.map_cons, List.nodup_cons] at nd
    rcases List.mem_cons.mp h with e | h
    · subst e
      cases d with
      | some v =>
        rw [List.filterMap_cons]
        dsimp only [Option.map]
        rw [List.lookup_cons, beq_self_eq_true]
      | none =>
        rw [List.filterMap_cons]
        dsimp only [Option.map]
        apply List.lookup_eq_none_iff.mpr
        intro q hq
        obtain ⟨z, hz, e⟩ := List.mem_filterMap.mp hq
        obtain ⟨v, _, rfl⟩ := Option.map_eq_some_iff.mp e
        apply bne_iff_ne.mpr
        intro e
        exact nd.1 (List.mem_map.mpr ⟨z, hz, e.symm⟩)
    · have hn : (n == p.1) = false := by
        apply Bool.eq_false_iff.mpr
        intro e
        have e := eq_of_beq e
        exact nd.1 (List.mem_map.mpr ⟨_, h, e⟩)
      rw [List.filterMap_cons]
      cases e : p.2 with
      | none => exact kwD_look nd.2 h
      | some v =>
        dsimp only [Option.map]
        rw [List.lookup_cons, hn]
        exact kwD_look nd.2 h
theorem lookup_none_of {n : Nat} {l : List (Nat × AV)} (h : n ∉ l.map (·.1)) : l.lookup n = none := by
  apply List.lookup_eq_none_iff.mpr
  intro q hq
  apply bne_iff_ne.mpr
  intro e
  exact h (List.mem_map.mpr ⟨q, hq, e.symm⟩)
end
end Br

set_option linter.all false
set_option Elab.async false
set_option autoImplicit false
set_option maxRecDepth 100000
set_option maxHeartbeats 2000000
/-! BrB3: a def of the program and its machine code: the binding. -/
namespace Br
open PySem PySem.Spec PyProof.Rows L2

/-- a def's names and defaults are the machine's -/
structure Sig (S : Sx) (f : Fn) (params : Arguments) (dvs : List V) (kws : List (Str × V)) (pn : List Str) : Prop where
  sh : ∃ (args kwo : List Arg) (va : Option Arg) (kd : List (Option Expr)) (dfs : List Expr), params = ⟨[], args, va, kwo, kd, none, dfs⟩ ∧
    args.map (·.arg) = f.ps.map S.aN ∧ kwo.map (·.arg) = (f.kwo.map (·.1)).map S.aN ∧ va.isSome = f.va ∧ pn = args.map (·.arg) ++ kwo.map (·.arg) ++ va.toList.map (·.arg)
  lt : ∀ n ∈ f.ps ++ f.kwo.map (·.1), n < S.at_.length
  nd : (f.ps ++ f.kwo.map (·.1)).Nodup
  dl : f.dfl.length ≤ f.ps.length
  dfl : RCs f.dfl dvs
  kwd : RKw S (kwD f) kws
section
variable {S : Sx} {μ : Nat → Addr} {h : AH} {H : Hp} {f : Fn} {params : Arguments} {dvs : List V} {kws : List (Str × V)} {pn : List Str} {x qual : Str} {body : List Stmt} {scope : Scope} {fa : Addr} {fd : FuncData}
theorem RCs.length {vs : List AV} {xs : List V} (h : RCs vs xs) : vs.length = xs.length := by
  induction h with
  | nil => rfl
  | cons a t ih => rw [List.length_cons, List.length_cons, ih]
theorem RAs.vals_len {K : PySem.W.Frag} {μ : Nat → Addr} {n : Nat} {H : Hp} {vs : List AV} {xs : List V} {us : List Value} (a : RAs K μ n H vs xs) (b : Vals xs us) : vs.length = us.length := a.length.trans b.length
theorem RoU.isSome {n : Nat} {o : Option AV} {q : Option Value} (r : RoU S μ n H o q) : o.isSome = q.isSome := by
  cases o <;> cases q <;> first | rfl | exact r.elim
theorem newKw_spec {sl : List (Nat × AV)} {sl' : List (Str × Value)} {n : Nat} (nd : S.at_.Nodup) : ∀ {kw : List (Nat × AV)} {kus : List (Str × Value)} {l : List (Nat × AV)} {l' : List (Str × Value)}, newKw (sl ++ l) kw = true → RSl S μ n H (sl ++ l) (sl' ++ l') → RSl S μ n H kw kus →
    ∀ (a r : List (Str × Value)) (p : Str × Value), kus = a ++ p :: r → (((sl' ++ l') ++ a).lookup p.1) = none := by
  intro kw
  induction kw with
  | nil =>
    intro kus l l' _ _ rk a r p e
    cases rk
    cases a <;> cases e
  | cons q kw ih =>
    intro kus l l' hn rs rk a r p e
    unfold newKw at hn
    rw [Bool.and_eq_true] at hn
    cases rk with
    | @cons ka v x u _ kr ha hv hu t =>
      cases a with
      | nil =>
        cases e
        rw [List.append_nil]
        have := rs.look nd ha
        cases e1 : (sl ++ l).lookup ka with
        | some w =>
          have h1 := hn.1
          rw [e1] at h1
          cases h1
        | none =>
          rw [e1] at this
          cases e2 : (sl' ++ l').lookup (S.aN ka) with
          | none => rfl
          | some w =>
            rw [e2] at this
            exact this.elim
      | cons b a =>
        cases e
        have h2 := hn.2
        rw [List.append_assoc] at h2
        have rs2 : RSl S μ n H (sl ++ (l ++ [(ka, v)])) (sl' ++ (l' ++ [(S.aN ka, u)])) := by
          rw [← List.append_assoc, ← List.append_assoc]
          exact rs.app (.cons ha hv hu .nil)
        have := ih h2 rs2 t a r p rfl
        rw [List.append_assoc, List.append_assoc] at this
        rw [List.append_assoc]
        exact this
theorem bind_ok (nd : S.at_.Nodup) (F : FunD S.K x qual params body scope dvs kws fa fd) (G : Sig S f params dvs kws pn) {ps ws : List AV} {kw : List (Nat × AV)} {xs : List V} {us : List Value} {kus : List (Str × Value)} {A : Around} {outer : List Env} {s : Shared} {E : XK}
    (hb : f.bind ps kw = some ws) (A0 : At S μ h H) (ra : RAs S.K μ h.length H ps xs) (rv : Vals xs us) (rk : RSl S μ h.length H kw kus) (e0 : Env0 S.P S.w S.K S.mg S.base A outer s H) :
    StX.Bnd (L2.CX S.P S.w) S.P S.w S.K S.mg S.base fd ⟨us, kus⟩ pn A outer s H E (fun vs H2 => RAs S.K μ h.length H2 ws vs ∧ At S μ h H2 ∧ Ext μ h.length H μ h.length H2) := by
  obtain ⟨oc, od, dV, kV, doc, pm, an, cdv, ct, osl, rfl, lk, hcd, hD, hK⟩ := F.ex
  obtain ⟨args, kwo, va, kd, dfs, rfl, ea, ek, ev, rfl⟩ := G.sh
  have KX : S.K.In s.heap := e0.mod.kin.keeps fun b o e => (e0.bs b o e).1
  unfold Fn.bind at hb
  split at hb
  rotate_left
  · cases hb
  rename_i hc
  simp only [Bool.and_eq_true, Bool.or_eq_true, decide_eq_true_eq] at hc
  obtain ⟨⟨⟨c1, c2⟩, c3⟩, c4⟩ := hc
  cases hv : valsOf (f.ps.zip ps ++ kw) (f.pds ++ f.kwo) with
  | none => rw [hv] at hb; cases hb
  | some vs0 =>
    rw [hv] at hb
    have hws : ws = vs0 ++ if f.va then [.tup (ps.drop f.ps.length)] else [] := (Option.some.inj hb).symm
    have lp : ps.length = us.length := ra.vals_len rv
    have la : args.length = f.ps.length := by have := congrArg List.length ea; rwa [List.length_map, List.length_map] at this
    -- the slots
    have r0 : RSl S μ h.length H (f.ps.zip ps) ((args.map (·.arg)).zip us) := by
      rw [ea]
      exact RSl.zip (fun p hp => G.lt p (List.mem_append_left _ hp)) ra rv
    have r1 := r0.app rk
    -- the defaults
    have hdf : ∃ (od : Option (Array Value)), (∀ (M : Model) (A' : Around) (Ex : Value → Shared → Prop) (Q' : Option (Array Value) → Shared → Prop), Q' od s → wpAny M A' (seqItems? dV) Q' Ex s) ∧ Vals dvs (od.getD #[]).toList := by
      rcases hD with ⟨e1, e2⟩ | ⟨_, T, o, its, n, e2, lT, oT, rT⟩
      · subst e1 e2
        exact ⟨none, fun M A' Ex Q' q => wpAny_pure q, .nil⟩
      · subst e2
        exact ⟨some its.toArray, fun M A' Ex Q' q => wpAny_seqItems (KX _ _ lT) oT q, by simpa using rT⟩
    obtain ⟨od2, hod, hdv⟩ := hdf
    have ld : (od2.getD #[]).toList.length = f.dfl.length := by rw [← hdv.length, G.dfl.length]
    have hkf : ∃ uk : List Value, Vals (kws.map (·.2)) uk ∧ ∀ q ∈ (kws.map (·.1)).zip uk, ∃ D, kV = .ref D ∧ PySem.W.nsIn S.K D q.1 = some (some q.2) := by
      rcases hK with e | ⟨D, e, hq⟩
      · subst e
        exact ⟨[], .nil, fun q hq => by cases hq⟩
      · obtain ⟨uk, _, a, b⟩ := kwd_vals hq
        exact ⟨uk, a, fun q hq => ⟨D, e, b q hq⟩⟩
    obtain ⟨uk, hukv, huk⟩ := hkf
    have rkw : RSl S μ h.length H (kwD f) ((kws.map (·.1)).zip uk) := G.kwd.sl hukv
    have ndp : f.ps.Nodup := (List.nodup_append.mp G.nd).1
    have ndk : (f.kwo.map (·.1)).Nodup := (List.nodup_append.mp G.nd).2.1
    have dis : ∀ n, n ∈ f.ps → n ∉ f.kwo.map (·.1) := fun n h1 h2 => (List.nodup_append.mp G.nd).2.2 n h1 n h2 rfl
    have hlen : f.pds.length = f.ps.length := by
      unfold Fn.pds
      rw [List.length_zip, List.length_append, List.length_replicate, List.length_map]
      have := G.dl
      omega
    have rdf : RSl S μ h.length H ((f.ps.drop (f.ps.length - f.dfl.length)).zip f.dfl) (((args.map (·.arg)).drop (args.length - (od2.getD #[]).toList.length)).zip (od2.getD #[]).toList) := by
      rw [ea, ld, la, ← List.map_drop]
      exact RSl.zip (fun p hp => G.lt p (List.mem_append_left _ (List.mem_of_mem_drop hp))) G.dfl.ra hdv
    -- a parameter's value
    have aN_mem : ∀ {n : Nat} {l : List Nat}, n < S.at_.length → (∀ m ∈ l, m < S.at_.length) → S.aN n ∈ l.map S.aN → n ∈ l := fun {n l} hn hl hm => by
      obtain ⟨m, h1, h2⟩ := List.mem_map.mp hm
      rw [← aN_inj nd (hl m h1) hn h2]
      exact h1
    have ltp : ∀ m ∈ f.ps, m < S.at_.length := fun m hm => G.lt m (List.mem_append_left _ hm)
    have ltk : ∀ m ∈ f.kwo.map (·.1), m < S.at_.length := fun m hm => G.lt m (List.mem_append_right _ hm)
    have pdsl : ∀ p ∈ f.pds, p.1 ∈ f.ps ∧ p.2 = ((f.ps.drop (f.ps.length - f.dfl.length)).zip f.dfl).lookup p.1 := fun p hp =>
      ⟨(List.of_mem_zip (show (p.1, p.2) ∈ f.ps.zip _ from hp)).1, pds_look _ f.ps f.dfl p.1 p.2 ndp (by have := G.dl; omega) hp⟩
    intro A' Ex Q hQ
    have bg := bind_gen (M := model S.P S.w) (A := A') (E := Ex) (s := s) (fd := PySem.W.fnOf x qual ⟨[], args, va, kwo, kd, none, dfs⟩ body scope dV kV doc pm an cdv ct) (us := us) (kus := kus) (Q := Q) (od := od2) (kw := fun n => ((kws.map (·.1)).zip uk).lookup n) rfl
    refine bg ?_ ?_ ?_ (hod _ _ _) ?_ ?_ ?_ ?_
    · -- the names are known
      intro p hp
      have : ∀ {kw : List (Nat × AV)} {kus : List (Str × Value)}, RSl S μ h.length H kw kus → kw.all (fun p => f.ps.contains p.1 || (f.kwo.map (·.1)).contains p.1) = true → ∀ p ∈ kus, p.1 ∈ args.map (·.arg) ∨ p.1 ∈ kwo.map (·.arg) := by
        intro kw kus rk
        induction rk with
        | nil => intro _ p hp; cases hp
        | cons ha hv hu t ih =>
          intro hc p hp
          rw [List.all_cons, Bool.and_eq_true] at hc
          rcases List.mem_cons.mp hp with e | hp
          · subst e
            rw [Bool.or_eq_true, List.contains_iff_mem, List.contains_iff_mem] at hc
            rcases hc.1 with hm | hm
            · exact .inl (by rw [ea]; exact List.mem_map_of_mem hm)
            · exact .inr (by rw [ek]; exact List.mem_map_of_mem hm)
          · exact ih hc.2 p hp
      exact this rk c1 p hp
    · intro l r p e
      have := newKw_spec (sl := f.ps.zip ps) (sl' := (args.map (·.arg)).zip us) nd (l := []) (l' := []) (by rw [List.append_nil]; exact c2) (by rw [List.append_nil, List.append_nil]; exact r0) rk l r p e
      rwa [List.append_nil] at this
    · rcases c3 with c3 | c3
      · exact .inr (by rw [ev]; exact c3)
      · exact .inl (by omega)
    · rw [ld, la]; exact G.dl
    · -- none is missing
      intro m hm
      rw [ea, ld, la, ← List.map_take] at hm
      obtain ⟨n, hn, rfl⟩ := List.mem_map.mp hm
      have hn1 : n ∈ f.ps := List.mem_of_mem_take hn
      have hr := r1.look nd (ltp n hn1)
      rw [← hr.isSome]
      -- it stands among the positional ones with no default
      have : ∀ (k : Nat) (l : List Nat), n ∈ l.take k → (n, (none : Option AV)) ∈ l.zip (List.replicate k none ++ f.dfl.map some) := by
        intro k
        induction k with
        | zero => intro l h; rw [List.take_zero] at h; cases h
        | succ k ih =>
          intro l h
          cases l with
          | nil => cases h
          | cons q l =>
            rcases List.mem_cons.mp (show n ∈ q :: l.take k from h) with e | h
            · subst e; exact List.mem_cons_self ..
            · exact List.mem_cons_of_mem _ (ih l h)
      have hm2 : (n, (none : Option AV)) ∈ f.pds ++ f.kwo := List.mem_append_left _ (this _ _ hn)
      have : ∀ {L : List (Nat × Option AV)} {ws : List AV}, valsOf (f.ps.zip ps ++ kw) L = some ws → (n, none) ∈ L → ((f.ps.zip ps ++ kw).lookup n).isSome = true := by
        intro L
        induction L with
        | nil => intro ws _ h; cases h
        | cons q L ih =>
          intro ws e h
          unfold valsOf at e
          cases e1 : orD ((f.ps.zip ps ++ kw).lookup q.1) q.2 with
          | none => rw [e1] at e; cases e
          | some v =>
            cases e2 : valsOf (f.ps.zip ps ++ kw) L with
            | none => rw [e1, e2] at e; cases e
            | some vs =>
              rcases List.mem_cons.mp h with h | h
              · subst h
                cases e3 : (f.ps.zip ps ++ kw).lookup n with
                | none => rw [e3] at e1; cases e1
                | some _ => rfl
              · exact ih e2 h
      exact this hv hm2
    · -- a keyword-only one by its default
      intro m hm hnone
      rw [ek] at hm
      obtain ⟨n, hn, rfl⟩ := List.mem_map.mp hm
      obtain ⟨p, hp, rfl⟩ := List.mem_map.mp hn
      have hr := r1.look nd (ltk _ hn)
      have e1 : (f.ps.zip ps ++ kw).lookup p.1 = none := by
        cases e : (f.ps.zip ps ++ kw).lookup p.1 with
        | none => rfl
        | some v =>
          rw [e] at hr
          cases e2 : ((args.map (·.arg)).zip us ++ kus).lookup (S.aN p.1) with
          | none => rw [e2] at hr; exact hr.elim
          | some _ => rw [e2] at hnone; cases hnone
      have : ∀ {L : List (Nat × Option AV)} {ws : List AV}, valsOf (f.ps.zip ps ++ kw) L = some ws → p ∈ L → p.2.isSome = true := by
        intro L
        induction L with
        | nil => intro ws _ h; cases h
        | cons q L ih =>
          intro ws e h
          unfold valsOf at e
          cases e3 : orD ((f.ps.zip ps ++ kw).lookup q.1) q.2 with
          | none => rw [e3] at e; cases e
          | some v =>
            cases e2 : valsOf (f.ps.zip ps ++ kw) L with
            | none => rw [e3, e2] at e; cases e
            | some vs =>
              rcases List.mem_cons.mp h with h | h
              · subst h
                rw [e1] at e3
                show p.2.isSome = true
                rw [show p.2 = some v from e3]
                rfl
              · exact ih e2 h
      have hd := this hv (List.mem_append_right _ hp)
      have hl := kwD_look (n := p.1) (d := p.2) ndk hp
      have hq := rkw.look nd (ltk _ hn)
      rw [show (kwD f).lookup p.1 = p.2 from hl] at hq
      cases e2 : ((kws.map (·.1)).zip uk).lookup (S.aN p.1) with
      | none =>
        rw [e2] at hq
        have := hq.isSome
        rw [hd] at this
        cases this
      | some u =>
        obtain ⟨D, eD, hD⟩ := huk (S.aN p.1, u) (PySem.mem_of_lookup e2)
        exact ⟨u, rfl, D, eD, fun Q' q => (PySem.W.looks_nsIn KX hD).here q⟩
    · -- the values
      intro sl hsl
      have fin : ∀ p ∈ f.pds ++ f.kwo, RoU S μ h.length H (orD ((f.ps.zip ps ++ kw).lookup p.1) p.2) (sl.lookup (S.aN p.1)) := by
        intro p hp
        rw [hsl, fillK_look, fillD_look]
        rcases List.mem_append.mp hp with hp | hp
        · obtain ⟨hm, hd⟩ := pdsl p hp
          have a1 := r1.look nd (ltp _ hm)
          have a2 := rdf.look nd (ltp _ hm)
          have nk : S.aN p.1 ∉ kwo.map (·.arg) := fun z => dis _ hm (aN_mem (ltp _ hm) ltk (by rw [ek] at z; exact z))
          rw [if_neg nk, Option.or_none, hd]
          cases e1 : (f.ps.zip ps ++ kw).lookup p.1 with
          | some v =>
            rw [e1] at a1
            cases e2 : ((args.map (·.arg)).zip us ++ kus).lookup (S.aN p.1) with
            | none => rw [e2] at a1; exact a1.elim
            | some u => rw [e2] at a1; exact a1
          | none =>
            rw [e1] at a1
            cases e2 : ((args.map (·.arg)).zip us ++ kus).lookup (S.aN p.1) with
            | some u => rw [e2] at a1; exact a1.elim
            | none => exact a2
        · have hm := List.mem_map_of_mem (f := (·.1)) hp
          have a1 := r1.look nd (ltk _ hm)
          have a2 := rkw.look nd (ltk _ hm)
          rw [show (kwD f).lookup p.1 = p.2 from kwD_look (n := p.1) (d := p.2) ndk hp] at a2
          have yk : S.aN p.1 ∈ kwo.map (·.arg) := by rw [ek]; exact List.mem_map_of_mem hm
          have nz : (((args.map (·.arg)).drop (args.length - (od2.getD #[]).toList.length)).zip (od2.getD #[]).toList).lookup (S.aN p.1) = none := by
            apply List.lookup_eq_none_iff.mpr
            intro q hq
            apply bne_iff_ne.mpr
            intro e
            have h1 := List.mem_of_mem_drop (List.of_mem_zip (show (q.1, q.2) ∈ _ from hq)).1
            rw [← e, ea] at h1
            exact dis _ (aN_mem (ltk _ hm) ltp h1) hm
          rw [if_pos yk, nz, Option.or_none]
          cases e1 : (f.ps.zip ps ++ kw).lookup p.1 with
          | some v =>
            rw [e1] at a1
            cases e2 : ((args.map (·.arg)).zip us ++ kus).lookup (S.aN p.1) with
            | none => rw [e2] at a1; exact a1.elim
            | some u => rw [e2] at a1; exact a1
          | none =>
            rw [e1] at a1
            cases e2 : ((args.map (·.arg)).zip us ++ kus).lookup (S.aN p.1) with
            | some u => rw [e2] at a1; exact a1.elim
            | none => exact a2
      obtain ⟨zs, uz, ez, rz, vz, lz⟩ := vals_of hv fin
      have names : (f.pds ++ f.kwo).map (fun p => S.aN p.1) = args.map (·.arg) ++ kwo.map (·.arg) := by
        rw [List.map_append, ea, ek, List.map_map]
        congr 1
        have : f.pds.map (·.1) = f.ps := by
          unfold Fn.pds
          rw [List.map_fst_zip]
          rw [List.length_append, List.length_replicate, List.length_map]
          omega
        rw [← this, List.map_map]
        rfl
      rw [names] at ez
      have hlz : uz.length = (args.map (·.arg) ++ kwo.map (·.arg)).length := by
        rw [← names, List.length_map]; exact lz
      rw [ez]
      cases va with
      | none =>
        have hf : f.va = false := ev.symm
        rw [hf] at hws
        have hws : ws = vs0 := by rw [hws]; simp
        subst hws
        have := hQ s H zs uz e0 Un.refl rfl (fun _ _ z => z) vz (by rw [← vz.length] at hlz; rw [hlz]; simp) ⟨rz, A0, Ext.refl⟩
        simp only [Option.toList, List.map_nil, List.append_nil] at this
        exact this
      | some a =>
        have hf : f.va = true := ev.symm
        rw [hf] at hws
        have hws : ws = vs0 ++ [.tup (ps.drop f.ps.length)] := hws
        subst hws
        have hp : H s.heap.objs.size = none := e0.hok.fresh (Nat.le_refl _)
        have l2 : (us.drop args.length).length ≤ sizeLine := by
          rw [List.length_drop]
          have := lim_le c4
          omega
        refine wpAny_newTuple ?_ l2
        have rd : Vals (xs.drop args.length) (us.drop args.length) := rv.drop _
        have new : ObjOk S.P S.w (upd H s.heap.objs.size (.tup (xs.drop args.length))) (s.heap.push ({ cls := .type "tuple", data := .seq (us.drop args.length).toArray } : Obj)) s.heap.objs.size (.tup (xs.drop args.length)) :=
          ⟨by rw [rd.length]; exact l2, _, rd, ⟨_, Heap.get?_push_size _ rfl, rfl, _, rfl⟩⟩
        have un := StX.un_laid (fs := frs outer) (s := s) (o := ({ cls := .type "tuple", data := .seq (us.drop args.length).toArray } : Obj)) (u := .tup (xs.drop args.length)) hp
        have E2 : Ext μ h.length H μ h.length (upd H s.heap.objs.size (.tup (xs.drop args.length))) := Ext.side hp
        have := hQ _ _ (zs ++ [V.ref s.heap.objs.size]) (uz ++ [Value.ref s.heap.objs.size]) (StX.env0_laid e0 new) un rfl (fun e s' => StX.cxUp outer s H _ _ E e s' un (fun b o q => Heap.get?_push_of_some _ q) rfl) (vz.append (.cons rfl .nil))
          (by rw [← vz.length] at hlz; rw [List.length_append, hlz]; simp only [List.length_append, List.length_map, Option.toList, List.length_cons, List.length_nil])
          ⟨(RAs.mono E2 rz).append (.cons (ra_tup upd_same (by rw [← la]; exact RAs.mono E2 (ra.drop _))) .nil), A0.side hp, E2⟩
        simp only [Option.toList, List.map_cons, List.map_nil] at this
        rw [List.zip_append hlz.symm] at this
        exact this
end
end Br

set_option linter.all false
set_option Elab.async false
set_option autoImplicit false
set_option maxRecDepth 100000
set_option maxHeartbeats 2000000
/-! BrT: statements. -/
namespace Br
open PySem PySem.Spec PyProof.Rows L2

section
variable {S : Sx} {W : WX} {X : Cx} {D : Ends} {σ : L2.St} {μ μ1 : Nat → Addr} {n n1 : Nat} {h h1 : AH} {H H1 : Hp} {a : Lc}
/-- what is wanted of a block's outcome -/
def OutS (S : Sx) (W : WX) (D : Ends) (μ : Nat → Addr) (n : Nat) (H : Hp) : SR → Prop
  | .nx a' h' => ∀ μ' H' σ', Ext μ n H μ' h'.length H' → At S μ' h' H' → LR S μ' h'.length H' a' σ' → D.nx σ' H'
  | .rt v h' => ∀ μ' H' x, Ext μ n H μ' h'.length H' → At S μ' h' H' → RA S.K μ' h'.length H' v x → D.rt x H'
  | .ct a' h' => ∀ μ' H' σ', Ext μ n H μ' h'.length H' → At S μ' h' H' → LR S μ' h'.length H' a' σ' → D.ct σ' H'
  | .exc c fs a' h' => ∀ μ' H' σ' d gs, Ext μ n H μ' h'.length H' → At S μ' h' H' → LR S μ' h'.length H' a' σ' → H' d = some (.xd gs) → RF S μ' h'.length H' fs gs → W (.ref (S.cA c)) (some d) σ' H'
  | .fail => False
theorem OutS.shift {r : SR} (e : Ext μ n H μ1 n1 H1) (o : OutS S W D μ n H r) : OutS S W D μ1 n1 H1 r := by
  cases r with
  | nx a' h' => exact fun μ' H' σ' e1 A1 L1 => o μ' H' σ' (e.trans e1) A1 L1
  | rt v h' => exact fun μ' H' x e1 A1 r1 => o μ' H' x (e.trans e1) A1 r1
  | ct a' h' => exact fun μ' H' σ' e1 A1 L1 => o μ' H' σ' (e.trans e1) A1 L1
  | exc c fs a' h' => exact fun μ' H' σ' d gs e1 A1 L1 q r => o μ' H' σ' d gs (e.trans e1) A1 L1 q r
  | fail => exact o
/-- the machine's reading of a statement -/
def DSt (S : Sx) (W : WX) (m : SM) : TS := fun D σ H => ∃ μ h a, At S μ h H ∧ LR S μ h.length H a σ ∧ OutS S W D μ h.length H (m a h)
/-- first an expression -/
theorem DSt.bind {α β : Type} {R : (Nat → Addr) → Nat → Hp → α → β → Prop} {m : M α} {f : α → SM} (A : At S μ h H) (L : LR S μ h.length H a σ) (o : OutS S W D μ h.length H (ms m f a h)) :
    DR S W R m σ H fun x H1 => ∃ μ1 h1 v, At S μ1 h1 H1 ∧ R μ1 h1.length H1 v x ∧ LR S μ1 h1.length H1 a σ ∧ OutS S W D μ1 h1.length H1 (f v a h1) := by
  refine ⟨μ, h, a, A, L, ?_⟩
  unfold ms at o
  cases e : m a h with
  | ok v h1 =>
    rw [e] at o
    exact fun μ' H' x e1 A1 r1 => ⟨μ', h1, v, A1, r1, L.mono e1, o.shift e1⟩
  | exc c fs h1 =>
    rw [e] at o
    exact fun μ' H' d gs e1 A1 q r => o μ' H' σ d gs e1 A1 (L.mono e1) q r
  | fail =>
    rw [e] at o
    exact o
theorem OutS.hereN (A : At S μ h H) (L : LR S μ h.length H a σ) (o : OutS S W D μ h.length H (.nx a h)) : D.nx σ H := o μ H σ Ext.refl A L
variable {e c : Expr} {es : List Expr} {pos : Pos} {ma : M AV} {st : Stmt} {rest b1 b2 : List Stmt} {m m2 : SM}
theorem t_pass : PS X (.Pass pos) (DSt S W fun a h => .nx a h) := ps_pass.imp fun D σ H ⟨μ, h, a, A, L, o⟩ => o.hereN A L
theorem t_cnt : PS X (.Continue pos) (DSt S W fun a h => .ct a h) := ps_continue.imp fun D σ H ⟨μ, h, a, A, L, o⟩ => o μ H σ Ext.refl A L
theorem t_ret (he : PE X e (DE S W ma)) : PS X (.Return (some e) pos) (DSt S W (ms ma fun v => fun _ h => .rt v h)) :=
  (ps_ret he).imp fun D σ H ⟨μ, h, a, A, L, o⟩ => (DSt.bind A L o).imp fun x H1 ⟨μ1, h1, v, A1, r1, L1, o1⟩ => o1 μ1 H1 x Ext.refl A1 r1
theorem t_retn : PS X (.Return none pos) (DSt S W fun _ h => .rt .non h) := ps_retN.imp fun D σ H ⟨μ, h, a, A, L, o⟩ => o μ H .non Ext.refl A ra_non
theorem t_ex (he : PE X e (DE S W ma)) (hs : swapsWith e none pos.line X.env = pure false) : PS X (.Expr e pos) (DSt S W (ms ma fun _ => fun a h => .nx a h)) :=
  (ps_expr he hs).imp fun D σ H ⟨μ, h, a, A, L, o⟩ => (DSt.bind A L o).imp fun x H1 ⟨μ1, h1, v, A1, r1, L1, o1⟩ => o1.hereN A1 L1
theorem t_doc {x : Str} {j : Nat} {p1 p2 : Pos} : PS X (.Expr (.Constant (.str x) j p1) p2) (DSt S W fun a h => .nx a h) := ps_doc.imp fun D σ H ⟨μ, h, a, A, L, o⟩ => o.hereN A L
theorem t_nil : PSs X [] (DSt S W fun a h => .nx a h) := pss_nil.imp fun D σ H ⟨μ, h, a, A, L, o⟩ => o.hereN A L
theorem DSt.seq (A : At S μ h H) (L : LR S μ h.length H a σ) (o : OutS S W D μ h.length H (ss m m2 a h)) : DSt S W m { D with nx := DSt S W m2 D } σ H := by
  refine ⟨μ, h, a, A, L, ?_⟩
  unfold ss at o
  cases e : m a h with
  | nx a1 h1 =>
    rw [e] at o
    exact fun μ' H' σ' e1 A1 L1 => ⟨μ', h1, a1, A1, L1, o.shift e1⟩
  | rt v h1 => rw [e] at o; exact o
  | ct a1 h1 => rw [e] at o; exact o
  | exc c fs a1 h1 => rw [e] at o; exact o
  | fail => rw [e] at o; exact o
theorem t_cons (hs : PS X st (DSt S W m)) (hr : PSs X rest (DSt S W m2)) : PSs X (st :: rest) (DSt S W (ss m m2)) :=
  (pss_cons hs hr).imp fun D σ H ⟨μ, h, a, A, L, o⟩ => DSt.seq A L o
theorem t_if {mt : M Bool} (hc : PT X c (DT S W mt)) (ha : PSs X b1 (DSt S W m)) (hb : PSs X b2 (DSt S W m2)) : PS X (.If c b1 b2 pos) (DSt S W (ms mt fun b => if b then m else m2)) :=
  (ps_if hc ha hb).imp fun D σ H ⟨μ, h, a, A, L, o⟩ => (DSt.bind (R := Rb) A L o).imp fun x H1 ⟨μ1, h1, v, A1, r1, L1, o1⟩ => by
    obtain rfl : v = x := r1
    cases v with
    | true => exact ⟨μ1, h1, a, A1, L1, o1⟩
    | false => exact ⟨μ1, h1, a, A1, L1, o1⟩
/-! targets -/
/-- one name, or the names of a tuple -/
def GOk (S : Sx) (K : PySem.W.Frag) (ts : List Nat) (un : Bool) (g : TG) : Prop :=
  ∀ (v : AV) (x : V) (σ : L2.St) (H : Hp) (Q : L2.St → Hp → Prop) (μ : Nat → Addr) (h : AH) (a a1 : Lc), At S μ h H → RA S.K μ h.length H v x → LR S μ h.length H a σ → setTg ts un v a = some a1 → (∀ σ1, LR S μ h.length H a1 σ1 → wipe σ1 ts = wipe σ ts → Q σ1 H) → g x σ H Q
theorem wipe_get (σ : L2.St) (j : Nat) : ∀ vs : List Nat, (wipe σ vs)[j]? = if j ∈ vs then (σ[j]?).map (fun _ => none) else σ[j]?
  | [] => by simp [wipe]
  | v :: vs => by
    unfold wipe
    rw [List.getElem?_set, wipe_length]
    by_cases h : v = j
    · subst h
      rw [if_pos rfl, if_pos (List.mem_cons_self ..)]
      by_cases hl : v < σ.length
      · rw [if_pos hl, List.getElem?_eq_getElem hl]; rfl
      · rw [if_neg hl, List.getElem?_eq_none (by omega)]; rfl
    · rw [if_neg h, wipe_get σ j vs]
      have : (j ∈ v :: vs) = (j ∈ vs) := by simp [Ne.symm h]
      simp only [this]
theorem wipe_set {σ : L2.St} {i : Nat} {x : Option V} {vs : List Nat} (h : i ∈ vs) : wipe (σ.set i x) vs = wipe σ vs := by
  apply List.ext_getElem?
  intro j
  rw [wipe_get, wipe_get]
  by_cases hj : j ∈ vs
  · rw [if_pos hj, if_pos hj, List.getElem?_set]
    by_cases e : i = j
    · subst e
      rw [if_pos rfl]
      by_cases hl : i < σ.length
      · rw [if_pos hl, List.getElem?_eq_getElem hl]; rfl
      · rw [if_neg hl, List.getElem?_eq_none (by omega)]
    · rw [if_neg e]
  · rw [if_neg hj, if_neg hj, List.getElem?_set, if_neg (fun e => hj (by rw [← e]; exact h))]
theorem wipe_wipe (σ : L2.St) (vs : List Nat) : wipe (wipe σ vs) vs = wipe σ vs := by
  apply List.ext_getElem?
  intro j
  rw [wipe_get, wipe_get]
  by_cases hj : j ∈ vs
  · rw [if_pos hj, if_pos hj, Option.map_map]; rfl
  · rw [if_neg hj, if_neg hj]
theorem g_name {i : Nat} : GOk S X.K [i] false (gName i) := by
  intro v x σ H Q μ h a a1 A r L e q
  simp only [setTg, setTs, Bool.false_eq_true, if_false] at e
  split at e
  · cases e
    exact q _ (L.set r) (wipe_set (List.mem_cons_self ..))
  · cases e
def gNames : List Nat → TGs
  | [] => gNil
  | i :: is => gCons (gName i) (gNames is)
theorem g_names (ts : List Nat) : ∀ (is : List Nat) (vs : List AV) (xs : List V) (σ : L2.St) (H : Hp) (Q : L2.St → Hp → Prop) (a a1 : Lc) (μ : Nat → Addr) (n : Nat), (∀ i ∈ is, i ∈ ts) → RAs S.K μ n H vs xs → LR S μ n H a σ → setTs is vs a = some a1 → (∀ σ1, LR S μ n H a1 σ1 → wipe σ1 ts = wipe σ ts → Q σ1 H) → gNames is xs σ H Q ∧ xs.length = is.length
  | [], [], xs, σ, H, Q, a, a1, μ, n, _, r, L, e, q => by
    cases e
    rw [r.of_nil]
    exact ⟨⟨rfl, q _ L rfl⟩, rfl⟩
  | i :: is, v :: vs, xs, σ, H, Q, a, a1, μ, n, hi, r, L, e, q => by
    obtain ⟨y, ys, rfl, r1, r2⟩ := r.of_cons
    simp only [setTs] at e
    split at e
    · obtain ⟨z1, z2⟩ := g_names ts is vs ys _ H Q _ a1 μ n (fun j hj => hi j (List.mem_cons_of_mem _ hj)) r2 (L.set r1) e (fun σ1 l w => q σ1 l (by rw [w, wipe_set (hi i (List.mem_cons_self ..))]))
      exact ⟨⟨y, ys, rfl, z1⟩, congrArg Nat.succ z2⟩
    · cases e
  | [], _ :: _, _, _, _, _, _, _, _, _, _, _, _, e, _ => by cases e
  | _ :: _, [], _, _, _, _, _, _, _, _, _, _, _, e, _ => by cases e
theorem g_tup (hK : X.K = S.K) {is : List Nat} : GOk S X.K is true (gTup X.K is.length (gNames is)) := by
  intro v x σ H Q μ h a a1 A r L e q
  simp only [setTg, if_true] at e
  cases v with
  | tup xs =>
    obtain ⟨p, vs, rfl, t, rs⟩ := r.tup
    obtain ⟨z1, z2⟩ := g_names is is xs vs σ H Q a a1 μ _ (fun _ h => h) rs L e q
    exact ⟨p, vs, rfl, sqT_of t, z2, z1⟩
  | kt xs =>
    obtain ⟨p, vs, rfl, t, rs⟩ := r.kt
    obtain ⟨z1, z2⟩ := g_names is is xs vs σ H Q a a1 μ _ (fun _ h => h) rs L e q
    exact ⟨p, vs, rfl, by rw [hK]; exact t.sqT, z2, z1⟩
  | _ => cases e
theorem t_set {tg : Expr} {g : TG} {ts : List Nat} {un : Bool} (he : PE X e (DE S W ma)) (hg : PG X tg g) (hG : GOk S X.K ts un g) (hs : swapsWithSole [tg] e pos.line X.env = pure false) (hw : swappedStores [tg] e X.env = pure none)
    (h1 : (assignEach [tg] X.env).map (·.2) = [assign tg X.env]) : PS X (.Assign [tg] e pos) (DSt S W (ms ma fun v => stT ts un v)) :=
  (ps_asg he hg hs hw h1).imp fun D σ H ⟨μ, h, a, A, L, o⟩ => (DSt.bind A L o).imp fun x H1 ⟨μ1, h1, v, A1, r1, L1, o1⟩ => by
    unfold stT at o1
    cases e1 : setTg ts un v a with
    | none =>
      rw [e1] at o1
      exact o1.elim
    | some a1 =>
      rw [e1] at o1
      exact hG v x σ H1 _ μ1 h1 a a1 A1 r1 L1 e1 fun σ1 L2 _ => o1 μ1 H1 σ1 Ext.refl A1 L2
/-! while -/
theorem DT.here {mt : M Bool} {Q : Bool → Hp → Prop} (A : At S μ h H) (L : LR S μ h.length H a σ) (o : Out S W Rb σ μ h.length H (mt a h) Q) : DT S W mt σ H Q := ⟨μ, h, a, A, L, o⟩
theorem t_while {mt : M Bool} (hp : PassesOwn (model X.prog X.w) X.A X.env X.xe) (hc : PT X c (DT S W mt)) (hb : PSs X b1 (DSt S W m)) : PS X (.While c b1 [] pos) (DSt S W (whl mt m)) := by
  refine (ps_while hp hc hb).imp fun D σ H ⟨μ, h, a, A, L, o⟩ => ?_
  by_cases ex : ∃ n r, whlN mt m n a h = some r
  · obtain ⟨n, r, er⟩ := ex
    rw [whl_of er] at o
    refine ⟨fun k σ1 H1 => ∃ μ1 h1 a1 r1, At S μ1 h1 H1 ∧ LR S μ1 h1.length H1 a1 σ1 ∧ whlN mt m k a1 h1 = some r1 ∧ OutS S W D μ1 h1.length H1 r1, ⟨n, μ, h, a, r, A, L, er, o⟩, ?_⟩
    rintro k σ1 H1 ⟨μ1, h1, a1, r1, A1, L1, e1, o1⟩
    cases k with
    | zero => cases e1
    | succ k =>
      refine ⟨μ1, h1, a1, A1, L1, ?_⟩
      unfold whlN at e1
      cases et : mt a1 h1 with
      | fail =>
        rw [et] at e1
        cases e1
        exact o1.elim
      | exc c fs h2 =>
        rw [et] at e1
        cases e1
        exact fun μ' H' d gs e2 A2 q r => o1 μ' H' σ1 d gs e2 A2 (L1.mono e2) q r
      | ok b h2 =>
        rw [et] at e1
        intro μ' H' b' e2 A2 rb
        obtain rfl : b = b' := rb
        cases b with
        | false =>
          cases e1
          rw [if_neg Bool.false_ne_true]
          exact o1 μ' H' σ1 e2 A2 (L1.mono e2)
        | true =>
          rw [if_pos rfl]
          refine ⟨fun σ' H' => ∃ μ2 h3 a2 r2, At S μ2 h3 H' ∧ LR S μ2 h3.length H' a2 σ' ∧ whlN mt m k a2 h3 = some r2 ∧ OutS S W D μ2 h3.length H' r2, fun σ' H' w => ⟨k, Nat.lt_succ_self k, w⟩, ⟨μ', h2, a1, A2, L1.mono e2, ?_⟩⟩
          dsimp only at e1
          cases eb : m a1 h2 with
          | nx a2 h3 =>
            rw [eb] at e1
            exact fun μ3 H3 σ3 e3 A3 L3 => ⟨μ3, h3, a2, r1, A3, L3, e1, o1.shift (e2.trans e3)⟩
          | ct a2 h3 =>
            rw [eb] at e1
            exact fun μ3 H3 σ3 e3 A3 L3 => ⟨μ3, h3, a2, r1, A3, L3, e1, o1.shift (e2.trans e3)⟩
          | rt v h3 =>
            rw [eb] at e1
            cases e1
            exact o1.shift e2
          | exc c fs a2 h3 =>
            rw [eb] at e1
            cases e1
            exact o1.shift e2
          | fail =>
            rw [eb] at e1
            cases e1
            exact o1.elim
  · unfold whl at o
    rw [dif_neg ex] at o
    exact o.elim
/-! for -/
/-- a walked thing of the machine and the layer's iterator -/
def ItOk (S : Sx) (μ : Nat → Addr) (n : Nat) (H : Hp) (t : Br.Itr) (J : It) : Prop :=
  ∀ (μ1 : Nat → Addr) (h1 : AH) (H1 : Hp) (k : Nat), Ext μ n H μ1 h1.length H1 → At S μ1 h1 H1 →
    (t.at h1 k = some none → J.stop k H1) ∧ ∀ v, t.at h1 k = some (some v) → J.go k H1 ∧ ∀ x H2, J.yld k H1 x H2 → At S μ1 h1 H2 ∧ Ext μ1 h1.length H1 μ1 h1.length H2 ∧ RA S.K μ1 h1.length H2 v x
/-- no dict is walked -/
def It0.noD : It0 → Bool
  | .dkeys _ => false
  | .ditems _ => false
  | _ => true
def Itr.noD : Br.Itr → Bool
  | .one a => a.noD
  | .enum a => a.noD
  | .zip a b => a.noD && b.noD
theorem lock_noD {t : Br.Itr} (e : Br.Itr.noD t = true) (b : Bool) (h : AH) : t.lock b h = some h := by
  cases t with
  | one x => cases x <;> first | rfl | cases e
  | enum x => cases x <;> first | rfl | cases e
  | zip x y => cases x <;> cases y <;> first | rfl | cases e
/-- what is walked, as the machine tells it -/
def DI (S : Sx) (W : WX) (m : M Br.Itr) : TI := fun σ H R => ∃ μ h a, At S μ h H ∧ LR S μ h.length H a σ ∧ (match m a h with
  | .ok t h' => ∀ μ' H' J, Ext μ h.length H μ' h'.length H' → At S μ' h' H' → ItOk S μ' h'.length H' t J → R J H'
  | .exc c fs h' => OutX S W σ μ h.length H c fs h'
  | .fail => False)
theorem t_for {tg it : Expr} {g : TG} {ts : List Nat} {un : Bool} {mi : M Br.Itr} (hp : PassesOwn (model X.prog X.w) X.A X.env X.xe) (hc : X.calm = true) (hi : PI X tg it (DI S W mi)) (hg : PG X tg g) (hG : GOk S X.K ts un g) (hb : PSs X b1 (DSt S W m))
    (hno : ∀ a h t h', mi a h = .ok t h' → Br.Itr.noD t = true) (hs : ∀ x, foldedSetIterable it X.env x = pure x) : PS X (.For tg it b1 [] pos) (DSt S W (ms mi fun t => forL t ts un m)) := by
  refine (ps_for hp hc hi hg hb hs).imp fun D σ H ⟨μ, h, a, A, L, o⟩ => ?_
  refine ⟨μ, h, a, A, L, ?_⟩
  unfold ms at o
  cases ei : mi a h with
  | fail =>
    rw [ei] at o
    exact o.elim
  | exc c fs h1 =>
    rw [ei] at o
    exact fun μ' H' d gs e1 A1 q r => o μ' H' σ d gs e1 A1 (L.mono e1) q r
  | ok t h1 =>
    rw [ei] at o
    intro μ1 H1 J e1 A1 hJ
    have nd := hno _ _ _ _ ei
    have unl : ∀ r : SR, SR.unlock t r = r := fun r => by
      cases r <;> simp only [SR.unlock, lock_noD nd]
    have o : OutS S W D μ h.length H (forL t ts un m a h1) := o
    unfold forL at o
    rw [lock_noD nd] at o
    dsimp only at o
    rw [unl] at o
    refine ⟨fun i k σ2 H2 => ∃ μ2 h2 a2, At S μ2 h2 H2 ∧ LR S μ2 h2.length H2 a2 σ2 ∧ Ext μ1 h1.length H1 μ2 h2.length H2 ∧ OutS S W D μ2 h2.length H2 (forGo t ts _ m k i a2 h2), ⟨_, μ1, h1, a, A1, L.mono e1, Ext.refl, o.shift e1⟩, ?_⟩
    rintro i k σ2 H2 ⟨μ2, h2, a2, A2, L2', E2, o2⟩
    cases k with
    | zero => exact o2.elim
    | succ k =>
      unfold forGo at o2
      obtain ⟨j1, j2⟩ := hJ μ2 h2 H2 i E2 A2
      cases ea : t.at h2 i with
      | none =>
        rw [ea] at o2
        exact o2.elim
      | some ov =>
        rw [ea] at o2
        cases ov with
        | none => exact .inl ⟨j1 ea, o2.hereN A2 L2'⟩
        | some v =>
          obtain ⟨j3, j4⟩ := j2 v ea
          refine .inr ⟨j3, fun σ' H' => ∃ μ3 h3 a3, At S μ3 h3 H' ∧ LR S μ3 h3.length H' a3 σ' ∧ Ext μ1 h1.length H1 μ3 h3.length H' ∧ OutS S W D μ3 h3.length H' (forGo t ts _ m k (i + 1) a3 h3), fun σ' H' w => ⟨k, Nat.lt_succ_self k, w⟩, fun x H3 hy => ?_⟩
          obtain ⟨A3, E3, r3⟩ := j4 x H3 hy
          dsimp only at o2
          cases es : setTg ts un v a2 with
          | none =>
            rw [es] at o2
            exact o2.elim
          | some a3 =>
            rw [es] at o2
            refine hG v x σ2 H3 _ μ2 h2 a2 a3 A3 r3 (L2'.mono E3) es fun σ3 L3 _ => ⟨μ2, h2, a3, A3, L3, ?_⟩
            dsimp only at o2
            have o3 := o2.shift E3
            cases eb : m a3 h2 with
            | nx a4 h4 =>
              rw [eb] at o3
              exact fun μ5 H5 σ5 e5 A5 L5 => ⟨μ5, h4, a4, A5, L5, (E2.trans E3).trans e5, o3.shift e5⟩
            | ct a4 h4 =>
              rw [eb] at o3
              exact fun μ5 H5 σ5 e5 A5 L5 => ⟨μ5, h4, a4, A5, L5, (E2.trans E3).trans e5, o3.shift e5⟩
            | rt v h4 =>
              rw [eb] at o3
              exact o3
            | exc c fs a4 h4 =>
              rw [eb] at o3
              exact o3
            | fail =>
              rw [eb] at o3
              exact o3
end
end Br

set_option linter.all false
set_option Elab.async false
set_option autoImplicit false
set_option maxRecDepth 100000
set_option maxHeartbeats 2000000
/-! BrI: what is walked. -/
namespace Br
open PySem PySem.Spec PyProof.Rows L2

theorem sqL_inj {X : Cx} {pins : List (Addr × Obj)} {σ : L2.St} {H : Hp} {s : Shared} {a : Addr} {xs ys : List V} (I : L2.Inv X pins σ H s) (h : SqL X.K H a xs) (k : SqL X.K H a ys) : xs = ys := I.list_inj h k
section
variable {S : Sx} {W : WX} {X : Cx} {σ : L2.St} {μ : Nat → Addr} {n : Nat} {h : AH} {H : Hp} {tg : Expr}
/-- the list behind a walked value -/
inductive LOk (S : Sx) (μ : Nat → Addr) (n : Nat) (H : Hp) : It0 → Addr → Prop where
  | ref {i : Nat} (hi : i < n) : LOk S μ n H (.lref i) (μ i)
  | fl {xs : List AV} {a : Addr} {vs : List V} (f : Fz S.K H a vs) (r : RAs S.K μ n H xs vs) : LOk S μ n H (.pure xs) a
/-- at a later time: the list and the item -/
theorem LOk.at {t : It0} {a : Addr} (l : LOk S μ n H t a) {μ1 : Nat → Addr} {h1 : AH} {H1 : Hp} (E : Ext μ n H μ1 h1.length H1) (A1 : At S μ1 h1 H1) (k : Nat) :
    (t.at h1 k = some none → ∃ xs : List V, SqL S.K H1 a xs ∧ xs.length ≤ k) ∧ ∀ v, t.at h1 k = some (some v) → ∃ (xs : List V) (x : V), SqL S.K H1 a xs ∧ xs[k]? = some x ∧ RA S.K μ1 h1.length H1 v x := by
  cases l with
  | ref hi =>
    rename_i i
    have fin : ∀ {o : Option AV}, (It0.lref i).at h1 k = some o → ∃ (xs : List AV) (vs : List V), h1[i]? = some (.lst xs) ∧ SqL S.K H1 (μ i) vs ∧ RAs S.K μ1 h1.length H1 xs vs ∧ o = xs[k]? := fun {o} e => by
      unfold It0.at at e
      dsimp only at e
      split at e
      · rename_i xs e0
        cases e
        obtain ⟨vs, hv, rs⟩ := A1.lst e0
        rw [E.mu i hi] at hv
        exact ⟨xs, vs, e0, .of hv, rs, rfl⟩
      · cases e
    refine ⟨fun e => ?_, fun v e => ?_⟩
    · obtain ⟨xs, vs, e0, hq, rs, eo⟩ := fin e
      refine ⟨vs, hq, ?_⟩
      rw [← rs.length]
      exact List.getElem?_eq_none_iff.mp eo.symm
    · obtain ⟨xs, vs, e0, hq, rs, eo⟩ := fin e
      obtain ⟨x, ex, rx⟩ := rs.get eo.symm
      exact ⟨vs, x, hq, ex, rx⟩
  | fl f r =>
    rename_i xs vs
    have r1 := RAs.mono E r
    have f1 := (f.mono E.kp).sqL
    refine ⟨fun e => ⟨vs, f1, ?_⟩, fun v e => ?_⟩
    · have e : xs[k]? = none := Option.some.inj e
      rw [← r.length]
      exact List.getElem?_eq_none_iff.mp e
    · have e : xs[k]? = some v := Option.some.inj e
      obtain ⟨x, ex, rx⟩ := r1.get e
      exact ⟨vs, x, f1, ex, rx⟩
/-- a tuple stands as it is -/
structure TOk (S : Sx) (μ : Nat → Addr) (n : Nat) (H : Hp) (xs : List AV) (a : Addr) : Prop where
  ex : ∃ vs, (H a = some (.tup vs) ∨ Kt S.K a vs) ∧ RAs S.K μ n H xs vs
theorem TOk.at {xs : List AV} {a : Addr} (l : TOk S μ n H xs a) {μ1 : Nat → Addr} {h1 : AH} {H1 : Hp} (E : Ext μ n H μ1 h1.length H1) : ∃ vs : List V, SqT S.K H1 a vs ∧ RAs S.K μ1 h1.length H1 xs vs := by
  obtain ⟨vs, t, r⟩ := l.ex
  exact ⟨vs, t.elim (fun t => sqT_of (E.kp.tup _ _ t)) fun t => t.sqT, RAs.mono E r⟩
theorem itL_ok {v : AV} {t : It0} {x : V} (A : At S μ h H) (e : itL h v = some t) (r : RA S.K μ h.length H v x) : ∃ a, x = .ref a ∧ LOk S μ h.length H t a ∧ ∃ xs, SqL S.K H a xs := by
  cases v with
  | fl xs =>
    cases e
    obtain ⟨a, vs, rfl, f, rs⟩ := r.fl
    exact ⟨a, rfl, .fl f rs, vs, f.sqL⟩
  | ref i =>
    simp only [itL] at e
    split at e
    · rename_i xs e0
      cases e
      obtain ⟨hi, rfl⟩ := r.ref
      obtain ⟨vs, hv, rs⟩ := A.lst e0
      exact ⟨_, rfl, .ref hi, vs, .of hv⟩
    · cases e
  | _ => cases e
theorem tup_ok {v : AV} {xs : List AV} {x : V} (e : tupOf v = some xs) (r : RA S.K μ n H v x) : ∃ a, x = .ref a ∧ TOk S μ n H xs a ∧ ∃ vs, SqT S.K H a vs := by
  cases v with
  | tup ys =>
    cases e
    obtain ⟨a, vs, rfl, t, rs⟩ := r.tup
    exact ⟨a, rfl, ⟨vs, .inl t, rs⟩, vs, sqT_of t⟩
  | kt ys =>
    cases e
    obtain ⟨a, vs, rfl, t, rs⟩ := r.kt
    exact ⟨a, rfl, ⟨vs, .inr t, rs⟩, vs, t.sqT⟩
  | _ => cases e
/-- nothing is laid: the item is told by the list -/
theorem io_list {t : It0} {a : Addr} (l : LOk S μ n H t a) : ItOk S μ n H (.one t) (Itl S.K a) := fun μ1 h1 H1 k E A1 => by
  obtain ⟨l1, l2⟩ := l.at E A1 k
  refine ⟨fun e => l1 e, fun v e => ?_⟩
  obtain ⟨xs, x, hq, ex, rx⟩ := l2 v e
  refine ⟨⟨xs, x, hq, ex⟩, fun y H2 ⟨eH, hy⟩ => ?_⟩
  subst eH
  have := hy xs hq
  rw [ex] at this
  cases this
  exact ⟨A1, Ext.refl, rx⟩
theorem io_tup {xs : List AV} {a : Addr} (l : TOk S μ n H xs a) : ItOk S μ n H (.one (.pure xs)) (Itt S.K a) := fun μ1 h1 H1 k E A1 => by
  obtain ⟨vs, hq, rs⟩ := l.at E
  refine ⟨fun e => ?_, fun v e => ?_⟩
  · have e : xs[k]? = none := Option.some.inj e
    refine ⟨vs, hq, ?_⟩
    rw [← rs.length]
    exact List.getElem?_eq_none_iff.mp e
  · have e : xs[k]? = some v := Option.some.inj e
    obtain ⟨x, ex, rx⟩ := rs.get e
    refine ⟨⟨vs, x, hq, ex⟩, fun y H2 ⟨eH, hy⟩ => ?_⟩
    subst eH
    have := hy vs hq
    rw [ex] at this
    cases this
    exact ⟨A1, Ext.refl, rx⟩
theorem io_str {s : List Nat} : ItOk S μ n H (.one (.pure (s.map fun c => .str [c]))) (Its (sO s)) := fun μ1 h1 H1 k E A1 => by
  have sz : (sO s).cps.size = s.length := by simp
  refine ⟨fun e => ?_, fun v e => ?_⟩
  · have e : (s.map fun c => AV.str [c])[k]? = none := Option.some.inj e
    show (sO s).cps.size ≤ k
    rw [sz]
    simpa using e
  · have e : (s.map fun c => AV.str [c])[k]? = some v := Option.some.inj e
    rw [List.getElem?_map] at e
    obtain ⟨c, ec, rfl⟩ := Option.map_eq_some_iff.mp e
    refine ⟨?_, fun y H2 ⟨eH, c2, e2, ey⟩ => ?_⟩
    · show k < (sO s).cps.size
      rw [sz]
      exact (List.getElem?_eq_some_iff.mp ec).1
    · subst eH ey
      have e3 : (sO s).cps[k]? = s[k]? := by simp
      rw [e3, ec] at e2
      cases e2
      exact ⟨A1, Ext.refl, ra_str⟩
theorem io_range {lo hi : Int} : ItOk S μ n H (.one (.pure (rangeL lo hi))) (L2.Itr lo (hi - lo).toNat) := fun μ1 h1 H1 k E A1 => by
  have len : (rangeL lo hi).length = (hi - lo).toNat := by unfold rangeL; rw [List.length_map, List.length_range]
  refine ⟨fun e => ?_, fun v e => ?_⟩
  · have e : (rangeL lo hi)[k]? = none := Option.some.inj e
    have := List.getElem?_eq_none_iff.mp e
    show (hi - lo).toNat ≤ k
    omega
  · have e : (rangeL lo hi)[k]? = some v := Option.some.inj e
    have hk := (List.getElem?_eq_some_iff.mp e).1
    have ev : v = .int (lo + k) := by
      unfold rangeL at e
      rw [List.getElem?_map, List.getElem?_range (by omega)] at e
      exact (Option.some.inj e).symm
    subst ev
    refine ⟨by show k < (hi - lo).toNat; omega, fun y H2 ⟨eH, ey⟩ => ?_⟩
    subst eH ey
    exact ⟨A1, Ext.refl, ra_int⟩
theorem io_enum {t : It0} {a : Addr} (l : LOk S μ n H t a) : ItOk S μ n H (.enum t) (Ite S.K a) := fun μ1 h1 H1 k E A1 => by
  obtain ⟨l1, l2⟩ := l.at E A1 k
  refine ⟨fun e => l1 ?_, fun v e => ?_⟩
  · unfold Br.Itr.at at e
    dsimp only at e
    cases q : t.at h1 k with
    | none => rw [q] at e; cases e
    | some o =>
      rw [q] at e
      cases o with
      | none => rfl
      | some _ => cases e
  · unfold Br.Itr.at at e
    dsimp only at e
    cases q : t.at h1 k with
    | none => rw [q] at e; cases e
    | some o =>
      rw [q] at e
      cases o with
      | none => cases e
      | some w =>
        cases e
        obtain ⟨xs, x, hq, ex, rx⟩ := l2 w q
        refine ⟨⟨xs, x, hq, ex⟩, fun y H2 ⟨T, z, ey, hT, eH, hz⟩ => ?_⟩
        subst ey eH
        have := hz xs hq
        rw [ex] at this
        cases this
        have E2 : Ext μ1 h1.length H1 μ1 h1.length (upd H1 T (.tup [.int (k : Nat), x])) := Ext.side hT
        exact ⟨A1.side hT, E2, ra_tup upd_same (.cons ra_int (.cons (RA.mono E2 rx) .nil))⟩
theorem zip_none {a b : It0} {h1 : AH} {k : Nat} (e : (Br.Itr.zip a b).at h1 k = some none) : (a.at h1 k = some none ∧ ∃ o, b.at h1 k = some o) ∨ (b.at h1 k = some none ∧ ∃ o, a.at h1 k = some o) := by
  unfold Br.Itr.at at e
  dsimp only at e
  split at e
  · cases e
  · rename_i q1 q2
    exact .inl ⟨q1, _, q2⟩
  · rename_i q1 q2
    exact .inr ⟨q2, _, q1⟩
  · cases e
theorem zip_some {a b : It0} {h1 : AH} {k : Nat} {v : AV} (e : (Br.Itr.zip a b).at h1 k = some (some v)) : ∃ x y, a.at h1 k = some (some x) ∧ b.at h1 k = some (some y) ∧ v = .tup [x, y] := by
  unfold Br.Itr.at at e
  dsimp only at e
  split at e
  · rename_i q1 q2
    cases e
    exact ⟨_, _, q1, q2, rfl⟩
  · cases e
  · cases e
  · cases e
theorem LOk.sq {t : It0} {a : Addr} (l : LOk S μ n H t a) {μ1 : Nat → Addr} {h1 : AH} {H1 : Hp} (E : Ext μ n H μ1 h1.length H1) (A1 : At S μ1 h1 H1) {k : Nat} {o : Option AV} (e : t.at h1 k = some o) : ∃ xs : List V, SqL S.K H1 a xs := by
  obtain ⟨l1, l2⟩ := l.at E A1 k
  cases o with
  | none => obtain ⟨xs, q, _⟩ := l1 e; exact ⟨xs, q⟩
  | some v => obtain ⟨xs, _, q, _⟩ := l2 v e; exact ⟨xs, q⟩
theorem io_zip {t u : It0} {a b : Addr} (l : LOk S μ n H t a) (m : LOk S μ n H u b) : ItOk S μ n H (.zip t u) (Itz S.K a b) := fun μ1 h1 H1 k E A1 => by
  obtain ⟨l1, l2⟩ := l.at E A1 k
  obtain ⟨m1, m2⟩ := m.at E A1 k
  refine ⟨fun e => ?_, fun v e => ?_⟩
  · rcases zip_none e with ⟨e1, o, e2⟩ | ⟨e1, o, e2⟩
    · obtain ⟨xs, q, hl⟩ := l1 e1
      obtain ⟨ys, q2⟩ := m.sq E A1 e2
      exact ⟨xs, ys, q, q2, .inl hl⟩
    · obtain ⟨ys, q, hl⟩ := m1 e1
      obtain ⟨xs, q2⟩ := l.sq E A1 e2
      exact ⟨xs, ys, q2, q, .inr hl⟩
  · obtain ⟨p, q, e1, e2, rfl⟩ := zip_some e
    obtain ⟨xs, x, hx, ex, rx⟩ := l2 p e1
    obtain ⟨ys, y, hy, ey, ry⟩ := m2 q e2
    refine ⟨⟨xs, ys, x, y, hx, hy, ex, ey⟩, fun w' H2 ⟨T, z, z2, ew, hT, eH, hz, hz2⟩ => ?_⟩
    subst ew eH
    have := hz xs hx
    rw [ex] at this
    cases this
    have := hz2 ys hy
    rw [ey] at this
    cases this
    have E2 : Ext μ1 h1.length H1 μ1 h1.length (upd H1 T (.tup [x, y])) := Ext.side hT
    exact ⟨A1.side hT, E2, ra_tup upd_same (.cons (RA.mono E2 rx) (.cons (RA.mono E2 ry) .nil))⟩
theorem io_zipT {ps qs : List AV} {a b : Addr} (l : TOk S μ n H ps a) (m : TOk S μ n H qs b) : ItOk S μ n H (.zip (.pure ps) (.pure qs)) (RZ.ItzT S.K a b) := fun μ1 h1 H1 k E A1 => by
  obtain ⟨xs, hx, rx⟩ := l.at E
  obtain ⟨ys, hy, ry⟩ := m.at E
  refine ⟨fun e => ?_, fun v e => ?_⟩
  · refine ⟨xs, ys, hx, hy, ?_⟩
    rcases zip_none e with ⟨e1, o, e2⟩ | ⟨e1, o, e2⟩
    · have e1 : ps[k]? = none := Option.some.inj e1
      rw [← rx.length]
      exact .inl (List.getElem?_eq_none_iff.mp e1)
    · have e1 : qs[k]? = none := Option.some.inj e1
      rw [← ry.length]
      exact .inr (List.getElem?_eq_none_iff.mp e1)
  · obtain ⟨p, q, e1, e2, rfl⟩ := zip_some e
    obtain ⟨x, ex, rx1⟩ := rx.get (show ps[k]? = some p from Option.some.inj e1)
    obtain ⟨y, ey, ry1⟩ := ry.get (show qs[k]? = some q from Option.some.inj e2)
    refine ⟨⟨xs, ys, x, y, hx, hy, ex, ey⟩, fun w' H2 ⟨T, z, z2, ew, hT, eH, hz, hz2⟩ => ?_⟩
    subst ew eH
    have := hz xs hx
    rw [ex] at this
    cases this
    have := hz2 ys hy
    rw [ey] at this
    cases this
    have E2 : Ext μ1 h1.length H1 μ1 h1.length (upd H1 T (.tup [x, y])) := Ext.side hT
    exact ⟨A1.side hT, E2, ra_tup upd_same (.cons (RA.mono E2 rx1) (.cons (RA.mono E2 ry1) .nil))⟩
end
section
variable {S : Sx} {W : WX} {X : Cx} {tg e e2 : Expr} {pos p0 tpos : Pos} {ma : M AV} {ms1 : M (List AV)} {elts : List Expr} {kk : Nat}
/-- what DI asks of an outcome -/
def OutI (S : Sx) (W : WX) (σ : L2.St) (μ : Nat → Addr) (n : Nat) (H : Hp) (r : Res Br.Itr) (R : It → Hp → Prop) : Prop := match r with
  | .ok t h' => ∀ μ' H' J, Ext μ n H μ' h'.length H' → At S μ' h' H' → ItOk S μ' h'.length H' t J → R J H'
  | .exc c fs h' => OutX S W σ μ n H c fs h'
  | .fail => False
theorem OutI.shift {σ : L2.St} {μ μ1 : Nat → Addr} {n n1 : Nat} {H H1 : Hp} {r : Res Br.Itr} {R : It → Hp → Prop} (E : Ext μ n H μ1 n1 H1) (o : OutI S W σ μ n H r R) : OutI S W σ μ1 n1 H1 r R := by
  cases r with
  | ok t h' => exact fun μ' H' J E2 A2 j => o μ' H' J (E.trans E2) A2 j
  | exc c fs h' => exact OutX.shift E o
  | fail => exact o
theorem DI.out {m : M Br.Itr} {σ : L2.St} {H : Hp} {R : It → Hp → Prop} (d : DI S W m σ H R) : ∃ μ h a, At S μ h H ∧ LR S μ h.length H a σ ∧ OutI S W σ μ h.length H (m a h) R := d
/-- a first part of what is walked -/
theorem OutI.bind {α β : Type} {R2 : (Nat → Addr) → Nat → Hp → α → β → Prop} {m : M α} {f : α → M Br.Itr} {σ : L2.St} {H : Hp} {R : It → Hp → Prop} {μ : Nat → Addr} {h : AH} {a : Lc} (A : At S μ h H) (L : LR S μ h.length H a σ) (o : OutI S W σ μ h.length H (mb m f a h) R) :
    DR S W R2 m σ H fun x H1 => ∃ μ1 h1 v, At S μ1 h1 H1 ∧ Ext μ h.length H μ1 h1.length H1 ∧ R2 μ1 h1.length H1 v x ∧ LR S μ1 h1.length H1 a σ ∧ OutI S W σ μ1 h1.length H1 (f v a h1) R := by
  refine ⟨μ, h, a, A, L, ?_⟩
  unfold mb at o
  cases e1 : m a h with
  | fail => rw [e1] at o; exact o
  | exc c fs h1 => rw [e1] at o; exact o
  | ok v h1 =>
    rw [e1] at o
    exact fun μ1 H1 x E1 A1 r1 => ⟨μ1, h1, v, A1, E1, r1, L.mono E1, o.shift E1⟩
theorem OutI.here {σ : L2.St} {μ : Nat → Addr} {h : AH} {H : Hp} {t : Br.Itr} {J : It} {R : It → Hp → Prop} (A : At S μ h H) (o : OutI S W σ μ h.length H (.ok t h) R) (j : ItOk S μ h.length H t J) : R J H := o μ H J Ext.refl A j
theorem pi_range1D (hg : Gl X "range") (hm : X.mg "range" = none) (he : PE X e (DE S W ma)) (hs : noStar e = true) :
    PI X tg (.Call (.Name "range" p0) [e] [] pos) (DI S W (mb ma fun v => lift (mkI .range [v]))) := by
  refine ⟨fun pins s σ H R I d => (pi_range1 hg hm (pa_cons he pa_nil (star_ok hs _ _)) (star_ok hs _ _)).run pins s σ H R I ?_⟩
  obtain ⟨μ, h, a, A, L, o⟩ := d.out
  refine (OutI.bind A L o).imp fun x H1 ⟨μ1, h1, v, A1, E1, r1, L1, o1⟩ => ?_
  cases v with
  | int j =>
    unfold lift mkI at o1
    dsimp only at o1
    split at o1
    · rename_i hl
      have hl1 := hl.1
      have hl2 := hl.2
      unfold lim at hl1 hl2
      refine ⟨j, by rw [r1.int], by omega, by omega, ?_⟩
      have := o1.here A1 io_range
      simpa using this
    · exact o1.elim
  | _ => exact o1.elim
theorem pi_range2D {mb1 : M AV} (hg : Gl X "range") (hm : X.mg "range" = none) (he : PE X e (DE S W ma)) (he2 : PE X e2 (DE S W mb1)) (hs : noStar e = true) (hs2 : noStar e2 = true) :
    PI X tg (.Call (.Name "range" p0) [e, e2] [] pos) (DI S W (mb ma fun v => mb mb1 fun w => lift (mkI .range [v, w]))) := by
  refine ⟨fun pins s σ H R I d => (pi_range2 hg hm (pa_cons he (pa_cons he2 pa_nil (star_ok hs2 _ _)) (star_ok hs _ _)) (by rw [star_ok hs, star_ok hs2]; rfl) (star_ok hs2 _ _)).run pins s σ H R I ?_⟩
  obtain ⟨μ, h, a, A, L, o⟩ := d.out
  refine (OutI.bind A L o).imp fun x H1 ⟨μ1, h1, v, A1, E1, r1, L1, o1⟩ => (OutI.bind A1 L1 o1).imp fun y H2 ⟨μ2, h2, w', A2, E2, r2, L2', o2⟩ => ?_
  unfold lift mkI at o2
  cases v with
  | int i =>
    cases w' with
    | int j =>
      dsimp only at o2
      split at o2
      · rename_i hl
        have h1 := hl.1.1
        have h2 := hl.1.2
        have h3 := hl.2.1
        have h4 := hl.2.2
        unfold lim at h1 h2 h3 h4
        exact ⟨i, j, by rw [r1.int, r2.int], ⟨by omega, by omega, by omega, by omega⟩, o2.here A2 io_range⟩
      · exact o2.elim
    | _ => exact o2.elim
  | _ => exact o2.elim
theorem pi_enumD (hK : X.K = S.K) (hg : Gl X "enumerate") (hm : X.mg "enumerate" = none) (he : PE X e (DE S W ma)) (hs : noStar e = true) :
    PI X (.Tuple elts kk tpos) (.Call (.Name "enumerate" p0) [e] [] pos) (DI S W (mb ma fun v => lift (mkI .enum [v]))) := by
  refine ⟨fun pins s σ H R I d => (pi_enum hg hm (pa_cons he pa_nil (star_ok hs _ _)) (star_ok hs _ _)).run pins s σ H R I ?_⟩
  obtain ⟨μ, h, a, A, L, o⟩ := d.out
  refine (OutI.bind A L o).imp fun x H1 ⟨μ1, h1, v, A1, E1, r1, L1, o1⟩ => ?_
  unfold lift mkI at o1
  dsimp only at o1
  split at o1
  · rename_i t et
    obtain ⟨b, rfl, l, xs, hq⟩ := itL_ok A1 et r1
    refine ⟨b, xs, rfl, by rw [hK]; exact hq, ?_⟩
    rw [hK]
    exact o1.here A1 (io_enum l)
  · exact o1.elim
theorem pi_zipD {mb1 : M AV} (hK : X.K = S.K) (hg : Gl X "zip") (hm : X.mg "zip" = none) (he : PE X e (DE S W ma)) (he2 : PE X e2 (DE S W mb1)) (hs : noStar e = true) (hs2 : noStar e2 = true) :
    PI X (.Tuple elts kk tpos) (.Call (.Name "zip" p0) [e, e2] [] pos) (DI S W (mb ma fun v => mb mb1 fun w => lift (mkI .zip [v, w]))) := by
  refine ⟨fun pins s σ H R I d => (RZ.pi_zipA hg hm (pa_cons he (pa_cons he2 pa_nil (star_ok hs2 _ _)) (star_ok hs _ _)) (star_ok hs _ _) (by rw [star_ok hs2]; rfl)).run pins s σ H R I ?_⟩
  obtain ⟨μ, h, a, A, L, o⟩ := d.out
  refine (OutI.bind A L o).imp fun x H1 ⟨μ1, h1, v, A1, E1, r1, L1, o1⟩ => (OutI.bind A1 L1 o1).imp fun y H2 ⟨μ2, h2, w', A2, E2, r2, L2', o2⟩ => ?_
  unfold lift mkI at o2
  dsimp only at o2
  have r1' := RA.mono E2 r1
  split at o2
  · rename_i t u et eu
    obtain ⟨b, rfl, l, xs, hq⟩ := itL_ok A2 et r1'
    obtain ⟨b2, rfl, l2, ys, hq2⟩ := itL_ok A2 eu r2
    refine ⟨b, b2, xs, ys, rfl, .inl ⟨by rw [hK]; exact hq, by rw [hK]; exact hq2, ?_⟩⟩
    rw [hK]
    exact o2.here A2 (io_zip l l2)
  · split at o2
    · rename_i xs0 ys0 et eu
      obtain ⟨b, rfl, l, xs, hq⟩ := tup_ok et r1'
      obtain ⟨b2, rfl, l2, ys, hq2⟩ := tup_ok eu r2
      refine ⟨b, b2, xs, ys, rfl, .inr ⟨by rw [hK]; exact hq, by rw [hK]; exact hq2, ?_⟩⟩
      rw [hK]
      exact o2.here A2 (io_zipT l l2)
    · exact o2.elim
/-- an iterator over one object, just laid -/
theorem pie_one {pins : List (Addr × Obj)} {σ : L2.St} {H : Hp} {s : Shared} {R : It → Hp → Prop} {J : It} {tn : Nat → Heap → Prop} {ob : Obj} (I : L2.Inv X pins σ H s) (T : Turn X.prog X.w X.K tg J [s.heap.objs.size] s.heap.objs.size tn) (st : tn 0 (s.heap.push ob)) (q : R J H) :
    PIE X pins σ tg R (.ref s.heap.objs.size) { s with heap := s.heap.push ob } := pi_one (tk := s.toks) I ob T st q
theorem pi_valD (hK : X.K = S.K) (he : PE X e (DE S W ma)) : PI X tg e (DI S W (mb ma fun v => lift (mkI .val [v]))) := by
  refine ⟨fun pins s σ H R I d => ?_⟩
  obtain ⟨μ, h, a, A, L, o⟩ := d.out
  refine thn (he.run pins s σ H _ I (OutI.bind A L o)) fun v0 s1 ⟨x, H1, I1, rx, μ1, h1, v, A1, E1, r1, L1, o1⟩ => ?_
  unfold lift mkI it0 at o1
  dsimp only at o1
  have lst : ∀ {b : Addr} {xs : List V} {t : It0}, x = .ref b → SqL S.K H1 b xs → LOk S μ1 h1.length H1 t b → OutI S W σ μ1 h1.length H1 (.ok (.one t) h1) R → wpAny (model X.prog X.w) X.A (pyIter v0) (PIE X pins σ tg R) X.xe s1 := by
    intro b xs t ex hq l o2
    subst ex
    cases rx
    rw [← hK] at hq
    obtain ⟨its, rv, pl, hz⟩ := I1.list hq
    refine wpAny_pyIter_list pl.isList (pie_one I1 (turn_list b _) ⟨_, Heap.get?_push_size _ rfl, rfl, rfl⟩ ?_)
    rw [hK]
    exact o2.here A1 (io_list l)
  have tup : ∀ {b : Addr} {vs : List V} {xs : List AV}, x = .ref b → SqT S.K H1 b vs → TOk S μ1 h1.length H1 xs b → OutI S W σ μ1 h1.length H1 (.ok (.one (.pure xs)) h1) R → wpAny (model X.prog X.w) X.A (pyIter v0) (PIE X pins σ tg R) X.xe s1 := by
    intro b vs xs ex hq l o2
    subst ex
    cases rx
    rw [← hK] at hq
    obtain ⟨its, rv, pl, hz⟩ := I1.tuple hq
    refine wpAny_pyIter_tuple (show s1.heap.IsTuple b its.toArray from pl) (pie_one I1 (turn_tuple b _) ⟨_, Heap.get?_push_size _ rfl, rfl, rfl⟩ ?_)
    rw [hK]
    exact o2.here A1 (io_tup l)
  cases v with
  | tup xs =>
    obtain ⟨b, ex, l, vs, hq⟩ := tup_ok (v := .tup xs) rfl r1
    exact tup ex hq l o1
  | kt xs =>
    obtain ⟨b, ex, l, vs, hq⟩ := tup_ok (v := .kt xs) rfl r1
    exact tup ex hq l o1
  | fl xs =>
    obtain ⟨b, ex, l, vs, hq⟩ := itL_ok (v := .fl xs) A1 rfl r1
    exact lst ex hq l o1
  | str z =>
    cases r1.str
    obtain ⟨t, rfl⟩ := rx
    have q := o1.here A1 io_str
    cases ha : (sO z).cps.all (· < 128)
    · exact wpAny_pyIter_wide ha (pie_one I1 (turn_str _ _ t "str_iterator" (.inr rfl)) ⟨_, Heap.get?_push_size _ rfl, rfl, rfl⟩ q)
    · exact wpAny_pyIter_ascii ha (pie_one I1 (turn_str _ _ t "str_ascii_iterator" (.inl rfl)) ⟨_, Heap.get?_push_size _ rfl, rfl, rfl⟩ q)
  | ref i =>
    dsimp only at o1
    split at o1
    · rename_i xs e0
      obtain ⟨b, ex, l, vs, hq⟩ := itL_ok (v := .ref i) (t := .lref i) A1 (by simp only [itL]; rw [e0]) r1
      exact lst ex hq l o1
    · exact o1.elim
  | _ => exact o1.elim
end
end Br

set_option linter.all false
set_option Elab.async false
set_option autoImplicit false
set_option maxRecDepth 100000
set_option maxHeartbeats 2000000
/-! BrC: comprehensions. -/
namespace Br
open PySem PySem.Spec PyProof.Rows L2

/-- within a comprehension nothing is raised -/
def Wn : WX := fun _ _ _ _ => False
section
variable {S : Sx} {W : WX} {X : Cx} {σ : L2.St} {μ μ1 : Nat → Addr} {n n1 : Nat} {h : AH} {H H1 : Hp} {a : Lc}
theorem wipeC_len (a : Lc) : ∀ ts : List Nat, (wipeC ts a).length = a.length
  | [] => rfl
  | t :: ts => by
    show ((wipeC ts a).set t none).length = a.length
    rw [List.length_set, wipeC_len a ts]
theorem LR.wipe (l : LR S μ n H a σ) : ∀ ts : List Nat, LR S μ n H (wipeC ts a) (L2.wipe σ ts)
  | [] => l
  | t :: ts => (LR.wipe l ts).del
/-- an object beside is written -/
theorem At.beside {D : Addr} {o o' : HO} (A : At S μ h H) (hD : H D = some o) (n1 : ∀ xs, o ≠ .tup xs) (n2 : ∀ ob xs, o ≠ .frz ob (.lst xs)) (hn : ∀ i, i < h.length → μ i ≠ D) : At S μ h (upd H D o') ∧ Ex0 μ h.length H μ h.length (upd H D o') := by
  have k : Kp H (upd H D o') := ⟨fun b xs q => by
      rw [upd_ne (fun z => by rw [z, hD] at q; exact n1 xs (Option.some.inj q))]
      exact q, fun b ob xs q => by
      rw [upd_ne (fun z => by rw [z, hD] at q; exact n2 ob xs (Option.some.inj q))]
      exact q⟩
  have E : Ex0 μ h.length H μ h.length (upd H D o') := ⟨Nat.le_refl _, fun _ _ => rfl, k⟩
  refine ⟨⟨A.inj, fun i u e => ?_⟩, E⟩
  obtain ⟨ho, e1, r⟩ := A.obj i u e
  have hi : i < h.length := (List.getElem?_eq_some_iff.mp e).1
  exact ⟨ho, by rw [upd_ne (hn i hi)]; exact e1, r.mono0 E⟩
theorem Ext.beside {D : Addr} {o o' : HO} (E : Ext μ n H μ1 n1 H1) (h0 : H D = none) (hD : H1 D = some o) (z1 : ∀ xs, o ≠ .tup xs) (z2 : ∀ ob xs, o ≠ .frz ob (.lst xs)) : Ext μ n H μ1 n1 (upd H1 D o') := by
  refine ⟨E.le, E.mu, E.kp.trans ⟨fun b xs q => ?_, fun b ob xs q => ?_⟩, fun b u q hb => ?_, E.nw, fun b q => ?_⟩
  · rw [upd_ne (fun z => by rw [z, hD] at q; exact z1 xs (Option.some.inj q))]
    exact q
  · rw [upd_ne (fun z => by rw [z, hD] at q; exact z2 ob xs (Option.some.inj q))]
    exact q
  · rw [upd_ne (ne_of_none q h0)]
    exact E.fr b u q hb
  · exact E.st b (st_upd b q)
/-- a part of a comprehension's end -/
def lcFin (r : Res (List AV)) : Res AV := match r with
  | .ok vs h1 => if vs.length ≤ lim then newL vs h1 else .fail
  | _ => .fail
theorem lcFin_eq {t : Br.Itr} {ts : List Nat} {un : Bool} {mt : M Bool} {me : M AV} (nd : Br.Itr.noD t = true) (a : Lc) (h : AH) : mb (compL t ts un mt me) (fun vs => lift (newL vs)) a h = lcFin (compGo t ts un mt me (t.len h + 1) 0 [] a h) := by
  unfold mb lift compL
  rw [lock_noD nd]
  dsimp only
  cases compGo t ts un mt me (t.len h + 1) 0 [] a h with
  | ok vs h1 =>
    simp only [lock_noD nd, lcFin]
    by_cases hl : vs.length ≤ lim
    · rw [if_pos hl, if_pos hl]
    · rw [if_neg hl, if_neg hl]
  | _ => rfl
/-- the clause's reading -/
theorem lc_read {wi : TI} {g : TG} {ts : List Nat} {un : Bool} {mi : M Br.Itr} {mt : M Bool} {me : M AV} {Q : VK} (hwi : wi = DI S W mi) (hG : GOk S X.K ts un g) (hno : ∀ a h t h', mi a h = .ok t h' → Br.Itr.noD t = true)
    (d : DE S W (mb mi fun t => mb (compL t ts un mt me) fun vs => lift (newL vs)) σ H Q) : tLc wi g (DT S Wn mt) (DE S Wn me) ts σ H Q := by
  subst hwi
  obtain ⟨μ, h, a, A, L, o⟩ := d
  refine ⟨μ, h, a, A, L, ?_⟩
  unfold mb at o
  cases ei : mi a h with
  | fail => rw [ei] at o; exact o
  | exc c fs h1 => rw [ei] at o; exact o
  | ok t h1 =>
    rw [ei] at o
    intro μ1 H1 J E1 A1 hJ D hD
    have nd := hno _ _ _ _ ei
    have o : Out S W (Rv S) σ μ h.length H (mb (compL t ts un mt me) (fun vs => lift (newL vs)) a h1) Q := o
    rw [lcFin_eq nd] at o
    have o := o.shift E1
    have L1 := L.mono E1
    have W0 : ∀ (i m : Nat) (H2 : Hp), Prop := fun i m H2 => ∃ (μ2 : Nat → Addr) (h2 : AH) (acc : List AV) (av : List V), At S μ2 h2 H2 ∧ LR S μ2 h2.length H2 a σ ∧ Ext μ1 h1.length H1 μ2 h2.length H2 ∧ H2 D = some (.lst av) ∧ (∀ j, j < h2.length → μ2 j ≠ D) ∧ RAs S.K μ2 h2.length H2 acc av ∧
      Out S W (Rv S) σ μ1 h1.length H1 (lcFin (compGo t ts un mt me m i acc a h2)) Q
    refine ⟨fun i m H2 => ∃ (μ2 : Nat → Addr) (h2 : AH) (acc : List AV) (av : List V), At S μ2 h2 H2 ∧ LR S μ2 h2.length H2 a σ ∧ Ext μ1 h1.length H1 μ2 h2.length H2 ∧ H2 D = some (.lst av) ∧ (∀ j, j < h2.length → μ2 j ≠ D) ∧ RAs S.K μ2 h2.length H2 acc av ∧
      Out S W (Rv S) σ μ1 h1.length H1 (lcFin (compGo t ts un mt me m i acc a h2)) Q, ⟨_, μ1, h1, [], [], A1.side hD, L1.mono (Ext.side hD), Ext.side hD, upd_same, fun j hj => A1.free hD hj, .nil, o⟩, ?_⟩
    rintro i m H2 ⟨μ2, h2, acc, av, A2, L2', E2, hD2, hn2, ra, o2⟩
    cases m with
    | zero => exact o2.elim
    | succ m =>
      unfold compGo at o2
      obtain ⟨j1, j2⟩ := hJ μ2 h2 H2 i E2 A2
      cases ea : t.at h2 i with
      | none => rw [ea] at o2; exact o2.elim
      | some ov =>
        rw [ea] at o2
        cases ov with
        | none =>
          refine .inl ⟨j1 ea, ?_⟩
          have o3 : Out S W (Rv S) σ μ1 h1.length H1 (if acc.length ≤ lim then newL acc h2 else .fail) Q := o2
          by_cases hl : acc.length ≤ lim
          · rw [if_pos hl] at o3
            unfold Br.newL at o3
            rw [if_pos hl] at o3
            have A3 := A2.adopt (o := .lst acc) hD2 hn2 (ro_lst ra)
            have len : (h2 ++ [AO.lst acc]).length = h2.length + 1 := by rw [List.length_append]; rfl
            refine o3 (muS μ2 h2.length D) H2 (.ref D) ⟨by rw [len]; have := E2.le; omega, fun j hj => ?_, E2.kp, E2.fr, fun j hj hj2 => ?_, E2.st⟩ A3 ?_
            · rw [muS_lt (Nat.lt_of_lt_of_le hj E2.le)]
              exact E2.mu j hj
            · rw [len] at hj2
              by_cases hj3 : j < h2.length
              · rw [muS_lt hj3]
                exact E2.nw j hj hj3
              · have : j = h2.length := by omega
                subst this
                rw [muS_at]
                exact hD
            · show RA S.K _ _ _ (.ref h2.length) (.ref D)
              rw [RA]
              exact ⟨by rw [len]; exact Nat.lt_succ_self _, by rw [muS_at]⟩
          · rw [if_neg hl] at o3
            exact o3.elim
        | some v =>
          obtain ⟨j3, j4⟩ := j2 v ea
          refine .inr ⟨j3, fun H' => ∃ (μ3 : Nat → Addr) (h3 : AH) (acc : List AV) (av : List V), At S μ3 h3 H' ∧ LR S μ3 h3.length H' a σ ∧ Ext μ1 h1.length H1 μ3 h3.length H' ∧ H' D = some (.lst av) ∧ (∀ j, j < h3.length → μ3 j ≠ D) ∧ RAs S.K μ3 h3.length H' acc av ∧
            Out S W (Rv S) σ μ1 h1.length H1 (lcFin (compGo t ts un mt me m (i + 1) acc a h3)) Q, fun H' w => ⟨m, Nat.lt_succ_self m, w⟩, fun x H3 hy => ?_⟩
          obtain ⟨A3, E3, r3⟩ := j4 x H3 hy
          have hD3 : H3 D = some (.lst av) := E3.fr D _ hD2 hn2
          dsimp only at o2
          cases es : setTg ts un v (wipeC ts a) with
          | none => rw [es] at o2; exact o2.elim
          | some a3 =>
            rw [es] at o2
            dsimp only at o2
            refine hG v x (L2.wipe σ ts) H3 _ μ2 h2 (wipeC ts a) a3 A3 r3 ((L2'.mono E3).wipe ts) es fun σ3 L3 w3 => ⟨by rw [w3, wipe_wipe], μ2, h2, a3, A3, L3, ?_⟩
            cases et : mt a3 h2 with
            | fail => rw [et] at o2; exact o2.elim
            | exc c fs h4 => rw [et] at o2; exact o2.elim
            | ok b h4 =>
              rw [et] at o2
              intro μ4 H4 b' E4 A4 rb
              obtain rfl : b = b' := rb
              have nD4 : ∀ j, j < h4.length → μ4 j ≠ D := fun j hj => by
                by_cases hj2 : j < h2.length
                · rw [E4.mu j hj2]; exact hn2 j hj2
                · have := E4.nw j (by omega) hj
                  intro e
                  rw [e, hD3] at this
                  cases this
              have hD4 : H4 D = some (.lst av) := E4.fr D _ hD3 hn2
              cases b with
              | false =>
                rw [if_neg Bool.false_ne_true]
                exact ⟨μ4, h4, acc, av, A4, (L2'.mono E3).mono E4, (E2.trans E3).trans E4, hD4, nD4, RAs.mono E4 (RAs.mono E3 ra), o2⟩
              | true =>
                rw [if_pos rfl]
                refine ⟨μ4, h4, a3, A4, L3.mono E4, ?_⟩
                dsimp only at o2
                cases ee : me a3 h4 with
                | fail => rw [ee] at o2; exact o2.elim
                | exc c fs h5 => rw [ee] at o2; exact o2.elim
                | ok w' h5 =>
                  rw [ee] at o2
                  intro μ5 H5 y E5 A5 ry
                  have nD5 : ∀ j, j < h5.length → μ5 j ≠ D := fun j hj => by
                    by_cases hj2 : j < h4.length
                    · rw [E5.mu j hj2]; exact nD4 j hj2
                    · have := E5.nw j (by omega) hj
                      intro e
                      rw [e, hD4] at this
                      cases this
                  have hD5 : H5 D = some (.lst av) := E5.fr D _ hD4 nD4
                  have ra5 : RAs S.K μ5 h5.length H5 acc av := RAs.mono E5 (RAs.mono E4 (RAs.mono E3 ra))
                  dsimp only at o2
                  by_cases hl : acc.length < lim
                  · rw [if_pos hl] at o2
                    obtain ⟨A6, X6⟩ := A5.beside (o' := .lst (av ++ [y])) hD5 (fun _ z => by cases z) (fun _ _ z => by cases z) nD5
                    exact ⟨av, hD5, by rw [← ra5.length]; exact lim_lt hl, μ5, h5, acc ++ [w'], av ++ [y], A6, (((L2'.mono E3).mono E4).mono E5).mono0 X6,
                      (((E2.trans E3).trans E4).trans E5).beside hD hD5 (fun _ z => by cases z) (fun _ _ z => by cases z), upd_same, nD5, (ra5.append (.cons ry .nil)).mono0 X6, o2⟩
                  · rw [if_neg hl] at o2
                    exact o2.elim
end
end Br

set_option linter.all false
set_option Elab.async false
set_option autoImplicit false
set_option maxRecDepth 100000
set_option maxHeartbeats 2000000
/-! BrK: calls of the program's defs. -/
namespace Br
open PySem PySem.Spec PyProof.Rows L2

section
variable {M : Model} {A : Around} {E : Value → Shared → Prop} {s : Shared}
theorem args_any {f : Value} {args : List (Bool × Sem Value)} {keywords : List (Option Str × Sem Value)} {Q : Args → Shared → Prop} (hl : ∀ x, args ≠ [(true, x)]) (hall : keywords.all (·.1.isSome) = true)
    (h : wpAny M A (spliced args) (fun vs s₁ => wpAny M A (evalAll (keywords.map (·.2))) (fun ks s₂ => Q ⟨vs, (keywords.filterMap (·.1)).zip ks⟩ s₂) E s₁) E s) : wpAny M A (evalArgs f true args keywords) Q E s := by
  have fin : ∀ (vs : List Value) (s₁ : Shared), wpAny M A (evalAll (keywords.map (·.2))) (fun ks s₂ => Q ⟨vs, (keywords.filterMap (·.1)).zip ks⟩ s₂) E s₁ →
      wpAny M A (holding (vs ++ (none : Option Value).toList) (do
        if keywords.all (·.1.isSome) then
          let kw := (keywords.filterMap (·.1)).zip (← evalAll (keywords.map (·.2)))
          return ⟨← (pure vs : Sem (List Value)), kw⟩
        let d ← mergedKeywords f keywords
        let pos ← (pure vs : Sem (List Value))
        return ⟨pos, ← holding (.ref d :: pos) (keywordsIn f d)⟩)) Q E s₁ := fun vs s₁ h₁ => by
    refine wpAny_holding ?_
    simp only [hall, if_true]
    refine wpAny_bind (wpAny_mono h₁ (fun ks s₂ h₂ => ?_) fun _ _ z => z)
    exact wpAny_bind (wpAny_pure (wpAny_pure h₂))
  cases args with
  | nil =>
    unfold evalArgs
    show wpAny M A (spliced [] >>= _) Q E s
    exact wpAny_bind (wpAny_mono h fin fun _ _ z => z)
  | cons x r =>
    obtain ⟨b, t⟩ := x
    cases b with
    | false => exact evalArgs_kw hall h
    | true =>
      cases r with
      | nil => exact absurd rfl (hl t)
      | cons y r =>
        unfold evalArgs
        show wpAny M A (spliced ((true, t) :: y :: r) >>= _) Q E s
        exact wpAny_bind (wpAny_mono h fin fun _ _ z => z)
theorem callWith_any {f : Value} {first : List Value} {pos : Pos} {Q : Value → Shared → Prop} {P : Heap → Prop} {args : List (Bool × Sem Value)} {keywords : List (Option Str × Sem Value)}
    (hk : ∀ h, P h → ∃ k, (k = Keeper.frame ∨ k = Keeper.machine ∨ k = Keeper.boundFrame) ∧ PySem.W.Looks M h (keeperOf f) k)
    (h : wpAny M A (evalArgs f true args keywords) (fun a s₁ => P s₁.heap ∧ wpAny M A (call f (first ++ a.pos) a.kw) Q E s₁) E s) : wpAny M A (callWith pos f first args keywords) Q E s := by
  cases hst : (args.any (·.1) || keywords.any (·.1.isNone)) with
  | false => exact PySem.W.callWith_of hst hk h
  | true =>
    unfold callWith
    refine wpAny_bind (wpAny_holding (wpAny_mono h (fun b s₁ ⟨hp, hc⟩ => wpAny_bind (wpAny_standAt ?_)) fun _ _ z => z))
    obtain ⟨k, hk', L⟩ := hk _ hp
    simp only [hst]
    refine wpAny_bind (L.here ?_)
    have tl : ∀ {t : Sem Value}, wpAny M A t Q E s₁ → wpAny M A (t >>= fun r => holding [r] point >>= fun _ => pure r) Q E s₁ :=
      fun ht => wpAny_bind (wpAny_mono ht (fun r s₂ hr => wpAny_bind (wpAny_holding (wpAny_point (wpAny_pure hr)))) fun _ _ z => z)
    have mk (w : Value) : wpAny M A (callMarked w f (first ++ b.pos) b.kw) Q E s₁ := by unfold callMarked; exact Calls.wpAny_keep hc
    rcases hk' with rfl | rfl | rfl
    · exact tl (mk _)
    · exact tl (wpAny_operating hc)
    · exact tl (wpAny_operating hc)
end
section
variable {S : Sx} {W : WX} {X : Cx} {C : Callee} {k : Nat} {e : Expr} {es : List Expr} {kws : List Keyword} {pos p0 kpos : Pos} {ma : M AV} {ms1 mk1 : M (List AV)} {nm : Option Str}
/-! keywords' values -/
theorem dk_nil : PK X [] (DA S W (mp [])) := ⟨fun pos pins s σ H Q I ⟨μ, h, al, A, L, ho⟩ => pk_nil.run pos pins s σ H Q I (Out.here (R := Rvs S) A .nil ho)⟩
theorem dk_cons (ha : PE X e (DE S W ma)) (hr : PK X kws (DA S W mk1)) : PK X (⟨nm, e, kpos⟩ :: kws) (DA S W (mb ma fun v => mb mk1 fun vs => mp (v :: vs))) :=
  ⟨fun pos pins s σ H Q I ⟨μ, h, al, A, L, ho⟩ => (pk_cons ha hr).run pos pins s σ H Q I ((DR.bind A L ho).imp fun x H1 ⟨μ1, h1, v, A1, E1, r1, L1, o1⟩ =>
    (DR.bind A1 L1 o1).imp fun xs H2 ⟨μ2, h2, vs, A2, E2, r2, L2, o2⟩ => o2.here A2 (RAs.cons (RA.mono E2 r1) r2))⟩
/-- what the program's defs do is what the machine says -/
def CallOk (S : Sx) (C : Callee) (k : Nat) : Prop :=
  ∀ (key : Key2) (f : Fn), S.G.fns.lookup key = some f → ∀ (A : Around) (outer : List Env) (s : Shared) (H : Hp) (us : List Value) (xs : List V) (kus : List (Str × Value)) (ps : List AV) (kw : List (Nat × AV)) (μ : Nat → Addr) (h : AH) (Q : VK) (E : XK),
    Room k A → Env0 S.P S.w S.K S.mg S.base A outer s H → Vals xs us → RAs S.K μ h.length H ps xs → RSl S μ h.length H kw kus → At S μ h H →
    Out S (fun c d _ H' => E c d H') (Rv S) ([] : L2.St) μ h.length H (C key ps kw h) Q → codeAny (model S.P S.w) A (.call (.ref (S.fA key)) ⟨us, kus⟩) (CR (L2.CX S.P S.w) outer S.P S.w H s Q E) s
theorem Out.wx {α β : Type} {R : (Nat → Addr) → Nat → Hp → α → β → Prop} {σ σ2 : L2.St} {μ : Nat → Addr} {n : Nat} {H : Hp} {r : Res α} {Q : β → Hp → Prop} (o : Out S W R σ μ n H r Q) : Out S (fun c d _ H' => W c d σ H') R σ2 μ n H r Q := by
  cases r with
  | ok v h => exact o
  | exc c fs h => exact o
  | fail => exact o
/-- the context of a def's body -/
structure Ok0 (S : Sx) (W : WX) (k : Nat) (X : Cx) : Prop where
  P : X.prog = S.P
  w : X.w = S.w
  K : X.K = S.K
  mg : X.mg = S.mg
  base : X.base = S.base
  room : Room k X.A
  calm : X.calm = true
  tk : L2.Takes X W
theorem Ok0.hu (g : Ok0 S W k X) : X.A.units + 65 < cLine := by have := g.room.un; omega
theorem run_def (g : Ok0 S W k X) (CO : CallOk S C k) {key : Key2} {f : Fn} (hf : S.G.fns.lookup key = some f) {pins : List (Addr × Obj)} {σ : L2.St} {H : Hp} {s : Shared} {us : List Value} {xs : List V} {kus : List (Str × Value)} {ps : List AV} {kw : List (Nat × AV)} {μ : Nat → Addr} {h : AH} {Q : VK}
    (I : L2.Inv X pins σ H s) (rv : Vals xs us) (ra : RAs S.K μ h.length H ps xs) (rk : RSl S μ h.length H kw kus) (A : At S μ h H) (o : Out S W (Rv S) σ μ h.length H (C key ps kw h) Q) :
    wpAny (model X.prog X.w) X.A (call (.ref (S.fA key)) us kus) (EP X pins σ Q) X.xe s := by
  have e0 := I.env0
  have hx := passAt g.tk σ
  rw [g.P, g.w, g.K, g.mg, g.base] at e0
  refine wpAny_call ?_
  rw [g.P, g.w]
  refine codeAny_mono (CO key f hf X.A X.stack s H us xs kus ps kw μ h Q (WE W σ) g.room e0 rv ra rk A (Out.wx o)) fun r s' hq => ?_
  cases r with
  | error e =>
    rw [g.P, g.w] at hx
    exact hx pins H s e s' I hq
  | ok fl =>
    cases fl with
    | ret u =>
      refine I.after ?_
      rw [g.P, g.w]
      exact hq
    | next => exact False.elim hq
    | brk => exact False.elim hq
    | cont => exact False.elim hq
/-- the keywords' names -/
def kwNames (S : Sx) (ks : List Nat) (kws : List Keyword) : Bool := decide (kws.map (·.arg) = ks.map fun n => some (S.aN n)) && ks.all fun n => decide (n < S.at_.length)
theorem kw_some {ks : List Nat} (hk : kwNames S ks kws = true) (pos : Pos) (env : Env) : (backToKw pos (keywordEach kws env)).all (·.1.isSome) = true ∧ (backToKw pos (keywordEach kws env)).filterMap (·.1) = ks.map S.aN := by
  unfold kwNames at hk
  rw [Bool.and_eq_true, decide_eq_true_eq] at hk
  have e := hk.1
  have key : ∀ (kws : List Keyword) (ks : List Nat), kws.map (·.arg) = ks.map (fun n => some (S.aN n)) → (backToKw pos (keywordEach kws env)).map (·.1) = ks.map (fun n => some (S.aN n)) := by
    intro kws
    induction kws with
    | nil => intro ks e; rw [← e]; rfl
    | cons q kws ih =>
      intro ks e
      cases ks with
      | nil => cases e
      | cons n ks =>
        obtain ⟨na, va, p⟩ := q
        rw [List.map_cons, List.map_cons, List.cons.injEq] at e
        show na :: (backToKw pos (keywordEach kws env)).map (·.1) = _
        rw [ih ks e.2, List.map_cons, ← e.1]
  have k2 := key kws ks e
  constructor
  · have : ((backToKw pos (keywordEach kws env)).map (·.1)).all (·.isSome) = true := by
      rw [k2, List.all_map]
      simp
    rw [List.all_map] at this
    exact this
  · have : ((backToKw pos (keywordEach kws env)).map (·.1)).filterMap id = ks.map S.aN := by
      rw [k2, List.filterMap_map]
      induction ks with
      | nil => rfl
      | cons n ks ih => simp
    rw [List.filterMap_map] at this
    exact this
theorem RSl.ofKw {ks : List Nat} {μ : Nat → Addr} {n : Nat} {H : Hp} {ps : List AV} {xs : List V} {us : List Value} (hk : kwNames S ks kws = true) (r : RAs S.K μ n H ps xs) (v : Vals xs us) : RSl S μ n H (ks.zip ps) ((ks.map S.aN).zip us) := by
  unfold kwNames at hk
  rw [Bool.and_eq_true, decide_eq_true_eq, List.all_eq_true] at hk
  exact RSl.zip (fun p hp => by simpa using hk.2 p hp) r v
/-- not one starred argument alone -/
def notLone : List Expr → Bool
  | [.Starred _ _] => false
  | _ => true
theorem lone_ok {es : List Expr} (h : notLone es = true) (pos : Pos) (env : Env) : ∀ x, backTo pos (starEach es env) ≠ [(true, x)] := by
  intro x e
  cases es with
  | nil => cases e
  | cons a r =>
    cases r with
    | nil =>
      have hs : noStar a = true := by
        unfold notLone at h
        unfold noStar
        cases a <;> first | rfl | cases h
      rw [star_ok hs] at e
      have := congrArg (fun l => l.head?.map (·.1)) e
      simp [backTo] at this
    | cons b r =>
      have := congrArg List.length e
      unfold backTo at this
      rw [List.length_map] at this
      have l2 : ∀ l : List Expr, (starEach l env).length = l.length := by
        intro l
        induction l with
        | nil => rfl
        | cons z l ih => cases z <;> exact congrArg Nat.succ ih
      rw [l2] at this
      simp at this
/-- f(..), f a def of the module -/
theorem d_call {x : Str} {key : Key2} {f : Fn} {ks : List Nat} (g : Ok0 S W k X) (CO : CallOk S C k) (hf : S.G.fns.lookup key = some f) (hg : Gl X x) (hm : S.mg x = some (.ref (S.fA key))) (hk : PySem.W.keepIn S.K (.ref (S.fA key)) = true)
    (ha : PA X es (DA S W ms1)) (hkw : PK X kws (DA S W mk1)) (hks : kwNames S ks kws = true) (hl : notLone es = true) (hd : (x == ("__debug__" : Str)) = false) :
    PE X (.Call (.Name x p0) es kws pos) (DE S W (mb ms1 fun ws => mb mk1 fun us => lift (C key ws (ks.zip us)))) := by
  refine ⟨fun pins s σ H Q I ⟨μ, h, al, A, L, ho⟩ => ?_⟩
  refine wpAny_Call_Name_kw (ld_glob I hg (by rw [g.mg]; exact hm) ?_ hd)
  obtain ⟨k1, k2⟩ := kw_some hks pos X.env
  refine callWith_any (P := fun h => X.K.In h) (fun h hp => PySem.W.keeps_K (by rw [g.K]; exact hk) h hp) (args_any (lone_ok hl _ _) k1 ?_)
  refine thn (ha.run pos pins s σ H _ I (DR.bind A L ho)) fun us s1 ⟨xs, H1, I1, rv, μ1, h1, ps, A1, E1, r1, L1, o1⟩ => ?_
  refine thn (hkw.run pos pins s1 σ H1 _ I1 (DR.bind A1 L1 o1)) fun ws s2 ⟨zs, H2, I2, rz, μ2, h2, qs, A2, E2, r2, L2', o2⟩ => ⟨I2.kIn, ?_⟩
  rw [k2]
  exact run_def g CO hf I2 rv (RAs.mono E2 r1) (RSl.ofKw hks r2 rz) A2 o2
end
end Br

set_option linter.all false
set_option Elab.async false
set_option autoImplicit false
set_option maxRecDepth 100000
set_option maxHeartbeats 2000000
/-! BrL: list(..), tuple(..), chains, isinstance. -/
namespace Br
open PySem PySem.Spec PyProof.Rows L2

theorem listOf_val {h : AH} {ps xs : List AV} (e : listOf .val h ps = some xs) : ∃ v, ps = [v] ∧ seqOf h v = some xs := by
  cases ps with
  | nil => cases e
  | cons v r =>
    cases r with
    | nil => exact ⟨v, rfl, e⟩
    | cons _ _ => cases e
section
variable {S : Sx} {W : WX} {X : Cx} {a b c e e2 : Expr} {es : List Expr} {pos p0 p1 : Pos} {ma mb1 mc : M AV} {ms1 : M (List AV)}
theorem cr_lis (hK : X.K = S.K) : CrD S W X (.type "list") (fun vs => fun h => match listOf .val h vs with | some xs => newL xs h | none => .fail) := by
  intro pins s σ H xs us Q μ h ps I rs A ra ho
  dsimp only at ho
  split at ho
  · rename_i ys e
    obtain ⟨v, rfl, e⟩ := listOf_val e
    obtain ⟨x, rfl, r1⟩ := ra.one
    obtain ⟨p, vs, rfl, hq, rr⟩ := seq_ra A e r1
    exact call_list_of pins s σ H _ us Q I rs ⟨p, vs, rfl, by rw [hK]; exact hq, (Out.newL A rr ho).2⟩
  · exact ho.elim
theorem tupV_ra {h : AH} {v : AV} {x : V} {μ : Nat → Addr} {H : Hp} {xs : List AV} (A : At S μ h H) (e : seqOf h v = some xs) (r : RA S.K μ h.length H v x) :
    ∃ p vs, x = .ref p ∧ RAs S.K μ h.length H xs vs ∧ (SqL S.K H p vs ∨ (H p = some (.tup vs)) ∨ ∃ ys, v = .kt ys ∧ Kt S.K p vs) := by
  cases v with
  | tup ys =>
    cases e
    obtain ⟨p, vs, rfl, t, rs⟩ := r.tup
    exact ⟨p, vs, rfl, rs, .inr (.inl t)⟩
  | kt ys =>
    cases e
    obtain ⟨p, vs, rfl, t, rs⟩ := r.kt
    exact ⟨p, vs, rfl, rs, .inr (.inr ⟨_, rfl, t⟩)⟩
  | fl ys =>
    cases e
    obtain ⟨p, vs, rfl, t, rs⟩ := r.fl
    exact ⟨p, vs, rfl, rs, .inl t.sqL⟩
  | ref i =>
    simp only [seqOf] at e
    split at e
    · rename_i ys e0
      cases e
      obtain ⟨_, rfl⟩ := r.ref
      obtain ⟨vs, hv, rs⟩ := A.lst e0
      exact ⟨_, vs, rfl, rs, .inl (.of hv)⟩
    · cases e
  | _ => cases e
theorem cr_tpl (hK : X.K = S.K) : CrD S W X (.type "tuple") (fun vs => fun h => match listOf .val h vs with | some xs => if xs.length ≤ lim ∧ vs.all notKt = true then .ok (.tup xs) h else .fail | none => .fail) := by
  intro pins s σ H xs us Q μ h ps I rs A ra ho
  dsimp only at ho
  split at ho
  · rename_i ys e
    obtain ⟨v, rfl, e⟩ := listOf_val e
    obtain ⟨x, rfl, r1⟩ := ra.one
    obtain ⟨p, vs, rfl, rr, hq⟩ := tupV_ra A e r1
    split at ho
    · rename_i hl
      rcases hq with hq | hq | ⟨zs, rfl, _⟩
      · exact call_tuple_of pins s σ H _ us Q I rs ⟨p, vs, rfl, .inl ⟨by rw [hK]; exact hq, fun l hl => Out.tup A rr hl ho⟩⟩
      · exact call_tuple_of pins s σ H _ us Q I rs ⟨p, vs, rfl, .inr ⟨sqT_of hq, ho.here A (ra_tup hq rr)⟩⟩
      · exact absurd hl.2 (by simp [notKt])
    · exact ho.elim
  · exact ho.elim
theorem rgV_ra {K : PySem.W.Frag} {μ : Nat → Addr} {n : Nat} {H : Hp} {lo hi : Int} : RAs K μ n H (rangeL lo hi) (rgV lo hi) := by
  unfold rangeL rgV
  generalize List.range (hi - lo).toNat = l
  induction l with
  | nil => exact .nil
  | cons k l ih => exact .cons ra_int ih
theorem d_lisR1 {pr : Pos} (hc : X.calm = true) (hl : Gl X "list") (hlm : X.mg "list" = none) (hg : Gl X "range") (hm : X.mg "range" = none) (he : PE X e (DE S W ma)) (hs : noStar e = true) :
    PE X (.Call (.Name "list" p0) [.Call (.Name "range" p1) [e] [] pr] [] pos) (DE S W (mb ma fun v => fun _ h => match listOf .range h [v] with | some xs => newL xs h | none => .fail)) :=
  (pe_listRg hc hl hlm (prg_1 hg hm he (star_ok hs _ _)) rfl).imp fun σ H Q ⟨μ, h, al, A, L, ho⟩ => (DR.bind A L ho).imp fun x H1 ⟨μ1, h1, v, A1, E1, r1, L1, o1⟩ => by
    cases v with
    | int j =>
      unfold listOf at o1
      dsimp only at o1
      split at o1
      · rename_i xs e1
        split at e1
        · rename_i hl
          cases e1
          have h1 := hl.1
          have h2 := hl.2
          unfold lim at h1 h2
          exact ⟨j, r1.int, ⟨by omega, by omega, by omega, by omega, by omega⟩, (Out.newL A1 rgV_ra o1).2⟩
        · cases e1
      · exact o1.elim
    | _ => exact o1.elim
theorem d_lisR2 {pr : Pos} (hc : X.calm = true) (hl : Gl X "list") (hlm : X.mg "list" = none) (hg : Gl X "range") (hm : X.mg "range" = none) (he : PE X e (DE S W ma)) (he2 : PE X e2 (DE S W mb1)) (hs : noStar e = true) (hs2 : noStar e2 = true) :
    PE X (.Call (.Name "list" p0) [.Call (.Name "range" p1) [e, e2] [] pr] [] pos) (DE S W (mb ma fun v => mb mb1 fun w => fun _ h => match listOf .range h [v, w] with | some xs => newL xs h | none => .fail)) :=
  (pe_listRg hc hl hlm (prg_2 hg hm he he2 (star_ok hs _ _) (star_ok hs2 _ _) (by rw [star_ok hs2]; rfl)) rfl).imp fun σ H Q ⟨μ, h, al, A, L, ho⟩ => (DR.bind A L ho).imp fun x H1 ⟨μ1, h1, v, A1, E1, r1, L1, o1⟩ =>
    (DR.bind A1 L1 o1).imp fun y H2 ⟨μ2, h2, w', A2, E2, r2, L2', o2⟩ => by
    cases v with
    | int i =>
      cases w' with
      | int j =>
        unfold listOf at o2
        dsimp only at o2
        split at o2
        · rename_i xs e1
          split at e1
          · rename_i hl
            cases e1
            have h1 := hl.1.1
            have h2 := hl.1.2
            have h3 := hl.2.1
            have h4 := hl.2.2
            unfold lim at h1 h2 h3 h4
            exact ⟨i, j, r1.int, r2.int, ⟨by omega, by omega, by omega, by omega, by omega⟩, (Out.newL A2 rgV_ra o2).2⟩
          · cases e1
        · exact o2.elim
      | _ => exact o2.elim
    | _ => exact o2.elim
/-! chains -/
def cmR (S : Sx) (o : Cmp) : R2 := fun x y H Q => ∃ (W : WX) (σ : L2.St) (μ : Nat → Addr) (h : AH) (p q : AV), At S μ h H ∧ RA S.K μ h.length H p x ∧ RA S.K μ h.length H q y ∧ Out S W Rb σ μ h.length H (cmpB o p q h) (fun b H' => Q (.bl b) H')
theorem Out.ofB {o : Cmp} {p q : AV} {h : AH} {W' : WX} {σ σ' : L2.St} {μ : Nat → Addr} {n : Nat} {H : Hp} {Q : Bool → Hp → Prop} (ho : Out S W Rb σ μ n H (cmpB o p q h) Q) : Out S W' Rb σ' μ n H (cmpB o p q h) Q := by
  have : ∀ r : Res Bool, cmpB o p q h = r → (∃ b, r = .ok b h) ∨ r = .fail := by
    intro r e
    subst e
    unfold cmpB
    repeat' split
    all_goals first | exact .inl ⟨_, rfl⟩ | exact .inr rfl
  rcases this _ rfl with ⟨b, e⟩ | e
  · rw [e] at ho ⊢
    exact ho
  · rw [e] at ho
    exact ho.elim
theorem op_cmR (hK : X.K = S.K) (hu : X.A.units + 65 < cLine) (o : Cmp) : OpR X (compareOp (cmpO o)) (cmR S o) := by
  intro pins s σ H x y v u Q I rx ry ⟨W, σ2, μ, h, p, q, A, rp, rq, ho⟩
  exact cm_cmpB hK hu o pins s σ H x y v u Q μ h p q W I rx ry A rp rq ho.ofB
theorem chain_read {o o2 : Cmp} {σ : L2.St} {H : Hp} {Q : VK} (d : DE S W (mb ma fun v => mb mb1 fun w => mb (lift (cmpB o v w)) fun k => if k then mb mc fun u => mb (lift (cmpB o2 w u)) fun b => mp (.bl b) else mp (.bl false)) σ H Q) :
    tChain (cmR S o) (cmR S o2) (DE S W ma) (DE S W mb1) (DE S W mc) σ H Q := by
  obtain ⟨μ, h, al, A, L, ho⟩ := d
  refine (DR.two A L ho).imp fun x H1 z => z.imp fun y H2 ⟨μ2, h2, p, q, A2, L2', r1, r2, o2'⟩ => ⟨W, σ, μ2, h2, p, q, A2, r1, r2, ?_⟩
  unfold mb lift at o2'
  cases e : cmpB o p q h2 with
  | fail => rw [e] at o2'; exact o2'
  | exc c fs h3 => rw [e] at o2'; exact o2'
  | ok k h3 =>
    rw [e] at o2'
    intro μ3 H3 b E3 A3 rb
    obtain rfl : k = b := rb
    refine ⟨k, rfl, ?_⟩
    have o3 := Out.shift E3 o2'
    cases k with
    | false =>
      rw [if_neg Bool.false_ne_true]
      exact Out.here A3 ra_bl o3
    | true =>
      rw [if_pos rfl]
      have o3 : Out S W (Rv S) σ μ3 h3.length H3 (mb mc (fun u => mb (lift (cmpB o2 q u)) fun b => mp (AV.bl b)) al h3) Q := o3
      refine (DR.bind A3 (L2'.mono E3) o3).imp fun w H4 ⟨μ4, h4, u, A4, E4, r4, L4, o4⟩ => ?_
      exact ⟨W, σ, μ4, h4, q, u, A4, RA.mono E4 (RA.mono E3 r2), r4, Out.bl o4⟩
theorem d_cmp2 {o o2 : Cmp} {op op2 : CmpOp} (hK : X.K = S.K) (hu : X.A.units + 65 < cLine) (h1 : op = cmpO o) (h2 : op2 = cmpO o2) (ha : PE X a (DE S W ma)) (hb : PE X b (DE S W mb1)) (hc : PE X c (DE S W mc)) (hm : lastMarks [op, op2] [b, c] = false) :
    PE X (.Compare a [op, op2] [b, c] pos) (DE S W (mb ma fun v => mb mb1 fun w => mb (lift (cmpB o v w)) fun k => if k then mb mc fun u => mb (lift (cmpB o2 w u)) fun b => mp (.bl b) else mp (.bl false))) := by
  subst h1 h2
  exact (pe_chain (op_cmR hK hu o) (op_cmR hK hu o2) ha hb hc hm).imp fun σ H Q d => chain_read d
theorem dt_cmp2 {o o2 : Cmp} {op op2 : CmpOp} (hK : X.K = S.K) (hu : X.A.units + 65 < cLine) (h1 : op = cmpO o) (h2 : op2 = cmpO o2) (ha : PE X a (DE S W ma)) (hb : PE X b (DE S W mb1)) (hc : PE X c (DE S W mc)) (hm : lastMarks [op, op2] [b, c] = false) :
    PT X (.Compare a [op, op2] [b, c] pos) (DT S W (tst (mb ma fun v => mb mb1 fun w => mb (lift (cmpB o v w)) fun k => if k then mb mc fun u => mb (lift (cmpB o2 w u)) fun b => mp (.bl b) else mp (.bl false)))) := by
  subst h1 h2
  exact (pt_chain (op_cmR hK hu o) (op_cmR hK hu o2) ha hb hc hm).imp fun σ H Q d => chain_read (dt_val d)
end
end Br

set_option linter.all false
set_option Elab.async false
set_option autoImplicit false
set_option maxRecDepth 100000
set_option maxHeartbeats 2000000
/-! BrY: isinstance. -/
namespace Br
open PySem PySem.Spec PyProof.Rows L2

def bTys : List String := ["int", "bool", "str", "list", "tuple"]
def vTys : List String := ["NoneType", "int", "bool", "str", "list", "tuple", "dict"]
/-- what the written part says of the classes -/
structure IsF (S : Sx) : Prop where
  cls : ∀ c k, S.G.cls.lookup c = some k → L2.Cls S.K (S.cA c)
  ga : ∀ c k, S.G.cls.lookup c = some k → PySem.W.findIn S.K (.ref (S.cA c)) "__class__" = some (some (.builtin "object.__class__"))
  gb : ∀ c k, S.G.cls.lookup c = some k → PySem.W.specialIn S.K (.builtin "object.__class__") "__get__" = some (some (.builtin "getset_descriptor.__get__"))
  gt : ∀ c k, S.G.cls.lookup c = some k → PySem.W.takesIn S.K (.builtin "object.__class__") = some true
  gm : ∀ c k, S.G.cls.lookup c = some k → PySem.W.mroIn S.K (S.cA c) (.type "object") = some true
  kit : ∀ c k g k2, S.G.cls.lookup c = some k → S.G.cls.lookup g = some k2 → PySem.W.kitOne S.K (.ref (S.cA c)) (.ref (S.cA g)) = some (k.mro.contains g)
  kitB : ∀ c k T, S.G.cls.lookup c = some k → T ∈ bTys → PySem.W.kitOne S.K (.ref (S.cA c)) (.type T) = some false
  kitT : ∀ g k T, S.G.cls.lookup g = some k → T ∈ vTys → PySem.W.kitOne S.K (.type T) (.ref (S.cA g)) = some false
def tyN : TyC → String
  | .int => "int"
  | .bool => "bool"
  | .str => "str"
  | .list => "list"
  | .tuple => "tuple"
  | .cls _ => ""
def tyVl (S : Sx) : TyC → Value
  | .cls g => .ref (S.cA g)
  | t => .type (tyN t)
def tyV2 (S : Sx) : TyC → V
  | .cls g => .ref (S.cA g)
  | t => .ty (tyN t)
def tyOk (S : Sx) : TyC → Bool
  | .cls g => (S.G.cls.lookup g).isSome
  | _ => true
section
variable {S : Sx} {W : WX} {X : Cx} {μ : Nat → Addr} {h : AH} {H : Hp} {e : Expr} {es : List Expr} {pos p0 p1 : Pos} {ma : M AV}
theorem ty_of (F : IsF S) (A : At S μ h H) {v : AV} {x : V} (r : RA S.K μ h.length H v x) (ok : isiOk S.G h v = true) :
    ∃ t : Value, TyX S.K H x t ∧ ∀ ty, tyOk S ty = true → PySem.W.kitOne S.K t (tyVl S ty) = some (hasTy S.G h v ty) := by
  have nocls : clsOf h v = none → ∀ (T : String), T ∈ vTys → ∀ g, tyOk S (.cls g) = true → PySem.W.kitOne S.K (.type T) (.ref (S.cA g)) = some (hasTy S.G h v (.cls g)) := fun hc T hT g hg => by
    simp only [hasTy, hc]
    simp only [tyOk] at hg
    obtain ⟨k, hk⟩ := Option.isSome_iff_exists.mp hg
    exact F.kitT g k T hk hT
  cases v with
  | non =>
    cases r.non
    refine ⟨_, .base .non, fun ty hy => ?_⟩
    cases ty with
    | cls g => exact nocls rfl "NoneType" (by decide) g hy
    | int => exact kit_ty (r := false) (by decide +kernel)
    | bool => exact kit_ty (r := false) (by decide +kernel)
    | str => exact kit_ty (r := false) (by decide +kernel)
    | list => exact kit_ty (r := false) (by decide +kernel)
    | tuple => exact kit_ty (r := false) (by decide +kernel)
  | bl b =>
    cases r.bl
    refine ⟨_, .base (.bl b), fun ty hy => ?_⟩
    cases ty with
    | cls g => exact nocls rfl "bool" (by decide) g hy
    | int => exact kit_ty (r := true) (by decide +kernel)
    | bool => exact kit_ty (r := true) (by decide +kernel)
    | str => exact kit_ty (r := false) (by decide +kernel)
    | list => exact kit_ty (r := false) (by decide +kernel)
    | tuple => exact kit_ty (r := false) (by decide +kernel)
  | int i =>
    cases r.int
    refine ⟨_, .base (.int i), fun ty hy => ?_⟩
    cases ty with
    | cls g => exact nocls rfl "int" (by decide) g hy
    | int => exact kit_ty (r := true) (by decide +kernel)
    | bool => exact kit_ty (r := false) (by decide +kernel)
    | str => exact kit_ty (r := false) (by decide +kernel)
    | list => exact kit_ty (r := false) (by decide +kernel)
    | tuple => exact kit_ty (r := false) (by decide +kernel)
  | str s =>
    cases r.str
    refine ⟨_, .base (.str _), fun ty hy => ?_⟩
    cases ty with
    | cls g => exact nocls rfl "str" (by decide) g hy
    | int => exact kit_ty (r := false) (by decide +kernel)
    | bool => exact kit_ty (r := false) (by decide +kernel)
    | str => exact kit_ty (r := true) (by decide +kernel)
    | list => exact kit_ty (r := false) (by decide +kernel)
    | tuple => exact kit_ty (r := false) (by decide +kernel)
  | tup xs =>
    obtain ⟨a, vs, rfl, t, _⟩ := r.tup
    refine ⟨_, .base (.tup t), fun ty hy => ?_⟩
    cases ty with
    | cls g => exact nocls rfl "tuple" (by decide) g hy
    | int => exact kit_ty (r := false) (by decide +kernel)
    | bool => exact kit_ty (r := false) (by decide +kernel)
    | str => exact kit_ty (r := false) (by decide +kernel)
    | list => exact kit_ty (r := false) (by decide +kernel)
    | tuple => exact kit_ty (r := true) (by decide +kernel)
  | kt xs =>
    obtain ⟨a, vs, rfl, ⟨o, its, n, e1, e2, _⟩, _⟩ := r.kt
    refine ⟨_, .kTuple e1 e2, fun ty hy => ?_⟩
    cases ty with
    | cls g => exact nocls rfl "tuple" (by decide) g hy
    | int => exact kit_ty (r := false) (by decide +kernel)
    | bool => exact kit_ty (r := false) (by decide +kernel)
    | str => exact kit_ty (r := false) (by decide +kernel)
    | list => exact kit_ty (r := false) (by decide +kernel)
    | tuple => exact kit_ty (r := true) (by decide +kernel)
  | fl xs =>
    obtain ⟨a, vs, rfl, f, _⟩ := r.fl
    have fin : TyX S.K H (.ref a) (.type "list") → ∃ t : Value, TyX S.K H (.ref a) t ∧ ∀ ty, tyOk S ty = true → PySem.W.kitOne S.K t (tyVl S ty) = some (hasTy S.G h (.fl xs) ty) := fun z => by
      refine ⟨_, z, fun ty hy => ?_⟩
      cases ty with
      | cls g => exact nocls rfl "list" (by decide) g hy
      | int => exact kit_ty (r := false) (by decide +kernel)
      | bool => exact kit_ty (r := false) (by decide +kernel)
      | str => exact kit_ty (r := false) (by decide +kernel)
      | list => exact kit_ty (r := true) (by decide +kernel)
      | tuple => exact kit_ty (r := false) (by decide +kernel)
    rcases f with ⟨o, f⟩ | ⟨o, its, n, e1, e2, _⟩
    · exact fin (.base (.frz f))
    · exact fin (.kList e1 e2)
  | ref i =>
    obtain ⟨_, rfl⟩ := r.ref
    simp only [isiOk] at ok
    split at ok
    · rename_i ys e0
      obtain ⟨vs, hv, _⟩ := A.lst e0
      have hc : clsOf h (.ref i) = none := by simp only [clsOf, e0]
      refine ⟨_, .base (.lst hv), fun ty hy => ?_⟩
      cases ty with
      | cls g => exact nocls hc "list" (by decide) g hy
      | list => simp only [hasTy, e0]; exact kit_ty (r := true) (by decide +kernel)
      | _ => first | exact kit_ty (r := false) (by decide +kernel) | (simp only [hasTy, e0]; exact kit_ty (r := false) (by decide +kernel))
    · rename_i tk kvs lk e0
      have hl : lk = false := by simpa using ok
      subst hl
      obtain ⟨o, d, h1, h2, h3⟩ := A.dct e0
      obtain rfl : o = d := h2
      have hc : clsOf h (.ref i) = none := by simp only [clsOf, e0]
      have fin : TyX S.K H (.ref (μ i)) (.type "dict") → ∃ t : Value, TyX S.K H (.ref (μ i)) t ∧ ∀ ty, tyOk S ty = true → PySem.W.kitOne S.K t (tyVl S ty) = some (hasTy S.G h (.ref i) ty) := fun z => by
        refine ⟨_, z, fun ty hy => ?_⟩
        cases ty with
        | cls g => exact nocls hc "dict" (by decide) g hy
        | _ => first | exact kit_ty (r := false) (by decide +kernel) | (simp only [hasTy, e0]; exact kit_ty (r := false) (by decide +kernel))
      cases tk with
      | false => obtain ⟨ks, rfl, _⟩ := h3; exact fin (.base (.dK h1))
      | true => obtain ⟨ks, rfl, _⟩ := h3; exact fin (.base (.dT h1))
    · rename_i c fs e0
      obtain ⟨k, hk⟩ := Option.isSome_iff_exists.mp ok
      obtain ⟨dx, gs, hv, _⟩ := A.ins e0
      have hc : clsOf h (.ref i) = some c := by simp only [clsOf, e0]
      refine ⟨_, .base (.ins hv (F.cls c k hk) (F.ga c k hk) (F.gb c k hk) (F.gt c k hk) (F.gm c k hk)), fun ty hy => ?_⟩
      cases ty with
      | cls g =>
        simp only [tyOk] at hy
        obtain ⟨k2, hk2⟩ := Option.isSome_iff_exists.mp hy
        simp only [hasTy, hc, hk]
        exact F.kit c k g k2 hk hk2
      | int => exact F.kitB c k "int" hk (by decide)
      | bool => exact F.kitB c k "bool" hk (by decide)
      | str => exact F.kitB c k "str" hk (by decide)
      | list => simp only [hasTy, e0]; exact F.kitB c k "list" hk (by decide)
      | tuple => exact F.kitB c k "tuple" hk (by decide)
    · cases ok
theorem clsV_ty (S : Sx) (t : TyC) : ClsV (tyV2 S t) (tyVl S t) := by cases t <;> first | exact .ty _ | exact .own _
/-- isinstance(e, T) -/
theorem d_isi1 {tE : Expr} {t : TyC} (hK : X.K = S.K) (F : IsF S) (hg : Gl X "isinstance") (hm : X.mg "isinstance" = none) (he : PE X e (DE S W ma)) (ht : PE X tE (tC (tyV2 S t))) (hok : tyOk S t = true) (hs : noStar e = true) (hs2 : noStar tE = true) :
    PE X (.Call (.Name "isinstance" p0) [e, tE] [] pos) (DE S W (mb ma fun v => fun _ h => if isiOk S.G h v then .ok (.bl ([t].any fun t => hasTy S.G h v t)) h else .fail)) :=
  (pe_callB call_isi hg hm (by decide +kernel) (pa_cons he (pa_cons ht pa_nil (star_ok hs2 _ _)) (star_ok hs _ _)) (by decide) (by decide) (star_ok hs _ _) (by rw [star_ok hs2]; rfl)).imp fun σ H Q ⟨μ, h, al, A, L, ho⟩ =>
    (DR.bind A L ho).imp fun x H1 ⟨μ1, h1, v, A1, E1, r1, L1, o1⟩ => by
      split at o1
      · rename_i hi
        obtain ⟨ty, hT, hk⟩ := ty_of F A1 r1 hi
        refine ⟨x, _, ty, _, _, rfl, clsV_ty S t, by rw [hK]; exact hT, by rw [hK]; exact hk t hok, ?_⟩
        have := o1.here A1 ra_bl
        simpa using this
      · exact o1.elim
/-- several classes: the values of a tuple just written -/
theorem kitAny_of {K : PySem.W.Frag} {t : Value} {f : TyC → Bool} (S : Sx) : ∀ {ts : List TyC}, (∀ ty ∈ ts, PySem.W.kitOne K t (tyVl S ty) = some (f ty)) → PySem.W.kitAny K t (ts.map (tyVl S)) = some (ts.any f)
  | [], _ => rfl
  | ty :: ts, h => by
    rw [List.map_cons]
    refine kitAny_cons (b := f ty) (h ty (List.mem_cons_self ..)) (fun e => ?_) fun e => ?_
    · rw [kitAny_of S fun z hz => h z (List.mem_cons_of_mem _ hz), List.any_cons, e, Bool.false_or]
    · rw [List.any_cons, e, Bool.true_or]
theorem clsVs_ty (S : Sx) : ∀ ts : List TyC, Paired ClsV (ts.map (tyV2 S)) (ts.map (tyVl S))
  | [] => .nil
  | t :: ts => .cons (clsV_ty S t) (clsVs_ty S ts)
theorem d_isiN {tEs : List Expr} {ts : List TyC} {x1 : Nat} (hK : X.K = S.K) (F : IsF S) (hg : Gl X "isinstance") (hm : X.mg "isinstance" = none) (he : PE X e (DE S W ma)) (ht : PA X tEs (fun σ H Q => Q (ts.map (tyV2 S)) H)) (hok : ts.all (tyOk S) = true) (hlen : ts.length ≤ 100) (hs : noStar e = true) :
    PE X (.Call (.Name "isinstance" p0) [e, .Tuple tEs x1 p1] [] pos) (DE S W (mb ma fun v => fun _ h => if isiOk S.G h v then .ok (.bl (ts.any fun t => hasTy S.G h v t)) h else .fail)) :=
  (pe_callB call_isiT hg hm (by decide +kernel) (pa_cons he (pa_cons (pe_tup ht) pa_nil rfl) (star_ok hs _ _)) (by decide) (by decide) (star_ok hs _ _) rfl).imp fun σ H Q ⟨μ, h, al, A, L, ho⟩ =>
    (DR.bind A L ho).imp fun x H1 ⟨μ1, h1, v, A1, E1, r1, L1, o1⟩ => by
      split at o1
      · rename_i hi
        refine ⟨by rw [List.length_map]; exact Nat.le_trans hlen (by decide), fun p hp => ?_⟩
        have E2 : Ext μ1 h1.length H1 μ1 h1.length (upd H1 p (.tup (ts.map (tyV2 S)))) := Ext.side hp
        obtain ⟨ty, hT, hk⟩ := ty_of F (A1.side hp) (RA.mono E2 r1) hi
        refine ⟨x, p, _, ty, _, _, rfl, upd_same, clsVs_ty S ts, by rw [hK]; exact hT, by rw [hK]; exact kitAny_of S fun z hz => hk z (List.all_eq_true.mp hok z hz), ?_⟩
        exact o1 μ1 _ _ E2 (A1.side hp) ra_bl
      · exact o1.elim
end
end Br

set_option linter.all false
set_option Elab.async false
set_option autoImplicit false
set_option maxRecDepth 100000
set_option maxHeartbeats 4000000
/-! BrG: the check of code against the program's text, and its soundness: expressions. -/
namespace Br
open PySem PySem.Spec PyProof.Rows L2

def nmOk (x : Str) : Bool := !(x == ("__debug__" : Str)) && !(x == ("__classdict__" : Str))
def visB (sc : Scope) (x : Str) : Bool := match sc.names.lookup x with
  | some .local => true
  | some .cell => true
  | some .free => true
  | _ => false
def locB (sc : Scope) (x : Str) : Bool := match sc.names.lookup x with
  | some .local => true
  | some .cell => true
  | _ => false
def glB (sc : Scope) (x : Str) : Bool := match sc.names.lookup x with
  | some .globalImplicit => true
  | _ => false
def conOk : AV → Const → Bool
  | .non, .none => true
  | .bl b, .bool c => b == c
  | .int i, .int j => decide (i = j)
  | .str s, .str t => decide (t.cps.toList = s)
  | _, _ => false
def opOk : Op2 → Operator → Bool
  | .add, .Add => true
  | .sub, .Sub => true
  | .mul, .Mult => true
  | .fdiv, .FloorDiv => true
  | .mod, .Mod => true
  | .pow, .Pow => true
  | _, _ => false
def cmpOk : Cmp → CmpOp → Bool
  | .eq, .Eq => true
  | .ne, .NotEq => true
  | .lt, .Lt => true
  | .le, .LtE => true
  | .gt, .Gt => true
  | .ge, .GtE => true
  | .isin, .In => true
  | .notin, .NotIn => true
  | _, _ => false
theorem cmpOk_eq {o : Cmp} {op : CmpOp} (h : cmpOk o op = true) : op = cmpO o := by cases o <;> cases op <;> first | rfl | cases h
/-- an expression whose test is the truth of its value -/
def plainT : Expr → Bool
  | .UnaryOp .Not _ _ => false
  | .BoolOp _ _ _ => false
  | .IfExp _ _ _ _ => false
  | .Compare _ _ _ _ => false
  | _ => true
theorem plainT_ok {e : Expr} (h : plainT e = true) (env : Env) (whole : Sem Value) : isTrue e env whole = (do let v ← whole; standAt e.pos; holding [v] (truthy v)) := by
  cases e with
  | UnaryOp op a p => cases op <;> first | rfl | cases h
  | BoolOp _ _ _ => cases h
  | IfExp _ _ _ _ => cases h
  | Compare _ _ _ _ => cases h
  | _ => rfl
/-- no slice, nothing folded -/
def plainIx : Expr → Bool
  | .Slice _ _ _ _ => false
  | _ => true
theorem plainIx_ok {e : Expr} (h : plainIx e = true) : PlainIx e := by
  intro o i
  cases e <;> first | rfl | cases h
def plainIt : Expr → Bool
  | .Set _ _ _ => false
  | _ => true
theorem plainIt_ok {e : Expr} (h : plainIt e = true) (env : Env) (x : Value) : foldedSetIterable e env x = pure x := by
  cases e <;> first | rfl | cases h
/-- an expression whose test can be told -/
def tstB : Expr → Bool
  | .IfExp _ _ _ _ => false
  | _ => true
/-! ### the check -/
def nmT (T : List Str) (i : Nat) : Str := (T[i]?).getD ⟨#[]⟩
def ownT (N : List Str) (ts : List Nat) : List (Str × Nat) := ts.map fun i => ((N[i]?).getD ⟨#[]⟩, i)
def tgName (N : List Str) (sc : Scope) (i : Nat) : Expr → Bool
  | .Name x _ => decide (N[i]? = some x) && locB sc x
  | _ => false
def tgNames (N : List Str) (sc : Scope) : List Nat → List Expr → Bool
  | [], [] => true
  | i :: is, e :: es => tgName N sc i e && tgNames N sc is es
  | _, _ => false
/-- a target: a name, or a tuple of names -/
def tgOk (N : List Str) (sc : Scope) (ts : List Nat) (un : Bool) : Expr → Bool
  | .Tuple es _ _ => un && tgNames N sc ts es
  | e => !un && (match ts with | [i] => tgName N sc i e | _ => false)
def isTup : Expr → Bool
  | .Tuple _ _ _ => true
  | _ => false
/-- what is walked wants a tuple as target -/
def ikTup : IK → Bool
  | .enum => true
  | .zip => true
  | .items => true
  | _ => false
def ikOk (k : IK) (tg : Expr) : Bool := !ikTup k || isTup tg
def tyE (G : Gm) (T : List Str) (sc : Scope) (t : TyC) (e : Expr) : Bool := match e with
  | .Name y _ => glB sc y && (match t with
    | .cls g => decide (y = nmT T g) && (G.cls.lookup g).isSome
    | t => decide (y = (tyN t : Str)))
  | _ => false
def tyEs (G : Gm) (T : List Str) (sc : Scope) : List TyC → List Expr → Bool
  | [], [] => true
  | t :: ts, e :: es => tyE G T sc t e && tyEs G T sc ts es
  | _, _ => false
def tyA (G : Gm) (T : List Str) (sc : Scope) (ts : List TyC) : Expr → Bool
  | .Tuple es _ _ => tyEs G T sc ts es && decide (ts.length ≤ 100)
  | e => match ts with
    | [t] => tyE G T sc t e
    | _ => false
def kwOkT (T : List Str) (ks : List Nat) (kws : List Keyword) : Bool := decide (kws.map (·.arg) = ks.map fun n => some (nmT T n)) && ks.all fun n => decide (n < T.length)
/-- no starred one -/
def nst : CE → Bool
  | .star _ => false
  | _ => true
mutual
def okE (G : Gm) (T N : List Str) : Scope → CE → Expr → Bool
  | sc, .loc i, z => match z with
    | .Name x _ => decide (N[i]? = some x) && visB sc x
    | _ => false
  | _, .con v, z => match z with
    | .Constant c _ _ => conOk v c
    | _ => false
  | sc, .glo g, z => match z with
    | .Name x _ => glB sc x && decide (x = nmT T g) && (G.cons.lookup g).isSome
    | _ => false
  | sc, .bin o a b, z => match z with
    | .BinOp x op y _ => opOk o op && okE G T N sc a x && okE G T N sc b y
    | _ => false
  | sc, .neg a, z => match z with
    | .UnaryOp .USub x _ => okE G T N sc a x
    | _ => false
  | sc, .not a, z => match z with
    | .UnaryOp .Not x _ => okE G T N sc a x && tstB x
    | _ => false
  | sc, .and a b, z => match z with
    | .BoolOp .And (x :: y :: r) p => okE G T N sc a x && tstB x && (match r with | [] => okE G T N sc b y && tstB y | _ => okE G T N sc b (.BoolOp .And (y :: r) p))
    | _ => false
  | sc, .or a b, z => match z with
    | .BoolOp .Or (x :: y :: r) p => okE G T N sc a x && tstB x && (match r with | [] => okE G T N sc b y && tstB y | _ => okE G T N sc b (.BoolOp .Or (y :: r) p))
    | _ => false
  | sc, .isN a, z => match z with
    | .Compare x [.Is] [.Constant .none _ _] _ => okE G T N sc a x
    | _ => false
  | sc, .notN a, z => match z with
    | .Compare x [.IsNot] [.Constant .none _ _] _ => okE G T N sc a x
    | _ => false
  | sc, .cmp o a b, z => match z with
    | .Compare x [op] [y] _ => cmpOk o op && okE G T N sc a x && okE G T N sc b y && !behindInMarks op y
    | _ => false
  | sc, .cmp2 o o2 a b c, z => match z with
    | .Compare x [op, op2] [y, z] _ => cmpOk o op && cmpOk o2 op2 && okE G T N sc a x && okE G T N sc b y && okE G T N sc c z && !lastMarks [op, op2] [y, z]
    | _ => false
  | sc, .ite t a b, z => match z with
    | .IfExp x y z _ => okE G T N sc t x && tstB x && okE G T N sc a y && okE G T N sc b z
    | _ => false
  | sc, .lst es, z => match z with
    | .List as _ => okEs G T N sc es as
    | _ => false
  | sc, .tup es, z => match z with
    | .Tuple as _ _ => okEs G T N sc es as
    | _ => false
  | sc, .fst es, z => match z with
    | .JoinedStr (x :: y :: r) _ => okF G T N sc es (x :: y :: r)
    | _ => false
  | sc, .idx a i, z => match z with
    | .Subscript x y _ => okE G T N sc a x && okE G T N sc i y && plainIx y
    | _ => false
  | sc, .slc a lo hi, z => match z with
    | .Subscript x (.Slice l u none _) _ => okE G T N sc a x && okO G T N sc lo l && okO G T N sc hi u
    | _ => false
  | sc, .rev a, z => match z with
    | .Subscript x (.Slice none none (some (.UnaryOp .USub (.Constant (.int 1) _ _) _)) _) _ => okE G T N sc a x
    | _ => false
  | sc, .isi a ts, z => match z with
    | .Call (.Name f _) [x, y] [] _ => glB sc f && decide (f = ("isinstance" : Str)) && okE G T N sc a x && noStar x && noStar y && tyA G T sc ts y
    | _ => false
  | sc, .bi b es, z => match z with
    | .Call (.Name f _) (x :: as) [] _ => glB sc f && decide (f = (biN b : Str)) && biOk b && okEs G T N sc es (x :: as) && (x :: as).all noStar
    | _ => false
  | sc, .bm m a es, z => match z with
    | .Call (.Attribute x nm ap) as [] cp => decide (nm = (bmN m : Str)) && bmOk m && okE G T N sc a x && okEs G T N sc es as && plainBase x && as.all noStar && decide (as.length < 29) && (ap.endLine == cp.line)
    | _ => false
  | sc, .call f es ks vs, z => match z with
    | .Call (.Name x _) as kws _ => glB sc x && decide (x = nmT T f) && (G.fns.lookup (0, f)).isSome && okEs G T N sc es as && okKs G T N sc vs kws && kwOkT T ks kws && notLone as
    | _ => false
  | sc, .cattr c n, z => match z with
    | .Attribute (.Name x _) nm _ => glB sc x && decide (x = nmT T c) && decide (nm = nmT T n) && ((G.cls.lookup c).bind fun k => k.cons.lookup n).isSome
    | _ => false
  | sc, .lcomp ts un k it cs e, z => match z with
    | .ListComp el [⟨tg, iter, ifs, 0⟩] scope _ => blkC N sc scope (ownT N ts) && tgOk N scope ts un tg && ikOk k tg && plainIt iter && okI G T N sc k it iter && okT G T N scope cs ifs && okE G T N scope e el
    | _ => false
  | sc, .lis k es, z => match z with
    | .Call (.Name f _) [x] [] _ => glB sc f && decide (f = ("list" : Str)) && okV G T N sc k es x
    | _ => false
  | sc, .tpl k es, z => match z with
    | .Call (.Name f _) [x] [] _ => glB sc f && decide (f = ("tuple" : Str)) && (match k with | .val => true | _ => false) && okV G T N sc k es x
    | _ => false
  | _, _, _ => false
/-- the argument of list(..) -/
def okV (G : Gm) (T N : List Str) : Scope → IK → List CE → Expr → Bool
  | sc, k, es, z => match es with
    | [a] => (match k with
      | .val => okE G T N sc a z && noStar z
      | .range => (match z with
        | .Call (.Name g _) [x] [] _ => glB sc g && decide (g = ("range" : Str)) && okE G T N sc a x && noStar x
        | _ => false)
      | _ => false)
    | [a, b] => (match k with
      | .range => (match z with
        | .Call (.Name g _) [x, y] [] _ => glB sc g && decide (g = ("range" : Str)) && okE G T N sc a x && noStar x && okE G T N sc b y && noStar y
        | _ => false)
      | _ => false)
    | _ => false
def okEs (G : Gm) (T N : List Str) : Scope → List CE → List Expr → Bool
  | _, [], es => es.isEmpty
  | sc, c :: cs, es => match es with
    | .Starred x _ :: es => (match c with | .star c => okE G T N sc c x | _ => false) && okEs G T N sc cs es
    | e :: es => nst c && okE G T N sc c e && noStar e && okEs G T N sc cs es
    | [] => false
def okKs (G : Gm) (T N : List Str) : Scope → List CE → List Keyword → Bool
  | _, [], es => es.isEmpty
  | sc, c :: cs, es => match es with
    | ⟨_, e, _⟩ :: es => nst c && okE G T N sc c e && noStar e && okKs G T N sc cs es
    | [] => false
def okO (G : Gm) (T N : List Str) : Scope → Option CE → Option Expr → Bool
  | _, none, e => e.isNone
  | sc, some c, e => match e with
    | some e => okE G T N sc c e
    | none => false
def okF (G : Gm) (T N : List Str) : Scope → List CE → List Expr → Bool
  | _, [], es => es.isEmpty
  | sc, c :: cs, es => match es with
    | .FormattedValue x p q _ :: es => (match c with | .bi .fmt [c] => decide (p = -1) && q.isNone && okE G T N sc c x | _ => false) && okF G T N sc cs es
    | .Constant k _ _ :: es => (match c with | .con v => conOk v k | _ => false) && okF G T N sc cs es
    | _ => false
def okI (G : Gm) (T N : List Str) : Scope → IK → List CE → Expr → Bool
  | sc, k, es, z => match es with
    | [a] => (match k with
      | .val => okE G T N sc a z && noStar z
      | .range => (match z with
        | .Call (.Name g _) [x] [] _ => glB sc g && decide (g = ("range" : Str)) && okE G T N sc a x && noStar x
        | _ => false)
      | .enum => (match z with
        | .Call (.Name g _) [x] [] _ => glB sc g && decide (g = ("enumerate" : Str)) && okE G T N sc a x && noStar x
        | _ => false)
      | _ => false)
    | [a, b] => (match k with
      | .range => (match z with
        | .Call (.Name g _) [x, y] [] _ => glB sc g && decide (g = ("range" : Str)) && okE G T N sc a x && noStar x && okE G T N sc b y && noStar y
        | _ => false)
      | .zip => (match z with
        | .Call (.Name g _) [x, y] [] _ => glB sc g && decide (g = ("zip" : Str)) && okE G T N sc a x && noStar x && okE G T N sc b y && noStar y
        | _ => false)
      | _ => false)
    | _ => false
def okT (G : Gm) (T N : List Str) : Scope → List CE → List Expr → Bool
  | _, [], es => es.isEmpty
  | sc, c :: cs, es => match es with
    | [e] => cs.isEmpty && okE G T N sc c e && tstB e
    | _ => false
end
theorem okE_loc {G : Gm} {T N : List Str} {sc : Scope} {i : Nat} {z : Expr} : okE G T N sc (.loc i) z = (match z with
    | .Name x _ => decide (N[i]? = some x) && visB sc x
    | _ => false) := rfl
theorem okE_con {G : Gm} {T N : List Str} {sc : Scope} {v : AV} {z : Expr} : okE G T N sc (.con v) z = (match z with
    | .Constant c _ _ => conOk v c
    | _ => false) := rfl
theorem okE_glo {G : Gm} {T N : List Str} {sc : Scope} {g : Nat} {z : Expr} : okE G T N sc (.glo g) z = (match z with
    | .Name x _ => glB sc x && decide (x = nmT T g) && (G.cons.lookup g).isSome
    | _ => false) := rfl
theorem okE_bin {G : Gm} {T N : List Str} {sc : Scope} {o : Op2} {a : CE} {b : CE} {z : Expr} : okE G T N sc (.bin o a b) z = (match z with
    | .BinOp x op y _ => opOk o op && okE G T N sc a x && okE G T N sc b y
    | _ => false) := rfl
theorem okE_neg {G : Gm} {T N : List Str} {sc : Scope} {a : CE} {z : Expr} : okE G T N sc (.neg a) z = (match z with
    | .UnaryOp .USub x _ => okE G T N sc a x
    | _ => false) := rfl
theorem okE_not {G : Gm} {T N : List Str} {sc : Scope} {a : CE} {z : Expr} : okE G T N sc (.not a) z = (match z with
    | .UnaryOp .Not x _ => okE G T N sc a x && tstB x
    | _ => false) := rfl
theorem okE_and {G : Gm} {T N : List Str} {sc : Scope} {a : CE} {b : CE} {z : Expr} : okE G T N sc (.and a b) z = (match z with
    | .BoolOp .And (x :: y :: r) p => okE G T N sc a x && tstB x && (match r with | [] => okE G T N sc b y && tstB y | _ => okE G T N sc b (.BoolOp .And (y :: r) p))
    | _ => false) := rfl
theorem okE_or {G : Gm} {T N : List Str} {sc : Scope} {a : CE} {b : CE} {z : Expr} : okE G T N sc (.or a b) z = (match z with
    | .BoolOp .Or (x :: y :: r) p => okE G T N sc a x && tstB x && (match r with | [] => okE G T N sc b y && tstB y | _ => okE G T N sc b (.BoolOp .Or (y :: r) p))
    | _ => false) := rfl
theorem okE_isN {G : Gm} {T N : List Str} {sc : Scope} {a : CE} {z : Expr} : okE G T N sc (.isN a) z = (match z with
    | .Compare x [.Is] [.Constant .none _ _] _ => okE G T N sc a x
    | _ => false) := rfl
theorem okE_notN {G : Gm} {T N : List Str} {sc : Scope} {a : CE} {z : Expr} : okE G T N sc (.notN a) z = (match z with
    | .Compare x [.IsNot] [.Constant .none _ _] _ => okE G T N sc a x
    | _ => false) := rfl
theorem okE_cmp {G : Gm} {T N : List Str} {sc : Scope} {o : Cmp} {a : CE} {b : CE} {z : Expr} : okE G T N sc (.cmp o a b) z = (match z with
    | .Compare x [op] [y] _ => cmpOk o op && okE G T N sc a x && okE G T N sc b y && !behindInMarks op y
    | _ => false) := rfl
theorem okE_cmp2 {G : Gm} {T N : List Str} {sc : Scope} {o : Cmp} {o2 : Cmp} {a : CE} {b : CE} {c : CE} {z : Expr} : okE G T N sc (.cmp2 o o2 a b c) z = (match z with
    | .Compare x [op, op2] [y, z] _ => cmpOk o op && cmpOk o2 op2 && okE G T N sc a x && okE G T N sc b y && okE G T N sc c z && !lastMarks [op, op2] [y, z]
    | _ => false) := rfl
theorem okE_ite {G : Gm} {T N : List Str} {sc : Scope} {t : CE} {a : CE} {b : CE} {z : Expr} : okE G T N sc (.ite t a b) z = (match z with
    | .IfExp x y z _ => okE G T N sc t x && tstB x && okE G T N sc a y && okE G T N sc b z
    | _ => false) := rfl
theorem okE_lst {G : Gm} {T N : List Str} {sc : Scope} {es : List CE} {z : Expr} : okE G T N sc (.lst es) z = (match z with
    | .List as _ => okEs G T N sc es as
    | _ => false) := rfl
theorem okE_tup {G : Gm} {T N : List Str} {sc : Scope} {es : List CE} {z : Expr} : okE G T N sc (.tup es) z = (match z with
    | .Tuple as _ _ => okEs G T N sc es as
    | _ => false) := rfl
theorem okE_fst {G : Gm} {T N : List Str} {sc : Scope} {es : List CE} {z : Expr} : okE G T N sc (.fst es) z = (match z with
    | .JoinedStr (x :: y :: r) _ => okF G T N sc es (x :: y :: r)
    | _ => false) := rfl
theorem okE_idx {G : Gm} {T N : List Str} {sc : Scope} {a : CE} {i : CE} {z : Expr} : okE G T N sc (.idx a i) z = (match z with
    | .Subscript x y _ => okE G T N sc a x && okE G T N sc i y && plainIx y
    | _ => false) := rfl
theorem okE_slc {G : Gm} {T N : List Str} {sc : Scope} {a : CE} {lo : Option CE} {hi : Option CE} {z : Expr} : okE G T N sc (.slc a lo hi) z = (match z with
    | .Subscript x (.Slice l u none _) _ => okE G T N sc a x && okO G T N sc lo l && okO G T N sc hi u
    | _ => false) := rfl
theorem okE_rev {G : Gm} {T N : List Str} {sc : Scope} {a : CE} {z : Expr} : okE G T N sc (.rev a) z = (match z with
    | .Subscript x (.Slice none none (some (.UnaryOp .USub (.Constant (.int 1) _ _) _)) _) _ => okE G T N sc a x
    | _ => false) := rfl
theorem okE_isi {G : Gm} {T N : List Str} {sc : Scope} {a : CE} {ts : List TyC} {z : Expr} : okE G T N sc (.isi a ts) z = (match z with
    | .Call (.Name f _) [x, y] [] _ => glB sc f && decide (f = ("isinstance" : Str)) && okE G T N sc a x && noStar x && noStar y && tyA G T sc ts y
    | _ => false) := rfl
theorem okE_bi {G : Gm} {T N : List Str} {sc : Scope} {b : BI} {es : List CE} {z : Expr} : okE G T N sc (.bi b es) z = (match z with
    | .Call (.Name f _) (x :: as) [] _ => glB sc f && decide (f = (biN b : Str)) && biOk b && okEs G T N sc es (x :: as) && (x :: as).all noStar
    | _ => false) := rfl
theorem okE_bm {G : Gm} {T N : List Str} {sc : Scope} {m : BM} {a : CE} {es : List CE} {z : Expr} : okE G T N sc (.bm m a es) z = (match z with
    | .Call (.Attribute x nm ap) as [] cp => decide (nm = (bmN m : Str)) && bmOk m && okE G T N sc a x && okEs G T N sc es as && plainBase x && as.all noStar && decide (as.length < 29) && (ap.endLine == cp.line)
    | _ => false) := rfl
theorem okE_call {G : Gm} {T N : List Str} {sc : Scope} {f : Nat} {es : List CE} {ks : List Nat} {vs : List CE} {z : Expr} : okE G T N sc (.call f es ks vs) z = (match z with
    | .Call (.Name x _) as kws _ => glB sc x && decide (x = nmT T f) && (G.fns.lookup (0, f)).isSome && okEs G T N sc es as && okKs G T N sc vs kws && kwOkT T ks kws && notLone as
    | _ => false) := rfl
theorem okE_cattr {G : Gm} {T N : List Str} {sc : Scope} {c : Nat} {n : Nat} {z : Expr} : okE G T N sc (.cattr c n) z = (match z with
    | .Attribute (.Name x _) nm _ => glB sc x && decide (x = nmT T c) && decide (nm = nmT T n) && ((G.cls.lookup c).bind fun k => k.cons.lookup n).isSome
    | _ => false) := rfl
theorem okE_lcomp {G : Gm} {T N : List Str} {sc : Scope} {ts : List Nat} {un : Bool} {k : IK} {it : List CE} {cs : List CE} {e : CE} {z : Expr} : okE G T N sc (.lcomp ts un k it cs e) z = (match z with
    | .ListComp el [⟨tg, iter, ifs, 0⟩] scope _ => blkC N sc scope (ownT N ts) && tgOk N scope ts un tg && ikOk k tg && plainIt iter && okI G T N sc k it iter && okT G T N scope cs ifs && okE G T N scope e el
    | _ => false) := rfl
theorem okE_lis {G : Gm} {T N : List Str} {sc : Scope} {k : IK} {es : List CE} {z : Expr} : okE G T N sc (.lis k es) z = (match z with
    | .Call (.Name f _) [x] [] _ => glB sc f && decide (f = ("list" : Str)) && okV G T N sc k es x
    | _ => false) := rfl
theorem okE_tpl {G : Gm} {T N : List Str} {sc : Scope} {k : IK} {es : List CE} {z : Expr} : okE G T N sc (.tpl k es) z = (match z with
    | .Call (.Name f _) [x] [] _ => glB sc f && decide (f = ("tuple" : Str)) && (match k with | .val => true | _ => false) && okV G T N sc k es x
    | _ => false) := rfl
end Br

set_option linter.all false
set_option Elab.async false
set_option autoImplicit false
set_option maxRecDepth 100000
set_option maxHeartbeats 4000000
/-! BrH: the check is sound: expressions. -/
namespace Br
open PySem PySem.Spec PyProof.Rows L2

def bltNames : List Str := ["len", "int", "str", "bool", "abs", "min", "max", "sorted", "all", "any", "repr", "dict", "range", "zip", "enumerate", "isinstance", "list", "tuple"]
/-- what the written part says -/
structure Fct (S : Sx) : Prop where
  nd : S.at_.Nodup
  nm : ∀ x ∈ S.at_, nmOk x = true
  fn : ∀ f fd, S.G.fns.lookup (0, f) = some fd → S.mg (S.aN f) = some (.ref (S.fA (0, f))) ∧ PySem.W.keepIn S.K (.ref (S.fA (0, f))) = true
  con : ∀ g v, S.G.cons.lookup g = some v → ∃ x u, S.mg (S.aN g) = some u ∧ RelV x u ∧ ∀ (μ : Nat → Addr) (n : Nat) (H : Hp), RA S.K μ n H v x
  blt : ∀ x ∈ bltNames, S.mg x = none
  isf : IsF S
  cg : ∀ c k, S.G.cls.lookup c = some k → S.mg (S.aN c) = some (.ref (S.cA c))
  cst : ∀ c k n v, S.G.cls.lookup c = some k → k.cons.lookup n = some v → ∃ mc x u, ClX.CRead S.K (S.cA c) mc ∧ ClX.CVal S.K (S.cA c) mc (S.aN n) x u ∧ ∀ (μ : Nat → Addr) (m : Nat) (H : Hp), RA S.K μ m H v x
def op2 : Op2 → Operator
  | .add => .Add
  | .sub => .Sub
  | .mul => .Mult
  | .fdiv => .FloorDiv
  | .mod => .Mod
  | .pow => .Pow
/-- own methods behind operators -/
structure OwnH (S : Sx) (W : WX) (X : Cx) (C : Callee) : Prop where
  bi : OwnBi S W X S.G C
  op : ∀ (o : Op2) (m : Nat), ((o = .add ∧ m = nAdd) ∨ (o = .sub ∧ m = nSub)) → ∀ (c : Nat) (key : Key2), S.G.meth c m = some key →
    ∀ (pins : List (Addr × Obj)) (s : Shared) (σ : L2.St) (H : Hp) (x y : V) (v u : Value) (Q : VK) (μ : Nat → Addr) (h : AH) (p q : AV), L2.Inv X pins σ H s → RelV x v → RelV y u → At S μ h H → RA S.K μ h.length H p x → RA S.K μ h.length H q y → clsOf h p = some c →
    Out S W (Rv S) σ μ h.length H (C key [p, q] [] h) Q → wpAny (model X.prog X.w) X.A (binaryOp (op2 o) v u) (EP X pins σ Q) X.xe s
  co : ∀ (o : Cmp) (m : Nat) (neg sw : Bool), ((o = .eq ∧ m = nEq ∧ neg = false ∧ sw = false) ∨ (o = .ne ∧ m = nEq ∧ neg = true ∧ sw = false) ∨ (o = .isin ∧ m = nContains ∧ neg = false ∧ sw = true) ∨ (o = .notin ∧ m = nContains ∧ neg = true ∧ sw = true)) → ∀ (c : Nat) (key : Key2), S.G.meth c m = some key →
    ∀ (pins : List (Addr × Obj)) (s : Shared) (σ : L2.St) (H : Hp) (x y : V) (v u : Value) (Q : VK) (μ : Nat → Addr) (h : AH) (p q : AV), L2.Inv X pins σ H s → RelV x v → RelV y u → At S μ h H → RA S.K μ h.length H p x → RA S.K μ h.length H q y → clsOf h (if sw then q else p) = some c →
    Out S W Rb σ μ h.length H (bres neg (C key (if sw then [q, p] else [p, q]) [] h)) (fun b H' => Q (.bl b) H') → wpAny (model X.prog X.w) X.A (compareOp (cmpO o) v u) (EP X pins σ Q) X.xe s
/-- the context of a block, by its written scope -/
structure Gx (S : Sx) (W : WX) (C : Callee) (k : Nat) (N : List Str) (sc : Scope) (X : Cx) : Prop extends Ok0 S W k X where
  N_ : X.N = N
  ndN : N.Nodup
  nmN : ∀ x ∈ N, nmOk x = true
  keep : ∀ x kd, kd ≠ NameKind.free → sc.names.lookup x = some kd → X.env.scope.names.lookup x = some kd
  free : ∀ x, sc.names.lookup x = some .free → X.env.scope.names.lookup x = some .cell ∨ X.env.scope.names.lookup x = some .free
  fn : ∀ x, sc.names.lookup x = some .cell → X.fn x = true
  own : ∀ (W : WX) (X : Cx), Ok0 S W k X → OwnH S W X C
section
variable {S : Sx} {W : WX} {X : Cx} {C : Callee} {k : Nat} {N : List Str} {sc : Scope}
theorem Gx.vis (g : Gx S W C k N sc X) {x : Str} (h : visB sc x = true) : Vis X.env.scope x := by
  unfold visB at h
  split at h
  · rename_i e; exact .inl (g.keep x _ (by decide) e)
  · rename_i e; exact .inr (.inl (g.keep x _ (by decide) e))
  · rename_i e
    rcases g.free x e with z | z
    · exact .inr (.inl z)
    · exact .inr (.inr z)
  · cases h
theorem Gx.gl (g : Gx S W C k N sc X) {x : Str} (h : glB sc x = true) : Gl X x := by
  unfold glB at h
  split at h
  · rename_i e; exact g.keep x _ (by decide) e
  · cases h
theorem Gx.loc (g : Gx S W C k N sc X) {x : Str} (h : locB sc x = true) : Loc X.env.scope x ∧ (X.fn x = true ∨ X.env.scope.names.lookup x = some .local) := by
  unfold locB at h
  split at h
  · rename_i e; exact ⟨.inl (g.keep x _ (by decide) e), .inr (g.keep x _ (by decide) e)⟩
  · rename_i e; exact ⟨.inr (g.keep x _ (by decide) e), .inl (g.fn x e)⟩
  · cases h
theorem nmOk_1 {x : Str} (h : nmOk x = true) : (x == ("__debug__" : Str)) = false ∧ (x == ("__classdict__" : Str)) = false := by
  unfold nmOk at h
  rw [Bool.and_eq_true, Bool.not_eq_true', Bool.not_eq_true'] at h
  exact h
theorem aN_ok (F : Fct S) (i : Nat) : nmOk (S.aN i) = true := by
  unfold Sx.aN
  cases e : S.at_[i]? with
  | none => show nmOk ⟨#[]⟩ = true; decide
  | some x => exact F.nm x (List.mem_of_getElem? e)
/-- what is shown of an expression -/
structure Snd (S : Sx) (W : WX) (X : Cx) (e : Expr) (m : M AV) : Prop where
  pe : PE X e (DE S W m)
  pt : tstB e = true → PT X e (DT S W (tst m))
  pw : ∀ op es p, e = .BoolOp op es p → PW X e (DT S W (tst m))
theorem Snd.plain {e : Expr} {m : M AV} (h : PE X e (DE S W m)) (hp : plainT e = true) : Snd S W X e m := ⟨h, fun _ => dt_of h (plainT_ok hp _), fun op es p e => by subst e; cases hp⟩
/-! operators, comparisons -/
theorem op_bopC (g : Gx S W C k N sc X) (o : Op2) : OpD S W X (binaryOp (op2 o)) (bopC S.G C o) := by
  intro pins s σ H x y v u Q μ h p q I rx ry A rp rq ho
  unfold bopC at ho
  split at ho
  · rename_i c hc
    split at ho
    · split at ho
      · rename_i key hk
        exact (g.own W X g.toOk0).op .add nAdd (.inl ⟨rfl, rfl⟩) c key hk pins s σ H x y v u Q μ h p q I rx ry A rp rq hc ho
      · exact ho.elim
    · split at ho
      · rename_i key hk
        exact (g.own W X g.toOk0).op .sub nSub (.inr ⟨rfl, rfl⟩) c key hk pins s σ H x y v u Q μ h p q I rx ry A rp rq hc ho
      · exact ho.elim
    · exact ho.elim
  · have z := op_bop g.K o pins s σ H x y v u Q μ h p q I rx ry A rp rq ho
    cases o <;> exact z
theorem co_cmpC (g : Gx S W C k N sc X) (o : Cmp) : CoD S W X (compareOp (cmpO o)) (cmpC S.G C o) := by
  intro pins s σ H x y v u Q μ h p q I rx ry A rp rq ho
  have own := (g.own W X g.toOk0).co
  unfold cmpC at ho
  cases hc : clsOf h p with
  | none =>
    cases hq : clsOf h q with
    | none =>
      rw [hc, hq] at ho
      have ho : Out S W Rb σ μ h.length H (cmpB o p q h) (fun b H' => Q (.bl b) H') := by cases o <;> exact ho
      exact cm_cmpB g.K g.hu o pins s σ H x y v u Q μ h p q W I rx ry A rp rq ho
    | some c =>
      rw [hc, hq] at ho
      cases o with
      | isin =>
        dsimp only at ho
        split at ho
        · rename_i key hk
          exact own .isin nContains false true (.inr (.inr (.inl ⟨rfl, rfl, rfl, rfl⟩))) c key hk pins s σ H x y v u Q μ h p q I rx ry A rp rq hq ho
        · exact ho.elim
      | notin =>
        dsimp only at ho
        split at ho
        · rename_i key hk
          exact own .notin nContains true true (.inr (.inr (.inr ⟨rfl, rfl, rfl, rfl⟩))) c key hk pins s σ H x y v u Q μ h p q I rx ry A rp rq hq ho
        · exact ho.elim
      | _ => exact ho.elim
  | some c =>
    rw [hc] at ho
    cases o with
    | eq =>
      dsimp only at ho
      split at ho
      · rename_i key hk
        exact own .eq nEq false false (.inl ⟨rfl, rfl, rfl, rfl⟩) c key hk pins s σ H x y v u Q μ h p q I rx ry A rp rq hc ho
      · exact ho.elim
    | ne =>
      dsimp only at ho
      split at ho
      · rename_i key hk
        exact own .ne nEq true false (.inr (.inl ⟨rfl, rfl, rfl, rfl⟩)) c key hk pins s σ H x y v u Q μ h p q I rx ry A rp rq hc ho
      · exact ho.elim
    | _ => cases clsOf h q <;> exact ho.elim
/-- the context of a comprehension's block -/
theorem Gx.blk (g : Gx S W C k N sc X) {scope : Scope} (s : Shared) (H : Hp) (a : Addr) (cl : List (Str × Addr)) (fp : List Addr) : Gx S Wn C k N scope (X.blk s H scope (compEnvC scope cl a X.env) fp) := by
  refine ⟨⟨g.P, g.w, g.K, g.mg, g.base, g.room, g.calm, fun u s' ⟨_, _, _, _, _, _, _, _, _, _, _, _, _, _, _, _, z⟩ => z⟩, g.N_, g.ndN, g.nmN, fun x kd hk e => ?_, fun x e => ?_, fun x e => ?_, g.own⟩
  · exact lookup_relS_keep hk e
  · have key : ∀ (l : List (Str × NameKind)), l.lookup x = some .free → (l.map fun (n, k) => if (k == NameKind.free && X.env.scope.kind == .function && X.env.scope.names.lookup n == some .cell) then (n, NameKind.cell) else (n, k)).lookup x = some .cell ∨
        (l.map fun (n, k) => if (k == NameKind.free && X.env.scope.kind == .function && X.env.scope.names.lookup n == some .cell) then (n, NameKind.cell) else (n, k)).lookup x = some .free := by
      intro l
      induction l with
      | nil => intro h; cases h
      | cons q l ih =>
        obtain ⟨n, kd⟩ := q
        intro h
        rw [List.lookup_cons] at h
        rw [List.map_cons]
        cases hx : x == n with
        | true =>
          rw [hx] at h
          have h : kd = .free := Option.some.inj h
          subst h
          dsimp only
          split
          · rw [List.lookup_cons, hx]; exact .inl rfl
          · rw [List.lookup_cons, hx]; exact .inr rfl
        | false =>
          rw [hx] at h
          have h2 := ih h
          dsimp only
          split
          · rw [List.lookup_cons, hx]; exact h2
          · rw [List.lookup_cons, hx]; exact h2
    exact key scope.names e
  · show (scope.names.lookup x == some .cell) = true
    rw [e]
    rfl
theorem blk_ok (g : Gx S W C k N sc X) {scope : Scope} {own : List (Str × Nat)} (h : blkC N sc scope own = true) : BlkOk X.N X.env.scope scope own := by
  have b := blkOk_by h
  rw [g.N_]
  refine ⟨b.kind, b.uniq, b.ix, fun y hy e => ?_, b.own⟩
  rcases b.free y hy e with z | z
  · exact .inl (g.keep _ _ (by decide) z)
  · exact g.free _ z
/-! targets -/
theorem tg_name (g : Gx S W C k N sc X) {i : Nat} {e : Expr} (h : tgName N sc i e = true) : PG X e (gName i) := by
  unfold tgName at h
  split at h
  · rw [Bool.and_eq_true, decide_eq_true_eq] at h
    obtain ⟨l1, l2⟩ := g.loc h.2
    exact pg_name (by rw [g.N_]; exact g.ndN) (by rw [g.N_]; exact h.1) l1 l2
  · cases h
def isName : Expr → Bool
  | .Name _ _ => true
  | _ => false
theorem assign_one {e : Expr} {es : List Expr} {env : Env} (h : isName e = true) : (assignEach (e :: es) env).map (·.2) = assign e env :: (assignEach es env).map (·.2) ∧ (assignEach (e :: es) env).map (·.1) = false :: (assignEach es env).map (·.1) := by
  cases e <;> first | exact ⟨rfl, rfl⟩ | cases h
theorem tgName_is {i : Nat} {e : Expr} (h : tgName N sc i e = true) : isName e = true := by
  unfold tgName at h
  split at h
  · rfl
  · cases h
theorem tg_names (g : Gx S W C k N sc X) : ∀ {is : List Nat} {es : List Expr}, tgNames N sc is es = true → PGs X es (gNames is) ∧ (assignEach es X.env).length = is.length ∧ (assignEach es X.env).findIdx? (·.1) = none
  | [], [], _ => ⟨pgs_nil, rfl, rfl⟩
  | i :: is, e :: es, h => by
    simp only [tgNames, Bool.and_eq_true] at h
    obtain ⟨z1, z2, z3⟩ := tg_names g h.2
    obtain ⟨a1, a2⟩ := assign_one (es := es) (env := X.env) (tgName_is h.1)
    refine ⟨pgs_cons (tg_name g h.1) z1 a1, ?_, ?_⟩
    · have := congrArg List.length a2
      rw [List.length_map, List.length_cons, List.length_map] at this
      rw [this, z2, List.length_cons]
    · rw [List.findIdx?_eq_none_iff] at z3 ⊢
      intro x hx
      have : x.1 ∈ (assignEach (e :: es) X.env).map (·.1) := List.mem_map_of_mem hx
      rw [a2] at this
      rcases List.mem_cons.mp this with q | q
      · exact q
      · obtain ⟨y, hy, ey⟩ := List.mem_map.mp q
        rw [← ey]
        exact z3 y hy
  | [], _ :: _, h => by cases h
  | _ :: _, [], h => by cases h
theorem tg_ok (g : Gx S W C k N sc X) {ts : List Nat} {un : Bool} {e : Expr} (h : tgOk N sc ts un e = true) : ∃ t : TG, PG X e t ∧ GOk S X.K ts un t := by
  unfold tgOk at h
  split at h
  · rw [Bool.and_eq_true] at h
    obtain ⟨hu, h⟩ := h
    subst hu
    obtain ⟨z1, z2, z3⟩ := tg_names g h
    exact ⟨_, pg_tup g.calm z1 z2 z3, g_tup g.K⟩
  · rw [Bool.and_eq_true, Bool.not_eq_true'] at h
    obtain ⟨hu, h⟩ := h
    subst hu
    split at h
    · rename_i i
      exact ⟨_, tg_name g h, g_name⟩
    · cases h
end
end Br

set_option linter.all false
set_option Elab.async false
set_option autoImplicit false
set_option maxRecDepth 100000
set_option maxHeartbeats 8000000
/-! BrH2: the check is sound: expressions, all forms. -/
namespace Br
open PySem PySem.Spec PyProof.Rows L2
section
variable {S : Sx} {W : WX} {X : Cx} {C : Callee} {k : Nat} {N : List Str} {sc : Scope}
theorem nmT_eq (S : Sx) (i : Nat) : nmT S.at_ i = S.aN i := rfl
theorem mb_one {α β γ : Type} {m : M α} {f : α → M β} {g : β → M γ} : mb (mb m f) g = mb m fun v => mb (f v) g := by
  funext a h
  unfold mb
  cases m a h <;> rfl
theorem pe_con (v : AV) (c : Const) (j : Nat) (p : Pos) (h : conOk v c = true) : PE X (.Constant c j p) (DE S W (mp v)) := by
  unfold conOk at h
  split at h
  · exact pe_non.imp fun σ H Q ⟨μ, h, a, A, L, o⟩ => o.here A ra_non
  · have e := eq_of_beq h
    subst e
    exact pe_bl.imp fun σ H Q ⟨μ, h, a, A, L, o⟩ => o.here A ra_bl
  · have e := of_decide_eq_true h
    subst e
    exact pe_int.imp fun σ H Q ⟨μ, h, a, A, L, o⟩ => o.here A ra_int
  · have e := of_decide_eq_true h
    rename_i s t
    refine pe_str.imp fun σ H Q ⟨μ, h, a, A, L, o⟩ => ?_
    have z := o.here A ra_str
    rw [← e, sO_keyA] at z
    exact z
  · cases h
theorem blt_of (F : Fct S) (g : Gx S W C k N sc X) {x : Str} (h : x ∈ bltNames) : X.mg x = none := by rw [g.mg]; exact F.blt x h
theorem ty_pe (F : Fct S) (g : Gx S W C k N sc X) {t : TyC} {e : Expr} (h : tyE S.G S.at_ sc t e = true) : PE X e (tC (tyV2 S t)) ∧ tyOk S t = true ∧ noStar e = true := by
  unfold tyE at h
  split at h
  · rename_i y p
    rw [Bool.and_eq_true] at h
    obtain ⟨h1, h⟩ := h
    cases t with
    | cls c =>
      simp only [Bool.and_eq_true, decide_eq_true_eq] at h
      obtain ⟨h2, h3⟩ := h
      obtain ⟨kk, hk⟩ := Option.isSome_iff_exists.mp h3
      subst h2
      exact ⟨pe_glob (g.gl h1) (by rw [g.mg]; exact F.cg c kk hk) rfl (nmOk_1 (aN_ok F c)).1, h3, rfl⟩
    | int =>
      have h2 := of_decide_eq_true h
      subst h2
      exact ⟨pe_bltn (g.gl h1) (blt_of F g (by decide +kernel)) (by decide +kernel) rfl (by decide) (by decide), rfl, rfl⟩
    | bool =>
      have h2 := of_decide_eq_true h
      subst h2
      exact ⟨pe_bltn (g.gl h1) (blt_of F g (by decide +kernel)) (by decide +kernel) rfl (by decide) (by decide), rfl, rfl⟩
    | str =>
      have h2 := of_decide_eq_true h
      subst h2
      exact ⟨pe_bltn (g.gl h1) (blt_of F g (by decide +kernel)) (by decide +kernel) rfl (by decide) (by decide), rfl, rfl⟩
    | list =>
      have h2 := of_decide_eq_true h
      subst h2
      exact ⟨pe_bltn (g.gl h1) (blt_of F g (by decide +kernel)) (by decide +kernel) rfl (by decide) (by decide), rfl, rfl⟩
    | tuple =>
      have h2 := of_decide_eq_true h
      subst h2
      exact ⟨pe_bltn (g.gl h1) (blt_of F g (by decide +kernel)) (by decide +kernel) rfl (by decide) (by decide), rfl, rfl⟩
  · cases h
theorem tys_pe (F : Fct S) (g : Gx S W C k N sc X) : ∀ {ts : List TyC} {es : List Expr}, tyEs S.G S.at_ sc ts es = true → PA X es (fun _ H Q => Q (ts.map (tyV2 S)) H) ∧ ts.all (tyOk S) = true
  | [], [], _ => ⟨⟨fun pos pins s σ H Q I h => pa_nil.run pos pins s σ H Q I h⟩, rfl⟩
  | t :: ts, e :: es, h => by
    simp only [tyEs, Bool.and_eq_true] at h
    obtain ⟨z1, z2⟩ := tys_pe F g h.2
    obtain ⟨y1, y2, y3⟩ := ty_pe F g h.1
    refine ⟨⟨fun pos pins s σ H Q I q => (pa_cons y1 z1 (star_ok y3 _ _)).run pos pins s σ H Q I q⟩, ?_⟩
    rw [List.all_cons, y2, z2]
    rfl
  | [], _ :: _, h => by cases h
  | _ :: _, [], h => by cases h
theorem isTup_of {e : Expr} (h : isTup e = true) : ∃ es kk p, e = .Tuple es kk p := by
  cases e <;> first | exact ⟨_, _, _, rfl⟩ | cases h
theorem itL_noD {h : AH} {v : AV} {t : It0} (e : itL h v = some t) : t.noD = true := by
  cases v with
  | fl xs => cases e; rfl
  | ref i =>
    simp only [itL] at e
    split at e
    · cases e; rfl
    · cases e
  | _ => cases e
def ikD : IK → Bool
  | .keys => false
  | .items => false
  | _ => true
theorem mkI_noD (kd : IK) (hk : ikD kd = true) (vs : List AV) (h : AH) (t : Br.Itr) (h' : AH) (e : mkI kd vs h = .ok t h') : Br.Itr.noD t = true := by
  unfold mkI at e
  split at e
  · rename_i v
    unfold it0 at e
    split at e
    · cases e; rfl
    · cases e; rfl
    · cases e; rfl
    · cases e; rfl
    · split at e
      · cases e; rfl
      · cases e
    · cases e
  · split at e
    · cases e; rfl
    · cases e
  · split at e
    · cases e; rfl
    · cases e
  · split at e
    · rename_i v t2 et
      cases e
      exact itL_noD et
    · cases e
  · split at e
    · rename_i v w' t2 u2 et eu
      cases e
      show (t2.noD && u2.noD) = true
      rw [itL_noD et, itL_noD eu]
      rfl
    · split at e
      · cases e; rfl
      · cases e
  · cases hk
  · cases hk
  · cases e
end
end Br

set_option linter.all false
set_option Elab.async false
set_option autoImplicit false
set_option maxRecDepth 100000
set_option maxHeartbeats 8000000
/-! BrH3: the check is sound: expressions, the induction. -/
namespace Br
open PySem PySem.Spec PyProof.Rows L2
theorem evE_bin {G : Gm} {C : Callee} {o : Op2} {a b : CE} : evE G C (.bin o a b) = mb (evE G C a) fun v => mb (evE G C b) fun w => lift (bopC G C o v w) := rfl
section
variable {S : Sx} {C : Callee} {k : Nat} {N : List Str}
/-- a list of arguments without a star: each value -/
theorem evEs_cons {G : Gm} {c : CE} {r : List CE} (h : nst c = true) : evEs G C (c :: r) = mb (evE G C c) fun v => mb (evEs G C r) fun vs => mp (v :: vs) := by
  cases c <;> first | rfl | cases h
theorem evEs_star {G : Gm} {c : CE} {r : List CE} : evEs G C (.star c :: r) = mb (evE G C c) fun v => fun a h => match seqOf h v with | some xs => (mb (evEs G C r) fun vs => mp (xs ++ vs)) a h | none => .fail := rfl
theorem okE_star {G : Gm} {T : List Str} {sc : Scope} {c : CE} {e : Expr} : okE G T N sc (.star c) e = false := rfl
theorem notStar {G : Gm} {T : List Str} {sc : Scope} {c : CE} {e : Expr} (h : okE G T N sc c e = true) : nst c = true := by
  cases c <;> first | rfl | (rw [okE_star] at h; cases h)
theorem ev_one {γ : Type} {G : Gm} {c : CE} {f : List AV → M γ} (h : nst c = true) : mb (evEs G C [c]) f = mb (evE G C c) fun v => f [v] := by
  rw [evEs_cons h, mb_one]
  congr 1
theorem ev_two {γ : Type} {G : Gm} {c d : CE} {f : List AV → M γ} (h : nst c = true) (h2 : nst d = true) : mb (evEs G C [c, d]) f = mb (evE G C c) fun v => mb (evE G C d) fun w => f [v, w] := by
  rw [evEs_cons h, mb_one]
  congr 1
  funext v
  rw [mb_one, evEs_cons h2, mb_one]
  congr 1
theorem evT_one {G : Gm} {c : CE} : evT G C [c] = tst (evE G C c) := by
  funext a h
  show mb (evE G C c) (fun v => mb (asB v) fun b => if b then mp true else mp false) a h = mb (evE G C c) asB a h
  unfold mb
  cases evE G C c a h with
  | ok v h1 =>
    cases v with
    | bl b => cases b <;> rfl
    | _ => rfl
  | _ => rfl
theorem mb_one3 {α β γ : Type} {m : M α} {f : α → M β} {g : β → M γ} : mb (mb m f) g = mb m fun v => mb (f v) g := mb_one
/-- the target's reading -/
def tgT (ts : List Nat) (un : Bool) (K : PySem.W.Frag) : TG := if un then gTup K ts.length (gNames ts) else gName (ts.headD 0)
theorem tg_okT {W : WX} {X : Cx} {sc : Scope} (g : Gx S W C k N sc X) {ts : List Nat} {un : Bool} {e : Expr} (h : tgOk N sc ts un e = true) : PG X e (tgT ts un X.K) := by
  unfold tgOk at h
  split at h
  · rw [Bool.and_eq_true] at h
    obtain ⟨hu, h⟩ := h
    subst hu
    obtain ⟨z1, z2, z3⟩ := tg_names g h
    exact pg_tup g.calm z1 z2 z3
  · rw [Bool.and_eq_true, Bool.not_eq_true'] at h
    obtain ⟨hu, h⟩ := h
    subst hu
    split at h
    · exact tg_name g h
    · cases h
theorem tgT_ok {X : Cx} {sc : Scope} (hK : X.K = S.K) {ts : List Nat} {un : Bool} {e : Expr} (h : tgOk N sc ts un e = true) : GOk S X.K ts un (tgT ts un X.K) := by
  unfold tgOk at h
  split at h
  · rw [Bool.and_eq_true] at h
    obtain ⟨hu, h⟩ := h
    subst hu
    exact g_tup hK
  · rw [Bool.and_eq_true, Bool.not_eq_true'] at h
    obtain ⟨hu, h⟩ := h
    subst hu
    split at h
    · exact g_name
    · cases h
theorem okI_noD {sc : Scope} {kd : IK} {cs : List CE} {z : Expr} {G : Gm} (h : okI S.G S.at_ N sc kd cs z = true) {a : Lc} {h0 : AH} {t : Br.Itr} {h' : AH} (e : mb (evEs G C cs) (fun vs => lift (mkI kd vs)) a h0 = .ok t h') : Br.Itr.noD t = true := by
  have hk : ikD kd = true := by
    cases cs with
    | nil => cases h
    | cons c cs =>
      cases cs with
      | nil => cases kd <;> first | rfl | cases h
      | cons d cs =>
        cases cs with
        | nil => cases kd <;> first | rfl | cases h
        | cons _ _ => cases h
  unfold mb at e
  split at e
  · exact mkI_noD kd hk _ _ _ _ e
  · cases e
  · cases e
mutual
theorem sndE (F : Fct S) (CO : CallOk S C k) : ∀ (c : CE) {sc : Scope} {W : WX} {X : Cx} (g : Gx S W C k N sc X) {z : Expr}, okE S.G S.at_ N sc c z = true → Snd S W X z (evE S.G C c)
  | .loc i, sc, W, X, g, z, h => by
    rw [okE_loc] at h
    split at h
    · rw [Bool.and_eq_true, decide_eq_true_eq] at h
      have n := nmOk_1 (g.nmN _ (List.mem_of_getElem? h.1))
      refine .plain ((pe_var (by rw [g.N_]; exact h.1) (g.vis h.2) n.1 n.2).imp fun σ H Q ⟨μ, hh, a, A, L, o⟩ => ?_) rfl
      have o : Out S W (Rv S) σ μ hh.length H (match a[i]? with | some (some v) => .ok v hh | _ => .fail) Q := o
      split at o
      · rename_i v e
        obtain ⟨x, e1, r⟩ := L.get i v e
        exact ⟨x, e1, o.here A r⟩
      · exact o.elim
    · cases h
  | .con v, sc, W, X, g, z, h => by
    rw [okE_con] at h
    split at h
    · exact .plain (pe_con v _ _ _ h) rfl
    · cases h
  | .glo n, sc, W, X, g, z, h => by
    rw [okE_glo] at h
    split at h
    · simp only [Bool.and_eq_true, decide_eq_true_eq] at h
      obtain ⟨⟨h1, h2⟩, h3⟩ := h
      obtain ⟨v, hv⟩ := Option.isSome_iff_exists.mp h3
      obtain ⟨x, u, m1, m2, m3⟩ := F.con n v hv
      subst h2
      refine .plain ((pe_glob (g.gl h1) (by rw [g.mg]; exact m1) m2 (nmOk_1 (aN_ok F n)).1).imp fun σ H Q ⟨μ, hh, a, A, L, o⟩ => ?_) rfl
      have o : Out S W (Rv S) σ μ hh.length H (match S.G.cons.lookup n with | some v => .ok v hh | none => .fail) Q := o
      rw [hv] at o
      exact o.here A (m3 _ _ _)
    · cases h
  | .bin o a b, sc, W, X, g, z, h => by
    rw [okE_bin] at h
    split at h
    · rename_i x op y p
      simp only [Bool.and_eq_true] at h
      have e : op = op2 o := by
        have := h.1.1
        cases o <;> cases op <;> first | rfl | cases this
      subst e
      exact .plain (d_bin (op_bopC g o) (sndE F CO a g h.1.2).pe (sndE F CO b g h.2).pe) rfl
    · cases h
  | .neg a, sc, W, X, g, z, h => by
    rw [okE_neg] at h
    split at h
    · exact .plain (d_neg (sndE F CO a g h).pe) rfl
    · cases h
  | .not a, sc, W, X, g, z, h => by
    rw [okE_not] at h
    split at h
    · rw [Bool.and_eq_true] at h
      have s := sndE F CO a g h.1
      exact ⟨d_not s.pe, fun _ => dt_not (s.pt h.2), fun _ _ _ e => by cases e⟩
    · cases h
  | .and a b, sc, W, X, g, z, h => by
    rw [okE_and] at h
    split at h
    · rename_i x y r p
      simp only [Bool.and_eq_true] at h
      have sa := sndE F CO a g h.1.1
      have h2 := h.2
      cases r with
      | nil =>
        have h2 : (okE S.G S.at_ N sc b y && tstB y) = true := h2
        rw [Bool.and_eq_true] at h2
        have sb := sndE F CO b g h2.1
        have w := dw_and (pos := p) (rest := []) (sa.pt h.1.2) (pw_and1 (sb.pt h2.2))
        exact ⟨d_and sa.pe (pe_one sb.pe), fun _ => w.pt, fun _ _ _ e => by cases e; exact w⟩
      | cons y2 r =>
        have sb := sndE F CO b g h2
        have w := dw_and (pos := p) (sa.pt h.1.2) (sb.pw _ _ _ rfl)
        exact ⟨d_and sa.pe sb.pe, fun _ => w.pt, fun _ _ _ e => by cases e; exact w⟩
    · cases h
  | .or a b, sc, W, X, g, z, h => by
    rw [okE_or] at h
    split at h
    · rename_i x y r p
      simp only [Bool.and_eq_true] at h
      have sa := sndE F CO a g h.1.1
      have h2 := h.2
      cases r with
      | nil =>
        have h2 : (okE S.G S.at_ N sc b y && tstB y) = true := h2
        rw [Bool.and_eq_true] at h2
        have sb := sndE F CO b g h2.1
        have w := dw_or (pos := p) (rest := []) (sa.pt h.1.2) (pw_or1 (sb.pt h2.2))
        exact ⟨d_or sa.pe (pe_one sb.pe), fun _ => w.pt, fun _ _ _ e => by cases e; exact w⟩
      | cons y2 r =>
        have sb := sndE F CO b g h2
        have w := dw_or (pos := p) (sa.pt h.1.2) (sb.pw _ _ _ rfl)
        exact ⟨d_or sa.pe sb.pe, fun _ => w.pt, fun _ _ _ e => by cases e; exact w⟩
    · cases h
  | .isN a, sc, W, X, g, z, h => by
    rw [okE_isN] at h
    split at h
    · have s := (sndE F CO a g h).pe
      exact ⟨d_isN (k2 := none) s, fun _ => dt_isN (k2 := none) s, fun _ _ _ e => by cases e⟩
    · cases h
  | .notN a, sc, W, X, g, z, h => by
    rw [okE_notN] at h
    split at h
    · have s := (sndE F CO a g h).pe
      exact ⟨d_notN (k2 := none) s, fun _ => dt_notN (k2 := none) s, fun _ _ _ e => by cases e⟩
    · cases h
  | .cmp o a b, sc, W, X, g, z, h => by
    rw [okE_cmp] at h
    split at h
    · simp only [Bool.and_eq_true, Bool.not_eq_true'] at h
      obtain ⟨⟨⟨h1, h2⟩, h3⟩, h4⟩ := h
      have e := cmpOk_eq h1
      subst e
      have sa := (sndE F CO a g h2).pe
      have sb := (sndE F CO b g h3).pe
      exact ⟨d_cmp (co_cmpC g o) sa sb h4, fun _ => dt_cmp (co_cmpC g o) sa sb h4, fun _ _ _ e => by cases e⟩
    · cases h
  | .cmp2 o o2 a b c, sc, W, X, g, z, h => by
    rw [okE_cmp2] at h
    split at h
    · simp only [Bool.and_eq_true, Bool.not_eq_true'] at h
      obtain ⟨⟨⟨⟨⟨h1, h2⟩, h3⟩, h4⟩, h5⟩, h6⟩ := h
      have sa := (sndE F CO a g h3).pe
      have sb := (sndE F CO b g h4).pe
      have sc' := (sndE F CO c g h5).pe
      exact ⟨d_cmp2 g.K g.hu (cmpOk_eq h1) (cmpOk_eq h2) sa sb sc' h6, fun _ => dt_cmp2 g.K g.hu (cmpOk_eq h1) (cmpOk_eq h2) sa sb sc' h6, fun _ _ _ e => by cases e⟩
    · cases h
  | .ite t a b, sc, W, X, g, z, h => by
    rw [okE_ite] at h
    split at h
    · simp only [Bool.and_eq_true] at h
      obtain ⟨⟨⟨h1, h2⟩, h3⟩, h4⟩ := h
      exact ⟨d_ite ((sndE F CO t g h1).pt h2) (sndE F CO a g h3).pe (sndE F CO b g h4).pe, fun e => (by cases e), fun _ _ _ e => by cases e⟩
    · cases h
  | .lst es, sc, W, X, g, z, h => by
    rw [okE_lst] at h
    split at h
    · exact .plain (d_lst (sndEs F CO es g h)) rfl
    · cases h
  | .tup es, sc, W, X, g, z, h => by
    rw [okE_tup] at h
    split at h
    · exact .plain (d_tup (sndEs F CO es g h)) rfl
    · cases h
  | .star c, sc, W, X, g, z, h => by rw [okE_star] at h; cases h
  | .dct tk es, sc, W, X, g, z, h => by cases h
  | .fst es, sc, W, X, g, z, h => by
    rw [okE_fst] at h
    split at h
    · exact .plain (d_fst (sndF F CO es g h)) rfl
    · cases h
  | .idx a i, sc, W, X, g, z, h => by
    rw [okE_idx] at h
    split at h
    · simp only [Bool.and_eq_true] at h
      exact .plain (d_idx g.K g.hu (sndE F CO a g h.1.1).pe (sndE F CO i g h.1.2).pe (plainIx_ok h.2)) rfl
    · cases h
  | .slc a lo hi, sc, W, X, g, z, h => by
    rw [okE_slc] at h
    split at h
    · simp only [Bool.and_eq_true] at h
      exact .plain (d_slc g.K (sndE F CO a g h.1.1).pe (sndO F CO lo g h.1.2) (sndO F CO hi g h.2)) rfl
    · cases h
  | .rev a, sc, W, X, g, z, h => by
    rw [okE_rev] at h
    split at h
    · exact .plain (d_rev (sndE F CO a g h).pe) rfl
    · cases h
  | .isi a ts, sc, W, X, g, z, h => by
    rw [okE_isi] at h
    split at h
    · rename_i f p0 x y pos
      simp only [Bool.and_eq_true, decide_eq_true_eq] at h
      obtain ⟨⟨⟨⟨⟨h1, h2⟩, h3⟩, h4⟩, h5⟩, h6⟩ := h
      subst h2
      have s := (sndE F CO a g h3).pe
      unfold tyA at h6
      split at h6
      · rw [Bool.and_eq_true, decide_eq_true_eq] at h6
        obtain ⟨y1, y2⟩ := tys_pe F g h6.1
        exact .plain (d_isiN g.K F.isf (g.gl h1) (blt_of F g (by decide +kernel)) s y1 y2 h6.2 h4) rfl
      · split at h6
        · rename_i t
          obtain ⟨y1, y2, y3⟩ := ty_pe F g h6
          exact .plain (d_isi1 g.K F.isf (g.gl h1) (blt_of F g (by decide +kernel)) s y1 y2 h4 h5) rfl
        · cases h6
    · cases h
  | .bi b es, sc, W, X, g, z, h => by
    rw [okE_bi] at h
    split at h
    · rename_i f p0 x as pos
      simp only [Bool.and_eq_true, decide_eq_true_eq] at h
      obtain ⟨⟨⟨⟨h1, h2⟩, h3⟩, h4⟩, h5⟩ := h
      subst h2
      have s := sndEs F CO es g h4
      have hs : noStar x = true ∧ as.all noStar = true := by simpa using h5
      have cr := cr_biF (W := W) g.K g.calm (g.own W X g.toOk0).bi b h3
      refine .plain ?_ rfl
      cases b with
      | len => exact d_callB (x := Str.ofString "len") (show CrD S W X (.builtin "len") _ from cr) (g.gl h1) (blt_of F g (by decide +kernel)) (by decide +kernel) s (by decide) (by decide) (star_ok hs.1 _ _) (stars_any _ _ hs.2)
      | int => exact d_callTy (x := Str.ofString "int") (show CrD S W X (.type "int") _ from cr) (g.gl h1) (blt_of F g (by decide +kernel)) (by decide +kernel) s (by decide) (by decide) (star_ok hs.1 _ _) (stars_any _ _ hs.2)
      | str => exact d_callTy (x := Str.ofString "str") (show CrD S W X (.type "str") _ from cr) (g.gl h1) (blt_of F g (by decide +kernel)) (by decide +kernel) s (by decide) (by decide) (star_ok hs.1 _ _) (stars_any _ _ hs.2)
      | fmt => cases h3
      | bool => exact d_callTy (x := Str.ofString "bool") (show CrD S W X (.type "bool") _ from cr) (g.gl h1) (blt_of F g (by decide +kernel)) (by decide +kernel) s (by decide) (by decide) (star_ok hs.1 _ _) (stars_any _ _ hs.2)
      | abs => exact d_callB (x := Str.ofString "abs") (show CrD S W X (.builtin "abs") _ from cr) (g.gl h1) (blt_of F g (by decide +kernel)) (by decide +kernel) s (by decide) (by decide) (star_ok hs.1 _ _) (stars_any _ _ hs.2)
      | min => exact d_callB (x := Str.ofString "min") (show CrD S W X (.builtin "min") _ from cr) (g.gl h1) (blt_of F g (by decide +kernel)) (by decide +kernel) s (by decide) (by decide) (star_ok hs.1 _ _) (stars_any _ _ hs.2)
      | max => exact d_callB (x := Str.ofString "max") (show CrD S W X (.builtin "max") _ from cr) (g.gl h1) (blt_of F g (by decide +kernel)) (by decide +kernel) s (by decide) (by decide) (star_ok hs.1 _ _) (stars_any _ _ hs.2)
      | sorted => cases h3
      | all => exact d_callB (x := Str.ofString "all") (show CrD S W X (.builtin "all") _ from cr) (g.gl h1) (blt_of F g (by decide +kernel)) (by decide +kernel) s (by decide) (by decide) (star_ok hs.1 _ _) (stars_any _ _ hs.2)
      | any => exact d_callB (x := Str.ofString "any") (show CrD S W X (.builtin "any") _ from cr) (g.gl h1) (blt_of F g (by decide +kernel)) (by decide +kernel) s (by decide) (by decide) (star_ok hs.1 _ _) (stars_any _ _ hs.2)
      | repr => exact d_callB (x := Str.ofString "repr") (show CrD S W X (.builtin "repr") _ from cr) (g.gl h1) (blt_of F g (by decide +kernel)) (by decide +kernel) s (by decide) (by decide) (star_ok hs.1 _ _) (stars_any _ _ hs.2)
      | dict => cases h3
    · cases h
  | .bm m a es, sc, W, X, g, z, h => by
    rw [okE_bm] at h
    split at h
    · rename_i x nm ap as cp
      simp only [Bool.and_eq_true, decide_eq_true_eq] at h
      obtain ⟨⟨⟨⟨⟨⟨⟨h1, h2⟩, h3⟩, h4⟩, h5⟩, h6⟩, h7⟩, h8⟩ := h
      subst h1
      have sa := (sndE F CO a g h3).pe
      have ss := sndEs F CO es g h4
      have mt := mt_bm (W := W) g.K g.hu m h2
      refine .plain ?_ rfl
      cases m with
      | append =>
        cases as with
        | nil =>
          have e : evEs S.G C es = mp [] := by
            cases es with
            | nil => rfl
            | cons d r2 => cases r2 <;> cases h4
          have r := d_bm0 (T := "list") (id := "list.append") (name := Str.ofString "append") (cpos := cp) PySem.F.plainAttrs_list PySem.F.slot_list_append PySem.F.type_list_append (ty_bm (S := S) (X := X) .append) mt sa h5 h8
          rw [← e] at r
          exact r
        | cons y as => exact d_bm (T := "list") (id := "list.append") (name := Str.ofString "append") PySem.F.plainAttrs_list PySem.F.slot_list_append PySem.F.type_list_append (ty_bm (S := S) (X := X) .append) mt sa ss h5 h6 h7 h8
      | insert =>
        cases as with
        | nil =>
          have e : evEs S.G C es = mp [] := by
            cases es with
            | nil => rfl
            | cons d r2 => cases r2 <;> cases h4
          have r := d_bm0 (T := "list") (id := "list.insert") (name := Str.ofString "insert") (cpos := cp) PySem.F.plainAttrs_list PySem.F.slot_list_insert PySem.F.type_list_insert (ty_bm (S := S) (X := X) .insert) mt sa h5 h8
          rw [← e] at r
          exact r
        | cons y as => exact d_bm (T := "list") (id := "list.insert") (name := Str.ofString "insert") PySem.F.plainAttrs_list PySem.F.slot_list_insert PySem.F.type_list_insert (ty_bm (S := S) (X := X) .insert) mt sa ss h5 h6 h7 h8
      | extend =>
        cases as with
        | nil =>
          have e : evEs S.G C es = mp [] := by
            cases es with
            | nil => rfl
            | cons d r2 => cases r2 <;> cases h4
          have r := d_bm0 (T := "list") (id := "list.extend") (name := Str.ofString "extend") (cpos := cp) PySem.F.plainAttrs_list PySem.F.slot_list_extend PySem.F.type_list_extend (ty_bm (S := S) (X := X) .extend) mt sa h5 h8
          rw [← e] at r
          exact r
        | cons y as => exact d_bm (T := "list") (id := "list.extend") (name := Str.ofString "extend") PySem.F.plainAttrs_list PySem.F.slot_list_extend PySem.F.type_list_extend (ty_bm (S := S) (X := X) .extend) mt sa ss h5 h6 h7 h8
      | pop =>
        cases as with
        | nil =>
          have e : evEs S.G C es = mp [] := by
            cases es with
            | nil => rfl
            | cons d r2 => cases r2 <;> cases h4
          have r := d_bm0 (T := "list") (id := "list.pop") (name := Str.ofString "pop") (cpos := cp) PySem.F.plainAttrs_list PySem.F.slot_list_pop PySem.F.type_list_pop (ty_bm (S := S) (X := X) .pop) mt sa h5 h8
          rw [← e] at r
          exact r
        | cons y as => exact d_bm (T := "list") (id := "list.pop") (name := Str.ofString "pop") PySem.F.plainAttrs_list PySem.F.slot_list_pop PySem.F.type_list_pop (ty_bm (S := S) (X := X) .pop) mt sa ss h5 h6 h7 h8
      | clear =>
        cases as with
        | nil =>
          have e : evEs S.G C es = mp [] := by
            cases es with
            | nil => rfl
            | cons d r2 => cases r2 <;> cases h4
          have r := d_bm0 (T := "list") (id := "list.clear") (name := Str.ofString "clear") (cpos := cp) PySem.F.plainAttrs_list PySem.F.slot_list_clear PySem.F.type_list_clear (ty_bm (S := S) (X := X) .clear) mt sa h5 h8
          rw [← e] at r
          exact r
        | cons y as => exact d_bm (T := "list") (id := "list.clear") (name := Str.ofString "clear") PySem.F.plainAttrs_list PySem.F.slot_list_clear PySem.F.type_list_clear (ty_bm (S := S) (X := X) .clear) mt sa ss h5 h6 h7 h8
      | index => cases h2
      | get =>
        cases as with
        | nil =>
          have e : evEs S.G C es = mp [] := by
            cases es with
            | nil => rfl
            | cons d r2 => cases r2 <;> cases h4
          have r := d_bm0 (T := "dict") (id := "dict.get") (name := Str.ofString "get") (cpos := cp) PySem.F.plainAttrs_dict PySem.F.slot_dict_get PySem.F.type_dict_get (ty_bm (S := S) (X := X) .get) mt sa h5 h8
          rw [← e] at r
          exact r
        | cons y as => exact d_bm (T := "dict") (id := "dict.get") (name := Str.ofString "get") PySem.F.plainAttrs_dict PySem.F.slot_dict_get PySem.F.type_dict_get (ty_bm (S := S) (X := X) .get) mt sa ss h5 h6 h7 h8
      | setdefault => cases h2
      | join =>
        cases as with
        | nil =>
          have e : evEs S.G C es = mp [] := by
            cases es with
            | nil => rfl
            | cons d r2 => cases r2 <;> cases h4
          have r := d_bm0 (T := "str") (id := "str.join") (name := Str.ofString "join") (cpos := cp) PySem.F.plainAttrs_str PySem.F.slot_str_join PySem.F.type_str_join (ty_bm (S := S) (X := X) .join) mt sa h5 h8
          rw [← e] at r
          exact r
        | cons y as => exact d_bm (T := "str") (id := "str.join") (name := Str.ofString "join") PySem.F.plainAttrs_str PySem.F.slot_str_join PySem.F.type_str_join (ty_bm (S := S) (X := X) .join) mt sa ss h5 h6 h7 h8
      | split => cases h2
      | startswith => cases h2
    · cases h
  | .call f es ks vs, sc, W, X, g, z, h => by
    rw [okE_call] at h
    split at h
    · rename_i x p0 as kws pos
      simp only [Bool.and_eq_true, decide_eq_true_eq] at h
      obtain ⟨⟨⟨⟨⟨⟨h1, h2⟩, h3⟩, h4⟩, h5⟩, h6⟩, h7⟩ := h
      obtain ⟨fd, hfd⟩ := Option.isSome_iff_exists.mp h3
      obtain ⟨m1, m2⟩ := F.fn f fd hfd
      subst h2
      exact .plain (d_call g.toOk0 CO hfd (g.gl h1) m1 m2 (sndEs F CO es g h4) (sndK F CO vs g h5) (by unfold kwNames; rw [Bool.and_eq_true, decide_eq_true_eq]; unfold kwOkT at h6; rw [Bool.and_eq_true, decide_eq_true_eq] at h6; exact h6) h7 (nmOk_1 (aN_ok F f)).1) rfl
    · cases h
  | .mk c es ks vs, sc, W, X, g, z, h => by cases h
  | .meth m o es ks vs, sc, W, X, g, z, h => by cases h
  | .smeth c m es, sc, W, X, g, z, h => by cases h
  | .attr o n, sc, W, X, g, z, h => by cases h
  | .cattr c n, sc, W, X, g, z, h => by
    rw [okE_cattr] at h
    split at h
    · rename_i x p0 nm pos
      simp only [Bool.and_eq_true, decide_eq_true_eq] at h
      obtain ⟨⟨⟨h1, h2⟩, h3⟩, h4⟩ := h
      subst h2 h3
      obtain ⟨v, hv⟩ := Option.isSome_iff_exists.mp h4
      obtain ⟨kk, hk, hv2⟩ := Option.bind_eq_some_iff.mp hv
      obtain ⟨mc, x, u, r1, r2, r3⟩ := F.cst c kk n v hk hv2
      refine .plain ((ClX.pe_cval (pe_glob (v := V.ref (S.cA c)) (g.gl h1) (by rw [g.mg]; exact F.cg c kk hk) rfl (nmOk_1 (aN_ok F c)).1)).imp fun σ H Q ⟨μ, hh, a, A, L, o⟩ => ?_) rfl
      have o : Out S W (Rv S) σ μ hh.length H (match (S.G.cls.lookup c).bind fun k => k.cons.lookup n with | some v => .ok v hh | none => .fail) Q := o
      rw [hv] at o
      exact ⟨_, mc, x, u, rfl, by rw [g.K]; exact r1, by rw [g.K]; exact r2, o.here A (r3 _ _ _)⟩
    · cases h
  | .lis kd es, sc, W, X, g, z, h => by
    rw [okE_lis] at h
    split at h
    · rename_i f p0 x pos
      simp only [Bool.and_eq_true, decide_eq_true_eq] at h
      obtain ⟨⟨h1, h2⟩, h3⟩ := h
      subst h2
      exact .plain (sndL F CO kd es g h1 h3) rfl
    · cases h
  | .tpl kd es, sc, W, X, g, z, h => by
    rw [okE_tpl] at h
    split at h
    · rename_i f p0 x pos
      simp only [Bool.and_eq_true, decide_eq_true_eq] at h
      obtain ⟨⟨⟨h1, h2⟩, h3⟩, h4⟩ := h
      subst h2
      cases kd <;> first
        | cases h3
        | skip
      cases es with
      | nil => cases h4
      | cons c r =>
        cases r with
        | cons d r2 => cases r2 <;> cases h4
        | nil =>
          have h4 : (okE S.G S.at_ N sc c x && noStar x) = true := h4
          rw [Bool.and_eq_true] at h4
          have s := (sndE F CO c g h4.1).pe
          have ss := da_cons s da_nil (star_ok h4.2 [] X.env)
          refine .plain ?_ rfl
          have r := d_callTy (cr_tpl g.K) (g.gl h1) (blt_of F g (by decide +kernel)) (by decide +kernel) ss (by decide) (by decide) (star_ok h4.2 _ _) rfl (p0 := p0) (pos := pos)
          show PE X _ (DE S W (mb (evEs S.G C [c]) _))
          rw [evEs_cons (notStar h4.1)]
          exact r
    · cases h
  | .lcomp ts un kd it cs e, sc, W, X, g, z, h => by
    rw [okE_lcomp] at h
    split at h
    · rename_i el tg iter ifs scope pos
      simp only [Bool.and_eq_true] at h
      obtain ⟨⟨⟨⟨⟨⟨h1, h2⟩, h3⟩, h4⟩, h5⟩, h6⟩, h7⟩ := h
      have hi := sndI F CO kd it g h3 h5
      have gN : X.N.Nodup := by rw [g.N_]; exact g.ndN
      have gg := fun s H a cl fp => g.blk (scope := scope) s H a cl fp
      have own : (ownT N ts).map (·.2) = ts := by
        unfold ownT
        rw [List.map_map]
        exact List.map_id' _
      have pgs : ∀ (s : Shared) (H : Hp) (a : Addr) (cl : List (Str × Addr)) (fp : List Addr), PG (X.blk s H scope (compEnvC scope cl a X.env) fp) tg (tgT ts un X.K) := fun s H a cl fp => tg_okT (gg s H a cl fp) h2
      refine .plain ?_ rfl
      refine (pe_lc g.calm gN hi (blk_ok g h1) pgs (fun s H a cl fp => sndT F CO cs (gg s H a cl fp) h6) (fun s H a cl fp => (sndE F CO e (gg s H a cl fp) h7).pe) (fun x => plainIt_ok h4 _ x)).imp fun σ H Q d => ?_
      rw [own]
      exact lc_read rfl (tgT_ok g.K h2) (fun a h t h' e => okI_noD h5 e) (by
        rw [mb_one3]
        exact d)
    · cases h
  | .dcomp tk ts un kd it cs u e, sc, W, X, g, z, h => by cases h
theorem sndEs (F : Fct S) (CO : CallOk S C k) : ∀ (cs : List CE) {sc : Scope} {W : WX} {X : Cx} (g : Gx S W C k N sc X) {es : List Expr}, okEs S.G S.at_ N sc cs es = true → PA X es (DA S W (evEs S.G C cs))
  | [], sc, W, X, g, es, h => by
    cases es with
    | nil => exact da_nil
    | cons _ _ => cases h
  | c :: cs, sc, W, X, g, es, h => by
    cases es with
    | nil => cases h
    | cons e es =>
      by_cases hs : noStar e = true
      · have h : (nst c && okE S.G S.at_ N sc c e && noStar e && okEs S.G S.at_ N sc cs es) = true := by
          cases e <;> first | exact h | cases hs
        simp only [Bool.and_eq_true] at h
        rw [evEs_cons h.1.1.1]
        exact da_cons (sndE F CO c g h.1.1.2).pe (sndEs F CO cs g h.2) (star_ok h.1.2 _ _)
      · cases e with
        | Starred x p =>
          cases c with
          | star c =>
            have h : (okE S.G S.at_ N sc c x && okEs S.G S.at_ N sc cs es) = true := h
            rw [Bool.and_eq_true] at h
            exact da_star g.K (sndE F CO c g h.1).pe (sndEs F CO cs g h.2)
          | _ => cases h
        | _ => exact absurd rfl hs
theorem sndK (F : Fct S) (CO : CallOk S C k) : ∀ (cs : List CE) {sc : Scope} {W : WX} {X : Cx} (g : Gx S W C k N sc X) {es : List Keyword}, okKs S.G S.at_ N sc cs es = true → PK X es (DA S W (evEs S.G C cs))
  | [], sc, W, X, g, es, h => by
    cases es with
    | nil => exact dk_nil
    | cons _ _ => cases h
  | c :: cs, sc, W, X, g, es, h => by
    cases es with
    | nil => cases h
    | cons q es =>
      obtain ⟨nm, e, p⟩ := q
      have h : (nst c && okE S.G S.at_ N sc c e && noStar e && okKs S.G S.at_ N sc cs es) = true := h
      simp only [Bool.and_eq_true] at h
      rw [evEs_cons h.1.1.1]
      exact dk_cons (sndE F CO c g h.1.1.2).pe (sndK F CO cs g h.2)
theorem sndO (F : Fct S) (CO : CallOk S C k) : ∀ (c : Option CE) {sc : Scope} {W : WX} {X : Cx} (g : Gx S W C k N sc X) {e : Option Expr}, okO S.G S.at_ N sc c e = true → PO X e (DO S W (evO S.G C c))
  | none, sc, W, X, g, e, h => by
    cases e with
    | none => exact do_none
    | some _ => cases h
  | some c, sc, W, X, g, e, h => by
    cases e with
    | none => cases h
    | some e => exact do_some (sndE F CO c g h).pe
theorem sndF (F : Fct S) (CO : CallOk S C k) : ∀ (cs : List CE) {sc : Scope} {W : WX} {X : Cx} (g : Gx S W C k N sc X) {es : List Expr}, okF S.G S.at_ N sc cs es = true → JOk S W X es (evF S.G C cs)
  | [], sc, W, X, g, es, h => by
    cases es with
    | nil => exact j_nil
    | cons _ _ => cases h
  | c :: cs, sc, W, X, g, es, h => by
    cases es with
    | nil => cases h
    | cons e es =>
      cases e with
      | FormattedValue x p q p0 =>
        cases c with
        | bi b l =>
          cases b with
          | fmt =>
            cases l with
            | nil => cases h
            | cons c r =>
              cases r with
              | cons _ _ => cases h
              | nil =>
                have h : ((decide (p = -1) && q.isNone && okE S.G S.at_ N sc c x) && okF S.G S.at_ N sc cs es) = true := h
                simp only [Bool.and_eq_true, decide_eq_true_eq] at h
                obtain ⟨⟨⟨e1, e2⟩, h3⟩, h4⟩ := h
                subst e1
                cases q with
                | some _ => cases e2
                | none =>
                  have f := d_fmt (pos := p0) (G := S.G) (C := C) (sndE F CO c g h3).pe
                  have f2 : PE X (.FormattedValue x (-1) none p0) (DE S W (evE S.G C (.bi .fmt [c]))) := by
                    show PE X _ (DE S W (mb (evEs S.G C [c]) fun vs => lift (biF S.G C .fmt vs)))
                    rw [evEs_cons (notStar h3)]
                    exact f
                  exact j_cons f2 (sndF F CO cs g h4)
          | _ => cases h
        | _ => cases h
      | Constant kk j p0 =>
        cases c with
        | con v =>
          have h : (conOk v kk && okF S.G S.at_ N sc cs es) = true := h
          rw [Bool.and_eq_true] at h
          exact j_cons (pe_con v _ _ _ h.1) (sndF F CO cs g h.2)
        | _ => cases h
      | _ => cases h
theorem sndL (F : Fct S) (CO : CallOk S C k) (kd : IK) : ∀ (cs : List CE) {sc : Scope} {W : WX} {X : Cx} (g : Gx S W C k N sc X) {z : Expr} {p0 pos : Pos}, glB sc "list" = true → okV S.G S.at_ N sc kd cs z = true → PE X (.Call (.Name "list" p0) [z] [] pos) (DE S W (evE S.G C (.lis kd cs)))
  | [], sc, W, X, g, z, p0, pos, hl, h => by cases h
  | [c], sc, W, X, g, z, p0, pos, hl, h => by
    cases kd with
    | val =>
      have h : (okE S.G S.at_ N sc c z && noStar z) = true := h
      rw [Bool.and_eq_true] at h
      have ss := da_cons (sndE F CO c g h.1).pe da_nil (star_ok h.2 [] X.env)
      have r := d_callTy (x := Str.ofString "list") (cr_lis g.K) (g.gl hl) (blt_of F g (by decide +kernel)) (by decide +kernel) ss (by decide) (by decide) (star_ok h.2 _ _) rfl (p0 := p0) (pos := pos)
      show PE X _ (DE S W (mb (evEs S.G C [c]) _))
      rw [evEs_cons (notStar h.1)]
      exact r
    | range =>
      have h : (match (generalizing := false) z with | .Call (.Name g _) [x] [] _ => glB sc g && decide (g = ("range" : Str)) && okE S.G S.at_ N sc c x && noStar x | _ => false) = true := by exact h
      split at h
      · simp only [Bool.and_eq_true, decide_eq_true_eq] at h
        obtain ⟨⟨⟨h1, h2⟩, h3⟩, h4⟩ := h
        subst h2
        show PE X _ (DE S W (mb (evEs S.G C [c]) _))
        rw [ev_one (notStar h3)]
        exact d_lisR1 g.calm (g.gl hl) (blt_of F g (by decide +kernel)) (g.gl h1) (blt_of F g (by decide +kernel)) (sndE F CO c g h3).pe h4
      · cases h
    | _ => cases h
  | [c, d], sc, W, X, g, z, p0, pos, hl, h => by
    cases kd with
    | range =>
      have h : (match (generalizing := false) z with | .Call (.Name g _) [x, y] [] _ => glB sc g && decide (g = ("range" : Str)) && okE S.G S.at_ N sc c x && noStar x && okE S.G S.at_ N sc d y && noStar y | _ => false) = true := by exact h
      split at h
      · simp only [Bool.and_eq_true, decide_eq_true_eq] at h
        obtain ⟨⟨⟨⟨⟨h1, h2⟩, h3⟩, h4⟩, h5⟩, h6⟩ := h
        subst h2
        show PE X _ (DE S W (mb (evEs S.G C [c, d]) _))
        rw [ev_two (notStar h3) (notStar h5)]
        exact d_lisR2 g.calm (g.gl hl) (blt_of F g (by decide +kernel)) (g.gl h1) (blt_of F g (by decide +kernel)) (sndE F CO c g h3).pe (sndE F CO d g h5).pe h4 h6
      · cases h
    | _ => cases h
  | _ :: _ :: _ :: _, sc, W, X, g, z, p0, pos, hl, h => by cases h
theorem sndT (F : Fct S) (CO : CallOk S C k) : ∀ (cs : List CE) {sc : Scope} {W : WX} {X : Cx} (g : Gx S W C k N sc X) {es : List Expr}, okT S.G S.at_ N sc cs es = true → PTs X es (DT S W (evT S.G C cs))
  | [], sc, W, X, g, es, h => by
    cases es with
    | nil => exact ⟨fun pins s σ H Q I ⟨μ, hh, a, A, L, o⟩ => pts_nil.run pins s σ H Q I (o.hereB A)⟩
    | cons _ _ => cases h
  | c :: cs, sc, W, X, g, es, h => by
    cases es with
    | nil => cases h
    | cons e es =>
      cases es with
      | cons _ _ => cases h
      | nil =>
        have h : (cs.isEmpty && okE S.G S.at_ N sc c e && tstB e) = true := h
        simp only [Bool.and_eq_true] at h
        cases cs with
        | cons _ _ => cases h.1.1
        | nil =>
          rw [evT_one]
          exact pts_one ((sndE F CO c g h.1.2).pt h.2)
theorem sndI (F : Fct S) (CO : CallOk S C k) (kd : IK) : ∀ (cs : List CE) {sc : Scope} {W : WX} {X : Cx} (g : Gx S W C k N sc X) {tg z : Expr}, ikOk kd tg = true → okI S.G S.at_ N sc kd cs z = true → PI X tg z (DI S W (mb (evEs S.G C cs) fun vs => lift (mkI kd vs)))
  | [], sc, W, X, g, tg, z, ht, h => by cases h
  | [c], sc, W, X, g, tg, z, ht, h => by
    cases kd with
    | val =>
      have h : (okE S.G S.at_ N sc c z && noStar z) = true := h
      rw [Bool.and_eq_true] at h
      rw [ev_one (notStar h.1)]
      exact pi_valD g.K (sndE F CO c g h.1).pe
    | range =>
      have h : (match (generalizing := false) z with | .Call (.Name g _) [x] [] _ => glB sc g && decide (g = ("range" : Str)) && okE S.G S.at_ N sc c x && noStar x | _ => false) = true := by exact h
      split at h
      · simp only [Bool.and_eq_true, decide_eq_true_eq] at h
        obtain ⟨⟨⟨h1, h2⟩, h3⟩, h4⟩ := h
        subst h2
        rw [ev_one (notStar h3)]
        exact pi_range1D (g.gl h1) (blt_of F g (by decide +kernel)) (sndE F CO c g h3).pe h4
      · cases h
    | enum =>
      have h : (match (generalizing := false) z with | .Call (.Name g _) [x] [] _ => glB sc g && decide (g = ("enumerate" : Str)) && okE S.G S.at_ N sc c x && noStar x | _ => false) = true := by exact h
      split at h
      · simp only [Bool.and_eq_true, decide_eq_true_eq] at h
        obtain ⟨⟨⟨h1, h2⟩, h3⟩, h4⟩ := h
        subst h2
        obtain ⟨tes, kk, tp, rfl⟩ := isTup_of (show isTup tg = true from ht)
        rw [ev_one (notStar h3)]
        exact pi_enumD g.K (g.gl h1) (blt_of F g (by decide +kernel)) (sndE F CO c g h3).pe h4
      · cases h
    | _ => cases h
  | [c, d], sc, W, X, g, tg, z, ht, h => by
    cases kd with
    | range =>
      have h : (match (generalizing := false) z with | .Call (.Name g _) [x, y] [] _ => glB sc g && decide (g = ("range" : Str)) && okE S.G S.at_ N sc c x && noStar x && okE S.G S.at_ N sc d y && noStar y | _ => false) = true := by exact h
      split at h
      · simp only [Bool.and_eq_true, decide_eq_true_eq] at h
        obtain ⟨⟨⟨⟨⟨h1, h2⟩, h3⟩, h4⟩, h5⟩, h6⟩ := h
        subst h2
        rw [ev_two (notStar h3) (notStar h5)]
        exact pi_range2D (g.gl h1) (blt_of F g (by decide +kernel)) (sndE F CO c g h3).pe (sndE F CO d g h5).pe h4 h6
      · cases h
    | zip =>
      have h : (match (generalizing := false) z with | .Call (.Name g _) [x, y] [] _ => glB sc g && decide (g = ("zip" : Str)) && okE S.G S.at_ N sc c x && noStar x && okE S.G S.at_ N sc d y && noStar y | _ => false) = true := by exact h
      split at h
      · simp only [Bool.and_eq_true, decide_eq_true_eq] at h
        obtain ⟨⟨⟨⟨⟨h1, h2⟩, h3⟩, h4⟩, h5⟩, h6⟩ := h
        subst h2
        obtain ⟨tes, kk, tp, rfl⟩ := isTup_of (show isTup tg = true from ht)
        rw [ev_two (notStar h3) (notStar h5)]
        exact pi_zipD g.K (g.gl h1) (blt_of F g (by decide +kernel)) (sndE F CO c g h3).pe (sndE F CO d g h5).pe h4 h6
      · cases h
    | _ => cases h
  | _ :: _ :: _ :: _, sc, W, X, g, tg, z, ht, h => by cases h
end
end
end Br

set_option linter.all false
set_option Elab.async false
set_option autoImplicit false
set_option maxRecDepth 100000
set_option maxHeartbeats 8000000
/-! BrJ: the check is sound: statements. -/
namespace Br
open PySem PySem.Spec PyProof.Rows L2
section
variable {S : Sx} {W : WX} {X : Cx} {D : Ends} {σ : L2.St} {μ : Nat → Addr} {h : AH} {H : Hp} {a : Lc} {e o i : Expr} {ma mo mi : M AV} {pos p0 ps : Pos}
/-! o[i] = e -/
def OutU (S : Sx) (μ : Nat → Addr) (n : Nat) (H : Hp) (r : Res Unit) (Q : AH → Hp → Prop) : Prop := match r with
  | .ok _ h1 => ∀ H', Ext μ n H μ h1.length H' → At S μ h1 H' → Q h1 H'
  | _ => False
theorem RDk.any {n : Nat} {k : Key} : ∀ {kvs : List (AV × AV)} {ks : List (Key × V)}, RDk S μ n H kvs ks → (kvs.any fun p => kEq p.1 (keyA k)) = ks.any fun kv => decide (kv.1 = k)
  | [], [], _ => rfl
  | p :: ps, q :: qs, h => by
    rw [RDk] at h
    rw [List.any_cons, List.any_cons, RDk.any h.2.2, h.1, kEq_keyA]
  | [], _ :: _, h => by rw [RDk] at h; exact h.elim
  | _ :: _, [], h => by rw [RDk] at h; exact h.elim
theorem RDk.map {n : Nat} {k : Key} {v : AV} {x : V} (r : RA S.K μ n H v x) : ∀ {kvs : List (AV × AV)} {ks : List (Key × V)}, RDk S μ n H kvs ks → RDk S μ n H (kvs.map fun p => if kEq p.1 (keyA k) then (p.1, v) else p) (ks.map fun kv => if kv.1 = k then (kv.1, x) else kv)
  | [], [], _ => by rw [List.map_nil, List.map_nil, RDk]; trivial
  | p :: ps, q :: qs, h => by
    rw [RDk] at h
    rw [List.map_cons, List.map_cons, RDk]
    have e : kEq p.1 (keyA k) = decide (q.1 = k) := by rw [h.1, kEq_keyA]
    by_cases hk : q.1 = k
    · rw [e, if_pos (decide_eq_true hk), if_pos hk]
      exact ⟨h.1, r, RDk.map r h.2.2⟩
    · rw [e, if_neg (by simp [hk]), if_neg hk]
      exact ⟨h.1, h.2.1, RDk.map r h.2.2⟩
  | [], _ :: _, h => by rw [RDk] at h; exact h.elim
  | _ :: _, [], h => by rw [RDk] at h; exact h.elim
theorem RDk.snoc {n : Nat} {k : Key} {v : AV} {x : V} (r : RA S.K μ n H v x) : ∀ {kvs : List (AV × AV)} {ks : List (Key × V)}, RDk S μ n H kvs ks → RDk S μ n H (kvs ++ [(keyA k, v)]) (ks ++ [(k, x)])
  | [], [], _ => by
    show RDk S μ n H [(keyA k, v)] [(k, x)]
    rw [RDk]
    exact ⟨rfl, r, by rw [RDk]; trivial⟩
  | p :: ps, q :: qs, h => by
    rw [RDk] at h
    show RDk S μ n H (p :: (ps ++ [(keyA k, v)])) (q :: (qs ++ [(k, x)]))
    rw [RDk]
    exact ⟨h.1, h.2.1, RDk.snoc r h.2.2⟩
  | [], _ :: _, h => by rw [RDk] at h; exact h.elim
  | _ :: _, [], h => by rw [RDk] at h; exact h.elim
theorem RDk.put {n : Nat} {k : Key} {v : AV} {x : V} (r : RA S.K μ n H v x) {kvs : List (AV × AV)} {ks : List (Key × V)} (h : RDk S μ n H kvs ks) : RDk S μ n H (dPut (keyA k) v kvs) (putK ks k x) := by
  unfold dPut putK
  rw [RDk.any (k := k) h]
  split
  · exact RDk.map r h
  · exact RDk.snoc r h
theorem RDt.any {n : Nat} {k : List Key} : ∀ {kvs : List (AV × AV)} {ks : List (List Key × V)}, RDt S μ n H kvs ks → (kvs.any fun p => kEq p.1 (.tup (k.map keyA))) = ks.any fun kv => decide (kv.1 = k)
  | [], [], _ => rfl
  | p :: ps, q :: qs, h => by
    rw [RDt] at h
    rw [List.any_cons, List.any_cons, RDt.any h.2.2, h.1, kEq_keyT]
  | [], _ :: _, h => by rw [RDt] at h; exact h.elim
  | _ :: _, [], h => by rw [RDt] at h; exact h.elim
theorem RDt.map {n : Nat} {k : List Key} {v : AV} {x : V} (r : RA S.K μ n H v x) : ∀ {kvs : List (AV × AV)} {ks : List (List Key × V)}, RDt S μ n H kvs ks → RDt S μ n H (kvs.map fun p => if kEq p.1 (.tup (k.map keyA)) then (p.1, v) else p) (ks.map fun kv => if kv.1 = k then (kv.1, x) else kv)
  | [], [], _ => by rw [List.map_nil, List.map_nil, RDt]; trivial
  | p :: ps, q :: qs, h => by
    rw [RDt] at h
    rw [List.map_cons, List.map_cons, RDt]
    have e : kEq p.1 (.tup (k.map keyA)) = decide (q.1 = k) := by rw [h.1, kEq_keyT]
    by_cases hk : q.1 = k
    · rw [e, if_pos (decide_eq_true hk), if_pos hk]
      exact ⟨h.1, r, RDt.map r h.2.2⟩
    · rw [e, if_neg (by simp [hk]), if_neg hk]
      exact ⟨h.1, h.2.1, RDt.map r h.2.2⟩
  | [], _ :: _, h => by rw [RDt] at h; exact h.elim
  | _ :: _, [], h => by rw [RDt] at h; exact h.elim
theorem RDt.snoc {n : Nat} {k : List Key} {v : AV} {x : V} (r : RA S.K μ n H v x) : ∀ {kvs : List (AV × AV)} {ks : List (List Key × V)}, RDt S μ n H kvs ks → RDt S μ n H (kvs ++ [(.tup (k.map keyA), v)]) (ks ++ [(k, x)])
  | [], [], _ => by
    show RDt S μ n H [(.tup (k.map keyA), v)] [(k, x)]
    rw [RDt]
    exact ⟨rfl, r, by rw [RDt]; trivial⟩
  | p :: ps, q :: qs, h => by
    rw [RDt] at h
    show RDt S μ n H (p :: (ps ++ [(.tup (k.map keyA), v)])) (q :: (qs ++ [(k, x)]))
    rw [RDt]
    exact ⟨h.1, h.2.1, RDt.snoc r h.2.2⟩
  | [], _ :: _, h => by rw [RDt] at h; exact h.elim
  | _ :: _, [], h => by rw [RDt] at h; exact h.elim
theorem RDt.put {n : Nat} {k : List Key} {v : AV} {x : V} (r : RA S.K μ n H v x) {kvs : List (AV × AV)} {ks : List (List Key × V)} (h : RDt S μ n H kvs ks) : RDt S μ n H (dPut (.tup (k.map keyA)) v kvs) (putK ks k x) := by
  unfold dPut putK
  rw [RDt.any (k := k) h]
  split
  · exact RDt.map r h
  · exact RDt.snoc r h
theorem RDk.len {n : Nat} : ∀ {kvs : List (AV × AV)} {ks : List (Key × V)}, RDk S μ n H kvs ks → kvs.length = ks.length
  | [], [], _ => rfl
  | p :: ps, q :: qs, h => by
    rw [RDk] at h
    rw [List.length_cons, List.length_cons, RDk.len h.2.2]
  | [], _ :: _, h => by rw [RDk] at h; exact h.elim
  | _ :: _, [], h => by rw [RDk] at h; exact h.elim
theorem RDt.len {n : Nat} : ∀ {kvs : List (AV × AV)} {ks : List (List Key × V)}, RDt S μ n H kvs ks → kvs.length = ks.length
  | [], [], _ => rfl
  | p :: ps, q :: qs, h => by
    rw [RDt] at h
    rw [List.length_cons, List.length_cons, RDt.len h.2.2]
  | [], _ :: _, h => by rw [RDt] at h; exact h.elim
  | _ :: _, [], h => by rw [RDt] at h; exact h.elim
def tSetD (S : Sx) : TSet := fun o i v H Q => ∃ μ h p q r, At S μ h H ∧ RA S.K μ h.length H p o ∧ RA S.K μ h.length H q i ∧ RA S.K μ h.length H r v ∧ OutU S μ h.length H (setI p q r h) fun _ H' => Q H'
theorem set_setI (hK : X.K = S.K) (hu : X.A.units + 65 < cLine) : PSet X (tSetD S) := by
  intro pins s σ H o i v ov iv u Q I ro ri rv ⟨μ, h, p, q, r, A, rp, rq, rr, ho⟩
  unfold setI at ho
  split at ho
  · obtain ⟨hi, rfl⟩ := rp.ref
    split at ho
    · rename_i xs k e0
      cases rq.int
      obtain ⟨vs, hv, rs⟩ := A.lst e0
      split at ho
      · rename_i j ej
        rw [ixN_eq, rs.length] at ej
        obtain ⟨A2, E2⟩ := A.write hi hv (fun _ z => by cases z) (fun _ _ z => by cases z) (ro_lst (rs.set rr j))
        exact set_list pins s σ H _ _ v ov iv u Q I ro ri rv ⟨_, vs, _, j, rfl, rfl, hv, ej, ho _ E2 A2⟩
      · exact ho.elim
    · rename_i tk kvs e0
      split at ho
      · rename_i hk
        split at ho
        · rename_i hl
          obtain ⟨ob, d, h1, h2, h3⟩ := A.dct e0
          obtain rfl : ob = d := h2
          cases ro
          cases tk with
          | false =>
            obtain ⟨ks, rfl, rk⟩ := h3
            obtain ⟨kk, rfl, rfl⟩ := key_of1 hk rq
            have rk2 := rk.put (k := kk) rr
            obtain ⟨A2, E2⟩ := A.write (o := .dct false (dPut (keyA kk) r kvs) false) (ho := .dK (putK ks kk v)) hi h1 (fun _ z => by cases z) (fun _ _ z => by cases z) ⟨_, rfl, _, rfl, rk2⟩
            exact d_setItem (by omega) I (.inl ⟨ks, kk, h1, rfl, by rw [← rk.len]; exact lim_lt hl, rfl⟩) ri rv fun s' I' => ⟨_, I', ho _ E2 A2⟩
          | true =>
            obtain ⟨ks, rfl, rk⟩ := h3
            obtain ⟨kk, b, rfl, rfl, hb⟩ := keyT_of hk rq
            have rk2 := rk.put (k := kk) rr
            obtain ⟨A2, E2⟩ := A.write (o := .dct true (dPut (.tup (kk.map keyA)) r kvs) false) (ho := .dT (putK ks kk v)) hi h1 (fun _ z => by cases z) (fun _ _ z => by cases z) ⟨_, rfl, _, rfl, rk2⟩
            exact d_setItem (by omega) I (.inr ⟨ks, kk, b, h1, rfl, hb, by rw [← rk.len]; exact lim_lt hl, rfl⟩) ri rv fun s' I' => ⟨_, I', ho _ E2 A2⟩
        · exact ho.elim
      · exact ho.elim
    · exact ho.elim
  · exact ho.elim
theorem t_setI (hK : X.K = S.K) (hu : X.A.units + 65 < cLine) (he : PE X e (DE S W ma)) (ho : PE X o (DE S W mo)) (hi : PE X i (DE S W mi)) (hs : swapsWithSole [.Subscript o i ps] e pos.line X.env = pure false) (hix : plainIx i = true) :
    PS X (.Assign [.Subscript o i ps] e pos) (DSt S W (ms ma fun v => ms mo fun x => ms mi fun j => fun a h => match setI x j v h with | .ok _ h1 => .nx a h1 | _ => .fail)) :=
  (ps_asg he (pg_sub ho hi (set_setI hK hu) (fun v => by cases i <;> first | rfl | cases hix)) hs rfl rfl).imp fun D σ H ⟨μ, h, a, A, L, o1⟩ => ⟨μ, h, a, A, L, by
    unfold ms at o1
    cases e1 : ma a h with
    | fail => rw [e1] at o1; exact o1
    | exc c fs h1 => rw [e1] at o1; exact fun μ' H' d gs E1 A1 q r => o1 μ' H' σ d gs E1 A1 (L.mono E1) q r
    | ok v h1 =>
      rw [e1] at o1
      intro μ1 H1 vx E1 A1 r1
      refine ⟨μ1, h1, a, A1, L.mono E1, ?_⟩
      dsimp only at o1
      cases e2 : mo a h1 with
      | fail => rw [e2] at o1; exact o1
      | exc c fs h2 => rw [e2] at o1; exact fun μ' H' d gs E2 A2 q r => o1 μ' H' σ d gs (E1.trans E2) A2 ((L.mono E1).mono E2) q r
      | ok x h2 =>
        rw [e2] at o1
        intro μ2 H2 ox E2 A2 r2
        refine ⟨μ2, h2, a, A2, (L.mono E1).mono E2, ?_⟩
        dsimp only at o1
        cases e3 : mi a h2 with
        | fail => rw [e3] at o1; exact o1
        | exc c fs h3 => rw [e3] at o1; exact fun μ' H' d gs E3 A3 q r => o1 μ' H' σ d gs ((E1.trans E2).trans E3) A3 (((L.mono E1).mono E2).mono E3) q r
        | ok j h3 =>
          rw [e3] at o1
          intro μ3 H3 ix E3 A3 r3
          refine ⟨μ3, h3, x, j, v, A3, RA.mono E3 r2, r3, RA.mono E3 (RA.mono E2 r1), ?_⟩
          dsimp only at o1
          cases e4 : setI x j v h3 with
          | ok _ h4 =>
            rw [e4] at o1
            exact fun H' E4 A4 => o1 μ3 H' σ (((E1.trans E2).trans E3).trans E4) A4 ((((L.mono E1).mono E2).mono E3).mono E4)
          | _ => rw [e4] at o1; exact o1⟩
/-! x op= e -/
def tAugD (S : Sx) (op : Op2) : TIp := fun x y H Q => ∃ (W : WX) (σ : L2.St) (μ : Nat → Addr) (h : AH) (p q : AV), At S μ h H ∧ RA S.K μ h.length H p x ∧ RA S.K μ h.length H q y ∧ Out S W (Rv S) σ μ h.length H (augB op p q h) Q
theorem ip_augB (op : Op2) : PIp X (op2 op) (tAugD S op) := by
  intro pins s σ H x y v u Q I rx ry ⟨W, σ2, μ, h, p, q, A, rp, rq, ho⟩
  unfold augB at ho
  split at ho
  · cases rp.int; cases rq.int
    exact ip_add pins s σ H _ _ v u Q I rx ry ⟨_, _, rfl, rfl, ho.here A ra_int⟩
  · cases rp.int; cases rq.int
    exact ip_sub pins s σ H _ _ v u Q I rx ry ⟨_, _, rfl, rfl, ho.here A ra_int⟩
  · cases rp.str; cases rq.str
    split at ho
    · rename_i hl
      refine in_addS pins s σ H _ _ v u Q I rx ry ⟨_, _, rfl, rfl, by rw [sO_len, sO_len]; exact lim_le hl, ?_⟩
      rw [sO_app]
      exact ho.here A ra_str
    · exact ho.elim
  · exact ho.elim
theorem augB_pure {op : Op2} {p q : AV} {h : AH} : (∃ v, augB op p q h = .ok v h) ∨ augB op p q h = .fail := by
  unfold augB
  repeat' split
  all_goals first | exact .inl ⟨_, rfl⟩ | exact .inr rfl
theorem t_aug {k : Nat} {x : Str} {op : Op2} {px : Pos} (hN : X.N.Nodup) (hi : X.N[k]? = some x) (hx : Loc X.env.scope x) (hf : X.fn x = true ∨ X.env.scope.names.lookup x = some .local) (he : PE X e (DE S W ma)) :
    PS X (.AugAssign (.Name x px) (op2 op) e pos) (DSt S W (ms (fun a h => match a[k]? with | some (some v) => .ok v h | _ => .fail) fun x => ms ma fun y => ms (lift (augB op x y)) fun v => fun a h => if k < a.length then .nx (a.set k (some v)) h else .fail)) :=
  (ps_aug hN hi hx he (ip_augB op) hf).imp fun D σ H ⟨μ, h, a, A, L, o1⟩ => by
    dsimp only [ms] at o1
    cases ew : a[k]? with
    | none => rw [ew] at o1; exact o1.elim
    | some ov =>
      cases ov with
      | none => rw [ew] at o1; exact o1.elim
      | some v =>
        rw [ew] at o1
        dsimp only at o1
        obtain ⟨x0, e2, r⟩ := L.get k _ ew
        refine ⟨x0, e2, μ, h, a, A, L, ?_⟩
        cases e3 : ma a h with
        | fail => rw [e3] at o1; exact o1
        | exc c fs h2 => rw [e3] at o1; exact fun μ' H' d gs E1 A1 q r => o1 μ' H' σ d gs E1 A1 (L.mono E1) q r
        | ok y h2 =>
          rw [e3] at o1
          intro μ2 H2 y0 E2 A2 r2
          dsimp only [lift] at o1
          refine ⟨W, σ, μ2, h2, _, y, A2, RA.mono E2 r, r2, ?_⟩
          rcases augB_pure (op := op) (p := v) (q := y) (h := h2) with ⟨z, ez⟩ | ez
          · rw [ez] at o1 ⊢
            dsimp only at o1
            split at o1
            · exact fun μ3 H3 x3 E3 A3 r3 => o1 μ3 H3 _ (E2.trans E3) A3 (((L.mono E2).mono E3).set r3)
            · exact o1.elim
          · rw [ez] at o1
            exact o1.elim
/-! a, b = x, y -/
theorem LR.set2 {n : Nat} {i j : Nat} {v w : AV} {x y : V} (l : LR S μ n H a σ) (r1 : RA S.K μ n H v x) (r2 : RA S.K μ n H w y) : LR S μ n H ((a.set i (some v)).set j (some w)) ((σ.set i (some x)).set j (some y)) := (l.set r1).set r2
theorem t_par2 {ii jj : Nat} {x y : Str} {a1 b1 : Expr} {m1 : M (List AV)} {px py pt : Pos} {kt k2 : Nat} {pt2 : Pos} (hc : X.calm = true) (hN : X.N.Nodup) (hi : X.N[ii]? = some x) (hj : X.N[jj]? = some y) (hij : ii ≠ jj)
    (hx : X.env.scope.names.lookup x = some .local) (hy : X.env.scope.names.lookup y = some .local) (ha : PA X [a1, b1] (DA S W m1))
    (hw : swappedStores [.Tuple [.Name x px, .Name y py] kt pt] (.Tuple [a1, b1] k2 pt2) X.env = pure (some [x, y])) :
    PS X (.Assign [.Tuple [.Name x px, .Name y py] kt pt] (.Tuple [a1, b1] k2 pt2) pos) (DSt S W (ms m1 fun vs => stP [ii, jj] vs)) :=
  (ps_par hc hN hi hj hij hx hy ha hw rfl).imp fun D σ H ⟨μ, h, a, A, L, o1⟩ => (DSt.bind (R := Rvs S) A L o1).imp fun xs H1 ⟨μ1, h1, vs, A1, r1, L1, o2⟩ => by
    unfold stP at o2
    split at o2
    · rename_i a2 e2
      cases vs with
      | nil => cases e2
      | cons v vs =>
        cases vs with
        | nil => simp only [setTs] at e2; split at e2 <;> cases e2
        | cons w vs =>
          obtain ⟨x1, ys, rfl, q1, q2⟩ := r1.of_cons
          obtain ⟨x2, zs, rfl, q3, q4⟩ := q2.of_cons
          simp only [setTs] at e2
          split at e2
          · split at e2
            · cases vs with
              | cons _ _ => cases e2
              | nil =>
                cases q4.of_nil
                cases e2
                exact ⟨x1, x2, rfl, o2 μ1 H1 _ Ext.refl A1 (L1.set2 q1 q3)⟩
            · cases e2
          · cases e2
    · exact o2.elim
end
end Br

set_option linter.all false
set_option Elab.async false
set_option autoImplicit false
set_option maxRecDepth 100000
set_option maxHeartbeats 8000000
/-! BrJ2: the check of statements; defs; the program. -/
namespace Br
open PySem PySem.Spec PyProof.Rows L2

def asPure {α : Type} : Sem α → Option α
  | .pure a => some a
  | _ => none
theorem asPure_ok {α : Type} {t : Sem α} {r : α} (h : asPure t = some r) : t = pure r := by
  cases t <;> first | (cases h; rfl) | cases h
/-- a frame of which the scope alone is told -/
def envS (sc : Scope) : Env := { (default : Env) with scope := sc }
theorem sw_env {sc : Scope} {env : Env} (he : env.scope = sc) (ts : List Expr) (v : Expr) : swappedStores ts v env = swappedStores ts v (envS sc) := by
  unfold swappedStores Env.blockKind Env.kindOf
  rw [he]
  rfl
theorem swx_env {sc : Scope} {env : Env} (he : env.scope = sc) (t : Option Expr) (v : Expr) (l : Nat) : swapsWith v t l env = swapsWith v t l (envS sc) := by
  unfold swapsWith Env.blockKind Env.kindOf
  rw [he]
  rfl
/-- how a value is stored at one target -/
def swapB (sc : Scope) (t : Option Expr) (v : Expr) (l : Nat) (b : Bool) : Bool := decide (asPure (swapsWith v t l (envS sc)) = some b)
theorem swapB_ok {sc : Scope} {env : Env} {t : Option Expr} {v : Expr} {l : Nat} {b : Bool} (he : env.scope = sc) (h : swapB sc t v l b = true) : swapsWith v t l env = pure b := by
  rw [swx_env he]
  exact asPure_ok (of_decide_eq_true h)
theorem swapB_ok1 {sc : Scope} {env : Env} {t : Expr} {v : Expr} {l : Nat} {b : Bool} (he : env.scope = sc) (h : swapB sc (some t) v l b = true) : swapsWithSole [t] v l env = pure b := swapB_ok he h
def storesB (sc : Scope) (t v : Expr) (r : Option (List Str)) : Bool := decide (asPure (swappedStores [t] v (envS sc)) = some r)
theorem storesB_ok {sc : Scope} {env : Env} {t v : Expr} {r : Option (List Str)} (he : env.scope = sc) (h : storesB sc t v r = true) : swappedStores [t] v env = pure r := by
  rw [sw_env he]
  exact asPure_ok (of_decide_eq_true h)
/-- one clause -/
def isLC1 : Expr → Bool
  | .ListComp _ [⟨_, _, _, 0⟩] _ _ => true
  | _ => false
def locS (sc : Scope) (x : Str) : Bool := match sc.names.lookup x with
  | some .local => true
  | _ => false
/-- the check of a store -/
def okSet (G : Gm) (T N : List Str) (sc : Scope) (t : TgC) (e : CE) (tg v : Expr) (l : Nat) : Bool := okE G T N sc e v && (match t with
  | .loc i => tgName N sc i tg && ((swapB sc (some tg) v l false && storesB sc tg v none) || (swapB sc (some tg) v l true && isLC1 v && (match tg with | .Name y _ => locS sc y | _ => false)))
  | .tup is none => isTup tg && tgOk N sc is true tg && swapB sc (some tg) v l false && storesB sc tg v none
  | .idx o i => (match tg with
    | .Subscript x y _ => okE G T N sc o x && okE G T N sc i y && plainIx y && swapB sc (some tg) v l false
    | _ => false)
  | _ => false)
mutual
def okS (G : Gm) (T N : List Str) (sc : Scope) : CS → Stmt → Bool
  | .set t e, z => match z with
    | .Assign [tg] v pos => okSet G T N sc t e tg v pos.line
    | _ => false
  | .par is es, z => match z with
    | .Assign [.Tuple [.Name x px, .Name y py] kt pt] (.Tuple [a, b] k2 p2) _ => (match is with
      | [i, j] => decide (N[i]? = some x) && decide (N[j]? = some y) && decide (i ≠ j) && locS sc x && locS sc y && okEs G T N sc es [a, b] && storesB sc (.Tuple [.Name x px, .Name y py] kt pt) (.Tuple [a, b] k2 p2) (some [x, y])
      | _ => false)
    | _ => false
  | .augl i o e, z => match z with
    | .AugAssign (.Name x _) op v _ => decide (N[i]? = some x) && locB sc x && opOk o op && okE G T N sc e v
    | _ => false
  | .auga _ _ _ _, _ => false
  | .ex e, z => match z with
    | .Expr v pos => okE G T N sc e v && swapB sc none v pos.line false
    | _ => false
  | .ret e, z => match z with
    | .Return (some v) _ => okE G T N sc e v
    | _ => false
  | .retn, z => match z with
    | .Return none _ => true
    | _ => false
  | .ite t a b, z => match z with
    | .If c x y _ => okE G T N sc t c && tstB c && okB G T N sc a x && okB G T N sc b y
    | _ => false
  | .for ts un k it b, z => match z with
    | .For tg iter body [] _ => tgOk N sc ts un tg && ikOk k tg && plainIt iter && okI G T N sc k it iter && okB G T N sc b body
    | _ => false
  | .whl t b, z => match z with
    | .While c body [] _ => okE G T N sc t c && tstB c && okB G T N sc b body
    | _ => false
  | .cnt, z => match z with
    | .Continue _ => true
    | _ => false
  | .pass, z => match z with
    | .Pass _ => true
    | .Expr (.Constant (.str _) _ _) _ => true
    | _ => false
  | .raise _ _, _ => false
def okB (G : Gm) (T N : List Str) (sc : Scope) : List CS → List Stmt → Bool
  | [], zs => zs.isEmpty
  | c :: cs, zs => match zs with
    | z :: zs => okS G T N sc c z && okB G T N sc cs zs
    | [] => false
end
theorem ms_mb {α β : Type} {m : M α} {f : α → M β} {g : β → SM} : ms (mb m f) g = ms m fun v => ms (f v) g := by
  funext a h
  unfold ms mb
  cases m a h <;> rfl
section
variable {S : Sx} {W : WX} {X : Cx} {C : Callee} {k : Nat} {N : List Str} {sc : Scope}
/-- the context of a def's body -/
structure Gs (S : Sx) (W : WX) (C : Callee) (k : Nat) (N : List Str) (sc : Scope) (X : Cx) : Prop extends Gx S W C k N sc X where
  env : X.env.scope = sc
  po : PassesOwn (model X.prog X.w) X.A X.env X.xe
theorem set_loc_eq {i : Nat} {v : AV} : stT [i] false v = setG S.G C (.loc i) v := by
  funext a h
  show (match (if false then _ else setTs [i] [v] a) with | some a1 => SR.nx a1 h | none => .fail) = if i < a.length then SR.nx (a.set i (some v)) h else .fail
  simp only [Bool.false_eq_true, if_false, setTs]
  by_cases hi : i < a.length
  · rw [if_pos hi, if_pos hi]
  · rw [if_neg hi, if_neg hi]
/-- name = [..], stored within the comprehension's frame -/
theorem snd_setLc (F : Fct S) (CO : CallOk S C k) (g : Gs S W C k N sc X) {i : Nat} {e : CE} {y : Str} {py pos lp : Pos} {el tg iter : Expr} {ifs : List Expr} {scope : Scope} (h0 : okE S.G S.at_ N sc e (.ListComp el [⟨tg, iter, ifs, 0⟩] scope lp) = true)
    (hy : N[i]? = some y) (hl : locS sc y = true) (hs : swapsWith (.ListComp el [⟨tg, iter, ifs, 0⟩] scope lp) (some (.Name y py)) pos.line X.env = pure true) :
    PS X (.Assign [.Name y py] (.ListComp el [⟨tg, iter, ifs, 0⟩] scope lp) pos) (DSt S W (ms (evE S.G C e) fun v => setG S.G C (.loc i) v)) := by
  cases e with
  | lcomp ts un kd it cs e =>
    have h : (blkC N sc scope (ownT N ts) && tgOk N scope ts un tg && ikOk kd tg && plainIt iter && okI S.G S.at_ N sc kd it iter && okT S.G S.at_ N scope cs ifs && okE S.G S.at_ N scope e el) = true := h0
    simp only [Bool.and_eq_true] at h
    obtain ⟨⟨⟨⟨⟨⟨h1, h2⟩, h3⟩, h4⟩, h5⟩, h6⟩, h7⟩ := h
    have hi := sndI F CO kd it g.toGx h3 h5
    have gN : X.N.Nodup := by rw [g.N_]; exact g.ndN
    have gg := fun s H a cl fp => g.toGx.blk (scope := scope) s H a cl fp
    have own : (ownT N ts).map (·.2) = ts := by
      unfold ownT
      rw [List.map_map]
      exact List.map_id' _
    have ly : X.env.scope.names.lookup y = some .local := by
      rw [g.env]
      unfold locS at hl
      split at hl
      · assumption
      · cases hl
    have pgs : ∀ (s : Shared) (H : Hp) (a : Addr) (cl : List (Str × Addr)) (fp : List Addr), PG (X.blk s H scope (compEnvC scope cl a X.env) fp) tg (tgT ts un X.K) := fun s H a cl fp => tg_okT (gg s H a cl fp) h2
    refine (ps_setLc g.calm gN (by rw [g.N_]; exact hy) ly hs hi (blk_ok g.toGx h1) pgs (fun s H a cl fp => sndT F CO cs (gg s H a cl fp) h6) (fun s H a cl fp => (sndE F CO e (gg s H a cl fp) h7).pe) (fun x => plainIt_ok h4 _ x)).imp fun D σ H ⟨μ, hh, a, A, L, o⟩ => ?_
    have d := (DSt.bind (R := Rv S) A L o).imp (Q' := fun x H1 => gName i x σ H1 D.nx) fun x H1 ⟨μ1, h1, v, A1, r1, L1, o1⟩ => by
      have o1 : OutS S W D μ1 h1.length H1 (if i < a.length then SR.nx (a.set i (some v)) h1 else .fail) := o1
      split at o1
      · exact o1 μ1 H1 _ Ext.refl A1 (L1.set r1)
      · exact o1.elim
    show tLc _ _ _ _ _ σ H _
    rw [own]
    exact lc_read rfl (tgT_ok g.K h2) (fun a h t h' e => okI_noD h5 e) (by
      rw [mb_one3]
      exact d)
  | _ => cases h0
theorem snd_set (F : Fct S) (CO : CallOk S C k) (g : Gs S W C k N sc X) {t : TgC} {e : CE} {tg v : Expr} {pos : Pos} (h : okSet S.G S.at_ N sc t e tg v pos.line = true) : PS X (.Assign [tg] v pos) (DSt S W (ms (evE S.G C e) fun v => setG S.G C t v)) := by
  unfold okSet at h
  rw [Bool.and_eq_true] at h
  obtain ⟨h0, h⟩ := h
  have se := (sndE F CO e g.toGx h0).pe
  cases t with
  | loc i =>
    simp only [Bool.and_eq_true, Bool.or_eq_true] at h
    obtain ⟨h1, h2⟩ := h
    have ha := assign_one (es := []) (env := X.env) (tgName_is h1)
    rcases h2 with ⟨h2, h3⟩ | ⟨⟨h2, h3⟩, h4⟩
    · have r := t_set (ts := [i]) (un := false) se (tg_name g.toGx h1) g_name (swapB_ok1 g.env h2) (storesB_ok g.env h3) ha.1
      rw [show (fun v => stT [i] false v) = (fun v => setG S.G C (.loc i) v) from funext fun v => set_loc_eq] at r
      exact r
    · unfold isLC1 at h3
      split at h3
      · cases tg with
        | Name y py =>
          have hy : (decide (N[i]? = some y) && locB sc y) = true := h1
          rw [Bool.and_eq_true, decide_eq_true_eq] at hy
          exact snd_setLc F CO g h0 hy.1 h4 (swapB_ok g.env h2)
        | _ => cases h4
      · cases h3
  | tup is st =>
    cases st with
    | some _ => cases h
    | none =>
      simp only [Bool.and_eq_true] at h
      obtain ⟨⟨⟨h1, h2⟩, h3⟩, h4⟩ := h
      obtain ⟨es, kk, p, rfl⟩ := isTup_of h1
      obtain ⟨tt, y1, y2⟩ := tg_ok g.toGx h2
      exact t_set (ts := is) (un := true) se y1 y2 (swapB_ok1 g.env h3) (storesB_ok g.env h4) rfl
  | idx o i =>
    dsimp only at h
    split at h
    · simp only [Bool.and_eq_true] at h
      obtain ⟨⟨⟨h1, h2⟩, h3⟩, h4⟩ := h
      exact t_setI g.K g.hu se (sndE F CO o g.toGx h1).pe (sndE F CO i g.toGx h2).pe (swapB_ok1 g.env h4) h3
    · cases h
  | attr _ _ => cases h
end
end Br

set_option linter.all false
set_option Elab.async false
set_option autoImplicit false
set_option maxRecDepth 100000
set_option maxHeartbeats 8000000
/-! BrJ3: statements, defs, the program. -/
namespace Br
open PySem PySem.Spec PyProof.Rows L2
section
variable {S : Sx} {W : WX} {X : Cx} {C : Callee} {k : Nat} {N : List Str} {sc : Scope}
mutual
theorem sndS (F : Fct S) (CO : CallOk S C k) (g : Gs S W C k N sc X) : ∀ (c : CS) {z : Stmt}, okS S.G S.at_ N sc c z = true → PS X z (DSt S W (evS S.G C c))
  | .set t e, z, h => by
    have h : (match (generalizing := false) z with | .Assign [tg] v pos => okSet S.G S.at_ N sc t e tg v pos.line | _ => false) = true := h
    split at h
    · exact snd_set F CO g h
    · cases h
  | .par is es, z, h => by
    have h : (match (generalizing := false) z with
    | .Assign [.Tuple [.Name x px, .Name y py] kt pt] (.Tuple [a, b] k2 p2) _ => (match (generalizing := false) is with
      | [i, j] => decide (N[i]? = some x) && decide (N[j]? = some y) && decide (i ≠ j) && locS sc x && locS sc y && okEs S.G S.at_ N sc es [a, b] && storesB sc (.Tuple [.Name x px, .Name y py] kt pt) (.Tuple [a, b] k2 p2) (some [x, y])
      | _ => false)
    | _ => false) = true := h
    split at h
    · split at h
      · simp only [Bool.and_eq_true, decide_eq_true_eq] at h
        obtain ⟨⟨⟨⟨⟨⟨h1, h2⟩, h3⟩, h4⟩, h5⟩, h6⟩, h7⟩ := h
        have l : ∀ {x : Str}, locS sc x = true → X.env.scope.names.lookup x = some .local := fun {x} hl => by
          rw [g.env]
          unfold locS at hl
          split at hl
          · assumption
          · cases hl
        exact t_par2 g.calm (by rw [g.N_]; exact g.ndN) (by rw [g.N_]; exact h1) (by rw [g.N_]; exact h2) h3 (l h4) (l h5) (sndEs F CO es g.toGx h6) (storesB_ok g.env h7)
      · cases h
    · cases h
  | .augl i o e, z, h => by
    have h : (match (generalizing := false) z with
    | .AugAssign (.Name x _) op v _ => decide (N[i]? = some x) && locB sc x && opOk o op && okE S.G S.at_ N sc e v
    | _ => false) = true := h
    split at h
    · simp only [Bool.and_eq_true, decide_eq_true_eq] at h
      obtain ⟨⟨⟨h1, h2⟩, h3⟩, h4⟩ := h
      obtain ⟨l1, l2⟩ := g.loc h2
      rename_i x px op v pos
      have e : op = op2 o := by cases o <;> cases op <;> first | rfl | cases h3
      subst e
      exact t_aug (by rw [g.N_]; exact g.ndN) (by rw [g.N_]; exact h1) l1 l2 (sndE F CO e g.toGx h4).pe
    · cases h
  | .auga _ _ _ _, z, h => by cases h
  | .ex e, z, h => by
    have h : (match (generalizing := false) z with | .Expr v pos => okE S.G S.at_ N sc e v && swapB sc none v pos.line false | _ => false) = true := h
    split at h
    · rw [Bool.and_eq_true] at h
      exact t_ex (sndE F CO e g.toGx h.1).pe (swapB_ok g.env h.2)
    · cases h
  | .ret e, z, h => by
    have h : (match (generalizing := false) z with | .Return (some v) _ => okE S.G S.at_ N sc e v | _ => false) = true := h
    split at h
    · exact t_ret (sndE F CO e g.toGx h).pe
    · cases h
  | .retn, z, h => by
    have h : (match (generalizing := false) z with | .Return none _ => true | _ => false) = true := h
    split at h
    · exact t_retn
    · cases h
  | .ite t a b, z, h => by
    have h : (match (generalizing := false) z with | .If c x y _ => okE S.G S.at_ N sc t c && tstB c && okB S.G S.at_ N sc a x && okB S.G S.at_ N sc b y | _ => false) = true := h
    split at h
    · simp only [Bool.and_eq_true] at h
      obtain ⟨⟨⟨h1, h2⟩, h3⟩, h4⟩ := h
      show PS X _ (DSt S W (ms (evT S.G C [t]) _))
      rw [evT_one]
      exact t_if ((sndE F CO t g.toGx h1).pt h2) (sndB F CO g a h3) (sndB F CO g b h4)
    · cases h
  | .for ts un kd it b, z, h => by
    have h : (match (generalizing := false) z with | .For tg iter body [] _ => tgOk N sc ts un tg && ikOk kd tg && plainIt iter && okI S.G S.at_ N sc kd it iter && okB S.G S.at_ N sc b body | _ => false) = true := h
    split at h
    · rename_i tg iter body pos _
      simp only [Bool.and_eq_true] at h
      obtain ⟨⟨⟨⟨h1, h2⟩, h3⟩, h4⟩, h5⟩ := h
      have r := t_for (pos := pos) g.po g.calm (sndI F CO kd it g.toGx h2 h4) (tg_okT g.toGx h1) (tgT_ok g.K h1) (sndB F CO g b h5) (fun a h t h' e => okI_noD h4 e) (fun x => plainIt_ok h3 _ x)
      rw [ms_mb] at r
      exact r
    · cases h
  | .whl t b, z, h => by
    have h : (match (generalizing := false) z with | .While c body [] _ => okE S.G S.at_ N sc t c && tstB c && okB S.G S.at_ N sc b body | _ => false) = true := h
    split at h
    · simp only [Bool.and_eq_true] at h
      obtain ⟨⟨h1, h2⟩, h3⟩ := h
      show PS X _ (DSt S W (whl (evT S.G C [t]) _))
      rw [evT_one]
      exact t_while g.po ((sndE F CO t g.toGx h1).pt h2) (sndB F CO g b h3)
    · cases h
  | .cnt, z, h => by
    have h : (match (generalizing := false) z with | .Continue _ => true | _ => false) = true := h
    split at h
    · exact t_cnt
    · cases h
  | .pass, z, h => by
    have h : (match (generalizing := false) z with | .Pass _ => true | .Expr (.Constant (.str _) _ _) _ => true | _ => false) = true := h
    split at h
    · exact t_pass
    · exact t_doc
    · cases h
  | .raise _ _, z, h => by cases h
theorem sndB (F : Fct S) (CO : CallOk S C k) (g : Gs S W C k N sc X) : ∀ (cs : List CS) {zs : List Stmt}, okB S.G S.at_ N sc cs zs = true → PSs X zs (DSt S W (evB S.G C cs))
  | [], zs, h => by
    cases zs with
    | nil => exact t_nil
    | cons _ _ => cases h
  | c :: cs, zs, h => by
    cases zs with
    | nil => cases h
    | cons z zs =>
      have h : (okS S.G S.at_ N sc c z && okB S.G S.at_ N sc cs zs) = true := h
      rw [Bool.and_eq_true] at h
      exact t_cons (sndS F CO g c h.1) (sndB F CO g cs h.2)
end
end
/-- a def of the program and its machine code -/
structure DefF (S : Sx) (key : Key2) (f : Fn) : Prop where
  ex : ∃ (x qual : Str) (params : Arguments) (body : List Stmt) (scope : Scope) (dvs : List V) (kws : List (Str × V)) (fd : FuncData) (N pn : List Str),
    FunD S.K x qual params body scope dvs kws (S.fA key) fd ∧ Sig S f params dvs kws pn ∧ FnScope N pn scope ∧ N.length = f.slots ∧ (∀ y ∈ N, nmOk y = true) ∧ okB S.G S.at_ N scope f.body body = true
theorem callOk (S : Sx) (F : Fct S) (D : ∀ key f, S.G.fns.lookup key = some f → DefF S key f) (own : ∀ (C : Callee) (k : Nat), CallOk S C k → ∀ (W : WX) (X : Cx), Ok0 S W k X → OwnH S W X C) : ∀ k : Nat, CallOk S (callAt S.G k) k
  | 0 => fun key f hf A outer s H us xs kus ps kw μ h Q E hr e0 rv ra rk A0 o => o.elim
  | k + 1 => fun key f hf A outer s H us xs kus ps kw μ h Q E hr e0 rv ra rk A0 o => by
    have CO := callOk S F D own k
    obtain ⟨x, qual, params, body, scope, dvs, kws, fd, N, pn, hD, hS, hN, hl, hm, hok⟩ := (D key f hf).ex
    have o : Out S (fun c d _ H' => E c d H') (Rv S) ([] : L2.St) μ h.length H (match S.G.fns.lookup key with
      | none => .fail
      | some f => match f.bind ps kw with
        | none => .fail
        | some ws => match evB S.G (callAt S.G k) f.body (ws.map some ++ List.replicate (f.slots - ws.length) none) h with
          | .nx _ h1 => .ok .non h1
          | .rt v h1 => .ok v h1
          | .exc c fs _ h1 => .exc c fs h1
          | _ => .fail) Q := o
    rw [hf] at o
    dsimp only at o
    cases hb : f.bind ps kw with
    | none => rw [hb] at o; exact o.elim
    | some ws =>
      rw [hb] at o
      dsimp only at o
      have bo := bind_ok (E := E) F.nd hD hS hb A0 ra rv rk e0
      obtain ⟨oc, od, dV, kV, doc, pm, an, cdv, ct, osl, e1, lk, hcd, _, _⟩ := hD.ex
      subst e1
      refine StX.run_bnd lk hcd hN hr e0 bo fun s2 H2 vs ⟨r1, A2, E2⟩ hr' => ?_
      have g : Gs S (fun c d _ H' => E c d H') (callAt S.G k) k N scope (cxOf (L2.CX S.P S.w) S.P S.w S.K S.mg S.base N qual scope (S.fA key) cdv A outer s2 H2 E) :=
        ⟨⟨⟨rfl, rfl, rfl, rfl, rfl, hr', rfl, takes_of rfl rfl rfl rfl⟩, rfl, hN.nd, hm, fun x kd _ e => e, fun x e => .inr e, fun _ _ => rfl, own _ _ CO⟩, rfl, passes_of rfl⟩
      refine ⟨_, sndB F CO g f.body hok, μ, h, ws.map some ++ List.replicate (f.slots - ws.length) none, A2, ⟨?_, fun i v e => ?_⟩, ?_⟩
      · show (ws.map some ++ List.replicate (f.slots - ws.length) none).length = (L2.start N vs).length
        unfold L2.start
        rw [List.length_append, List.length_append, List.length_map, List.length_map, List.length_replicate, List.length_replicate, r1.length, hl]
      · by_cases hi : i < ws.length
        · rw [List.getElem?_append_left (by rw [List.length_map]; exact hi), List.getElem?_map] at e
          obtain ⟨w', e1, e2⟩ := Option.map_eq_some_iff.mp e
          cases e2
          obtain ⟨y, ey, ry⟩ := r1.get e1
          refine ⟨y, ?_, ry⟩
          unfold L2.start
          rw [List.getElem?_append_left (by rw [List.length_map, ← r1.length]; exact hi), List.getElem?_map, ey]
          rfl
        · rw [List.getElem?_append_right (by rw [List.length_map]; omega), List.getElem?_replicate] at e
          split at e <;> cases e
      · cases ee : evB S.G (callAt S.G k) f.body (ws.map some ++ List.replicate (f.slots - ws.length) none) h with
        | nx a1 h1 =>
          rw [ee] at o
          exact fun μ' H' σ' E3 A3 L3 => o μ' H' .non (E2.trans E3) A3 ra_non
        | rt v h1 =>
          rw [ee] at o
          exact fun μ' H' y E3 A3 r3 => o μ' H' y (E2.trans E3) A3 r3
        | exc c fs a1 h1 =>
          rw [ee] at o
          exact fun μ' H' σ' d gs E3 A3 L3 q r => o μ' H' d gs (E2.trans E3) A3 q r
        | ct a1 h1 => rw [ee] at o; exact o.elim
        | fail => rw [ee] at o; exact o.elim
end Br

set_option linter.all false
set_option Elab.async false
set_option autoImplicit false
set_option maxRecDepth 100000
set_option maxHeartbeats 400000
/-! BrF: from the head's facts to the law. -/
namespace Br
open PySem PySem.Spec PyProof.Rows L2

/-! ### a Hook -/
def growN (g : Addr → Option Obj) : Nat → List Addr → List Addr
  | 0, as => as
  | n + 1, as => growN g n (He.growD g as)
/-- the objects that the names need: what these names reach in n steps -/
def adrB (ns : List Str) (n : Nat) (g : Addr → Option Obj) : List Addr := mainGlobals :: cStatics :: growN g n (ns.map (He.ga (He.frG g [mainGlobals])))
/-- the list at its form, once -/
def forL' {α : Type} : List Addr → (List Addr → α) → α
  | [], k => k []
  | a :: r, k => HandSHeadRun.frNat a fun a => forL' r fun r => k (a :: r)
theorem forL_eq {α : Type} : ∀ (l : List Addr) (k : List Addr → α), forL' l k = k l
  | [], k => rfl
  | a :: r, k => by
    unfold forL'
    rw [HandSHeadRun.frNat_eq, forL_eq r]
def forF {α : Type} (g : Addr → Option Obj) : List Addr → (PySem.W.Frag → α) → α
  | [], k => k []
  | a :: r, k => match g a with
    | some ⟨c, d, dt, sl⟩ => forF g r fun K => k ((a, ⟨c, d, dt, sl⟩) :: K)
    | none => forF g r k
theorem forF_eq {α : Type} (g : Addr → Option Obj) : ∀ (l : List Addr) (k : PySem.W.Frag → α), forF g l k = k (He.frG g l)
  | [], k => rfl
  | a :: r, k => by
    unfold forF He.frG
    rw [List.filterMap_cons]
    cases e : g a with
    | none => exact forF_eq g r k
    | some o =>
      obtain ⟨c, d, dt, sl⟩ := o
      exact forF_eq g r _
def obsK (fn : List He.DefD) (ex : PySem.W.Frag → Bool) (K : PySem.W.Frag) : He.AlD × Bool := (He.obsD [] fn K, ex K)
def obsB (ns : List Str) (n : Nat) (fn : List He.DefD) (ex : PySem.W.Frag → Bool) (g : Addr → Option Obj) : He.AlD × Bool := forL' (adrB ns n g) fun as => forF g as fun K => obsK fn ex K
theorem obsB_at {ns : List Str} {n : Nat} {fn : List He.DefD} {ex : PySem.W.Frag → Bool} {g : Addr → Option Obj} : obsB ns n fn ex g = obsK fn ex (He.frG g (adrB ns n g)) := by
  unfold obsB
  rw [forL_eq, forF_eq]
def hookB (ns : List Str) (n : Nat) (fn : List He.DefD) (ex : PySem.W.Frag → Bool) : PySem.W.Hook where
  α := He.AlD × Bool
  obs := fun s => obsB ns n fn ex s.heap.get?
  val := fun _ => (He.valD fn, true)
  says := fun _ h => ∃ K : PySem.W.Frag, K.In h ∧ He.SaysD [] fn K ∧ ex K = true
  of := fun _ _ e => ⟨_, He.frG_in, congrArg (fun z : He.AlD × Bool => z.1) (obsB_at.symm.trans e), congrArg (fun z : He.AlD × Bool => z.2) (obsB_at.symm.trans e)⟩
  keeps := fun _ _ _ ⟨K, hK, c⟩ k => ⟨K, PySem.W.Frag.In.keeps hK k, c⟩
theorem obsB_eq {ns : List Str} {n : Nat} {fn : List He.DefD} {ex : PySem.W.Frag → Bool} {g : Addr → Option Obj} {s : Shared} (h : ∀ a, g a = s.heap.get? a) : obsB ns n fn ex g = (hookB ns n fn ex).obs s := by
  have e : g = s.heap.get? := funext h
  rw [e]
  rfl
/-! ### places of the text -/
def stmtAt (P : Program) (i : Nat) : Stmt := P.main.body.getD i (.Pass ⟨0, 0, 0, 0⟩)
def stmtIn (P : Program) (i j : Nat) : Stmt := match stmtAt P i with
  | .ClassDef _ _ _ b _ _ _ _ _ _ _ => b.getD j (.Pass ⟨0, 0, 0, 0⟩)
  | _ => .Pass ⟨0, 0, 0, 0⟩
/-- a def of the text: its key, where it stands, its names; its statement, its slots, how many of them are parameters; its defaults -/
structure DefP where
  key : Key2
  at_ : Str × Option Str
  name : Str
  qual : Str
  st : Stmt
  N : List Str
  np : Nat
  dfl : List He.Dv
  kwd : List (Str × He.Dv)
def DefP.d (p : DefP) : He.DefD := ⟨p.at_, p.name, p.qual, defArgs p.st, defBody p.st, defScope p.st, p.dfl, p.kwd⟩
/-! ### the check of a def -/
def cvB : AV → He.Dv → Bool
  | .non, .non => true
  | .bl b, .bl c => b == c
  | .int i, .int j => decide (i = j)
  | .str s, .str t => decide (t.cps.toList = s)
  | _, _ => false
theorem cvB_ok {v : AV} {d : He.Dv} (h : cvB v d = true) (K : PySem.W.Frag) : RC v (d.v K) := by
  intro K' μ n H
  unfold cvB at h
  split at h
  · exact ra_non
  · have e := eq_of_beq h; subst e; exact ra_bl
  · have e := of_decide_eq_true h; subst e; exact ra_int
  · have e := of_decide_eq_true h
    rename_i s t
    show RA K' μ n H (.str s) (.str t)
    rw [← sO_keyA t, e]
    exact ra_str
  · cases h
def cvsB : List AV → List He.Dv → Bool
  | [], [] => true
  | v :: vs, d :: ds => cvB v d && cvsB vs ds
  | _, _ => false
theorem cvsB_ok (K : PySem.W.Frag) : ∀ {vs : List AV} {ds : List He.Dv}, cvsB vs ds = true → RCs vs (ds.map (He.Dv.v K))
  | [], [], _ => .nil
  | v :: vs, d :: ds, h => by
    simp only [cvsB, Bool.and_eq_true] at h
    exact .cons (cvB_ok h.1 K) (cvsB_ok K h.2)
  | [], _ :: _, h => by cases h
  | _ :: _, [], h => by cases h
def kvsB (T : List Str) : List (Nat × AV) → List (Str × He.Dv) → Bool
  | [], [] => true
  | v :: vs, d :: ds => decide (v.1 < T.length) && decide (d.1 = nmT T v.1) && cvB v.2 d.2 && kvsB T vs ds
  | _, _ => false
theorem kvsB_ok (S : Sx) (K : PySem.W.Frag) : ∀ {vs : List (Nat × AV)} {ds : List (Str × He.Dv)}, kvsB S.at_ vs ds = true → RKw S vs (ds.map fun q => (q.1, q.2.v K))
  | [], [], _ => .nil
  | (a, v) :: vs, (x, d) :: ds, h => by
    simp only [kvsB, Bool.and_eq_true, decide_eq_true_eq] at h
    obtain ⟨⟨⟨h1, h2⟩, h3⟩, h4⟩ := h
    subst h2
    exact .cons h1 (cvB_ok h3 K) (kvsB_ok S K h4)
  | [], _ :: _, h => by cases h
  | _ :: _, [], h => by cases h
def sigB (T : List Str) (f : Fn) (a : Arguments) (np : Nat) (N : List Str) (dfl : List He.Dv) (kwd : List (Str × He.Dv)) : Bool :=
  a.posonlyargs.isEmpty && a.kwarg.isNone && decide (a.args.map (·.arg) = f.ps.map (nmT T)) && decide (a.kwonlyargs.map (·.arg) = (f.kwo.map (·.1)).map (nmT T)) && (a.vararg.isSome == f.va) &&
  decide (N.take np = a.args.map (·.arg) ++ a.kwonlyargs.map (·.arg) ++ a.vararg.toList.map (·.arg)) && ((f.ps ++ f.kwo.map (·.1)).all fun n => decide (n < T.length)) && decide (f.ps ++ f.kwo.map (·.1)).Nodup && decide (f.dfl.length ≤ f.ps.length) && cvsB f.dfl dfl && kvsB T (kwD f) kwd
theorem sigB_ok {S : Sx} {f : Fn} {a : Arguments} {np : Nat} {N : List Str} {dfl : List He.Dv} {kwd : List (Str × He.Dv)} (h : sigB S.at_ f a np N dfl kwd = true) (K : PySem.W.Frag) : Sig S f a (dfl.map (He.Dv.v K)) (kwd.map fun q => (q.1, q.2.v K)) (N.take np) := by
  unfold sigB at h
  simp only [Bool.and_eq_true, decide_eq_true_eq, List.isEmpty_iff, Option.isNone_iff_eq_none, List.all_eq_true, beq_iff_eq] at h
  obtain ⟨⟨⟨⟨⟨⟨⟨⟨⟨⟨h1, h2⟩, h3⟩, h4⟩, h5⟩, h6⟩, h7⟩, h8⟩, h9⟩, h10⟩, h11⟩ := h
  obtain ⟨po, ar, va, kwo, kd, kw, df⟩ := a
  dsimp only at h1 h2 h3 h4 h5 h6
  subst h1 h2
  exact ⟨⟨ar, kwo, va, kd, df, rfl, h3, h4, h5, h6⟩, h7, h8, h9, cvsB_ok K h10, kvsB_ok S K h11⟩
def scopeB (N pn : List Str) (sc : Scope) : Bool :=
  decide (sc.kind = .function) && !sc.isCoroutine && !sc.isGenerator && decide N.Nodup && decide (N.take pn.length = pn) && (pn.all fun x => locB sc x) && (sc.names.all fun y => decide (y.2 ≠ .free))
theorem scopeB_ok {N pn : List Str} {sc : Scope} (h : scopeB N pn sc = true) : FnScope N pn sc := by
  unfold scopeB at h
  simp only [Bool.and_eq_true, decide_eq_true_eq, Bool.not_eq_true', List.all_eq_true] at h
  obtain ⟨⟨⟨⟨⟨⟨h1, h2⟩, h3⟩, h4⟩, h5⟩, h6⟩, h7⟩ := h
  refine ⟨h1, h2, h3, h4, h5, fun x hx => ?_, h7⟩
  have := h6 x hx
  unfold locB at this
  split at this
  · rename_i e; exact .inl e
  · rename_i e; exact .inr e
  · cases this
def defB (G : Gm) (T : List Str) (f : Fn) (p : DefP) : Bool :=
  sigB T f (defArgs p.st) p.np p.N p.dfl p.kwd && scopeB p.N (p.N.take p.np) (defScope p.st) && decide (p.N.length = f.slots) && (p.N.all nmOk) && okB G T p.N (defScope p.st) f.body (defBody p.st)
theorem defB_ok {S : Sx} {f : Fn} {p : DefP} (h : defB S.G S.at_ f p = true) (hf : S.fA p.key = He.fAd S.K p.at_) (hd : ∃ fd, FunD S.K p.name p.qual (defArgs p.st) (defBody p.st) (defScope p.st) (p.dfl.map (He.Dv.v S.K)) (p.kwd.map fun q => (q.1, q.2.v S.K)) (He.fAd S.K p.at_) fd) : DefF S p.key f := by
  unfold defB at h
  simp only [Bool.and_eq_true, decide_eq_true_eq, List.all_eq_true] at h
  obtain ⟨⟨⟨⟨h1, h2⟩, h3⟩, h4⟩, h5⟩ := h
  obtain ⟨fd, hfd⟩ := hd
  rw [← hf] at hfd
  exact ⟨p.name, p.qual, _, _, _, _, _, fd, p.N, _, hfd, sigB_ok h1 S.K, scopeB_ok h2, h3, h4, h5⟩
/-- all defs, in order -/
def defsB (G : Gm) (T : List Str) : List (Key2 × Fn) → List DefP → Bool
  | [], [] => true
  | q :: qs, p :: ps => decide (q.1 = p.key) && decide (p.at_ = if q.1.1 = 0 then (nmT T q.1.2, none) else (nmT T q.1.1, some (nmT T q.1.2))) && defB G T q.2 p && defsB G T qs ps
  | _, _ => false
theorem defsB_ok {G : Gm} {T : List Str} : ∀ {qs : List (Key2 × Fn)} {ps : List DefP}, defsB G T qs ps = true → ∀ {key : Key2} {f : Fn}, qs.lookup key = some f → ∃ p ∈ ps, p.key = key ∧ p.at_ = (if key.1 = 0 then (nmT T key.2, none) else (nmT T key.1, some (nmT T key.2))) ∧ defB G T f p = true
  | [], [], _, key, f, h => by cases h
  | q :: qs, p :: ps, hb, key, f, h => by
    simp only [defsB, Bool.and_eq_true, decide_eq_true_eq] at hb
    obtain ⟨⟨⟨h1, h2⟩, h3⟩, h4⟩ := hb
    obtain ⟨qk, qf⟩ := q
    rw [List.lookup_cons] at h
    cases e : key == qk with
    | true =>
      rw [e] at h
      have e2 := eq_of_beq e
      subst e2
      cases h
      exact ⟨p, List.mem_cons_self .., h1.symm, h2, h3⟩
    | false =>
      rw [e] at h
      obtain ⟨p2, m, z⟩ := defsB_ok h4 h
      exact ⟨p2, List.mem_cons_of_mem _ m, z⟩
  | [], _ :: _, h, _, _, _ => by cases h
  | _ :: _, [], h, _, _, _ => by cases h
/-! ### the check of the written part -/
/-- a constant of the module: a number, a text, a tuple of such -/
def relC (K : PySem.W.Frag) (v : AV) (u : Value) : Bool := match v, u with
  | .non, .none => true
  | .bl b, .bool c => b == c
  | .int i, .int j _ => decide (i = j)
  | .str s, .str t _ => decide (t.cps.toList = s)
  | _, _ => false
def relCs (K : PySem.W.Frag) : List AV → List Value → Bool
  | [], [] => true
  | v :: vs, u :: us => relC K v u && relCs K vs us
  | _, _ => false
def relT (K : PySem.W.Frag) (v : AV) (u : Value) : Bool := match v, u with
  | .kt xs, .ref a => (match K.lookup a with
    | some ⟨.type "tuple", _, .seq its _, _⟩ => decide (its.size ≤ sizeLine) && relCs K xs its.toList
    | _ => false)
  | v, u => relC K v u
theorem relC_ok {K K' : PySem.W.Frag} {v : AV} {u : Value} (h : relC K v u = true) : ∃ x, RelV x u ∧ ∀ (μ : Nat → Addr) (n : Nat) (H : Hp), RA K' μ n H v x := by
  unfold relC at h
  split at h
  · exact ⟨.non, rfl, fun _ _ _ => ra_non⟩
  · have e := eq_of_beq h; subst e; exact ⟨.bl _, rfl, fun _ _ _ => ra_bl⟩
  · have e := of_decide_eq_true h; subst e; exact ⟨.int _, ⟨_, rfl⟩, fun _ _ _ => ra_int⟩
  · have e := of_decide_eq_true h
    rename_i s t tk
    refine ⟨.str t, ⟨_, rfl⟩, fun _ _ _ => ?_⟩
    rw [← sO_keyA t, e]
    exact ra_str
  · cases h
theorem relCs_ok {K : PySem.W.Frag} : ∀ {vs : List AV} {us : List Value}, relCs K vs us = true → ∃ xs, Vals xs us ∧ ∀ (μ : Nat → Addr) (n : Nat) (H : Hp), RAs K μ n H vs xs
  | [], [], _ => ⟨[], .nil, fun _ _ _ => .nil⟩
  | v :: vs, u :: us, h => by
    simp only [relCs, Bool.and_eq_true] at h
    obtain ⟨x, r1, r2⟩ := relC_ok (K' := K) h.1
    obtain ⟨xs, s1, s2⟩ := relCs_ok h.2
    exact ⟨x :: xs, .cons r1 s1, fun μ n H => .cons (r2 μ n H) (s2 μ n H)⟩
  | [], _ :: _, h => by cases h
  | _ :: _, [], h => by cases h
theorem relT_ok {K : PySem.W.Frag} {v : AV} {u : Value} (h : relT K v u = true) : ∃ x, RelV x u ∧ ∀ (μ : Nat → Addr) (n : Nat) (H : Hp), RA K μ n H v x := by
  unfold relT at h
  split at h
  · rename_i xs a
    split at h
    · rename_i od its n sl e
      rw [Bool.and_eq_true, decide_eq_true_eq] at h
      obtain ⟨zs, r1, r2⟩ := relCs_ok h.2
      refine ⟨.ref a, rfl, fun μ m H => ?_⟩
      rw [RA]
      exact ⟨a, zs, rfl, ⟨_, its, n, e, rfl, rfl, h.1, r1⟩, r2 μ m H⟩
    · cases h
  · exact relC_ok h
def cAd (T : List Str) (K : PySem.W.Frag) (c : Nat) : Addr := He.ga K (nmT T c)
def fAd2 (T : List Str) (K : PySem.W.Frag) (key : Key2) : Addr := He.fAd K (if key.1 = 0 then (nmT T key.2, none) else (nmT T key.1, some (nmT T key.2)))
def gloB (K : PySem.W.Frag) (x : Str) : Bool := He.eqO (PySem.W.nsIn K mainGlobals x) (some (some (.ref (He.ga K x))))
def conB (K : PySem.W.Frag) (x : Str) (v : AV) : Bool := match PySem.W.nsIn K mainGlobals x with
  | some (some u) => relT K v u
  | _ => false
def freeB (K : PySem.W.Frag) (x : Str) : Bool := He.eqO (PySem.W.nsIn K mainGlobals x) (some none)
/-- one class -/
def clB2 (T : List Str) (K : PySem.W.Frag) (c : Nat) : Bool :=
  He.eqO (PySem.W.findIn K (.ref (cAd T K c)) "__class__") (some (some (.builtin "object.__class__"))) && decide (PySem.W.specialIn K (.builtin "object.__class__") "__get__" = some (some (.builtin "getset_descriptor.__get__"))) &&
  decide (PySem.W.takesIn K (.builtin "object.__class__") = some true) && decide (PySem.W.mroIn K (cAd T K c) (.type "object") = some true)
def clB3 (G : Gm) (T : List Str) (K : PySem.W.Frag) (c : Nat) (k : Cl) : Bool :=
  (G.cls.all fun g => decide (PySem.W.kitOne K (.ref (cAd T K c)) (.ref (cAd T K g.1)) = some (k.mro.contains g.1))) && (bTys.all fun t => decide (PySem.W.kitOne K (.ref (cAd T K c)) (.type t) = some false)) && (vTys.all fun t => decide (PySem.W.kitOne K (.type t) (.ref (cAd T K c)) = some false))
def clB4 (T : List Str) (K : PySem.W.Frag) (c : Nat) (k : Cl) : Bool :=
  (k.cons.isEmpty || (PySem.W.readsIn K (cAd T K c) (.type "type") && decide (PySem.W.specialIn K (.ref (cAd T K c)) "__getattribute__" = some (some (.builtin "type.__getattribute__"))))) &&
  (k.cons.all fun q => match PySem.W.findCls K (.ref (cAd T K c)) (.type "type") (nmT T q.1) with
    | some (.val u) => relT K q.2 u
    | _ => false)
def clB (G : Gm) (T : List Str) (K : PySem.W.Frag) (c : Nat) (k : Cl) : Bool :=
  gloB K (nmT T c) && (PySem.W.plainGet K (cAd T K c) Str.empty && (PySem.W.hasDictIn K (cAd T K c) && (PySem.W.plainOver K (cAd T K c) && He.eqO (PySem.W.findIn K (.ref (cAd T K c)) "__setattr__") (some (some (.builtin "object.__setattr__")))))) && clB2 T K c && clB3 G T K c k && clB4 T K c k
def fctB (G : Gm) (T : List Str) (K : PySem.W.Frag) : Bool :=
  (G.fns.all fun q => if q.1.1 = 0 then gloB K (nmT T q.1.2) else true) && (G.cons.all fun q => conB K (nmT T q.1) q.2) && (bltNames.all fun x => freeB K x) && (G.cls.all fun q => clB G T K q.1 q.2)
/-- what stands still, by the written part -/
def sxOf (P : Program) (w : World) (K : PySem.W.Frag) (mg : Str → Option Value) (base : Heap) (G : Gm) (T : List Str) : Sx := ⟨P, w, K, mg, base, G, T, cAd T K, fAd2 T K⟩
theorem mem_of_lookupN {β : Type} {l : List (Nat × β)} {a : Nat} {b : β} (h : l.lookup a = some b) : (a, b) ∈ l := by
  induction l with
  | nil => cases h
  | cons q l ih =>
    obtain ⟨x, y⟩ := q
    rw [List.lookup_cons] at h
    cases e : a == x with
    | true =>
      rw [e] at h
      cases h
      have := eq_of_beq e
      subst this
      exact List.mem_cons_self ..
    | false =>
      rw [e] at h
      exact List.mem_cons_of_mem _ (ih h)
theorem mem_of_lookupK {β : Type} {l : List (Key2 × β)} {a : Key2} {b : β} (h : l.lookup a = some b) : (a, b) ∈ l := by
  induction l with
  | nil => cases h
  | cons q l ih =>
    obtain ⟨x, y⟩ := q
    rw [List.lookup_cons] at h
    cases e : a == x with
    | true =>
      rw [e] at h
      cases h
      have := eq_of_beq e
      subst this
      exact List.mem_cons_self ..
    | false =>
      rw [e] at h
      exact List.mem_cons_of_mem _ (ih h)
section
variable {P : Program} {w : World} {K : PySem.W.Frag} {mg : Str → Option Value} {base : Heap} {G : Gm} {T : List Str}
theorem fct_ok (nd : T.Nodup) (nm : ∀ x ∈ T, nmOk x = true) (h : fctB G T K = true) (X : K.In base) (NS : base.Ns mainGlobals mg)
    (kp : ∀ key f, G.fns.lookup key = some f → PySem.W.keepIn K (.ref (fAd2 T K key)) = true) : Fct (sxOf P w K mg base G T) := by
  unfold fctB at h
  simp only [Bool.and_eq_true, List.all_eq_true] at h
  obtain ⟨⟨⟨h1, h2⟩, h3⟩, h4⟩ := h
  have cl : ∀ c k, G.cls.lookup c = some k → clB G T K c k = true := fun c k hk => h4 _ (mem_of_lookupN hk)
  have unp : ∀ c k, G.cls.lookup c = some k → (gloB K (nmT T c) = true ∧ L2.Cls K (cAd T K c)) ∧ (PySem.W.findIn K (.ref (cAd T K c)) "__class__" = some (some (.builtin "object.__class__")) ∧ PySem.W.specialIn K (.builtin "object.__class__") "__get__" = some (some (.builtin "getset_descriptor.__get__")) ∧
      PySem.W.takesIn K (.builtin "object.__class__") = some true ∧ PySem.W.mroIn K (cAd T K c) (.type "object") = some true) ∧ (∀ g ∈ G.cls, PySem.W.kitOne K (.ref (cAd T K c)) (.ref (cAd T K g.1)) = some (k.mro.contains g.1)) ∧ (∀ t ∈ bTys, PySem.W.kitOne K (.ref (cAd T K c)) (.type t) = some false) ∧ (∀ t ∈ vTys, PySem.W.kitOne K (.type t) (.ref (cAd T K c)) = some false) ∧
      (k.cons.isEmpty = true ∨ (PySem.W.readsIn K (cAd T K c) (.type "type") = true ∧ PySem.W.specialIn K (.ref (cAd T K c)) "__getattribute__" = some (some (.builtin "type.__getattribute__")))) ∧ ∀ q ∈ k.cons, (match PySem.W.findCls K (.ref (cAd T K c)) (.type "type") (nmT T q.1) with
    | some (.val u) => relT K q.2 u
    | _ => false) = true := fun c k hk => by
    have z := cl c k hk
    have z : (gloB K (nmT T c) && (PySem.W.plainGet K (cAd T K c) Str.empty && (PySem.W.hasDictIn K (cAd T K c) && (PySem.W.plainOver K (cAd T K c) && He.eqO (PySem.W.findIn K (.ref (cAd T K c)) "__setattr__") (some (some (.builtin "object.__setattr__")))))) && clB2 T K c && clB3 G T K c k && clB4 T K c k) = true := z
    simp only [Bool.and_eq_true] at z
    obtain ⟨⟨⟨⟨a1, a2, a3, a4, a5⟩, a6⟩, a7⟩, a8⟩ := z
    unfold clB2 at a6
    simp only [Bool.and_eq_true, decide_eq_true_eq] at a6
    obtain ⟨⟨⟨b1, b2⟩, b3⟩, b4⟩ := a6
    unfold clB3 at a7
    simp only [Bool.and_eq_true] at a7
    obtain ⟨⟨d1, d2⟩, d3⟩ := a7
    unfold clB4 at a8
    simp only [Bool.and_eq_true] at a8
    obtain ⟨e1, e2⟩ := a8
    refine ⟨⟨a1, a2, a3, a4, He.eqO_ok a5⟩, ⟨He.eqO_ok b1, b2, b3, b4⟩, fun g hg => ?_, fun t ht => ?_, fun t ht => ?_, ?_, fun q hq => List.all_eq_true.mp e2 q hq⟩
    · exact of_decide_eq_true (List.all_eq_true.mp d1 g hg)
    · exact of_decide_eq_true (List.all_eq_true.mp d2 t ht)
    · exact of_decide_eq_true (List.all_eq_true.mp d3 t ht)
    · simp only [Bool.or_eq_true, Bool.and_eq_true, decide_eq_true_eq] at e1
      exact e1
  refine ⟨nd, nm, fun f fd hf => ?_, fun g v hv => ?_, fun x hx => ?_, ?_, fun c k hk => ?_, fun c k n v hk hv => ?_⟩
  · have := h1 _ (mem_of_lookupK hf)
    rw [if_pos rfl] at this
    refine ⟨PySem.W.mg_of X NS (He.eqO_ok this), kp _ _ hf⟩
  · have := h2 _ (mem_of_lookupN hv)
    unfold conB at this
    split at this
    · rename_i u e
      obtain ⟨x, r1, r2⟩ := relT_ok this
      exact ⟨x, u, PySem.W.mg_of X NS e, r1, r2⟩
    · cases this
  · exact PySem.W.mg_none_of X NS (He.eqO_ok (h3 x hx))
  · refine ⟨fun c k hk => (unp c k hk).1.2, fun c k hk => (unp c k hk).2.1.1, fun c k hk => (unp c k hk).2.1.2.1, fun c k hk => (unp c k hk).2.1.2.2.1, fun c k hk => (unp c k hk).2.1.2.2.2, fun c k g k2 hk hg => (unp c k hk).2.2.1 _ (mem_of_lookupN hg),
      fun c k t hk ht => (unp c k hk).2.2.2.1 t ht, fun g k t hg ht => (unp g k hg).2.2.2.2.1 t ht⟩
  · exact PySem.W.mg_of X NS (He.eqO_ok (unp c k hk).1.1)
  · have z := (unp c k hk).2.2.2.2.2
    have hm := mem_of_lookupN hv
    have q := z.2 _ hm
    rcases z.1 with e | ⟨r1, r2⟩
    · rw [List.isEmpty_iff] at e
      rw [e] at hm
      cases hm
    · split at q
      · rename_i u eu
        obtain ⟨x, y1, y2⟩ := relT_ok q
        exact ⟨.type "type", x, u, ⟨r1, r2⟩, ⟨eu, y1⟩, y2⟩
      · cases q
end
end Br

set_option linter.all false
set_option Elab.async false
set_option autoImplicit false
set_option maxRecDepth 100000
set_option maxHeartbeats 400000
/-! BrF2: the law's def keeps its promise. -/
namespace Br
open PySem PySem.Spec PyProof.Rows L2

/-- no class has a method of a special name -/
def noOwn (G : Gm) : Bool := G.cls.all fun q => q.2.meths.all fun z => decide (8 < z.1)
theorem noOwn_meth {G : Gm} (h : noOwn G = true) {c m : Nat} {key : Key2} (e : G.meth c m = some key) : 8 < m := by
  unfold Gm.meth at e
  obtain ⟨k, hk, hm⟩ := Option.bind_eq_some_iff.mp e
  have h1 := List.all_eq_true.mp h _ (mem_of_lookupN hk)
  have h2 := List.all_eq_true.mp h1 _ (mem_of_lookupN hm)
  exact of_decide_eq_true h2
theorem own_none {S : Sx} (h : noOwn S.G = true) (C : Callee) (W : WX) (X : Cx) : OwnH S W X C := by
  refine ⟨fun b m hb c key e => ?_, fun o m ho c key e => ?_, fun o m neg sw ho c key e => ?_⟩
  · have := noOwn_meth h e
    rcases hb with ⟨_, rfl⟩ | ⟨_, rfl⟩ | ⟨_, rfl⟩ <;> exact absurd this (by decide)
  · have := noOwn_meth h e
    rcases ho with ⟨_, rfl⟩ | ⟨_, rfl⟩ <;> exact absurd this (by decide)
  · have := noOwn_meth h e
    rcases ho with ⟨_, rfl, _⟩ | ⟨_, rfl, _⟩ | ⟨_, rfl, _⟩ | ⟨_, rfl, _⟩ <;> exact absurd this (by decide)
/-- the law's promise -/
def spL (K : PySem.W.Frag) : Sp := fun vs H Q _ => ∃ (a : Addr) (ns : List Int), vs = [.ref a] ∧ Fz K H a (ns.map V.int) ∧ ns.length ≤ 63 ∧ ∀ H', Q (.bl true) H'
theorem fz_of {K : PySem.W.Frag} {H : Hp} {a : Addr} {xs : List V} (hO : Only H) (h : SqL K H a xs) : Fz K H a xs := by
  rcases h with h | h
  · rcases h with h | ⟨o, h⟩
    · rcases hO a with e | ⟨o, ys, e⟩
      · rw [e] at h; cases h
      · rw [e] at h; cases h
    · exact .inl ⟨o, h⟩
  · exact .inr h
theorem ints_ra {K : PySem.W.Frag} {μ : Nat → Addr} {n : Nat} {H : Hp} : ∀ ns : List Int, RAs K μ n H (ns.map AV.int) (ns.map V.int)
  | [] => .nil
  | i :: ns => .cons ra_int (ints_ra ns)
theorem law_ok {S : Sx} (F : Fct S) (D : ∀ key f, S.G.fns.lookup key = some f → DefF S key f) (own : ∀ (C : Callee) (k : Nat), CallOk S C k → ∀ (W : WX) (X : Cx), Ok0 S W k X → OwnH S W X C) {f : Fn} {p : DefP} (h : defB S.G S.at_ f p = true) {fd : FuncData}
    (hd : FunD S.K p.name p.qual (defArgs p.st) (defBody p.st) (defScope p.st) (p.dfl.map (He.Dv.v S.K)) (p.kwd.map fun q => (q.1, q.2.v S.K)) (He.fAd S.K p.at_) fd) {x : Str} (hx : p.N.take p.np = [x]) (k : Nat)
    (hM : ∀ ns : List Int, ns.length ≤ 63 → ∃ h1, evB S.G (callAt S.G k) f.body (some (.fl (ns.map AV.int)) :: List.replicate (f.slots - 1) none) [] = .rt (.bl true) h1) :
    FnOk S.P S.w S.K S.mg S.base (L2.CX S.P S.w) (k + 1) (He.fAd S.K p.at_) fd [x] (spL S.K) := by
  unfold defB at h
  simp only [Bool.and_eq_true, decide_eq_true_eq, List.all_eq_true] at h
  obtain ⟨⟨⟨⟨h1, h2⟩, h3⟩, h4⟩, h5⟩ := h
  have sc := scopeB_ok h2
  rw [hx] at sc
  have CO := callOk S F D own k
  refine hd.ok sc (fun vs H Q E ⟨a, ns, e, _⟩ => by rw [e]; rfl) fun cdv A outer s H vs Q E hr ⟨a, ns, ev, hz, hl, hq⟩ => ?_
  subst ev
  have g : Gs S (fun c d _ H' => E c d H') (callAt S.G k) k p.N (defScope p.st) (cxOf (L2.CX S.P S.w) S.P S.w S.K S.mg S.base p.N p.qual (defScope p.st) (He.fAd S.K p.at_) cdv A outer s H E) :=
    ⟨⟨⟨rfl, rfl, rfl, rfl, rfl, hr, rfl, takes_of rfl rfl rfl rfl⟩, rfl, sc.nd, h4, fun x kd _ e => e, fun x e => .inr e, fun _ _ => rfl, own _ _ CO⟩, rfl, passes_of rfl⟩
  obtain ⟨hh, eM⟩ := hM ns hl
  refine ⟨_, sndB F CO g f.body h5, fun _ => 0, [], some (.fl (ns.map AV.int)) :: List.replicate (f.slots - 1) none, ⟨fun i j hi => absurd hi (Nat.not_lt_zero _), fun i o e => by cases e⟩, ⟨?_, fun i v e => ?_⟩, ?_⟩
  · show (some (AV.fl (ns.map AV.int)) :: List.replicate (f.slots - 1) none).length = (L2.start p.N [V.ref a]).length
    unfold L2.start
    rw [List.length_cons, List.length_append, List.length_map, List.length_replicate, List.length_replicate, h3]
    simp only [List.length_cons, List.length_nil]
    omega
  · cases i with
    | zero =>
      cases e
      refine ⟨.ref a, rfl, ?_⟩
      rw [RA]
      exact ⟨a, _, rfl, hz, ints_ra ns⟩
    | succ i =>
      rw [List.getElem?_cons_succ, List.getElem?_replicate] at e
      split at e <;> cases e
  · rw [eM]
    intro μ' H' y E3 A3 r3
    rw [r3.bl]
    exact hq H'
end Br

set_option linter.all false
set_option Elab.async false
set_option autoImplicit false
set_option maxRecDepth 100000
set_option maxHeartbeats 400000
/-! BrW: from the law's promise to the walk. -/
namespace Br
open PySem PySem.Spec PyProof.Rows L2
/-- what a law's promise needs at a world -/
def LawW (l : PySem.W.OpenLaw) (w : World) (CX : CXT) (k : Nat) (x : Str) (mg : Str → Option Value) (fa : Addr) (h : Heap) : Prop :=
  ∃ (K : PySem.W.Frag) (fd : FuncData), K.In h ∧ (∀ (s : Shared) (u : Value), BindsTo s fd ⟨[u], []⟩ [(x, u)]) ∧ ∀ base : Heap, K.In base → base.Ns mainGlobals mg → FnOk l.prog w K mg base CX k fa fd [x] (spL K)
theorem no_cx {P : Program} {w : World} {H : Hp} {s s' : Shared} {e : Value} (c : L2.CX P w [] H s (fun _ _ _ => False) e s') : False := by
  obtain ⟨a, B, H', cls, d, h⟩ := c
  exact h.2.2.2.2.2.2.2
theorem walk_ofW {l : PySem.W.OpenLaw} {k : Nat} {q : Program} {loose : List Str} {XP : (Str → Option Value) → Heap → Prop} {YP : World → Heap → Prop} {d : DefRec} {x : Str}
    (h63 : l.most = some 63) (nodef : d.params.defaults = []) (room : Room k callerA)
    (F : ∀ (w : World) (mg : Str → Option Value) (fa : Addr) (h : Heap), YP w h → h.Ns mainGlobals mg → mg d.name = some (.ref fa) → LawW l w (L2.CX l.prog w) k x mg fa h) :
    PySem.W.WalkO q loose XP YP l.row.toRowW d [] (fun f vs => PySem.call f vs) := by
  refine Att.attach_call h63 nodef fun w s0 s1 mg mb fa o pm cd doc a vs ns G Y h1 h2 h3 inMg isObj areInts short gens => ?_
  obtain ⟨K, fd, inK, binds, ok⟩ := F w mg fa _ Y G.T.g inMg
  refine law_call inK G.T.g G.T.b G.T.builtins G.T.nolimit gens isObj areInts (Nat.le_trans short (by decide)) room ok binds ?_ fun H e s' => no_cx
  exact fun H only seq => ⟨a, ns, rfl, fz_of only seq, short, fun _ => rfl⟩
section
variable {P : Program} {w : World} {K : PySem.W.Frag} {mg : Str → Option Value} {base : Heap} {G : Gm} {T : List Str} {ps : List DefP}
theorem says_def (c : He.SaysD [] (ps.map DefP.d) K) {p : DefP} (hp : p ∈ ps) : ∃ fd, FunD K p.name p.qual (defArgs p.st) (defBody p.st) (defScope p.st) (p.dfl.map (He.Dv.v K)) (p.kwd.map fun q => (q.1, q.2.v K)) (He.fAd K p.at_) fd := by
  obtain ⟨i, hi⟩ := List.getElem?_of_mem hp
  exact c.def_ i (d := p.d) (by rw [List.getElem?_map, hi]; rfl)
theorem defs_ok (hb : defsB G T G.fns ps = true) (c : He.SaysD [] (ps.map DefP.d) K) {key : Key2} {f : Fn} (e : G.fns.lookup key = some f) : DefF (sxOf P w K mg base G T) key f := by
  obtain ⟨p, hp, rfl, ha, hd⟩ := defsB_ok hb e
  exact defB_ok (S := sxOf P w K mg base G T) hd (by rw [ha]; rfl) (says_def c hp)
theorem defs_kp (hb : defsB G T G.fns ps = true) (c : He.SaysD [] (ps.map DefP.d) K) {key : Key2} {f : Fn} (e : G.fns.lookup key = some f) : PySem.W.keepIn K (.ref (fAd2 T K key)) = true := by
  obtain ⟨p, hp, rfl, ha, hd⟩ := defsB_ok hb e
  obtain ⟨fd, F⟩ := says_def c hp
  have := F.kp
  rw [ha] at this
  exact this
/-- all in one: the law's def is the first of the defs -/
theorem lawW_of {l : PySem.W.OpenLaw} {fl : Fn} {x : Str} {pl : DefP} {fa : Addr} {h : Heap} (nd : T.Nodup) (nm : ∀ y ∈ T, nmOk y = true) (hb : defsB G T G.fns ps = true) (own : noOwn G = true)
    (X : K.In h) (NS : h.Ns mainGlobals mg) (c : He.SaysD [] (ps.map DefP.d) K) (ex : fctB G T K = true)
    (hl : pl ∈ ps) (hdb : defB G T fl pl = true) (hx : pl.N.take pl.np = [x]) (hdf : pl.dfl = []) (hat : pl.at_ = (nmT T pl.key.2, none)) (hk : G.fns.lookup (0, pl.key.2) = some fl) (hfa : mg (nmT T pl.key.2) = some (.ref fa))
    (hbind : ∀ (kV doc pm : Value) (an : Option Addr) (cdv ct : Value) (us : List Value), us.length = [x].length → bindArgs (PySem.W.fnOf pl.name pl.qual (defArgs pl.st) (defBody pl.st) (defScope pl.st) .none kV doc pm an cdv ct) ⟨us, []⟩ = pure ([x].zip us)) (n : Nat)
    (hM : ∀ ns : List Int, ns.length ≤ 63 → ∃ h1, evB G (callAt G n) fl.body (some (.fl (ns.map AV.int)) :: List.replicate (fl.slots - 1) none) [] = .rt (.bl true) h1) :
    LawW l w (L2.CX l.prog w) (n + 1) x mg fa h := by
  obtain ⟨fd, F⟩ := says_def c hl
  have kp : ∀ key f, G.fns.lookup key = some f → PySem.W.keepIn K (.ref (fAd2 T K key)) = true := fun key f e => defs_kp hb c e
  have efa : fa = He.fAd K pl.at_ := by
    have := (fct_ok (P := l.prog) (w := w) nd nm ex X NS kp).fn pl.key.2 fl hk
    have e2 : mg (nmT T pl.key.2) = some (.ref (fAd2 T K (0, pl.key.2))) := this.1
    rw [hfa] at e2
    cases e2
    rw [hat]
    rfl
  have F2 := F
  rw [hdf] at F2
  have b := FunD.bindsA (ps := [x]) F2 hbind
  refine ⟨K, fd, X, fun s v => b s [v] rfl, fun base X2 NS2 => ?_⟩
  rw [efa]
  exact law_ok (S := sxOf l.prog w K mg base G T) (fct_ok nd nm ex X2 NS2 kp) (fun key f e => defs_ok hb c e) (fun C k _ W X _ => own_none own C W X) hdb F hx n hM
end
end Br

set_option linter.all false
set_option Elab.async false
set_option autoImplicit false
set_option maxRecDepth 100000
set_option maxHeartbeats 2000000
/-! BrP: what the machine does, as a law on what comes after. -/
namespace Br
/-- r is a value of which Q holds -/
def Rw {α : Type} (r : Res α) (Q : α → AH → Prop) : Prop := match r with
  | .ok v h => Q v h
  | _ => False
/-- after statements: N where they go on, R where they return -/
def Sw (r : SR) (N : Lc → AH → Prop) (R : AV → AH → Prop) : Prop := match r with
  | .nx a h => N a h
  | .rt v h => R v h
  | _ => False
section
variable {α β : Type} {G : Gm} {C : Callee} {a : Lc} {h : AH} {Q : AV → AH → Prop}
theorem Rw.mono {r : Res α} {P Q : α → AH → Prop} (w : Rw r P) (i : ∀ v h, P v h → Q v h) : Rw r Q := by
  cases r with
  | ok v h => exact i v h w
  | exc c fs h => exact w
  | fail => exact w
theorem Sw.mono {r : SR} {N N' : Lc → AH → Prop} {R R' : AV → AH → Prop} (w : Sw r N R) (i : ∀ a h, N a h → N' a h) (j : ∀ v h, R v h → R' v h) : Sw r N' R' := by
  cases r with
  | nx a h => exact i a h w
  | rt v h => exact j v h w
  | ct a h => exact w
  | exc c fs a h => exact w
  | fail => exact w
theorem Rw.get {r : Res α} {Q : α → AH → Prop} (w : Rw r Q) : ∃ v h, r = .ok v h ∧ Q v h := by
  cases r with
  | ok v h => exact ⟨v, h, rfl, w⟩
  | exc c fs h => exact w.elim
  | fail => exact w.elim
theorem rw_mb {m : M α} {f : α → M β} {Q : β → AH → Prop} : Rw (mb m f a h) Q = Rw (m a h) fun v h => Rw (f v a h) Q := by
  unfold mb
  cases m a h <;> rfl
theorem wE_loc {i : Nat} : Rw (evE G C (.loc i) a h) Q = ∃ v, a[i]? = some (some v) ∧ Q v h := by
  show Rw (match a[i]? with | some (some v) => .ok v h | _ => .fail) Q = _
  cases e : a[i]? with
  | none => exact propext ⟨fun w => w.elim, fun ⟨v, q, _⟩ => by cases q⟩
  | some o => cases o with
    | none => exact propext ⟨fun w => w.elim, fun ⟨v, q, _⟩ => by cases q⟩
    | some v => exact propext ⟨fun w => ⟨v, rfl, w⟩, fun ⟨u, q, w⟩ => by cases q; exact w⟩
theorem wE_con {v : AV} : Rw (evE G C (.con v) a h) Q = Q v h := rfl
theorem wE_glo {g : Nat} : Rw (evE G C (.glo g) a h) Q = ∃ v, G.cons.lookup g = some v ∧ Q v h := by
  show Rw (match G.cons.lookup g with | some v => .ok v h | none => .fail) Q = _
  cases e : G.cons.lookup g with
  | none => exact propext ⟨fun w => w.elim, fun ⟨v, q, _⟩ => by cases q⟩
  | some v => exact propext ⟨fun w => ⟨v, rfl, w⟩, fun ⟨u, q, w⟩ => by cases q; exact w⟩
theorem wE_bin {o : Op2} {x y : CE} : Rw (evE G C (.bin o x y) a h) Q = Rw (evE G C x a h) fun v h => Rw (evE G C y a h) fun w h => Rw (bopC G C o v w h) Q := by
  rw [show evE G C (.bin o x y) = mb (evE G C x) fun v => mb (evE G C y) fun w => lift (bopC G C o v w) from rfl, rw_mb]
  simp only [rw_mb, lift]
def Bw (v : AV) (Q : Bool → Prop) : Prop := match v with
  | .bl b => Q b
  | _ => False
theorem bw_bl {b : Bool} {Q : Bool → Prop} : Bw (.bl b) Q = Q b := rfl
theorem rw_asB {v : AV} {Q : Bool → AH → Prop} : Rw (asB v a h) Q = Bw v fun b => Q b h := by
  cases v <;> rfl
theorem wE_not {x : CE} : Rw (evE G C (.not x) a h) Q = Rw (evE G C x a h) fun v h => Bw v fun b => Q (.bl (!b)) h := by
  rw [show evE G C (.not x) = mb (evE G C x) fun v => mb (asB v) fun b => mp (.bl (!b)) from rfl, rw_mb]
  simp only [rw_mb, rw_asB]
  rfl
theorem wE_and {x y : CE} : Rw (evE G C (.and x y) a h) Q = Rw (evE G C x a h) fun v h => Bw v fun b => if b = true then Rw (evE G C y a h) Q else Q (.bl false) h := by
  rw [show evE G C (.and x y) = mb (evE G C x) fun v => mb (asB v) fun b => if b then evE G C y else mp (.bl false) from rfl, rw_mb]
  simp only [rw_mb, rw_asB]
  congr 1; funext v h; congr 1; funext b; cases b <;> rfl
theorem wE_or {x y : CE} : Rw (evE G C (.or x y) a h) Q = Rw (evE G C x a h) fun v h => Bw v fun b => if b = true then Q (.bl true) h else Rw (evE G C y a h) Q := by
  rw [show evE G C (.or x y) = mb (evE G C x) fun v => mb (asB v) fun b => if b then mp (.bl true) else evE G C y from rfl, rw_mb]
  simp only [rw_mb, rw_asB]
  congr 1; funext v h; congr 1; funext b; cases b <;> rfl
theorem wE_ite {t x y : CE} : Rw (evE G C (.ite t x y) a h) Q = Rw (evE G C t a h) fun v h => Bw v fun b => if b = true then Rw (evE G C x a h) Q else Rw (evE G C y a h) Q := by
  rw [show evE G C (.ite t x y) = mb (evE G C t) fun v => mb (asB v) fun b => if b then evE G C x else evE G C y from rfl, rw_mb]
  simp only [rw_mb, rw_asB]
  congr 1; funext v h; congr 1; funext b; cases b <;> rfl
def isNon : AV → Bool
  | .non => true
  | _ => false
theorem wE_isN {x : CE} : Rw (evE G C (.isN x) a h) Q = Rw (evE G C x a h) fun v h => Q (.bl (isNon v)) h := by
  rw [show evE G C (.isN x) = mb (evE G C x) fun v => match v with | .non => mp (.bl true) | _ => mp (.bl false) from rfl, rw_mb]
  congr 1; funext v h; cases v <;> rfl
theorem wE_notN {x : CE} : Rw (evE G C (.notN x) a h) Q = Rw (evE G C x a h) fun v h => Q (.bl (!isNon v)) h := by
  rw [show evE G C (.notN x) = mb (evE G C x) fun v => match v with | .non => mp (.bl false) | _ => mp (.bl true) from rfl, rw_mb]
  congr 1; funext v h; cases v <;> rfl
theorem wE_cmp {o : Cmp} {x y : CE} : Rw (evE G C (.cmp o x y) a h) Q = Rw (evE G C x a h) fun v h => Rw (evE G C y a h) fun w h => Rw (cmpC G C o v w h) fun b h => Q (.bl b) h := by
  rw [show evE G C (.cmp o x y) = mb (evE G C x) fun v => mb (evE G C y) fun w => mb (lift (cmpC G C o v w)) fun b => mp (.bl b) from rfl, rw_mb]
  simp only [rw_mb, lift]
  rfl
theorem wE_cmp2 {o o2 : Cmp} {x y z : CE} : Rw (evE G C (.cmp2 o o2 x y z) a h) Q = Rw (evE G C x a h) fun v h => Rw (evE G C y a h) fun w h => Rw (cmpB o v w h) fun b h => if b = true then Rw (evE G C z a h) fun u h => Rw (cmpB o2 w u h) fun b h => Q (.bl b) h else Q (.bl false) h := by
  rw [show evE G C (.cmp2 o o2 x y z) = mb (evE G C x) fun v => mb (evE G C y) fun w => mb (lift (cmpB o v w)) fun b => if b then mb (evE G C z) fun u => mb (lift (cmpB o2 w u)) fun b => mp (.bl b) else mp (.bl false) from rfl, rw_mb]
  simp only [rw_mb, lift]
  congr 1; funext v h; congr 1; funext w h; congr 1; funext b h
  cases b
  · rfl
  · simp only [if_true, rw_mb, lift]
    rfl
theorem wE_lst {es : List CE} : Rw (evE G C (.lst es) a h) Q = Rw (evEs G C es a h) fun vs h => Rw (newL vs h) Q := by
  rw [show evE G C (.lst es) = mb (evEs G C es) fun vs => lift (newL vs) from rfl, rw_mb]
  rfl
theorem wE_tup {es : List CE} : Rw (evE G C (.tup es) a h) Q = Rw (evEs G C es a h) fun vs h => vs.length ≤ lim ∧ Q (.tup vs) h := by
  rw [show evE G C (.tup es) = mb (evEs G C es) fun vs => if vs.length ≤ lim then mp (.tup vs) else mf from rfl, rw_mb]
  congr 1; funext vs h
  by_cases c : vs.length ≤ lim
  · rw [if_pos c]
    exact propext ⟨fun w => ⟨c, w⟩, fun w => w.2⟩
  · rw [if_neg c]
    exact propext ⟨fun w => w.elim, fun w => (c w.1).elim⟩
theorem wE_idx {x i : CE} : Rw (evE G C (.idx x i) a h) Q = Rw (evE G C x a h) fun v h => Rw (evE G C i a h) fun w h => Rw (subI v w h) Q := by
  rw [show evE G C (.idx x i) = mb (evE G C x) fun v => mb (evE G C i) fun w => lift (subI v w) from rfl, rw_mb]
  simp only [rw_mb, lift]
theorem wE_slc {x : CE} {lo hi : Option CE} : Rw (evE G C (.slc x lo hi) a h) Q = Rw (evE G C x a h) fun v h => Rw (evO G C lo a h) fun l h => Rw (evO G C hi a h) fun r h => Rw (slice v l r h) Q := by
  rw [show evE G C (.slc x lo hi) = mb (evE G C x) fun v => mb (evO G C lo) fun l => mb (evO G C hi) fun r => lift (slice v l r) from rfl, rw_mb]
  simp only [rw_mb, lift]
theorem wO_none {Q : Option Int → AH → Prop} : Rw (evO G C none a h) Q = Q none h := rfl
def Iw (v : AV) (Q : Int → Prop) : Prop := match v with
  | .int b => Q b
  | _ => False
theorem iw_int {b : Int} {Q : Int → Prop} : Iw (.int b) Q = Q b := rfl
theorem wO_some {e : CE} {Q : Option Int → AH → Prop} : Rw (evO G C (some e) a h) Q = Rw (evE G C e a h) fun v h => Iw v fun i => Q (some i) h := by
  rw [show evO G C (some e) = mb (evE G C e) fun v => match v with | .int i => mp (some i) | _ => mf from rfl, rw_mb]
  congr 1; funext v h; cases v <;> rfl
theorem wE_isi {x : CE} {ts : List TyC} : Rw (evE G C (.isi x ts) a h) Q = Rw (evE G C x a h) fun v h => isiOk G h v = true ∧ Q (.bl (ts.any fun t => hasTy G h v t)) h := by
  rw [show evE G C (.isi x ts) = mb (evE G C x) fun v => fun _ h => if isiOk G h v then .ok (.bl (ts.any fun t => hasTy G h v t)) h else .fail from rfl, rw_mb]
  congr 1; funext v h
  by_cases c : isiOk G h v = true
  · rw [if_pos c]
    exact propext ⟨fun w => ⟨c, w⟩, fun w => w.2⟩
  · rw [if_neg c]
    exact propext ⟨fun w => w.elim, fun w => (c w.1).elim⟩
theorem wE_bi {b : BI} {es : List CE} : Rw (evE G C (.bi b es) a h) Q = Rw (evEs G C es a h) fun vs h => Rw (biF G C b vs h) Q := by
  rw [show evE G C (.bi b es) = mb (evEs G C es) fun vs => lift (biF G C b vs) from rfl, rw_mb]
  rfl
theorem wE_bm {m : BM} {x : CE} {es : List CE} : Rw (evE G C (.bm m x es) a h) Q = Rw (evE G C x a h) fun v h => bmTy m h v = true ∧ Rw (evEs G C es a h) fun vs h => Rw (bmF m v vs h) Q := by
  rw [show evE G C (.bm m x es) = mb (evE G C x) fun v => fun a h => if bmTy m h v then (mb (evEs G C es) fun vs => lift (bmF m v vs)) a h else .fail from rfl, rw_mb]
  congr 1; funext v h
  by_cases c : bmTy m h v = true
  · rw [if_pos c, rw_mb]
    exact propext ⟨fun w => ⟨c, w⟩, fun w => w.2⟩
  · rw [if_neg c]
    exact propext ⟨fun w => w.elim, fun w => (c w.1).elim⟩
theorem wE_call {f : Nat} {es : List CE} {ks : List Nat} {vs : List CE} : Rw (evE G C (.call f es ks vs) a h) Q = Rw (evEs G C es a h) fun ws h => Rw (evEs G C vs a h) fun us h => Rw (C (0, f) ws (ks.zip us) h) Q := by
  rw [show evE G C (.call f es ks vs) = mb (evEs G C es) fun ws => mb (evEs G C vs) fun us => lift (C (0, f) ws (ks.zip us)) from rfl, rw_mb]
  simp only [rw_mb, lift]
theorem wE_cattr {c n : Nat} : Rw (evE G C (.cattr c n) a h) Q = ∃ v, ((G.cls.lookup c).bind fun k => k.cons.lookup n) = some v ∧ Q v h := by
  show Rw (match (G.cls.lookup c).bind fun k => k.cons.lookup n with | some v => .ok v h | none => .fail) Q = _
  cases e : (G.cls.lookup c).bind fun k => k.cons.lookup n with
  | none => exact propext ⟨fun w => w.elim, fun ⟨v, q, _⟩ => by cases q⟩
  | some v => exact propext ⟨fun w => ⟨v, rfl, w⟩, fun ⟨u, q, w⟩ => by cases q; exact w⟩
theorem wE_lis {k : IK} {es : List CE} : Rw (evE G C (.lis k es) a h) Q = Rw (evEs G C es a h) fun vs h => ∃ xs, listOf k h vs = some xs ∧ Rw (newL xs h) Q := by
  rw [show evE G C (.lis k es) = mb (evEs G C es) fun vs => fun _ h => match listOf k h vs with | some vs => newL vs h | none => .fail from rfl, rw_mb]
  congr 1; funext vs h
  cases e : listOf k h vs with
  | none => exact propext ⟨fun w => w.elim, fun ⟨v, q, _⟩ => by cases q⟩
  | some v => exact propext ⟨fun w => ⟨v, rfl, w⟩, fun ⟨u, q, w⟩ => by cases q; exact w⟩
theorem wE_lcomp {ts : List Nat} {un : Bool} {k : IK} {it cs : List CE} {e : CE} : Rw (evE G C (.lcomp ts un k it cs e) a h) Q = Rw (evEs G C it a h) fun vs h => Rw (mkI k vs h) fun t h => Rw (compL t ts un (evT G C cs) (evE G C e) a h) fun vs h => Rw (newL vs h) Q := by
  rw [show evE G C (.lcomp ts un k it cs e) = mb (evEs G C it) fun vs => mb (lift (mkI k vs)) fun t => mb (compL t ts un (evT G C cs) (evE G C e)) fun vs => lift (newL vs) from rfl, rw_mb]
  simp only [rw_mb, lift]
theorem wEs_nil {Q : List AV → AH → Prop} : Rw (evEs G C [] a h) Q = Q [] h := rfl
theorem wT_nil {Q : Bool → AH → Prop} : Rw (evT G C [] a h) Q = Q true h := rfl
theorem wT_cons {e : CE} {r : List CE} {Q : Bool → AH → Prop} : Rw (evT G C (e :: r) a h) Q = Rw (evE G C e a h) fun v h => Bw v fun b => if b = true then Rw (evT G C r a h) Q else Q false h := by
  rw [show evT G C (e :: r) = mb (evE G C e) fun v => mb (asB v) fun b => if b then evT G C r else mp false from rfl, rw_mb]
  simp only [rw_mb, rw_asB]
  congr 1; funext v h; congr 1; funext b; cases b <;> rfl
end
end Br

set_option linter.all false
set_option Elab.async false
set_option autoImplicit false
set_option maxRecDepth 100000
set_option maxHeartbeats 2000000
/-! BrP2: lists of expressions, values' operations, statements, calls. -/
namespace Br
def noSt : CE → Bool
  | .star _ => false
  | _ => true
section
variable {α β : Type} {G : Gm} {C : Callee} {a : Lc} {h : AH} {Q : AV → AH → Prop}
theorem wEs_cons {e : CE} {r : List CE} {Q : List AV → AH → Prop} (n : noSt e = true) : Rw (evEs G C (e :: r) a h) Q = Rw (evE G C e a h) fun v h => Rw (evEs G C r a h) fun vs h => Q (v :: vs) h := by
  have e1 : evEs G C (e :: r) = mb (evE G C e) fun v => mb (evEs G C r) fun vs => mp (v :: vs) := by
    cases e <;> first | rfl | cases n
  rw [e1, rw_mb]
  simp only [rw_mb]
  rfl
/-! values -/
theorem w_new {o : AO} : Rw (new o h) Q = Q (.ref h.length) (h ++ [o]) := rfl
theorem w_newL {xs : List AV} : Rw (newL xs h) Q = (xs.length ≤ lim ∧ Q (.ref h.length) (h ++ [.lst xs])) := by
  unfold newL
  by_cases c : xs.length ≤ lim
  · rw [if_pos c]
    exact propext ⟨fun w => ⟨c, w⟩, fun w => w.2⟩
  · rw [if_neg c]
    exact propext ⟨fun w => w.elim, fun w => (c w.1).elim⟩
theorem w_if {P : Prop} [Decidable P] {r : Res α} {Q : α → AH → Prop} : Rw (if P then r else .fail) Q = (P ∧ Rw r Q) := by
  by_cases c : P
  · rw [if_pos c]
    exact propext ⟨fun w => ⟨c, w⟩, fun w => w.2⟩
  · rw [if_neg c]
    exact propext ⟨fun w => w.elim, fun w => (c w.1).elim⟩
theorem b_add {i j : Int} : Rw (bopC G C .add (.int i) (.int j) h) Q = Q (.int (i + j)) h := rfl
theorem b_sub {i j : Int} : Rw (bopC G C .sub (.int i) (.int j) h) Q = Q (.int (i - j)) h := rfl
theorem b_mul {i j : Int} : Rw (bopC G C .mul (.int i) (.int j) h) Q = (((-(2 ^ 64) < i ∧ i < 2 ^ 64) ∨ (-(2 ^ 64) < j ∧ j < 2 ^ 64)) ∧ Q (.int (i * j)) h) := by
  show Rw (if _ then _ else _) Q = _
  rw [w_if]; rfl
theorem b_fdiv {i j : Int} : Rw (bopC G C .fdiv (.int i) (.int j) h) Q = ((0 < j ∧ j < 1073741824) ∧ Q (.int (i / j)) h) := by
  show Rw (if _ then _ else _) Q = _
  rw [w_if]; rfl
theorem b_mod {i j : Int} : Rw (bopC G C .mod (.int i) (.int j) h) Q = (0 < j ∧ Q (.int (i % j)) h) := by
  show Rw (if _ then _ else _) Q = _
  rw [w_if]; rfl
theorem b_pow {i j : Int} : Rw (bopC G C .pow (.int i) (.int j) h) Q = ((0 ≤ j ∧ j ≤ 1000000 ∧ i.natAbs < 2 ^ 64) ∧ Q (.int (i ^ j.toNat)) h) := by
  show Rw (if _ then _ else _) Q = _
  rw [w_if]; rfl
theorem b_adds {x y : List Nat} : Rw (bopC G C .add (.str x) (.str y) h) Q = (x.length + y.length ≤ lim ∧ Q (.str (x ++ y)) h) := by
  show Rw (if _ then _ else _) Q = _
  rw [w_if]; rfl
theorem c_lt {i j : Int} {Q : Bool → AH → Prop} : Rw (cmpC G C .lt (.int i) (.int j) h) Q = Q (decide (i < j)) h := rfl
theorem c_le {i j : Int} {Q : Bool → AH → Prop} : Rw (cmpC G C .le (.int i) (.int j) h) Q = Q (decide (i ≤ j)) h := rfl
theorem c_gt {i j : Int} {Q : Bool → AH → Prop} : Rw (cmpC G C .gt (.int i) (.int j) h) Q = Q (decide (j < i)) h := rfl
theorem c_ge {i j : Int} {Q : Bool → AH → Prop} : Rw (cmpC G C .ge (.int i) (.int j) h) Q = Q (decide (j ≤ i)) h := rfl
theorem c_le' {i j : Int} {Q : Bool → AH → Prop} : Rw (cmpB .le (.int i) (.int j) h) Q = Q (decide (i ≤ j)) h := rfl
theorem c_lt' {i j : Int} {Q : Bool → AH → Prop} : Rw (cmpB .lt (.int i) (.int j) h) Q = Q (decide (i < j)) h := rfl
theorem c_eq {i j : Int} {Q : Bool → AH → Prop} : Rw (cmpC G C .eq (.int i) (.int j) h) Q = Q (i == j) h := rfl
theorem c_ne {i j : Int} {Q : Bool → AH → Prop} : Rw (cmpC G C .ne (.int i) (.int j) h) Q = Q (!(i == j)) h := rfl
theorem c_eqb {i j : Bool} {Q : Bool → AH → Prop} : Rw (cmpC G C .eq (.bl i) (.bl j) h) Q = Q (i == j) h := rfl
theorem c_in {c : Nat} {s : List Nat} {Q : Bool → AH → Prop} : Rw (cmpC G C .isin (.str [c]) (.str s) h) Q = Q (decide (c ∈ s)) h := rfl
theorem c_nin {c : Nat} {s : List Nat} {Q : Bool → AH → Prop} : Rw (cmpC G C .notin (.str [c]) (.str s) h) Q = Q (!decide (c ∈ s)) h := rfl
theorem s_ref {r : Nat} {xs : List AV} {i : Int} {v : AV} (e : h[r]? = some (.lst xs)) (j : (ixN xs.length i).bind (fun j => xs[j]?) = some v) : Rw (subI (.ref r) (.int i) h) Q = Q v h := by
  unfold subI
  simp only [e, j]
  rfl
theorem s_str {xs : List Nat} {i : Int} {c : Nat} (l : xs.length ≤ lim) (j : (ixN xs.length i).bind (fun j => xs[j]?) = some c) : Rw (subI (.str xs) (.int i) h) Q = Q (.str [c]) h := by
  unfold subI
  simp only [j, if_pos l]
  rfl
theorem ixN_nat {n i : Nat} (l : i < n) : ixN n (i : Int) = some i := by
  unfold ixN
  rw [if_pos (Int.natCast_nonneg i), if_pos (Int.ofNat_lt.mpr l), Int.toNat_natCast]
theorem set_ref {r : Nat} {xs : List AV} {i : Int} {j : Nat} {v : AV} {Q : Unit → AH → Prop} (e : h[r]? = some (.lst xs)) (q : ixN xs.length i = some j) : Rw (setI (.ref r) (.int i) v h) Q = Q () (h.set r (.lst (xs.set j v))) := by
  unfold setI
  simp only [e, q]
  rfl
/-! statements -/
variable {N : Lc → AH → Prop} {R : AV → AH → Prop}
theorem sw_ms {m : M α} {f : α → SM} : Sw (ms m f a h) N R = Rw (m a h) fun v h => Sw (f v a h) N R := by
  unfold ms
  cases m a h <;> rfl
theorem wB_nil : Sw (evB G C [] a h) N R = N a h := by
  rw [evB]; rfl
theorem wB_cons {s : CS} {r : List CS} : Sw (evB G C (s :: r) a h) N R = Sw (evS G C s a h) (fun a h => Sw (evB G C r a h) N R) R := by
  rw [evB]
  unfold ss
  cases evS G C s a h <;> rfl
theorem wS_set {t : TgC} {e : CE} : Sw (evS G C (.set t e) a h) N R = Rw (evE G C e a h) fun v h => Sw (setG G C t v a h) N R := by
  rw [evS, sw_ms]
theorem wS_ret {e : CE} : Sw (evS G C (.ret e) a h) N R = Rw (evE G C e a h) fun v h => R v h := by
  rw [evS, sw_ms]; rfl
theorem wS_ite {t : CE} {x y : List CS} : Sw (evS G C (.ite t x y) a h) N R = Rw (evE G C t a h) fun v h => Bw v fun b => if b = true then Sw (evB G C x a h) N R else Sw (evB G C y a h) N R := by
  rw [evS, sw_ms, wT_cons]
  rfl
theorem wS_for {ts : List Nat} {un : Bool} {k : IK} {it : List CE} {b : List CS} : Sw (evS G C (.for ts un k it b) a h) N R = Rw (evEs G C it a h) fun vs h => Rw (mkI k vs h) fun t h => Sw (forL t ts un (evB G C b) a h) N R := by
  rw [evS, sw_ms]
  simp only [sw_ms, lift]
theorem wG_loc {i : Nat} {v : AV} : Sw (setG G C (.loc i) v a h) N R = (i < a.length ∧ N (a.set i (some v)) h) := by
  show Sw (if i < a.length then .nx (a.set i (some v)) h else .fail) N R = _
  by_cases c : i < a.length
  · rw [if_pos c]
    exact propext ⟨fun w => ⟨c, w⟩, fun w => w.2⟩
  · rw [if_neg c]
    exact propext ⟨fun w => w.elim, fun w => (c w.1).elim⟩
theorem wG_idx {o i : CE} {v : AV} : Sw (setG G C (.idx o i) v a h) N R = Rw (evE G C o a h) fun x h => Rw (evE G C i a h) fun j h => Rw (setI x j v h) fun _ h => N a h := by
  rw [show setG G C (.idx o i) v = ms (evE G C o) fun x => ms (evE G C i) fun j => fun a h => match setI x j v h with | .ok _ h1 => .nx a h1 | _ => .fail from rfl, sw_ms]
  simp only [sw_ms]
  congr 1; funext x h; congr 1; funext j h
  cases setI x j v h <;> rfl
theorem wG_tup {is : List Nat} {v : AV} : Sw (setG G C (.tup is none) v a h) N R = ∃ a1, setTg is true v a = some a1 ∧ N a1 h := by
  show Sw (match setTg is true v a with | some a1 => .nx a1 h | none => .fail) N R = _
  cases e : setTg is true v a with
  | none => exact propext ⟨fun w => w.elim, fun ⟨v, q, _⟩ => by cases q⟩
  | some o => exact propext ⟨fun w => ⟨o, rfl, w⟩, fun ⟨u, q, w⟩ => by cases q; exact w⟩
/-- a call of a def -/
theorem w_call {k : Nat} {key : Key2} {f : Fn} {vs ws : List AV} {kw : List (Nat × AV)} (e : G.fns.lookup key = some f) (b : f.bind vs kw = some ws) :
    Rw (callAt G (k + 1) key vs kw h) Q = Sw (evB G (callAt G k) f.body (ws.map some ++ List.replicate (f.slots - ws.length) none) h) (fun _ h => Q .non h) Q := by
  rw [callAt]
  simp only [e, b]
  cases evB G (callAt G k) f.body (ws.map some ++ List.replicate (f.slots - ws.length) none) h <;> rfl
end
end Br

set_option linter.all false
set_option Elab.async false
set_option autoImplicit false
set_option maxRecDepth 100000
set_option maxHeartbeats 2000000
/-! BrP3: loops over what stands still. -/
namespace Br
section
variable {G : Gm} {C : Callee} {a : Lc} {h : AH}
/-- a walk whose items no heap changes -/
def Itr.items : Itr → Option (List AV)
  | .one (.pure xs) => some xs
  | .enum (.pure xs) => some (xs.mapIdx fun i v => .tup [.int i, v])
  | .zip (.pure xs) (.pure ys) => some (List.zipWith (fun x y => .tup [x, y]) xs ys)
  | _ => none
theorem items_pure {xs : List AV} : (Itr.one (.pure xs)).items = some xs := rfl
theorem at_pure {xs : List AV} {k : Nat} : (Itr.one (.pure xs)).at h k = some xs[k]? := rfl
theorem forGo_pure {xs : List AV} {ts : List Nat} {un : Bool} {body : SM} {N : Lc → AH → Prop} {R : AV → AH → Prop} (I : Nat → Lc → AH → Prop)
    (st : ∀ k v a h, xs[k]? = some v → I k a h → ∃ a1, setTg ts un v a = some a1 ∧ Sw (body a1 h) (I (k + 1)) R)
    (en : ∀ a h, I xs.length a h → N a h) : ∀ (n k : Nat) (a : Lc) (h : AH), k ≤ xs.length → xs.length < n + k → I k a h → Sw (forGo (.one (.pure xs)) ts un body n k a h) N R
  | 0, k, a, h, l, m, i => by omega
  | n + 1, k, a, h, l, m, i => by
    unfold forGo
    rw [at_pure]
    cases e : xs[k]? with
    | none =>
      have := List.getElem?_eq_none_iff.mp e
      have e2 : k = xs.length := by omega
      subst e2
      exact en a h i
    | some v =>
      obtain ⟨a1, q, w⟩ := st k v a h e i
      simp only [q]
      have lt : k < xs.length := by
        have := (List.getElem?_eq_some_iff.mp e).1
        exact this
      cases b : body a1 h with
      | nx a2 h2 =>
        rw [b] at w
        exact forGo_pure I st en n (k + 1) a2 h2 (by omega) (by omega) w
      | rt v h2 =>
        rw [b] at w
        exact w
      | ct a2 h2 => rw [b] at w; exact w.elim
      | exc c fs a2 h2 => rw [b] at w; exact w.elim
      | fail => rw [b] at w; exact w.elim
theorem w_for {xs : List AV} {ts : List Nat} {un : Bool} {body : SM} {N : Lc → AH → Prop} {R : AV → AH → Prop} (I : Nat → Lc → AH → Prop) (i0 : I 0 a h)
    (st : ∀ k v a h, xs[k]? = some v → I k a h → ∃ a1, setTg ts un v a = some a1 ∧ Sw (body a1 h) (I (k + 1)) R)
    (en : ∀ a h, I xs.length a h → N a h) : Sw (forL (.one (.pure xs)) ts un body a h) N R := by
  have w := forGo_pure I st en (xs.length + 1) 0 a h (Nat.zero_le _) (by omega) i0
  show Sw ((forGo (.one (.pure xs)) ts un body (xs.length + 1) 0 a h).unlock (.one (.pure xs))) N R
  cases e : forGo (.one (.pure xs)) ts un body (xs.length + 1) 0 a h with
  | nx a2 h2 => rw [e] at w; exact w
  | rt v h2 => rw [e] at w; exact w
  | ct a2 h2 => rw [e] at w; exact w.elim
  | exc c fs a2 h2 => rw [e] at w; exact w.elim
  | fail => rw [e] at w; exact w.elim
theorem compGo_pure {t : Itr} {xs : List AV} {ts : List Nat} {un : Bool} {test : M Bool} {elt : M AV} {Q : List AV → AH → Prop} (I : Nat → List AV → AH → Prop)
    (ht : ∀ k acc h, I k acc h → t.at h k = some xs[k]?)
    (st : ∀ k v acc h, xs[k]? = some v → I k acc h → ∃ a1, setTg ts un v (wipeC ts a) = some a1 ∧ Rw (test a1 h) fun b h => if b = true then Rw (elt a1 h) fun w h => acc.length < lim ∧ I (k + 1) (acc ++ [w]) h else I (k + 1) acc h)
    (en : ∀ acc h, I xs.length acc h → Q acc h) : ∀ (n k : Nat) (acc : List AV) (h : AH), k ≤ xs.length → xs.length < n + k → I k acc h → Rw (compGo t ts un test elt n k acc a h) Q
  | 0, k, acc, h, l, m, i => by omega
  | n + 1, k, acc, h, l, m, i => by
    unfold compGo
    rw [ht k acc h i]
    cases e : xs[k]? with
    | none =>
      have := List.getElem?_eq_none_iff.mp e
      have e2 : k = xs.length := by omega
      subst e2
      exact en acc h i
    | some v =>
      obtain ⟨a1, q, w⟩ := st k v acc h e i
      simp only [q]
      have lt : k < xs.length := (List.getElem?_eq_some_iff.mp e).1
      cases b : test a1 h with
      | ok c h1 =>
        rw [b] at w
        cases c with
        | false => exact compGo_pure I ht st en n (k + 1) acc h1 (by omega) (by omega) w
        | true =>
          replace w : Rw (elt a1 h1) fun w h => acc.length < lim ∧ I (k + 1) (acc ++ [w]) h := w
          cases b2 : elt a1 h1 with
          | ok u h2 =>
            rw [b2] at w
            simp only [b2, if_pos w.1]
            exact compGo_pure I ht st en n (k + 1) _ h2 (by omega) (by omega) w.2
          | exc c fs h2 => rw [b2] at w; exact w.elim
          | fail => rw [b2] at w; exact w.elim
      | exc c fs h1 => rw [b] at w; exact w.elim
      | fail => rw [b] at w; exact w.elim
theorem w_comp {xs : List AV} {ts : List Nat} {un : Bool} {test : M Bool} {elt : M AV} {Q : List AV → AH → Prop} (I : Nat → List AV → AH → Prop) (i0 : I 0 [] h)
    (st : ∀ k v acc h, xs[k]? = some v → I k acc h → ∃ a1, setTg ts un v (wipeC ts a) = some a1 ∧ Rw (test a1 h) fun b h => if b = true then Rw (elt a1 h) fun w h => acc.length < lim ∧ I (k + 1) (acc ++ [w]) h else I (k + 1) acc h)
    (en : ∀ acc h, I xs.length acc h → acc.length ≤ lim ∧ Q acc h) : Rw (compL (.one (.pure xs)) ts un test elt a h) Q := by
  have w := compGo_pure (t := .one (.pure xs)) I (fun _ _ _ _ => at_pure) st en (xs.length + 1) 0 [] h (Nat.zero_le _) (by omega) i0
  show Rw (match compGo (.one (.pure xs)) ts un test elt (xs.length + 1) 0 [] a h with
    | .ok vs h1 => if vs.length ≤ lim then .ok vs h1 else .fail
    | _ => .fail) Q
  cases e : compGo (.one (.pure xs)) ts un test elt (xs.length + 1) 0 [] a h with
  | ok vs h1 =>
    rw [e] at w
    show Rw (if vs.length ≤ lim then .ok vs h1 else .fail) Q
    rw [if_pos w.1]
    exact w.2
  | exc c fs h2 => rw [e] at w; exact w.elim
  | fail => rw [e] at w; exact w.elim
end
end Br

set_option linter.all false
set_option Elab.async false
set_option autoImplicit false
set_option maxRecDepth 100000
set_option maxHeartbeats 2000000
/-! BrP4: built-in functions of values; the bag that a script is drawn from. -/
namespace Br
section
variable {G : Gm} {C : Callee} {a : Lc} {h : AH} {Q : AV → AH → Prop}
theorem f_abs {i : Int} : Rw (biF G C .abs [.int i] h) Q = Q (.int (if i < 0 then -i else i)) h := rfl
theorem f_int {i : Int} : Rw (biF G C .int [.int i] h) Q = Q (.int i) h := rfl
theorem f_lenR {r : Nat} {xs : List AV} (e : h[r]? = some (.lst xs)) : Rw (biF G C .len [.ref r] h) Q = Q (.int xs.length) h := by
  unfold biF clsOf lenV
  simp only [e]
  rfl
theorem f_lenS {s : List Nat} (l : s.length ≤ lim) : Rw (biF G C .len [.str s] h) Q = Q (.int s.length) h := by
  show Rw (match (if s.length ≤ lim then some s.length else none) with | some n => .ok (.int n) h | none => .fail) Q = _
  rw [if_pos l]
  rfl
theorem f_all {v : AV} {bs : List Bool} (e : (lstOf h v).bind allB = some bs) : Rw (biF G C .all [v] h) Q = Q (.bl (bs.all id)) h := by
  unfold biF
  simp only [e]
  rfl
theorem n_loc {i : Nat} : noSt (.loc i) = true := rfl
theorem n_con {i : AV} : noSt (.con i) = true := rfl
theorem n_glo {i : Nat} : noSt (.glo i) = true := rfl
theorem n_bin {o : Op2} {x y : CE} : noSt (.bin o x y) = true := rfl
theorem n_neg {x : CE} : noSt (.neg x) = true := rfl
theorem n_not {x : CE} : noSt (.not x) = true := rfl
theorem n_and {x y : CE} : noSt (.and x y) = true := rfl
theorem n_or {x y : CE} : noSt (.or x y) = true := rfl
theorem n_isN {x : CE} : noSt (.isN x) = true := rfl
theorem n_notN {x : CE} : noSt (.notN x) = true := rfl
theorem n_cmp {o : Cmp} {x y : CE} : noSt (.cmp o x y) = true := rfl
theorem n_cmp2 {o p : Cmp} {x y z : CE} : noSt (.cmp2 o p x y z) = true := rfl
theorem n_ite {x y z : CE} : noSt (.ite x y z) = true := rfl
theorem n_lst {es : List CE} : noSt (.lst es) = true := rfl
theorem n_tup {es : List CE} : noSt (.tup es) = true := rfl
theorem n_fst {es : List CE} : noSt (.fst es) = true := rfl
theorem n_idx {x y : CE} : noSt (.idx x y) = true := rfl
theorem n_slc {x : CE} {l r : Option CE} : noSt (.slc x l r) = true := rfl
theorem n_rev {x : CE} : noSt (.rev x) = true := rfl
theorem n_isi {x : CE} {ts : List TyC} : noSt (.isi x ts) = true := rfl
theorem n_bi {b : BI} {es : List CE} : noSt (.bi b es) = true := rfl
theorem n_bm {m : BM} {x : CE} {es : List CE} : noSt (.bm m x es) = true := rfl
theorem n_call {f : Nat} {es : List CE} {ks : List Nat} {vs : List CE} : noSt (.call f es ks vs) = true := rfl
theorem n_cattr {c n : Nat} : noSt (.cattr c n) = true := rfl
theorem n_lis {k : IK} {es : List CE} : noSt (.lis k es) = true := rfl
theorem n_tpl {k : IK} {es : List CE} : noSt (.tpl k es) = true := rfl
theorem n_lcomp {ts : List Nat} {un : Bool} {k : IK} {it cs : List CE} {e : CE} : noSt (.lcomp ts un k it cs e) = true := rfl
theorem es_loc {i : Nat} {rr : List CE} {Q : List AV → AH → Prop} : Rw (evEs G C (.loc i :: rr) a h) Q = Rw (evE G C (.loc i) a h) fun v h => Rw (evEs G C rr a h) fun vs h => Q (v :: vs) h := wEs_cons rfl
theorem es_con {i : AV} {rr : List CE} {Q : List AV → AH → Prop} : Rw (evEs G C (.con i :: rr) a h) Q = Rw (evE G C (.con i) a h) fun v h => Rw (evEs G C rr a h) fun vs h => Q (v :: vs) h := wEs_cons rfl
theorem es_glo {i : Nat} {rr : List CE} {Q : List AV → AH → Prop} : Rw (evEs G C (.glo i :: rr) a h) Q = Rw (evE G C (.glo i) a h) fun v h => Rw (evEs G C rr a h) fun vs h => Q (v :: vs) h := wEs_cons rfl
theorem es_bin {o : Op2} {x y : CE} {rr : List CE} {Q : List AV → AH → Prop} : Rw (evEs G C (.bin o x y :: rr) a h) Q = Rw (evE G C (.bin o x y) a h) fun v h => Rw (evEs G C rr a h) fun vs h => Q (v :: vs) h := wEs_cons rfl
theorem es_neg {x : CE} {rr : List CE} {Q : List AV → AH → Prop} : Rw (evEs G C (.neg x :: rr) a h) Q = Rw (evE G C (.neg x) a h) fun v h => Rw (evEs G C rr a h) fun vs h => Q (v :: vs) h := wEs_cons rfl
theorem es_not {x : CE} {rr : List CE} {Q : List AV → AH → Prop} : Rw (evEs G C (.not x :: rr) a h) Q = Rw (evE G C (.not x) a h) fun v h => Rw (evEs G C rr a h) fun vs h => Q (v :: vs) h := wEs_cons rfl
theorem es_and {x y : CE} {rr : List CE} {Q : List AV → AH → Prop} : Rw (evEs G C (.and x y :: rr) a h) Q = Rw (evE G C (.and x y) a h) fun v h => Rw (evEs G C rr a h) fun vs h => Q (v :: vs) h := wEs_cons rfl
theorem es_or {x y : CE} {rr : List CE} {Q : List AV → AH → Prop} : Rw (evEs G C (.or x y :: rr) a h) Q = Rw (evE G C (.or x y) a h) fun v h => Rw (evEs G C rr a h) fun vs h => Q (v :: vs) h := wEs_cons rfl
theorem es_isN {x : CE} {rr : List CE} {Q : List AV → AH → Prop} : Rw (evEs G C (.isN x :: rr) a h) Q = Rw (evE G C (.isN x) a h) fun v h => Rw (evEs G C rr a h) fun vs h => Q (v :: vs) h := wEs_cons rfl
theorem es_notN {x : CE} {rr : List CE} {Q : List AV → AH → Prop} : Rw (evEs G C (.notN x :: rr) a h) Q = Rw (evE G C (.notN x) a h) fun v h => Rw (evEs G C rr a h) fun vs h => Q (v :: vs) h := wEs_cons rfl
theorem es_cmp {o : Cmp} {x y : CE} {rr : List CE} {Q : List AV → AH → Prop} : Rw (evEs G C (.cmp o x y :: rr) a h) Q = Rw (evE G C (.cmp o x y) a h) fun v h => Rw (evEs G C rr a h) fun vs h => Q (v :: vs) h := wEs_cons rfl
theorem es_cmp2 {o p : Cmp} {x y z : CE} {rr : List CE} {Q : List AV → AH → Prop} : Rw (evEs G C (.cmp2 o p x y z :: rr) a h) Q = Rw (evE G C (.cmp2 o p x y z) a h) fun v h => Rw (evEs G C rr a h) fun vs h => Q (v :: vs) h := wEs_cons rfl
theorem es_ite {x y z : CE} {rr : List CE} {Q : List AV → AH → Prop} : Rw (evEs G C (.ite x y z :: rr) a h) Q = Rw (evE G C (.ite x y z) a h) fun v h => Rw (evEs G C rr a h) fun vs h => Q (v :: vs) h := wEs_cons rfl
theorem es_lst {es : List CE} {rr : List CE} {Q : List AV → AH → Prop} : Rw (evEs G C (.lst es :: rr) a h) Q = Rw (evE G C (.lst es) a h) fun v h => Rw (evEs G C rr a h) fun vs h => Q (v :: vs) h := wEs_cons rfl
theorem es_tup {es : List CE} {rr : List CE} {Q : List AV → AH → Prop} : Rw (evEs G C (.tup es :: rr) a h) Q = Rw (evE G C (.tup es) a h) fun v h => Rw (evEs G C rr a h) fun vs h => Q (v :: vs) h := wEs_cons rfl
theorem es_fst {es : List CE} {rr : List CE} {Q : List AV → AH → Prop} : Rw (evEs G C (.fst es :: rr) a h) Q = Rw (evE G C (.fst es) a h) fun v h => Rw (evEs G C rr a h) fun vs h => Q (v :: vs) h := wEs_cons rfl
theorem es_idx {x y : CE} {rr : List CE} {Q : List AV → AH → Prop} : Rw (evEs G C (.idx x y :: rr) a h) Q = Rw (evE G C (.idx x y) a h) fun v h => Rw (evEs G C rr a h) fun vs h => Q (v :: vs) h := wEs_cons rfl
theorem es_slc {x : CE} {l r : Option CE} {rr : List CE} {Q : List AV → AH → Prop} : Rw (evEs G C (.slc x l r :: rr) a h) Q = Rw (evE G C (.slc x l r) a h) fun v h => Rw (evEs G C rr a h) fun vs h => Q (v :: vs) h := wEs_cons rfl
theorem es_rev {x : CE} {rr : List CE} {Q : List AV → AH → Prop} : Rw (evEs G C (.rev x :: rr) a h) Q = Rw (evE G C (.rev x) a h) fun v h => Rw (evEs G C rr a h) fun vs h => Q (v :: vs) h := wEs_cons rfl
theorem es_isi {x : CE} {ts : List TyC} {rr : List CE} {Q : List AV → AH → Prop} : Rw (evEs G C (.isi x ts :: rr) a h) Q = Rw (evE G C (.isi x ts) a h) fun v h => Rw (evEs G C rr a h) fun vs h => Q (v :: vs) h := wEs_cons rfl
theorem es_bi {b : BI} {es : List CE} {rr : List CE} {Q : List AV → AH → Prop} : Rw (evEs G C (.bi b es :: rr) a h) Q = Rw (evE G C (.bi b es) a h) fun v h => Rw (evEs G C rr a h) fun vs h => Q (v :: vs) h := wEs_cons rfl
theorem es_bm {m : BM} {x : CE} {es : List CE} {rr : List CE} {Q : List AV → AH → Prop} : Rw (evEs G C (.bm m x es :: rr) a h) Q = Rw (evE G C (.bm m x es) a h) fun v h => Rw (evEs G C rr a h) fun vs h => Q (v :: vs) h := wEs_cons rfl
theorem es_call {f : Nat} {es : List CE} {ks : List Nat} {vs : List CE} {rr : List CE} {Q : List AV → AH → Prop} : Rw (evEs G C (.call f es ks vs :: rr) a h) Q = Rw (evE G C (.call f es ks vs) a h) fun v h => Rw (evEs G C rr a h) fun vs h => Q (v :: vs) h := wEs_cons rfl
theorem es_cattr {c n : Nat} {rr : List CE} {Q : List AV → AH → Prop} : Rw (evEs G C (.cattr c n :: rr) a h) Q = Rw (evE G C (.cattr c n) a h) fun v h => Rw (evEs G C rr a h) fun vs h => Q (v :: vs) h := wEs_cons rfl
theorem es_lis {k : IK} {es : List CE} {rr : List CE} {Q : List AV → AH → Prop} : Rw (evEs G C (.lis k es :: rr) a h) Q = Rw (evE G C (.lis k es) a h) fun v h => Rw (evEs G C rr a h) fun vs h => Q (v :: vs) h := wEs_cons rfl
theorem es_tpl {k : IK} {es : List CE} {rr : List CE} {Q : List AV → AH → Prop} : Rw (evEs G C (.tpl k es :: rr) a h) Q = Rw (evE G C (.tpl k es) a h) fun v h => Rw (evEs G C rr a h) fun vs h => Q (v :: vs) h := wEs_cons rfl
theorem es_lcomp {ts : List Nat} {un : Bool} {k : IK} {it cs : List CE} {e : CE} {rr : List CE} {Q : List AV → AH → Prop} : Rw (evEs G C (.lcomp ts un k it cs e :: rr) a h) Q = Rw (evE G C (.lcomp ts un k it cs e) a h) fun v h => Rw (evEs G C rr a h) fun vs h => Q (v :: vs) h := wEs_cons rfl
/-- Rw by another name -/
def Rwx {α : Type} (r : Res α) (Q : α → AH → Prop) : Prop := Rw r Q
/-- what an item of a list is; Sub, Stt for dicts say nothing more -/
def Sub (h : AH) (o : Option AO) (i : Int) (P : AV → Prop) (E : Prop) : Prop := match o with
  | some (.lst xs) => ∃ v, (ixN xs.length i).bind (fun j => xs[j]?) = some v ∧ P v
  | _ => E
theorem sub_lst {xs : List AV} {i : Int} {P : AV → Prop} {E : Prop} : Sub h (some (.lst xs)) i P E = ∃ v, (ixN xs.length i).bind (fun j => xs[j]?) = some v ∧ P v := rfl
theorem s_sub {r : Nat} {i : Int} : Rw (subI (.ref r) (.int i) h) Q = Sub h h[r]? i (fun v => Q v h) (Rwx (subI (.ref r) (.int i) h) Q) := by
  unfold Sub
  split
  · next xs e =>
    unfold subI
    simp only [e]
    cases q : (ixN xs.length i).bind fun j => xs[j]? with
    | none => exact propext ⟨fun w => w.elim, fun ⟨v, z, _⟩ => by cases z⟩
    | some v => exact propext ⟨fun w => ⟨v, rfl, w⟩, fun ⟨u, z, w⟩ => by cases z; exact w⟩
  · rfl
def Put (h : AH) (r : Nat) (o : Option AO) (i : Int) (v : AV) (P : AH → Prop) (E : Prop) : Prop := match o with
  | some (.lst xs) => ∃ j, ixN xs.length i = some j ∧ P (h.set r (.lst (xs.set j v)))
  | _ => E
theorem put_lst {r : Nat} {xs : List AV} {i : Int} {v : AV} {P : AH → Prop} {E : Prop} : Put h r (some (.lst xs)) i v P E = ∃ j, ixN xs.length i = some j ∧ P (h.set r (.lst (xs.set j v))) := rfl
theorem s_put {r : Nat} {i : Int} {v : AV} {Q : Unit → AH → Prop} : Rw (setI (.ref r) (.int i) v h) Q = Put h r h[r]? i v (fun h => Q () h) (Rwx (setI (.ref r) (.int i) v h) Q) := by
  unfold Put
  split
  · next xs e =>
    unfold setI
    simp only [e]
    cases q : ixN xs.length i with
    | none => exact propext ⟨fun w => w.elim, fun ⟨v, z, _⟩ => by cases z⟩
    | some v => exact propext ⟨fun w => ⟨v, rfl, w⟩, fun ⟨u, z, w⟩ => by cases z; exact w⟩
  · rfl
/-- the bag: the script, the place in it, the digits left, the mixed number, the count -/
def Bag (h : AH) (b : Nat) : Prop := ∃ (c : Nat) (ns : List Int) (i m x t : Int), h[b]? = some (.lst [.ref c, .int i, .int m, .int x, .int t]) ∧ h[c]? = some (.lst (ns.map AV.int)) ∧ 0 ≤ i ∧ 0 ≤ m ∧ 0 ≤ x ∧ x < 2147483648 ∧ c ≠ b
/-- all but b stands as it was -/
def Fr (b : Nat) (h h' : AH) : Prop := h.length ≤ h'.length ∧ ∀ i, i < h.length → i ≠ b → h'[i]? = h[i]?
theorem Fr.refl {b : Nat} : Fr b h h := ⟨Nat.le_refl _, fun _ _ _ => rfl⟩
theorem Fr.trans {b : Nat} {h h1 h2 : AH} (x : Fr b h h1) (y : Fr b h1 h2) : Fr b h h2 := ⟨Nat.le_trans x.1 y.1, fun i l n => (y.2 i (Nat.lt_of_lt_of_le l x.1) n).trans (x.2 i l n)⟩
theorem v_slcS {xs : List Nat} {lo hi : Option Int} : Rw (slice (.str xs) lo hi h) Q = (xs.length ≤ lim ∧ Q (.str (cut xs lo hi)) h) := by
  show Rw (if _ then _ else _) Q = _
  rw [w_if]; rfl
theorem cut_take {α : Type} {xs : List α} {p : Nat} : cut xs none (some (p : Int)) = xs.take p := by
  unfold cut sEnd
  simp only [List.drop_zero, Nat.sub_zero]
  rw [if_neg (by omega), Int.toNat_natCast, Nat.min_comm, ← List.take_eq_take_min]
theorem cut_drop {α : Type} {xs : List α} {p : Nat} : cut xs (some (p : Int)) none = xs.drop p := by
  unfold cut sEnd
  simp only
  rw [if_neg (by omega), Int.toNat_natCast]
  by_cases l : p ≤ xs.length
  · rw [Nat.min_eq_right l, List.take_of_length_le (by simp)]
  · rw [Nat.min_eq_left (by omega), List.drop_eq_nil_of_le (Nat.le_refl _), List.drop_eq_nil_of_le (by omega)]; simp
end
end Br

set_option linter.all false
set_option Elab.async false
set_option autoImplicit false
set_option maxRecDepth 100000
set_option maxHeartbeats 2000000
/-! BrP5: loops over lists on the heap that stand still. -/
namespace Br
section
variable {α : Type} {G : Gm} {C : Callee} {a : Lc} {h : AH}
theorem forGo_T {t : Itr} {xs : List AV} {ts : List Nat} {un : Bool} {body : SM} {N : Lc → AH → Prop} {R : AV → AH → Prop} (I : Nat → Lc → AH → Prop)
    (ht : ∀ k a h, I k a h → t.at h k = some xs[k]?)
    (st : ∀ k v a h, xs[k]? = some v → I k a h → ∃ a1, setTg ts un v a = some a1 ∧ Sw (body a1 h) (I (k + 1)) R)
    (en : ∀ a h, I xs.length a h → N a h) : ∀ (n k : Nat) (a : Lc) (h : AH), k ≤ xs.length → xs.length < n + k → I k a h → Sw (forGo t ts un body n k a h) N R
  | 0, k, a, h, l, m, i => by omega
  | n + 1, k, a, h, l, m, i => by
    unfold forGo
    rw [ht k a h i]
    cases e : xs[k]? with
    | none =>
      have := List.getElem?_eq_none_iff.mp e
      have e2 : k = xs.length := by omega
      subst e2
      exact en a h i
    | some v =>
      obtain ⟨a1, q, w⟩ := st k v a h e i
      simp only [q]
      have lt : k < xs.length := by
        have := (List.getElem?_eq_some_iff.mp e).1
        exact this
      cases b : body a1 h with
      | nx a2 h2 =>
        rw [b] at w
        exact forGo_T I ht st en n (k + 1) a2 h2 (by omega) (by omega) w
      | rt v h2 =>
        rw [b] at w
        exact w
      | ct a2 h2 => rw [b] at w; exact w.elim
      | exc c fs a2 h2 => rw [b] at w; exact w.elim
      | fail => rw [b] at w; exact w.elim
theorem unlock_id {t : Itr} (hk : ∀ b h, t.lock b h = some h) {r : SR} : r.unlock t = r := by
  cases r <;> simp [SR.unlock, hk]
theorem w_forT {t : Itr} {xs : List AV} {ts : List Nat} {un : Bool} {body : SM} {N : Lc → AH → Prop} {R : AV → AH → Prop} (I : Nat → Lc → AH → Prop) (i0 : I 0 a h)
    (hk : ∀ b h, t.lock b h = some h) (hn : t.len h = xs.length) (ht : ∀ k a h, I k a h → t.at h k = some xs[k]?)
    (st : ∀ k v a h, xs[k]? = some v → I k a h → ∃ a1, setTg ts un v a = some a1 ∧ Sw (body a1 h) (I (k + 1)) R)
    (en : ∀ a h, I xs.length a h → N a h) : Sw (forL t ts un body a h) N R := by
  unfold forL
  simp only [hk, hn, unlock_id hk]
  exact forGo_T I ht st en (xs.length + 1) 0 a h (Nat.zero_le _) (by omega) i0
theorem w_compT {t : Itr} {xs : List AV} {ts : List Nat} {un : Bool} {test : M Bool} {elt : M AV} {Q : List AV → AH → Prop} (I : Nat → List AV → AH → Prop) (i0 : I 0 [] h)
    (hk : ∀ b h, t.lock b h = some h) (hn : t.len h = xs.length) (ht : ∀ k acc h, I k acc h → t.at h k = some xs[k]?)
    (st : ∀ k v acc h, xs[k]? = some v → I k acc h → ∃ a1, setTg ts un v (wipeC ts a) = some a1 ∧ Rw (test a1 h) fun b h => if b = true then Rw (elt a1 h) fun w h => acc.length < lim ∧ I (k + 1) (acc ++ [w]) h else I (k + 1) acc h)
    (en : ∀ acc h, I xs.length acc h → acc.length ≤ lim ∧ Q acc h) : Rw (compL t ts un test elt a h) Q := by
  have w := compGo_pure (t := t) I ht st en (xs.length + 1) 0 [] h (Nat.zero_le _) (by omega) i0
  unfold compL
  simp only [hk, hn]
  cases e : compGo t ts un test elt (xs.length + 1) 0 [] a h with
  | ok vs h1 =>
    rw [e] at w
    show Rw (if vs.length ≤ lim then .ok vs h1 else .fail) Q
    rw [if_pos w.1]
    exact w.2
  | exc c fs h2 => rw [e] at w; exact w.elim
  | fail => rw [e] at w; exact w.elim
/-- a walk over what stands still: its items -/
def It0.has (x : It0) (h : AH) (xs : List AV) : Prop := match x with
  | .pure ys => ys = xs
  | .lref i => h[i]? = some (.lst xs)
  | _ => False
theorem It0.has_at {x : It0} {xs : List AV} (e : x.has h xs) (k : Nat) : x.at h k = some xs[k]? := by
  cases x with
  | pure ys => cases e; rfl
  | lref i => unfold It0.at; simp only [show h[i]? = some (.lst xs) from e]
  | dkeys i => exact e.elim
  | ditems i => exact e.elim
theorem It0.has_len {x : It0} {xs : List AV} (e : x.has h xs) : x.len h = xs.length := by
  cases x with
  | pure ys => cases e; rfl
  | lref i => unfold It0.len; simp only [show h[i]? = some (.lst xs) from e]
  | dkeys i => exact e.elim
  | ditems i => exact e.elim
theorem one_lock {x : It0} {xs : List AV} (e : x.has h xs) : ∀ b h, (Itr.one x).lock b h = some h := by
  intro b h
  cases x with
  | pure ys => rfl
  | lref i => rfl
  | dkeys i => exact e.elim
  | ditems i => exact e.elim
theorem zip_lock {x y : It0} {xs ys : List AV} (e : x.has h xs) (f : y.has h ys) : ∀ b h, (Itr.zip x y).lock b h = some h := by
  intro b h
  cases x with
  | pure _ => cases y with
    | pure ys => rfl
    | lref i => rfl
    | dkeys i => exact f.elim
    | ditems i => exact f.elim
  | lref i => cases y with
    | pure ys => rfl
    | lref i => rfl
    | dkeys i => exact f.elim
    | ditems i => exact f.elim
  | dkeys i => exact e.elim
  | ditems i => exact e.elim
def zipT (xs ys : List AV) : List AV := List.zipWith (fun x y => .tup [x, y]) xs ys
theorem zip_at {x y : It0} {xs ys : List AV} (e : x.has h xs) (f : y.has h ys) (l : xs.length = ys.length) (k : Nat) : (Itr.zip x y).at h k = some (zipT xs ys)[k]? := by
  unfold Itr.at
  simp only [It0.has_at e, It0.has_at f]
  unfold zipT
  rw [List.getElem?_zipWith]
  cases p : xs[k]? with
  | none =>
    have : ys[k]? = none := by
      rw [List.getElem?_eq_none_iff] at p ⊢; omega
    rw [this]
  | some v =>
    cases q : ys[k]? with
    | none =>
      have := (List.getElem?_eq_some_iff.mp p).1
      have := List.getElem?_eq_none_iff.mp q
      omega
    | some w => rfl
theorem zip_len {x y : It0} {xs ys : List AV} (e : x.has h xs) (f : y.has h ys) (l : xs.length = ys.length) : (Itr.zip x y).len h = (zipT xs ys).length := by
  show max (x.len h) (y.len h) = _
  rw [It0.has_len e, It0.has_len f]
  unfold zipT
  simp [l]
theorem It0.has_app {x : It0} {xs : List AV} {l : AH} (e : x.has h xs) : x.has (h ++ l) xs := by
  cases x with
  | pure ys => exact e
  | lref i =>
    show (h ++ l)[i]? = _
    rw [List.getElem?_append_left (List.getElem?_eq_some_iff.mp e).1]; exact e
  | dkeys i => exact e.elim
  | ditems i => exact e.elim
theorem itL_has {v : AV} {xs : List AV} (e : lstOf h v = some xs) : ∃ x, itL h v = some x ∧ x.has h xs := by
  unfold lstOf at e
  unfold itL
  cases v with
  | fl ys => cases e; exact ⟨_, rfl, rfl⟩
  | ref i =>
    simp only at e ⊢
    cases q : h[i]? with
    | none => rw [q] at e; cases e
    | some o => cases o with
      | lst ys => rw [q] at e; cases e; exact ⟨_, rfl, q⟩
      | dct t k l => rw [q] at e; cases e
      | ins c f => rw [q] at e; cases e
  | non => cases e
  | bl b => cases e
  | int i => cases e
  | str s => cases e
  | tup s => cases e
  | kt s => cases e
theorem mk_list {v : AV} {xs : List AV} {Q : Itr → AH → Prop} (e : lstOf h v = some xs) (q : ∀ x : It0, x.has h xs → Q (.one x) h) : Rw (mkI .val [v] h) Q := by
  unfold lstOf at e
  unfold mkI it0
  cases v with
  | fl ys => cases e; exact q _ rfl
  | ref i =>
    simp only at e ⊢
    cases p : h[i]? with
    | none => rw [p] at e; cases e
    | some o => cases o with
      | lst ys => rw [p] at e; cases e; exact q _ p
      | dct t k l => rw [p] at e; cases e
      | ins c f => rw [p] at e; cases e
  | non => cases e
  | bl b => cases e
  | int i => cases e
  | str s => cases e
  | tup s => cases e
  | kt s => cases e
theorem mk_zipL {v w : AV} {xs ys : List AV} {Q : Itr → AH → Prop} (e : lstOf h v = some xs) (f : lstOf h w = some ys) (q : ∀ x y : It0, x.has h xs → y.has h ys → Q (.zip x y) h) : Rw (mkI .zip [v, w] h) Q := by
  obtain ⟨x, ex, hx⟩ := itL_has e
  obtain ⟨y, ey, hy⟩ := itL_has f
  unfold mkI
  simp only [ex, ey]
  exact q x y hx hy
theorem mk_zipT {v w : AV} {xs ys : List AV} {Q : Itr → AH → Prop} (e : tupOf v = some xs) (f : tupOf w = some ys) (q : ∀ x y : It0, x.has h xs → y.has h ys → Q (.zip x y) h) : Rw (mkI .zip [v, w] h) Q := by
  have n : itL h v = none := by
    cases v <;> first | rfl | cases e
  unfold mkI
  simp only [n, e, f]
  exact q _ _ rfl rfl
end
end Br

set_option linter.all false
set_option Elab.async false
set_option autoImplicit false
set_option maxRecDepth 100000
set_option maxHeartbeats 2000000
/-! BrQ: the laws' own helpers: a number drawn from the bag, a thing drawn from a list. -/
namespace Br
def cQ_pull : List CS := [.set (.idx (.loc 0) (.con (.int 4))) (.bin .add (.idx (.loc 0) (.con (.int 4))) (.con (.int 1))),
    .ite (.and (.cmp .eq (.idx (.loc 0) (.con (.int 2))) (.con (.int 0))) (.cmp .lt (.idx (.loc 0) (.con (.int 1))) (.bi .len [(.idx (.loc 0) (.con (.int 0)))]))) [.set (.loc 3) (.idx (.idx (.loc 0) (.con (.int 0))) (.idx (.loc 0) (.con (.int 1)))),
    .set (.idx (.loc 0) (.con (.int 1))) (.bin .add (.idx (.loc 0) (.con (.int 1))) (.con (.int 1))),
    .ite (.cmp .ge (.bi .abs [(.loc 3)]) (.bin .pow (.con (.int 10)) (.con (.int 18)))) [.set (.idx (.loc 0) (.con (.int 2))) (.bi .abs [(.loc 3)])] [.set (.idx (.loc 0) (.con (.int 3))) (.bin .mod (.bi .int [(.bin .add (.bin .add (.bin .mul (.idx (.loc 0) (.con (.int 3))) (.con (.int 41351))) (.bin .mul (.bin .mod (.bi .int [(.loc 3)]) (.con (.int 1000133))) (.con (.int 733)))) (.con (.int 37)))]) (.con (.int 2147483629)))]] [],
    .ite (.cmp .gt (.idx (.loc 0) (.con (.int 2))) (.con (.int 0))) [.set (.loc 4) (.bin .mod (.bi .int [(.idx (.loc 0) (.con (.int 2)))]) (.loc 1)),
    .set (.idx (.loc 0) (.con (.int 2))) (.bin .fdiv (.idx (.loc 0) (.con (.int 2))) (.loc 1)),
    .ret (.loc 4)] [],
    .set (.loc 2) (.bin .mod (.bi .int [(.bin .add (.bin .mul (.idx (.loc 0) (.con (.int 3))) (.idx (.loc 0) (.con (.int 3)))) (.bin .mul (.idx (.loc 0) (.con (.int 4))) (.con (.int 8311))))]) (.con (.int 2147483549))),
    .set (.idx (.loc 0) (.con (.int 3))) (.bin .mod (.bi .int [(.bin .add (.bin .add (.bin .mul (.loc 2) (.con (.int 15991))) (.bin .mul (.idx (.loc 0) (.con (.int 3))) (.con (.int 60101)))) (.con (.int 54011)))]) (.con (.int 2147483629))),
    .ret (.bin .mod (.bi .int [(.bin .fdiv (.idx (.loc 0) (.con (.int 3))) (.con (.int 64)))]) (.loc 1))]
def fQ_pull : Fn := ⟨[15, 16], [], false, [], 5, cQ_pull⟩
theorem ix50 : ixN 5 0 = some 0 := rfl
theorem ix51 : ixN 5 1 = some 1 := rfl
theorem ix52 : ixN 5 2 = some 2 := rfl
theorem ix53 : ixN 5 3 = some 3 := rfl
theorem ix54 : ixN 5 4 = some 4 := rfl
theorem pull_ok {G : Gm} (hG : G.fns.lookup (0, 10) = some fQ_pull) {k : Nat} {h : AH} {b : Nat} {m : Int} (B : Bag h b) (l : 0 < m) (l2 : m < 1073741824) :
    Rw (callAt G (k + 1) (0, 10) [.ref b, .int m] [] h) fun v h' => ∃ d, v = .int d ∧ 0 ≤ d ∧ d < m ∧ Bag h' b ∧ Fr b h h' := by
  obtain ⟨c, ns, i, g, x, t, hb, hc, i0, g0, x0, x1, ne⟩ := B
  have lb : b < h.length := (List.getElem?_eq_some_iff.mp hb).1
  rw [w_call (f := fQ_pull) (ws := [.ref b, .int m]) hG rfl]
  have hs : ∀ o, (h.set b o)[b]? = some o := fun o => by rw [List.getElem?_set_self lb]
  have hcs : ∀ o, (h.set b o)[c]? = some (.lst (ns.map AV.int)) := fun o => by rw [List.getElem?_set_ne (Ne.symm ne)]; exact hc
  have fr : ∀ o, Fr b h (h.set b o) := fun o => ⟨by simp, fun j _ n => List.getElem?_set_ne (Ne.symm n)⟩
  have bag : ∀ (i g x t : Int), 0 ≤ i → 0 ≤ g → 0 ≤ x → x < 2147483648 → Bag (h.set b (.lst [.ref c, .int i, .int g, .int x, .int t])) b := fun i g x t a1 a2 a3 a4 =>
    ⟨c, ns, i, g, x, t, hs _, hcs _, a1, a2, a3, a4, ne⟩
  simp only [fQ_pull, cQ_pull, List.map_cons, List.map_nil, List.replicate, List.cons_append, List.nil_append, List.length_cons, List.length_nil, Nat.reduceAdd, Nat.reduceSub]
  rw [wB_cons]
  simp only [wE_loc, wE_con, wE_glo, wE_bin, wE_not, wE_and, wE_or, wE_ite, wE_isN, wE_notN, wE_cmp, wE_cmp2, wE_lst, wE_tup, wE_idx, wE_slc, wE_isi, wE_bi, wE_bm, wE_call, wE_cattr, wE_lis, wE_lcomp, wO_none, wO_some, iw_int, wEs_nil, wT_nil, wT_cons, wB_nil, wS_set, wS_ret, wS_ite, wS_for, wG_loc, wG_idx, wG_tup, bw_bl, es_loc, es_con, es_glo, es_bin, es_neg, es_not, es_and, es_or, es_isN, es_notN, es_cmp, es_cmp2, es_ite, es_lst, es_tup, es_fst, es_idx, es_slc, es_rev, es_isi, es_bi, es_bm, es_call, es_cattr, es_lis, es_tpl, es_lcomp, b_add, b_sub, b_mul, b_fdiv, b_mod, b_pow, b_adds, c_lt, c_le, c_gt, c_ge, c_eq, c_ne, c_eqb, c_in, c_nin, f_abs, f_int, c_le', c_lt', s_sub, sub_lst, s_put, put_lst, List.getElem?_cons_zero, List.getElem?_cons_succ, Option.some.injEq, exists_eq_left', Option.bind_some, List.length_cons, List.length_nil, Nat.reduceAdd, List.set_cons_succ, List.set_cons_zero, v_slcS, Nat.reduceLT, true_and, wipeC, List.foldr_cons, List.foldr_nil, hb, hs, ix54]
  rw [wB_cons]
  refine Sw.mono (N := fun a h' => ∃ (i' g' x' : Int) (o : Option AV), a = [some (.ref b), some (.int m), none, o, none] ∧ h' = h.set b (.lst [.ref c, .int i', .int g', .int x', .int (t + 1)]) ∧ 0 ≤ i' ∧ 0 ≤ g' ∧ 0 ≤ x' ∧ x' < 2147483648) ?_ ?_ fun _ _ r => r
  · simp only [wE_loc, wE_con, wE_glo, wE_bin, wE_not, wE_and, wE_or, wE_ite, wE_isN, wE_notN, wE_cmp, wE_cmp2, wE_lst, wE_tup, wE_idx, wE_slc, wE_isi, wE_bi, wE_bm, wE_call, wE_cattr, wE_lis, wE_lcomp, wO_none, wO_some, iw_int, wEs_nil, wT_nil, wT_cons, wB_nil, wS_set, wS_ret, wS_ite, wS_for, wG_loc, wG_idx, wG_tup, bw_bl, es_loc, es_con, es_glo, es_bin, es_neg, es_not, es_and, es_or, es_isN, es_notN, es_cmp, es_cmp2, es_ite, es_lst, es_tup, es_fst, es_idx, es_slc, es_rev, es_isi, es_bi, es_bm, es_call, es_cattr, es_lis, es_tpl, es_lcomp, b_add, b_sub, b_mul, b_fdiv, b_mod, b_pow, b_adds, c_lt, c_le, c_gt, c_ge, c_eq, c_ne, c_eqb, c_in, c_nin, f_abs, f_int, c_le', c_lt', s_sub, sub_lst, s_put, put_lst, List.getElem?_cons_zero, List.getElem?_cons_succ, Option.some.injEq, exists_eq_left', Option.bind_some, List.length_cons, List.length_nil, Nat.reduceAdd, List.set_cons_succ, List.set_cons_zero, v_slcS, Nat.reduceLT, true_and, wipeC, List.foldr_cons, List.foldr_nil, hs, hcs, f_lenR (hcs _), ix50, ix51, ix52]
    by_cases hg : g = 0
    · subst hg
      simp only [wE_loc, wE_con, wE_glo, wE_bin, wE_not, wE_and, wE_or, wE_ite, wE_isN, wE_notN, wE_cmp, wE_cmp2, wE_lst, wE_tup, wE_idx, wE_slc, wE_isi, wE_bi, wE_bm, wE_call, wE_cattr, wE_lis, wE_lcomp, wO_none, wO_some, iw_int, wEs_nil, wT_nil, wT_cons, wB_nil, wS_set, wS_ret, wS_ite, wS_for, wG_loc, wG_idx, wG_tup, bw_bl, es_loc, es_con, es_glo, es_bin, es_neg, es_not, es_and, es_or, es_isN, es_notN, es_cmp, es_cmp2, es_ite, es_lst, es_tup, es_fst, es_idx, es_slc, es_rev, es_isi, es_bi, es_bm, es_call, es_cattr, es_lis, es_tpl, es_lcomp, b_add, b_sub, b_mul, b_fdiv, b_mod, b_pow, b_adds, c_lt, c_le, c_gt, c_ge, c_eq, c_ne, c_eqb, c_in, c_nin, f_abs, f_int, c_le', c_lt', s_sub, sub_lst, s_put, put_lst, List.getElem?_cons_zero, List.getElem?_cons_succ, Option.some.injEq, exists_eq_left', Option.bind_some, List.length_cons, List.length_nil, Nat.reduceAdd, List.set_cons_succ, List.set_cons_zero, v_slcS, Nat.reduceLT, true_and, wipeC, List.foldr_cons, List.foldr_nil, hs, hcs, f_lenR (hcs _), ix50, ix51, ix52, if_true, List.length_map, beq_self_eq_true]
      by_cases hi : i < (ns.length : Int)
      · obtain ⟨n, rfl⟩ := Int.eq_ofNat_of_zero_le i0
        have hn : n < ns.length := by omega
        have ixn : ixN (ns.map AV.int).length (n : Int) = some n := by rw [List.length_map]; exact ixN_nat hn
        have hv : (ns.map AV.int)[n]? = some (.int ns[n]) := by simp [hn]
        simp only [decide_eq_true hi, if_true]
        rw [wB_cons]
        simp only [wE_loc, wE_con, wE_glo, wE_bin, wE_not, wE_and, wE_or, wE_ite, wE_isN, wE_notN, wE_cmp, wE_cmp2, wE_lst, wE_tup, wE_idx, wE_slc, wE_isi, wE_bi, wE_bm, wE_call, wE_cattr, wE_lis, wE_lcomp, wO_none, wO_some, iw_int, wEs_nil, wT_nil, wT_cons, wB_nil, wS_set, wS_ret, wS_ite, wS_for, wG_loc, wG_idx, wG_tup, bw_bl, es_loc, es_con, es_glo, es_bin, es_neg, es_not, es_and, es_or, es_isN, es_notN, es_cmp, es_cmp2, es_ite, es_lst, es_tup, es_fst, es_idx, es_slc, es_rev, es_isi, es_bi, es_bm, es_call, es_cattr, es_lis, es_tpl, es_lcomp, b_add, b_sub, b_mul, b_fdiv, b_mod, b_pow, b_adds, c_lt, c_le, c_gt, c_ge, c_eq, c_ne, c_eqb, c_in, c_nin, f_abs, f_int, c_le', c_lt', s_sub, sub_lst, s_put, put_lst, List.getElem?_cons_zero, List.getElem?_cons_succ, Option.some.injEq, exists_eq_left', Option.bind_some, List.length_cons, List.length_nil, Nat.reduceAdd, List.set_cons_succ, List.set_cons_zero, v_slcS, Nat.reduceLT, true_and, wipeC, List.foldr_cons, List.foldr_nil, hs, hcs, ixn, hv, ix50, ix51]
        rw [wB_cons]
        simp only [wE_loc, wE_con, wE_glo, wE_bin, wE_not, wE_and, wE_or, wE_ite, wE_isN, wE_notN, wE_cmp, wE_cmp2, wE_lst, wE_tup, wE_idx, wE_slc, wE_isi, wE_bi, wE_bm, wE_call, wE_cattr, wE_lis, wE_lcomp, wO_none, wO_some, iw_int, wEs_nil, wT_nil, wT_cons, wB_nil, wS_set, wS_ret, wS_ite, wS_for, wG_loc, wG_idx, wG_tup, bw_bl, es_loc, es_con, es_glo, es_bin, es_neg, es_not, es_and, es_or, es_isN, es_notN, es_cmp, es_cmp2, es_ite, es_lst, es_tup, es_fst, es_idx, es_slc, es_rev, es_isi, es_bi, es_bm, es_call, es_cattr, es_lis, es_tpl, es_lcomp, b_add, b_sub, b_mul, b_fdiv, b_mod, b_pow, b_adds, c_lt, c_le, c_gt, c_ge, c_eq, c_ne, c_eqb, c_in, c_nin, f_abs, f_int, c_le', c_lt', s_sub, sub_lst, s_put, put_lst, List.getElem?_cons_zero, List.getElem?_cons_succ, Option.some.injEq, exists_eq_left', Option.bind_some, List.length_cons, List.length_nil, Nat.reduceAdd, List.set_cons_succ, List.set_cons_zero, v_slcS, Nat.reduceLT, true_and, wipeC, List.foldr_cons, List.foldr_nil, hs, hcs, ixn, hv, ix50, ix51, List.set_set]
        rw [wB_cons]
        simp only [wE_loc, wE_con, wE_glo, wE_bin, wE_not, wE_and, wE_or, wE_ite, wE_isN, wE_notN, wE_cmp, wE_cmp2, wE_lst, wE_tup, wE_idx, wE_slc, wE_isi, wE_bi, wE_bm, wE_call, wE_cattr, wE_lis, wE_lcomp, wO_none, wO_some, iw_int, wEs_nil, wT_nil, wT_cons, wB_nil, wS_set, wS_ret, wS_ite, wS_for, wG_loc, wG_idx, wG_tup, bw_bl, es_loc, es_con, es_glo, es_bin, es_neg, es_not, es_and, es_or, es_isN, es_notN, es_cmp, es_cmp2, es_ite, es_lst, es_tup, es_fst, es_idx, es_slc, es_rev, es_isi, es_bi, es_bm, es_call, es_cattr, es_lis, es_tpl, es_lcomp, b_add, b_sub, b_mul, b_fdiv, b_mod, b_pow, b_adds, c_lt, c_le, c_gt, c_ge, c_eq, c_ne, c_eqb, c_in, c_nin, f_abs, f_int, c_le', c_lt', s_sub, sub_lst, s_put, put_lst, List.getElem?_cons_zero, List.getElem?_cons_succ, Option.some.injEq, exists_eq_left', Option.bind_some, List.length_cons, List.length_nil, Nat.reduceAdd, List.set_cons_succ, List.set_cons_zero, v_slcS, Nat.reduceLT, true_and, wipeC, List.foldr_cons, List.foldr_nil, decide_eq_true_eq]
        refine ⟨by decide, ?_⟩
        by_cases hbig : (10 : Int) ^ (18 : Int).toNat ≤ (if ns[n] < 0 then -ns[n] else ns[n])
        · simp only [if_pos hbig]
          rw [wB_cons]
          simp only [wE_loc, wE_con, wE_glo, wE_bin, wE_not, wE_and, wE_or, wE_ite, wE_isN, wE_notN, wE_cmp, wE_cmp2, wE_lst, wE_tup, wE_idx, wE_slc, wE_isi, wE_bi, wE_bm, wE_call, wE_cattr, wE_lis, wE_lcomp, wO_none, wO_some, iw_int, wEs_nil, wT_nil, wT_cons, wB_nil, wS_set, wS_ret, wS_ite, wS_for, wG_loc, wG_idx, wG_tup, bw_bl, es_loc, es_con, es_glo, es_bin, es_neg, es_not, es_and, es_or, es_isN, es_notN, es_cmp, es_cmp2, es_ite, es_lst, es_tup, es_fst, es_idx, es_slc, es_rev, es_isi, es_bi, es_bm, es_call, es_cattr, es_lis, es_tpl, es_lcomp, b_add, b_sub, b_mul, b_fdiv, b_mod, b_pow, b_adds, c_lt, c_le, c_gt, c_ge, c_eq, c_ne, c_eqb, c_in, c_nin, f_abs, f_int, c_le', c_lt', s_sub, sub_lst, s_put, put_lst, List.getElem?_cons_zero, List.getElem?_cons_succ, Option.some.injEq, exists_eq_left', Option.bind_some, List.length_cons, List.length_nil, Nat.reduceAdd, List.set_cons_succ, List.set_cons_zero, v_slcS, Nat.reduceLT, true_and, wipeC, List.foldr_cons, List.foldr_nil, hs, ix52, List.set_set]
          refine ⟨_, _, _, _, rfl, rfl, by omega, ?_, x0, x1⟩
          split <;> omega
        · simp only [if_neg hbig]
          rw [wB_cons]
          simp only [wE_loc, wE_con, wE_glo, wE_bin, wE_not, wE_and, wE_or, wE_ite, wE_isN, wE_notN, wE_cmp, wE_cmp2, wE_lst, wE_tup, wE_idx, wE_slc, wE_isi, wE_bi, wE_bm, wE_call, wE_cattr, wE_lis, wE_lcomp, wO_none, wO_some, iw_int, wEs_nil, wT_nil, wT_cons, wB_nil, wS_set, wS_ret, wS_ite, wS_for, wG_loc, wG_idx, wG_tup, bw_bl, es_loc, es_con, es_glo, es_bin, es_neg, es_not, es_and, es_or, es_isN, es_notN, es_cmp, es_cmp2, es_ite, es_lst, es_tup, es_fst, es_idx, es_slc, es_rev, es_isi, es_bi, es_bm, es_call, es_cattr, es_lis, es_tpl, es_lcomp, b_add, b_sub, b_mul, b_fdiv, b_mod, b_pow, b_adds, c_lt, c_le, c_gt, c_ge, c_eq, c_ne, c_eqb, c_in, c_nin, f_abs, f_int, c_le', c_lt', s_sub, sub_lst, s_put, put_lst, List.getElem?_cons_zero, List.getElem?_cons_succ, Option.some.injEq, exists_eq_left', Option.bind_some, List.length_cons, List.length_nil, Nat.reduceAdd, List.set_cons_succ, List.set_cons_zero, v_slcS, Nat.reduceLT, true_and, wipeC, List.foldr_cons, List.foldr_nil, hs, ix53, List.set_set]
          have e1 : 0 ≤ ns[n] % 1000133 := Int.emod_nonneg _ (by decide)
          have e2 : ns[n] % 1000133 < 1000133 := Int.emod_lt_of_pos _ (by decide)
          refine ⟨Or.inr (by decide), by decide, Or.inr (by decide), by decide, _, _, _, _, rfl, rfl, by omega, by omega, ?_, ?_⟩
          · exact Int.emod_nonneg _ (by decide)
          · have := Int.emod_lt_of_pos (x * 41351 + ns[n] % 1000133 * 733 + 37) (b := 2147483629) (by decide)
            omega
      · simp only [decide_eq_false hi, wE_loc, wE_con, wE_glo, wE_bin, wE_not, wE_and, wE_or, wE_ite, wE_isN, wE_notN, wE_cmp, wE_cmp2, wE_lst, wE_tup, wE_idx, wE_slc, wE_isi, wE_bi, wE_bm, wE_call, wE_cattr, wE_lis, wE_lcomp, wO_none, wO_some, iw_int, wEs_nil, wT_nil, wT_cons, wB_nil, wS_set, wS_ret, wS_ite, wS_for, wG_loc, wG_idx, wG_tup, bw_bl, es_loc, es_con, es_glo, es_bin, es_neg, es_not, es_and, es_or, es_isN, es_notN, es_cmp, es_cmp2, es_ite, es_lst, es_tup, es_fst, es_idx, es_slc, es_rev, es_isi, es_bi, es_bm, es_call, es_cattr, es_lis, es_tpl, es_lcomp, b_add, b_sub, b_mul, b_fdiv, b_mod, b_pow, b_adds, c_lt, c_le, c_gt, c_ge, c_eq, c_ne, c_eqb, c_in, c_nin, f_abs, f_int, c_le', c_lt', s_sub, sub_lst, s_put, put_lst, List.getElem?_cons_zero, List.getElem?_cons_succ, Option.some.injEq, exists_eq_left', Option.bind_some, List.length_cons, List.length_nil, Nat.reduceAdd, List.set_cons_succ, List.set_cons_zero, v_slcS, Nat.reduceLT, true_and, wipeC, List.foldr_cons, List.foldr_nil, Bool.false_eq_true, if_false]
        exact ⟨_, _, _, _, rfl, rfl, i0, Int.le_refl _, x0, x1⟩
    · simp only [wE_loc, wE_con, wE_glo, wE_bin, wE_not, wE_and, wE_or, wE_ite, wE_isN, wE_notN, wE_cmp, wE_cmp2, wE_lst, wE_tup, wE_idx, wE_slc, wE_isi, wE_bi, wE_bm, wE_call, wE_cattr, wE_lis, wE_lcomp, wO_none, wO_some, iw_int, wEs_nil, wT_nil, wT_cons, wB_nil, wS_set, wS_ret, wS_ite, wS_for, wG_loc, wG_idx, wG_tup, bw_bl, es_loc, es_con, es_glo, es_bin, es_neg, es_not, es_and, es_or, es_isN, es_notN, es_cmp, es_cmp2, es_ite, es_lst, es_tup, es_fst, es_idx, es_slc, es_rev, es_isi, es_bi, es_bm, es_call, es_cattr, es_lis, es_tpl, es_lcomp, b_add, b_sub, b_mul, b_fdiv, b_mod, b_pow, b_adds, c_lt, c_le, c_gt, c_ge, c_eq, c_ne, c_eqb, c_in, c_nin, f_abs, f_int, c_le', c_lt', s_sub, sub_lst, s_put, put_lst, List.getElem?_cons_zero, List.getElem?_cons_succ, Option.some.injEq, exists_eq_left', Option.bind_some, List.length_cons, List.length_nil, Nat.reduceAdd, List.set_cons_succ, List.set_cons_zero, v_slcS, Nat.reduceLT, true_and, wipeC, List.foldr_cons, List.foldr_nil, Bool.false_eq_true, if_false, show ((g == 0) = false) from by simpa using hg]
      exact ⟨_, _, _, _, rfl, rfl, i0, g0, x0, x1⟩
  · rintro a h' ⟨i', g', x', o, rfl, rfl, i0, g0, x0, x1⟩
    rw [wB_cons]
    simp only [wE_loc, wE_con, wE_glo, wE_bin, wE_not, wE_and, wE_or, wE_ite, wE_isN, wE_notN, wE_cmp, wE_cmp2, wE_lst, wE_tup, wE_idx, wE_slc, wE_isi, wE_bi, wE_bm, wE_call, wE_cattr, wE_lis, wE_lcomp, wO_none, wO_some, iw_int, wEs_nil, wT_nil, wT_cons, wB_nil, wS_set, wS_ret, wS_ite, wS_for, wG_loc, wG_idx, wG_tup, bw_bl, es_loc, es_con, es_glo, es_bin, es_neg, es_not, es_and, es_or, es_isN, es_notN, es_cmp, es_cmp2, es_ite, es_lst, es_tup, es_fst, es_idx, es_slc, es_rev, es_isi, es_bi, es_bm, es_call, es_cattr, es_lis, es_tpl, es_lcomp, b_add, b_sub, b_mul, b_fdiv, b_mod, b_pow, b_adds, c_lt, c_le, c_gt, c_ge, c_eq, c_ne, c_eqb, c_in, c_nin, f_abs, f_int, c_le', c_lt', s_sub, sub_lst, s_put, put_lst, List.getElem?_cons_zero, List.getElem?_cons_succ, Option.some.injEq, exists_eq_left', Option.bind_some, List.length_cons, List.length_nil, Nat.reduceAdd, List.set_cons_succ, List.set_cons_zero, v_slcS, Nat.reduceLT, true_and, wipeC, List.foldr_cons, List.foldr_nil, hs, ix52, decide_eq_true_eq]
    by_cases hg : 0 < g'
    · simp only [if_pos hg]
      rw [wB_cons]
      simp only [wE_loc, wE_con, wE_glo, wE_bin, wE_not, wE_and, wE_or, wE_ite, wE_isN, wE_notN, wE_cmp, wE_cmp2, wE_lst, wE_tup, wE_idx, wE_slc, wE_isi, wE_bi, wE_bm, wE_call, wE_cattr, wE_lis, wE_lcomp, wO_none, wO_some, iw_int, wEs_nil, wT_nil, wT_cons, wB_nil, wS_set, wS_ret, wS_ite, wS_for, wG_loc, wG_idx, wG_tup, bw_bl, es_loc, es_con, es_glo, es_bin, es_neg, es_not, es_and, es_or, es_isN, es_notN, es_cmp, es_cmp2, es_ite, es_lst, es_tup, es_fst, es_idx, es_slc, es_rev, es_isi, es_bi, es_bm, es_call, es_cattr, es_lis, es_tpl, es_lcomp, b_add, b_sub, b_mul, b_fdiv, b_mod, b_pow, b_adds, c_lt, c_le, c_gt, c_ge, c_eq, c_ne, c_eqb, c_in, c_nin, f_abs, f_int, c_le', c_lt', s_sub, sub_lst, s_put, put_lst, List.getElem?_cons_zero, List.getElem?_cons_succ, Option.some.injEq, exists_eq_left', Option.bind_some, List.length_cons, List.length_nil, Nat.reduceAdd, List.set_cons_succ, List.set_cons_zero, v_slcS, Nat.reduceLT, true_and, wipeC, List.foldr_cons, List.foldr_nil, hs, ix52, List.set_set]
      refine ⟨l, ?_⟩
      rw [wB_cons]
      simp only [wE_loc, wE_con, wE_glo, wE_bin, wE_not, wE_and, wE_or, wE_ite, wE_isN, wE_notN, wE_cmp, wE_cmp2, wE_lst, wE_tup, wE_idx, wE_slc, wE_isi, wE_bi, wE_bm, wE_call, wE_cattr, wE_lis, wE_lcomp, wO_none, wO_some, iw_int, wEs_nil, wT_nil, wT_cons, wB_nil, wS_set, wS_ret, wS_ite, wS_for, wG_loc, wG_idx, wG_tup, bw_bl, es_loc, es_con, es_glo, es_bin, es_neg, es_not, es_and, es_or, es_isN, es_notN, es_cmp, es_cmp2, es_ite, es_lst, es_tup, es_fst, es_idx, es_slc, es_rev, es_isi, es_bi, es_bm, es_call, es_cattr, es_lis, es_tpl, es_lcomp, b_add, b_sub, b_mul, b_fdiv, b_mod, b_pow, b_adds, c_lt, c_le, c_gt, c_ge, c_eq, c_ne, c_eqb, c_in, c_nin, f_abs, f_int, c_le', c_lt', s_sub, sub_lst, s_put, put_lst, List.getElem?_cons_zero, List.getElem?_cons_succ, Option.some.injEq, exists_eq_left', Option.bind_some, List.length_cons, List.length_nil, Nat.reduceAdd, List.set_cons_succ, List.set_cons_zero, v_slcS, Nat.reduceLT, true_and, wipeC, List.foldr_cons, List.foldr_nil, hs, ix52, List.set_set]
      refine ⟨⟨l, l2⟩, ?_⟩
      rw [wB_cons]
      simp only [wE_loc, wE_con, wE_glo, wE_bin, wE_not, wE_and, wE_or, wE_ite, wE_isN, wE_notN, wE_cmp, wE_cmp2, wE_lst, wE_tup, wE_idx, wE_slc, wE_isi, wE_bi, wE_bm, wE_call, wE_cattr, wE_lis, wE_lcomp, wO_none, wO_some, iw_int, wEs_nil, wT_nil, wT_cons, wB_nil, wS_set, wS_ret, wS_ite, wS_for, wG_loc, wG_idx, wG_tup, bw_bl, es_loc, es_con, es_glo, es_bin, es_neg, es_not, es_and, es_or, es_isN, es_notN, es_cmp, es_cmp2, es_ite, es_lst, es_tup, es_fst, es_idx, es_slc, es_rev, es_isi, es_bi, es_bm, es_call, es_cattr, es_lis, es_tpl, es_lcomp, b_add, b_sub, b_mul, b_fdiv, b_mod, b_pow, b_adds, c_lt, c_le, c_gt, c_ge, c_eq, c_ne, c_eqb, c_in, c_nin, f_abs, f_int, c_le', c_lt', s_sub, sub_lst, s_put, put_lst, List.getElem?_cons_zero, List.getElem?_cons_succ, Option.some.injEq, exists_eq_left', Option.bind_some, List.length_cons, List.length_nil, Nat.reduceAdd, List.set_cons_succ, List.set_cons_zero, v_slcS, Nat.reduceLT, true_and, wipeC, List.foldr_cons, List.foldr_nil, hs, ix52, List.set_set]
      exact ⟨_, rfl, Int.emod_nonneg _ (by omega), Int.emod_lt_of_pos _ l, bag _ _ _ _ i0 (Int.ediv_nonneg g0 (by omega)) x0 x1, fr _⟩
    · simp only [if_neg hg, wB_nil]
      rw [wB_cons]
      simp only [wE_loc, wE_con, wE_glo, wE_bin, wE_not, wE_and, wE_or, wE_ite, wE_isN, wE_notN, wE_cmp, wE_cmp2, wE_lst, wE_tup, wE_idx, wE_slc, wE_isi, wE_bi, wE_bm, wE_call, wE_cattr, wE_lis, wE_lcomp, wO_none, wO_some, iw_int, wEs_nil, wT_nil, wT_cons, wB_nil, wS_set, wS_ret, wS_ite, wS_for, wG_loc, wG_idx, wG_tup, bw_bl, es_loc, es_con, es_glo, es_bin, es_neg, es_not, es_and, es_or, es_isN, es_notN, es_cmp, es_cmp2, es_ite, es_lst, es_tup, es_fst, es_idx, es_slc, es_rev, es_isi, es_bi, es_bm, es_call, es_cattr, es_lis, es_tpl, es_lcomp, b_add, b_sub, b_mul, b_fdiv, b_mod, b_pow, b_adds, c_lt, c_le, c_gt, c_ge, c_eq, c_ne, c_eqb, c_in, c_nin, f_abs, f_int, c_le', c_lt', s_sub, sub_lst, s_put, put_lst, List.getElem?_cons_zero, List.getElem?_cons_succ, Option.some.injEq, exists_eq_left', Option.bind_some, List.length_cons, List.length_nil, Nat.reduceAdd, List.set_cons_succ, List.set_cons_zero, v_slcS, Nat.reduceLT, true_and, wipeC, List.foldr_cons, List.foldr_nil, hs, ix53, ix54, List.set_set]
      refine ⟨Or.inr (by omega), Or.inr (by decide), by decide, ?_⟩
      rw [wB_cons]
      simp only [wE_loc, wE_con, wE_glo, wE_bin, wE_not, wE_and, wE_or, wE_ite, wE_isN, wE_notN, wE_cmp, wE_cmp2, wE_lst, wE_tup, wE_idx, wE_slc, wE_isi, wE_bi, wE_bm, wE_call, wE_cattr, wE_lis, wE_lcomp, wO_none, wO_some, iw_int, wEs_nil, wT_nil, wT_cons, wB_nil, wS_set, wS_ret, wS_ite, wS_for, wG_loc, wG_idx, wG_tup, bw_bl, es_loc, es_con, es_glo, es_bin, es_neg, es_not, es_and, es_or, es_isN, es_notN, es_cmp, es_cmp2, es_ite, es_lst, es_tup, es_fst, es_idx, es_slc, es_rev, es_isi, es_bi, es_bm, es_call, es_cattr, es_lis, es_tpl, es_lcomp, b_add, b_sub, b_mul, b_fdiv, b_mod, b_pow, b_adds, c_lt, c_le, c_gt, c_ge, c_eq, c_ne, c_eqb, c_in, c_nin, f_abs, f_int, c_le', c_lt', s_sub, sub_lst, s_put, put_lst, List.getElem?_cons_zero, List.getElem?_cons_succ, Option.some.injEq, exists_eq_left', Option.bind_some, List.length_cons, List.length_nil, Nat.reduceAdd, List.set_cons_succ, List.set_cons_zero, v_slcS, Nat.reduceLT, true_and, wipeC, List.foldr_cons, List.foldr_nil, hs, ix53, ix54, List.set_set]
      refine ⟨Or.inr (by decide), Or.inr (by decide), by decide, ?_⟩
      rw [wB_cons]
      simp only [wE_loc, wE_con, wE_glo, wE_bin, wE_not, wE_and, wE_or, wE_ite, wE_isN, wE_notN, wE_cmp, wE_cmp2, wE_lst, wE_tup, wE_idx, wE_slc, wE_isi, wE_bi, wE_bm, wE_call, wE_cattr, wE_lis, wE_lcomp, wO_none, wO_some, iw_int, wEs_nil, wT_nil, wT_cons, wB_nil, wS_set, wS_ret, wS_ite, wS_for, wG_loc, wG_idx, wG_tup, bw_bl, es_loc, es_con, es_glo, es_bin, es_neg, es_not, es_and, es_or, es_isN, es_notN, es_cmp, es_cmp2, es_ite, es_lst, es_tup, es_fst, es_idx, es_slc, es_rev, es_isi, es_bi, es_bm, es_call, es_cattr, es_lis, es_tpl, es_lcomp, b_add, b_sub, b_mul, b_fdiv, b_mod, b_pow, b_adds, c_lt, c_le, c_gt, c_ge, c_eq, c_ne, c_eqb, c_in, c_nin, f_abs, f_int, c_le', c_lt', s_sub, sub_lst, s_put, put_lst, List.getElem?_cons_zero, List.getElem?_cons_succ, Option.some.injEq, exists_eq_left', Option.bind_some, List.length_cons, List.length_nil, Nat.reduceAdd, List.set_cons_succ, List.set_cons_zero, v_slcS, Nat.reduceLT, true_and, wipeC, List.foldr_cons, List.foldr_nil, hs, ix53, ix54, List.set_set]
      refine ⟨⟨by decide, by decide⟩, l, _, rfl, Int.emod_nonneg _ (by omega), Int.emod_lt_of_pos _ l, bag _ _ _ _ i0 g0 ?_ ?_, fr _⟩
      · exact Int.emod_nonneg _ (by decide)
      · refine Int.lt_trans (Int.emod_lt_of_pos _ (by decide)) (by decide)
end Br

set_option linter.all false
set_option Elab.async false
set_option autoImplicit false
set_option maxRecDepth 100000
set_option maxHeartbeats 2000000
/-! BrQ2: a thing drawn, the start, names drawn. -/
namespace Br
def cQ_pick : List CS := [.ret (.idx (.loc 1) (.call 10 [(.loc 0), (.bi .len [(.loc 1)])] [] []))]
def fQ_pick : Fn := ⟨[15, 17], [], false, [], 2, cQ_pick⟩
section
variable {G : Gm} (hG : G.fns.lookup (0, 10) = some fQ_pull) (hP : G.fns.lookup (0, 11) = some fQ_pick)
include hG hP
theorem pick_ref {k : Nat} {h : AH} {b r : Nat} {xs : List AV} (B : Bag h b) (e : h[r]? = some (.lst xs)) (n : r ≠ b) (l : 0 < xs.length) (l2 : xs.length < 1073741824) :
    Rw (callAt G (k + 2) (0, 11) [.ref b, .ref r] [] h) fun v h' => v ∈ xs ∧ Bag h' b ∧ Fr b h h' := by
  rw [w_call (f := fQ_pick) (ws := [.ref b, .ref r]) hP rfl]
  simp only [fQ_pick, cQ_pick, List.map_cons, List.map_nil, List.replicate, List.cons_append, List.nil_append, List.length_cons, List.length_nil, Nat.reduceAdd, Nat.reduceSub]
  rw [wB_cons]
  simp only [wE_loc, wE_con, wE_glo, wE_bin, wE_not, wE_and, wE_or, wE_ite, wE_isN, wE_notN, wE_cmp, wE_cmp2, wE_lst, wE_tup, wE_idx, wE_slc, wE_isi, wE_bi, wE_bm, wE_call, wE_cattr, wE_lis, wE_lcomp, wO_none, wO_some, iw_int, wEs_nil, wT_nil, wT_cons, wB_nil, wS_set, wS_ret, wS_ite, wS_for, wG_loc, wG_idx, wG_tup, bw_bl, es_loc, es_con, es_glo, es_bin, es_neg, es_not, es_and, es_or, es_isN, es_notN, es_cmp, es_cmp2, es_ite, es_lst, es_tup, es_fst, es_idx, es_slc, es_rev, es_isi, es_bi, es_bm, es_call, es_cattr, es_lis, es_tpl, es_lcomp, b_add, b_sub, b_mul, b_fdiv, b_mod, b_pow, b_adds, c_lt, c_le, c_gt, c_ge, c_eq, c_ne, c_eqb, c_in, c_nin, f_abs, f_int, c_le', c_lt', s_sub, sub_lst, s_put, put_lst, List.getElem?_cons_zero, List.getElem?_cons_succ, Option.some.injEq, exists_eq_left', Option.bind_some, List.length_cons, List.length_nil, Nat.reduceAdd, List.set_cons_succ, List.set_cons_zero, v_slcS, Nat.reduceLT, true_and, wipeC, List.foldr_cons, List.foldr_nil, f_lenR e, List.zip_nil_left]
  refine (pull_ok hG B (m := xs.length) (by omega) (by omega)).mono ?_
  rintro v h' ⟨d, rfl, d0, d1, B', F⟩
  obtain ⟨d, rfl⟩ := Int.eq_ofNat_of_zero_le d0
  have dl : d < xs.length := by omega
  have e' : h'[r]? = some (.lst xs) := (F.2 r (List.getElem?_eq_some_iff.mp e).1 n).trans e
  simp only [wE_loc, wE_con, wE_glo, wE_bin, wE_not, wE_and, wE_or, wE_ite, wE_isN, wE_notN, wE_cmp, wE_cmp2, wE_lst, wE_tup, wE_idx, wE_slc, wE_isi, wE_bi, wE_bm, wE_call, wE_cattr, wE_lis, wE_lcomp, wO_none, wO_some, iw_int, wEs_nil, wT_nil, wT_cons, wB_nil, wS_set, wS_ret, wS_ite, wS_for, wG_loc, wG_idx, wG_tup, bw_bl, es_loc, es_con, es_glo, es_bin, es_neg, es_not, es_and, es_or, es_isN, es_notN, es_cmp, es_cmp2, es_ite, es_lst, es_tup, es_fst, es_idx, es_slc, es_rev, es_isi, es_bi, es_bm, es_call, es_cattr, es_lis, es_tpl, es_lcomp, b_add, b_sub, b_mul, b_fdiv, b_mod, b_pow, b_adds, c_lt, c_le, c_gt, c_ge, c_eq, c_ne, c_eqb, c_in, c_nin, f_abs, f_int, c_le', c_lt', s_sub, sub_lst, s_put, put_lst, List.getElem?_cons_zero, List.getElem?_cons_succ, Option.some.injEq, exists_eq_left', Option.bind_some, List.length_cons, List.length_nil, Nat.reduceAdd, List.set_cons_succ, List.set_cons_zero, v_slcS, Nat.reduceLT, true_and, wipeC, List.foldr_cons, List.foldr_nil, e', ixN_nat dl]
  exact ⟨xs[d], by simp [dl], List.getElem_mem dl, B', F⟩
theorem pick_str {k : Nat} {h : AH} {b : Nat} {s : List Nat} (B : Bag h b) (l : 0 < s.length) (l2 : s.length ≤ lim) :
    Rw (callAt G (k + 2) (0, 11) [.ref b, .str s] [] h) fun v h' => (∃ c ∈ s, v = .str [c]) ∧ Bag h' b ∧ Fr b h h' := by
  have l3 : s.length < 1073741824 := Nat.lt_of_le_of_lt l2 (by decide)
  rw [w_call (f := fQ_pick) (ws := [.ref b, .str s]) hP rfl]
  simp only [fQ_pick, cQ_pick, List.map_cons, List.map_nil, List.replicate, List.cons_append, List.nil_append, List.length_cons, List.length_nil, Nat.reduceAdd, Nat.reduceSub]
  rw [wB_cons]
  simp only [wE_loc, wE_con, wE_glo, wE_bin, wE_not, wE_and, wE_or, wE_ite, wE_isN, wE_notN, wE_cmp, wE_cmp2, wE_lst, wE_tup, wE_idx, wE_slc, wE_isi, wE_bi, wE_bm, wE_call, wE_cattr, wE_lis, wE_lcomp, wO_none, wO_some, iw_int, wEs_nil, wT_nil, wT_cons, wB_nil, wS_set, wS_ret, wS_ite, wS_for, wG_loc, wG_idx, wG_tup, bw_bl, es_loc, es_con, es_glo, es_bin, es_neg, es_not, es_and, es_or, es_isN, es_notN, es_cmp, es_cmp2, es_ite, es_lst, es_tup, es_fst, es_idx, es_slc, es_rev, es_isi, es_bi, es_bm, es_call, es_cattr, es_lis, es_tpl, es_lcomp, b_add, b_sub, b_mul, b_fdiv, b_mod, b_pow, b_adds, c_lt, c_le, c_gt, c_ge, c_eq, c_ne, c_eqb, c_in, c_nin, f_abs, f_int, c_le', c_lt', s_sub, sub_lst, s_put, put_lst, List.getElem?_cons_zero, List.getElem?_cons_succ, Option.some.injEq, exists_eq_left', Option.bind_some, List.length_cons, List.length_nil, Nat.reduceAdd, List.set_cons_succ, List.set_cons_zero, v_slcS, Nat.reduceLT, true_and, wipeC, List.foldr_cons, List.foldr_nil, f_lenS l2, List.zip_nil_left]
  refine (pull_ok hG B (m := s.length) (by omega) (by omega)).mono ?_
  rintro v h' ⟨d, rfl, d0, d1, B', F⟩
  obtain ⟨d, rfl⟩ := Int.eq_ofNat_of_zero_le d0
  have dl : d < s.length := by omega
  rw [s_str (c := s[d]) l2 (by rw [ixN_nat dl]; simp [dl])]
  exact ⟨⟨s[d], List.getElem_mem dl, rfl⟩, B', F⟩
end
/-! range, join -/
section
variable {α : Type} {G : Gm} {C : Callee} {a : Lc} {h : AH}
theorem mk_range1 {j : Int} {Q : Itr → AH → Prop} (c1 : -lim ≤ j) (c2 : j ≤ lim) : Rw (mkI .range [.int j] h) Q = Q (.one (.pure (rangeL 0 j))) h := by
  show Rw (if -lim ≤ j ∧ j ≤ lim then .ok (.one (.pure (rangeL 0 j))) h else .fail) Q = _
  rw [if_pos ⟨c1, c2⟩]; rfl
theorem mk_range2 {i j : Int} {Q : Itr → AH → Prop} (c : (-lim ≤ i ∧ i ≤ lim) ∧ -lim ≤ j ∧ j ≤ lim) : Rw (mkI .range [.int i, .int j] h) Q = Q (.one (.pure (rangeL i j))) h := by
  show Rw (if (-lim ≤ i ∧ i ≤ lim) ∧ -lim ≤ j ∧ j ≤ lim then .ok (.one (.pure (rangeL i j))) h else .fail) Q = _
  rw [if_pos c]; rfl
theorem mk_fl {xs : List AV} {Q : Itr → AH → Prop} : Rw (mkI .val [.fl xs] h) Q = Q (.one (.pure xs)) h := rfl
theorem mk_tup {xs : List AV} {Q : Itr → AH → Prop} : Rw (mkI .val [.tup xs] h) Q = Q (.one (.pure xs)) h := rfl
theorem mk_kt {xs : List AV} {Q : Itr → AH → Prop} : Rw (mkI .val [.kt xs] h) Q = Q (.one (.pure xs)) h := rfl
theorem mk_str {xs : List Nat} {Q : Itr → AH → Prop} : Rw (mkI .val [.str xs] h) Q = Q (.one (.pure (xs.map fun c => .str [c]))) h := rfl
theorem range_len {i j : Int} : (rangeL i j).length = (j - i).toNat := by unfold rangeL; simp
theorem range_get {i j : Int} {k : Nat} {v : AV} (e : (rangeL i j)[k]? = some v) : v = .int (i + k) ∧ k < (j - i).toNat := by
  unfold rangeL at e
  rw [List.getElem?_map] at e
  cases q : (List.range (j - i).toNat)[k]? with
  | none => rw [q] at e; cases e
  | some n =>
    rw [q] at e
    have l := (List.getElem?_eq_some_iff.mp q).1
    rw [List.length_range] at l
    rw [List.getElem?_range l] at q
    cases q
    cases e
    exact ⟨rfl, l⟩
theorem allS_map {ys : List (List Nat)} : allS (ys.map AV.str) = some ys := by
  induction ys with
  | nil => rfl
  | cons y r ih => show (allS (r.map AV.str)).map (y :: ·) = _; rw [ih]; rfl
theorem f_join {s : List Nat} {r : Nat} {ys : List (List Nat)} {Q : AV → AH → Prop} (e : h[r]? = some (.lst (ys.map AV.str))) (l : (ys.map (·.length)).sum + ys.length * s.length ≤ lim) : Rw (bmF .join (.str s) [.ref r] h) Q = Q (.str (joinL s ys)) h := by
  unfold bmF
  have e2 : (seqOf h (.ref r)).bind allS = some ys := by
    unfold seqOf
    simp only [e]
    exact allS_map
  simp only [e2, if_pos l]
  rfl
theorem join_ones : ∀ cs : List Nat, joinL [] (cs.map fun c => [c]) = cs
  | [] => rfl
  | [c] => rfl
  | c :: d :: r => by
    show [c] ++ ([] ++ joinL [] ((d :: r).map fun c => [c])) = _
    rw [join_ones (d :: r)]; rfl
end
theorem get_app {h l : AH} {i : Nat} {o : AO} (e : h[i]? = some o) : (h ++ l)[i]? = some o := by
  rw [List.getElem?_append_left (List.getElem?_eq_some_iff.mp e).1]; exact e
theorem get_new {h : AH} {o : AO} : (h ++ [o])[h.length]? = some o := by simp
theorem Bag.app {h l : AH} {b : Nat} (B : Bag h b) : Bag (h ++ l) b := by
  obtain ⟨c, ns, i, g, x, t, hb, hc, r⟩ := B
  exact ⟨c, ns, i, g, x, t, get_app hb, get_app hc, r⟩
theorem Bag.lt {h : AH} {b : Nat} (B : Bag h b) : b < h.length := by
  obtain ⟨_, _, _, _, _, _, e, _⟩ := B
  exact (List.getElem?_eq_some_iff.mp e).1
theorem Fr.app {h l : AH} {b : Nat} : Fr b h (h ++ l) := ⟨by simp, fun i q _ => List.getElem?_append_left q⟩
theorem Fr.get {h h' : AH} {b i : Nat} {o : AO} (F : Fr b h h') (e : h[i]? = some o) (n : i ≠ b) : h'[i]? = some o := (F.2 i (List.getElem?_eq_some_iff.mp e).1 n).trans e
/-! names drawn -/
def abc : List Nat := [97, 98, 99, 100, 101, 102, 103, 104, 105, 106, 107, 108, 109, 110, 111, 112, 113, 114, 115, 116, 117, 118, 119, 120, 121, 122]
def cQ_names : List CS := [.set (.loc 2) (.con (.str [97, 98, 99, 100, 101, 102, 103, 104, 105, 106, 107, 108, 109, 110, 111, 112, 113, 114, 115, 116, 117, 118, 119, 120, 121, 122])),
    .set (.loc 3) (.bm .join (.con (.str [])) [(.lcomp [6] false .range [(.call 11 [(.loc 0), (.lst [(.con (.int 0)), (.con (.int 1)), (.con (.int 3)), (.con (.int 7))])] [] [])] [] (.call 11 [(.loc 0), (.loc 2)] [] []))]),
    .set (.tup [4, 5] none) (.tup [(.call 10 [(.loc 0), (.bin .add (.bi .len [(.loc 3)]) (.con (.int 1)))] [] []), (.call 10 [(.loc 0), (.con (.int 26))] [] [])]),
    .ret (.lcomp [6] false .range [(.loc 1)] [] (.bin .add (.bin .add (.slc (.loc 3) none (some (.loc 4))) (.idx (.loc 2) (.bin .mod (.bi .int [(.bin .add (.loc 5) (.loc 6))]) (.con (.int 26))))) (.slc (.loc 3) (some (.loc 4)) none)))]
def fQ_names : Fn := ⟨[15, 16], [], false, [], 7, cQ_names⟩
structure Stem where
  s : List Nat
  p : Nat
  f : Nat
  l7 : s.length ≤ 7
  ab : ∀ c ∈ s, c ∈ abc
  pl : p ≤ s.length
  fl : f < 26
def Stem.name (S : Stem) (k : Nat) : List Nat := S.s.take S.p ++ [97 + (S.f + k) % 26] ++ S.s.drop S.p
theorem abc_get {i : Nat} (l : i < 26) : abc[i]? = some (97 + i) := by
  have : ∀ i : Fin 26, abc[i.val]? = some (97 + i.val) := by decide
  exact this ⟨i, l⟩
theorem abc_mem {i : Nat} (l : i < 26) : 97 + i ∈ abc := List.mem_of_getElem? (abc_get l)
theorem Stem.len (S : Stem) (k : Nat) : (S.name k).length = S.s.length + 1 := by
  unfold Stem.name
  have := S.pl
  simp
  omega
theorem Stem.abc (S : Stem) (k : Nat) : ∀ c ∈ S.name k, c ∈ abc := by
  intro c m
  unfold Stem.name at m
  rcases List.mem_append.mp m with m | m
  · rcases List.mem_append.mp m with m | m
    · exact S.ab c (List.mem_of_mem_take m)
    · rw [List.mem_singleton.mp m]
      exact abc_mem (Nat.mod_lt _ (by decide))
  · exact S.ab c (List.mem_of_mem_drop m)
section
variable {G : Gm} (hG : G.fns.lookup (0, 10) = some fQ_pull) (hP : G.fns.lookup (0, 11) = some fQ_pick) (hN : G.fns.lookup (0, 13) = some fQ_names)
include hG hP hN
theorem names_ok {k : Nat} {h : AH} {b : Nat} {n : Nat} (B : Bag h b) (l : n ≤ 1000) :
    Rw (callAt G (k + 3) (0, 13) [.ref b, .int n] [] h) fun v h' => ∃ (S : Stem) (r : Nat), v = .ref r ∧ h.length ≤ r ∧ h'[r]? = some (.lst ((List.range n).map fun k => .str (S.name k))) ∧ Bag h' b ∧ Fr b h h' := by
  have lb : b < h.length := by
    obtain ⟨_, _, _, _, _, _, e, _⟩ := B
    exact (List.getElem?_eq_some_iff.mp e).1
  rw [w_call (f := fQ_names) (ws := [.ref b, .int n]) hN rfl]
  simp only [fQ_names, cQ_names, List.map_cons, List.map_nil, List.replicate, List.cons_append, List.nil_append, List.length_cons, List.length_nil, Nat.reduceAdd, Nat.reduceSub]
  rw [wB_cons]
  simp only [wE_loc, wE_con, wE_glo, wE_bin, wE_not, wE_and, wE_or, wE_ite, wE_isN, wE_notN, wE_cmp, wE_cmp2, wE_lst, wE_tup, wE_idx, wE_slc, wE_isi, wE_bi, wE_bm, wE_call, wE_cattr, wE_lis, wE_lcomp, wO_none, wO_some, iw_int, wEs_nil, wT_nil, wT_cons, wB_nil, wS_set, wS_ret, wS_ite, wS_for, wG_loc, wG_idx, wG_tup, bw_bl, es_loc, es_con, es_glo, es_bin, es_neg, es_not, es_and, es_or, es_isN, es_notN, es_cmp, es_cmp2, es_ite, es_lst, es_tup, es_fst, es_idx, es_slc, es_rev, es_isi, es_bi, es_bm, es_call, es_cattr, es_lis, es_tpl, es_lcomp, b_add, b_sub, b_mul, b_fdiv, b_mod, b_pow, b_adds, c_lt, c_le, c_gt, c_ge, c_eq, c_ne, c_eqb, c_in, c_nin, f_abs, f_int, c_le', c_lt', s_sub, sub_lst, s_put, put_lst, List.getElem?_cons_zero, List.getElem?_cons_succ, Option.some.injEq, exists_eq_left', Option.bind_some, List.length_cons, List.length_nil, Nat.reduceAdd, List.set_cons_succ, List.set_cons_zero, v_slcS, Nat.reduceLT, true_and, wipeC, List.foldr_cons, List.foldr_nil]
  rw [wB_cons]
  simp only [wE_loc, wE_con, wE_glo, wE_bin, wE_not, wE_and, wE_or, wE_ite, wE_isN, wE_notN, wE_cmp, wE_cmp2, wE_lst, wE_tup, wE_idx, wE_slc, wE_isi, wE_bi, wE_bm, wE_call, wE_cattr, wE_lis, wE_lcomp, wO_none, wO_some, iw_int, wEs_nil, wT_nil, wT_cons, wB_nil, wS_set, wS_ret, wS_ite, wS_for, wG_loc, wG_idx, wG_tup, bw_bl, es_loc, es_con, es_glo, es_bin, es_neg, es_not, es_and, es_or, es_isN, es_notN, es_cmp, es_cmp2, es_ite, es_lst, es_tup, es_fst, es_idx, es_slc, es_rev, es_isi, es_bi, es_bm, es_call, es_cattr, es_lis, es_tpl, es_lcomp, b_add, b_sub, b_mul, b_fdiv, b_mod, b_pow, b_adds, c_lt, c_le, c_gt, c_ge, c_eq, c_ne, c_eqb, c_in, c_nin, f_abs, f_int, c_le', c_lt', s_sub, sub_lst, s_put, put_lst, List.getElem?_cons_zero, List.getElem?_cons_succ, Option.some.injEq, exists_eq_left', Option.bind_some, List.length_cons, List.length_nil, Nat.reduceAdd, List.set_cons_succ, List.set_cons_zero, v_slcS, Nat.reduceLT, true_and, wipeC, List.foldr_cons, List.foldr_nil, List.zip_nil_left, w_newL]
  refine ⟨rfl, by decide, ?_⟩
  refine (pick_ref hG hP B.app get_new (by omega) (by decide) (by decide)).mono ?_
  rintro v h1 ⟨vm, B1, F1⟩
  have hv : ∃ m : Nat, m ≤ 7 ∧ v = .int m := by
    simp only [List.mem_cons, List.not_mem_nil, or_false] at vm
    rcases vm with rfl | rfl | rfl | rfl
    · exact ⟨0, by decide, rfl⟩
    · exact ⟨1, by decide, rfl⟩
    · exact ⟨3, by decide, rfl⟩
    · exact ⟨7, by decide, rfl⟩
  obtain ⟨m, ml, rfl⟩ := hv
  have G1 : Fr b h h1 := Fr.app.trans F1
  rw [mk_range1 (by unfold lim; omega) (by unfold lim; omega)]
  refine w_comp (I := fun k acc h' => ∃ cs : List Nat, cs.length = k ∧ acc = cs.map (fun c => .str [c]) ∧ (∀ c ∈ cs, c ∈ abc) ∧ Bag h' b ∧ Fr b h h') ⟨[], rfl, rfl, by simp, B1, G1⟩ ?_ ?_
  · rintro i v acc h2 e ⟨cs, rfl, rfl, ca, B2, F2⟩
    obtain ⟨rfl, il⟩ := range_get e
    refine ⟨_, rfl, ?_⟩
    simp only [wE_loc, wE_con, wE_glo, wE_bin, wE_not, wE_and, wE_or, wE_ite, wE_isN, wE_notN, wE_cmp, wE_cmp2, wE_lst, wE_tup, wE_idx, wE_slc, wE_isi, wE_bi, wE_bm, wE_call, wE_cattr, wE_lis, wE_lcomp, wO_none, wO_some, iw_int, wEs_nil, wT_nil, wT_cons, wB_nil, wS_set, wS_ret, wS_ite, wS_for, wG_loc, wG_idx, wG_tup, bw_bl, es_loc, es_con, es_glo, es_bin, es_neg, es_not, es_and, es_or, es_isN, es_notN, es_cmp, es_cmp2, es_ite, es_lst, es_tup, es_fst, es_idx, es_slc, es_rev, es_isi, es_bi, es_bm, es_call, es_cattr, es_lis, es_tpl, es_lcomp, b_add, b_sub, b_mul, b_fdiv, b_mod, b_pow, b_adds, c_lt, c_le, c_gt, c_ge, c_eq, c_ne, c_eqb, c_in, c_nin, f_abs, f_int, c_le', c_lt', s_sub, sub_lst, s_put, put_lst, List.getElem?_cons_zero, List.getElem?_cons_succ, Option.some.injEq, exists_eq_left', Option.bind_some, List.length_cons, List.length_nil, Nat.reduceAdd, List.set_cons_succ, List.set_cons_zero, v_slcS, Nat.reduceLT, true_and, wipeC, List.foldr_cons, List.foldr_nil, if_true, List.zip_nil_left]
    refine (pick_str hG hP (s := abc) B2 (by decide) (by decide)).mono ?_
    rintro v h3 ⟨⟨c, cm, rfl⟩, B3, F3⟩
    refine ⟨by simp [lim]; omega, cs ++ [c], by simp, by simp, ?_, B3, F2.trans F3⟩
    intro x xm
    rcases List.mem_append.mp xm with xm | xm
    · exact ca x xm
    · rw [List.mem_singleton.mp xm]; exact cm
  · rintro acc h2 ⟨cs, cl, rfl, ca, B2, F2⟩
    rw [range_len] at cl
    have cl7 : cs.length ≤ 7 := by omega
    refine ⟨by simp [lim]; omega, ?_⟩
    refine ⟨by simp [lim]; omega, ?_⟩
    rw [f_join (ys := cs.map fun c => [c]) (by rw [get_new]; simp) (by
      have : ∀ l : List Nat, ((l.map fun c => [c]).map (·.length)).sum = l.length := by
        intro l; induction l with
        | nil => rfl
        | cons y r ih => simp [List.map_cons, List.sum_cons] at ih ⊢; omega
      rw [this]; simp [lim]; omega)]
    rw [join_ones]
    rw [wB_cons]
    simp only [wE_loc, wE_con, wE_glo, wE_bin, wE_not, wE_and, wE_or, wE_ite, wE_isN, wE_notN, wE_cmp, wE_cmp2, wE_lst, wE_tup, wE_idx, wE_slc, wE_isi, wE_bi, wE_bm, wE_call, wE_cattr, wE_lis, wE_lcomp, wO_none, wO_some, iw_int, wEs_nil, wT_nil, wT_cons, wB_nil, wS_set, wS_ret, wS_ite, wS_for, wG_loc, wG_idx, wG_tup, bw_bl, es_loc, es_con, es_glo, es_bin, es_neg, es_not, es_and, es_or, es_isN, es_notN, es_cmp, es_cmp2, es_ite, es_lst, es_tup, es_fst, es_idx, es_slc, es_rev, es_isi, es_bi, es_bm, es_call, es_cattr, es_lis, es_tpl, es_lcomp, b_add, b_sub, b_mul, b_fdiv, b_mod, b_pow, b_adds, c_lt, c_le, c_gt, c_ge, c_eq, c_ne, c_eqb, c_in, c_nin, f_abs, f_int, c_le', c_lt', s_sub, sub_lst, s_put, put_lst, List.getElem?_cons_zero, List.getElem?_cons_succ, Option.some.injEq, exists_eq_left', Option.bind_some, List.length_cons, List.length_nil, Nat.reduceAdd, List.set_cons_succ, List.set_cons_zero, v_slcS, Nat.reduceLT, true_and, wipeC, List.foldr_cons, List.foldr_nil, List.zip_nil_left, f_lenS (s := cs) (by unfold lim; omega)]
    refine (pull_ok hG B2.app (by omega) (by omega)).mono ?_
    rintro v h3 ⟨p, rfl, p0, p1, B3, F3⟩
    refine (pull_ok hG B3 (by omega) (by omega)).mono ?_
    rintro v h4 ⟨f, rfl, f0, f1, B4, F4⟩
    refine ⟨by decide, _, rfl, ?_⟩
    rw [wB_cons]
    simp only [wE_loc, wE_con, wE_glo, wE_bin, wE_not, wE_and, wE_or, wE_ite, wE_isN, wE_notN, wE_cmp, wE_cmp2, wE_lst, wE_tup, wE_idx, wE_slc, wE_isi, wE_bi, wE_bm, wE_call, wE_cattr, wE_lis, wE_lcomp, wO_none, wO_some, iw_int, wEs_nil, wT_nil, wT_cons, wB_nil, wS_set, wS_ret, wS_ite, wS_for, wG_loc, wG_idx, wG_tup, bw_bl, es_loc, es_con, es_glo, es_bin, es_neg, es_not, es_and, es_or, es_isN, es_notN, es_cmp, es_cmp2, es_ite, es_lst, es_tup, es_fst, es_idx, es_slc, es_rev, es_isi, es_bi, es_bm, es_call, es_cattr, es_lis, es_tpl, es_lcomp, b_add, b_sub, b_mul, b_fdiv, b_mod, b_pow, b_adds, c_lt, c_le, c_gt, c_ge, c_eq, c_ne, c_eqb, c_in, c_nin, f_abs, f_int, c_le', c_lt', s_sub, sub_lst, s_put, put_lst, List.getElem?_cons_zero, List.getElem?_cons_succ, Option.some.injEq, exists_eq_left', Option.bind_some, List.length_cons, List.length_nil, Nat.reduceAdd, List.set_cons_succ, List.set_cons_zero, v_slcS, Nat.reduceLT, true_and, wipeC, List.foldr_cons, List.foldr_nil]
    obtain ⟨p, rfl⟩ := Int.eq_ofNat_of_zero_le p0
    obtain ⟨f, rfl⟩ := Int.eq_ofNat_of_zero_le f0
    have G4 : Fr b h h4 := ((F2.trans Fr.app).trans F3).trans F4
    let S : Stem := ⟨cs, p, f, cl7, ca, by omega, by omega⟩
    rw [mk_range1 (by unfold lim; omega) (by unfold lim; omega)]
    refine w_comp (I := fun k acc h' => acc = (List.range k).map (fun k => .str (S.name k)) ∧ h' = h4) ⟨rfl, rfl⟩ ?_ ?_
    · rintro i v acc h5 e ⟨rfl, rfl⟩
      obtain ⟨rfl, il⟩ := range_get e
      refine ⟨_, rfl, ?_⟩
      simp only [wE_loc, wE_con, wE_glo, wE_bin, wE_not, wE_and, wE_or, wE_ite, wE_isN, wE_notN, wE_cmp, wE_cmp2, wE_lst, wE_tup, wE_idx, wE_slc, wE_isi, wE_bi, wE_bm, wE_call, wE_cattr, wE_lis, wE_lcomp, wO_none, wO_some, iw_int, wEs_nil, wT_nil, wT_cons, wB_nil, wS_set, wS_ret, wS_ite, wS_for, wG_loc, wG_idx, wG_tup, bw_bl, es_loc, es_con, es_glo, es_bin, es_neg, es_not, es_and, es_or, es_isN, es_notN, es_cmp, es_cmp2, es_ite, es_lst, es_tup, es_fst, es_idx, es_slc, es_rev, es_isi, es_bi, es_bm, es_call, es_cattr, es_lis, es_tpl, es_lcomp, b_add, b_sub, b_mul, b_fdiv, b_mod, b_pow, b_adds, c_lt, c_le, c_gt, c_ge, c_eq, c_ne, c_eqb, c_in, c_nin, f_abs, f_int, c_le', c_lt', s_sub, sub_lst, s_put, put_lst, List.getElem?_cons_zero, List.getElem?_cons_succ, Option.some.injEq, exists_eq_left', Option.bind_some, List.length_cons, List.length_nil, Nat.reduceAdd, List.set_cons_succ, List.set_cons_zero, v_slcS, Nat.reduceLT, true_and, wipeC, List.foldr_cons, List.foldr_nil, if_true, cut_take, cut_drop, List.length_append, List.length_take, List.length_drop]
      refine ⟨by unfold lim; omega, by omega, ?_⟩
      have e26 : ((f : Int) + (0 + (i : Int))) % 26 = (((f + i) % 26 : Nat) : Int) := by omega
      have fl : (f + i) % 26 < 26 := Nat.mod_lt _ (by decide)
      rw [e26, s_str (c := 97 + (f + i) % 26) (by decide) (by rw [ixN_nat (by simpa using fl)]; exact abc_get fl)]
      simp only [wE_loc, wE_con, wE_glo, wE_bin, wE_not, wE_and, wE_or, wE_ite, wE_isN, wE_notN, wE_cmp, wE_cmp2, wE_lst, wE_tup, wE_idx, wE_slc, wE_isi, wE_bi, wE_bm, wE_call, wE_cattr, wE_lis, wE_lcomp, wO_none, wO_some, iw_int, wEs_nil, wT_nil, wT_cons, wB_nil, wS_set, wS_ret, wS_ite, wS_for, wG_loc, wG_idx, wG_tup, bw_bl, es_loc, es_con, es_glo, es_bin, es_neg, es_not, es_and, es_or, es_isN, es_notN, es_cmp, es_cmp2, es_ite, es_lst, es_tup, es_fst, es_idx, es_slc, es_rev, es_isi, es_bi, es_bm, es_call, es_cattr, es_lis, es_tpl, es_lcomp, b_add, b_sub, b_mul, b_fdiv, b_mod, b_pow, b_adds, c_lt, c_le, c_gt, c_ge, c_eq, c_ne, c_eqb, c_in, c_nin, f_abs, f_int, c_le', c_lt', s_sub, sub_lst, s_put, put_lst, List.getElem?_cons_zero, List.getElem?_cons_succ, Option.some.injEq, exists_eq_left', Option.bind_some, List.length_cons, List.length_nil, Nat.reduceAdd, List.set_cons_succ, List.set_cons_zero, v_slcS, Nat.reduceLT, true_and, wipeC, List.foldr_cons, List.foldr_nil, cut_take, cut_drop, List.length_append, List.length_take, List.length_drop]
      refine ⟨by unfold lim; omega, by unfold lim; omega, by unfold lim; omega, by simp [lim]; omega, ?_⟩
      rw [List.range_succ, List.map_append]
      exact ⟨rfl, trivial⟩
    · rintro acc h5 ⟨rfl, rfl⟩
      rw [range_len]
      have e : (↑n - (0 : Int)).toNat = n := by omega
      rw [e]
      refine ⟨by simp [lim]; omega, ?_⟩
      simp only [w_newL]
      refine ⟨by simp [lim]; omega, S, _, rfl, G4.1, get_new, B4.app, G4.trans Fr.app⟩
end
end Br

set_option linter.all false
set_option Elab.async false
set_option autoImplicit false
set_option maxRecDepth 100000
set_option maxHeartbeats 2000000
/-! BrQ3: the laws' same. -/
namespace Br
def cQ_same : List CS := [.ite (.or (.isN (.loc 1)) (.isN (.loc 0))) [.ret (.and (.isN (.loc 1)) (.isN (.loc 0)))] [],
    .ite (.isi (.loc 1) [.list]) [.ite (.or (.not (.isi (.loc 0) [.list])) (.cmp .ne (.bi .len [(.loc 0)]) (.bi .len [(.loc 1)]))) [.ret (.con (.bl false))] [],
    .ret (.bi .all [(.lcomp [2, 3] true .zip [(.loc 0), (.loc 1)] [] (.call 12 [(.loc 2), (.loc 3)] [] []))])] [],
    .ite (.isi (.loc 1) [.tuple]) [.ite (.or (.not (.isi (.loc 0) [.tuple])) (.cmp .ne (.bi .len [(.loc 0)]) (.bi .len [(.loc 1)]))) [.ret (.con (.bl false))] [],
    .ret (.bi .all [(.lcomp [2, 3] true .zip [(.loc 0), (.loc 1)] [] (.call 12 [(.loc 2), (.loc 3)] [] []))])] [],
    .ite (.isi (.loc 1) [.bool]) [.ret (.and (.isi (.loc 0) [.bool]) (.cmp .eq (.loc 0) (.loc 1)))] [],
    .ite (.isi (.loc 1) [.int]) [.ite (.not (.isi (.loc 0) [.int])) [.ret (.con (.bl false))] [],
    .ret (.and (.not (.isi (.loc 0) [.bool])) (.cmp .eq (.loc 0) (.loc 1)))] [],
    .ret (.and (.isi (.loc 0) [.str]) (.cmp .eq (.loc 0) (.loc 1)))]
def fQ_same : Fn := ⟨[18, 19], [], false, [], 4, cQ_same⟩
theorem toTs_app {f g : AV → Option T} (q : ∀ v t, f v = some t → g v = some t) : ∀ {xs : List AV} {ts : List T}, toTs f xs = some ts → toTs g xs = some ts
  | [], _, e => e
  | x :: xs, ts, e => by
    unfold toTs at e ⊢
    cases p : f x with
    | none => simp [p] at e
    | some y =>
      cases r : toTs f xs with
      | none => simp [p, r] at e
      | some ys =>
        simp only [p, r] at e
        simp only [q x y p, toTs_app q r]
        exact e
theorem toT_app {h l : AH} : ∀ {n : Nat} {v : AV} {t : T}, toT h n v = some t → toT (h ++ l) n v = some t
  | 0, v, t, e => e
  | n + 1, v, t, e => by
    cases v with
    | tup xs =>
      unfold toT at e ⊢
      simp only at e ⊢
      cases p : toTs (toT h n) xs with
      | none => rw [p] at e; cases e
      | some ts => rw [p] at e; rw [toTs_app (fun v t => toT_app) p]; exact e
    | kt xs =>
      unfold toT at e ⊢
      simp only at e ⊢
      cases p : toTs (toT h n) xs with
      | none => rw [p] at e; cases e
      | some ts => rw [p] at e; rw [toTs_app (fun v t => toT_app) p]; exact e
    | fl xs =>
      unfold toT at e ⊢
      simp only at e ⊢
      cases p : toTs (toT h n) xs with
      | none => rw [p] at e; cases e
      | some ts => rw [p] at e; rw [toTs_app (fun v t => toT_app) p]; exact e
    | ref i =>
      unfold toT at e ⊢
      simp only at e ⊢
      cases q : h[i]? with
      | none => rw [q] at e; cases e
      | some o => cases o with
        | lst xs =>
          rw [q] at e
          rw [get_app q]
          simp only at e ⊢
          cases p : toTs (toT h n) xs with
          | none => rw [p] at e; cases e
          | some ts => rw [p] at e; rw [toTs_app (fun v t => toT_app) p]; exact e
        | dct t k l => rw [q] at e; cases e
        | ins c f => rw [q] at e; cases e
    | non => exact e
    | bl b => exact e
    | int i => exact e
    | str s => exact e
/-- the kinds of a tree -/
def T.kd : T → Nat
  | .non => 0
  | .lst _ => 1
  | .tup _ => 2
  | .bl _ => 3
  | .int _ => 4
  | .str _ => 5
/-- what a value is that reads as a tree -/
theorem toT_non {h : AH} {n : Nat} {v : AV} (e : toT h n v = some .non) : v = .non := by
  cases n <;> cases v <;> simp [toT, scT] at e <;> first | rfl | skip
  all_goals (split at e <;> simp at e)
theorem toT_bl {h : AH} {n : Nat} {v : AV} {b : Bool} (e : toT h n v = some (.bl b)) : v = .bl b := by
  cases n <;> cases v <;> simp [toT, scT] at e <;> first | (rw [e]) | skip
  all_goals (split at e <;> simp at e)
theorem toT_int {h : AH} {n : Nat} {v : AV} {b : Int} (e : toT h n v = some (.int b)) : v = .int b := by
  cases n <;> cases v <;> simp [toT, scT] at e <;> first | (rw [e]) | skip
  all_goals (split at e <;> simp at e)
theorem toT_str {h : AH} {n : Nat} {v : AV} {b : List Nat} (e : toT h n v = some (.str b)) : v = .str b ∧ okStr b = true := by
  cases n <;> cases v <;> simp [toT, scT] at e <;> first | (exact ⟨by rw [e.2], e.2 ▸ e.1⟩) | skip
  all_goals (split at e <;> simp at e)
theorem toT_lst {h : AH} {n : Nat} {v : AV} {ts : List T} (e : toT h n v = some (.lst ts)) : ∃ m xs, n = m + 1 ∧ lstOf h v = some xs ∧ toTs (toT h m) xs = some ts := by
  cases n with
  | zero => cases v <;> simp [toT, scT] at e
  | succ n =>
    refine ⟨n, ?_⟩
    cases v <;> simp [toT, scT, lstOf] at e ⊢
    · exact e
    · rename_i i
      cases q : h[i]? with
      | none => simp [q] at e
      | some o => cases o <;> simp [q] at e ⊢; exact e
theorem toT_tup {h : AH} {n : Nat} {v : AV} {ts : List T} (e : toT h n v = some (.tup ts)) : ∃ m xs, n = m + 1 ∧ tupOf v = some xs ∧ toTs (toT h m) xs = some ts := by
  cases n with
  | zero => cases v <;> simp [toT, scT] at e
  | succ n =>
    refine ⟨n, ?_⟩
    cases v <;> simp [toT, scT, tupOf] at e ⊢
    · exact e
    · exact e
    · split at e <;> simp at e
theorem lst_ty {G : Gm} {h : AH} {v : AV} {xs : List AV} (e : lstOf h v = some xs) : isiOk G h v = true ∧ isNon v = false ∧ hasTy G h v .list = true ∧ hasTy G h v .tuple = false ∧ clsOf h v = none ∧ lenV h v = some xs.length := by
  unfold lstOf at e
  cases v <;> simp at e
  · subst e; exact ⟨rfl, rfl, rfl, rfl, rfl, rfl⟩
  · rename_i i
    cases q : h[i]? with
    | none => simp [q] at e
    | some o =>
      cases o <;> simp [q] at e
      subst e
      simp [isiOk, isNon, hasTy, clsOf, lenV, q]
theorem tup_ty {G : Gm} {h : AH} {v : AV} {xs : List AV} (e : tupOf v = some xs) : isiOk G h v = true ∧ isNon v = false ∧ hasTy G h v .list = false ∧ hasTy G h v .tuple = true ∧ clsOf h v = none ∧ lenV h v = some xs.length := by
  cases v <;> simp [tupOf] at e <;> subst e <;> exact ⟨rfl, rfl, rfl, rfl, rfl, rfl⟩
theorem toTs_len {f : AV → Option T} : ∀ {xs : List AV} {ts : List T}, toTs f xs = some ts → xs.length = ts.length
  | [], ts, e => by cases e; rfl
  | x :: xs, ts, e => by
    unfold toTs at e
    cases p : f x with
    | none => simp [p] at e
    | some y =>
      cases r : toTs f xs with
      | none => simp [p, r] at e
      | some ys =>
        simp only [p, r] at e
        cases e
        simp [toTs_len r]
theorem toTs_get {f : AV → Option T} : ∀ {xs : List AV} {ts : List T} {k : Nat} {v : AV}, toTs f xs = some ts → xs[k]? = some v → ∃ t, ts[k]? = some t ∧ f v = some t
  | x :: xs, ts, k, v, e, g => by
    unfold toTs at e
    cases p : f x with
    | none => simp [p] at e
    | some y =>
      cases r : toTs f xs with
      | none => simp [p, r] at e
      | some ys =>
        simp only [p, r] at e
        cases e
        cases k with
        | zero => simp at g; subst g; exact ⟨y, rfl, p⟩
        | succ k =>
          obtain ⟨t, q1, q2⟩ := toTs_get r (show xs[k]? = some v by simpa using g)
          exact ⟨t, by simpa using q1, q2⟩
theorem f_len {G : Gm} {C : Callee} {h : AH} {v : AV} {n : Nat} {Q : AV → AH → Prop} (c : clsOf h v = none) (e : lenV h v = some n) : Rw (biF G C .len [v] h) Q = Q (.int n) h := by
  unfold biF
  simp only [c, e]
  rfl
mutual
/-- no list is too long -/
def T.sm : T → Bool
  | .lst ts => decide (ts.length ≤ lim) && T.sms ts
  | .tup ts => decide (ts.length ≤ lim) && T.sms ts
  | _ => true
def T.sms : List T → Bool
  | [] => true
  | t :: r => t.sm && T.sms r
end
theorem sms_get : ∀ {ts : List T} {k : Nat} {t : T}, T.sms ts = true → ts[k]? = some t → t.sm = true
  | t :: r, 0, u, e, g => by
    simp at g; subst g
    unfold T.sms at e
    exact (Bool.and_eq_true_iff.mp e).1
  | t :: r, k + 1, u, e, g => by
    unfold T.sms at e
    exact sms_get (Bool.and_eq_true_iff.mp e).2 (by simpa using g)
theorem allB_rep : ∀ n, allB (List.replicate n (.bl true)) = some (List.replicate n true)
  | 0 => rfl
  | n + 1 => by
    show (allB (List.replicate n (.bl true))).map (true :: ·) = _
    rw [allB_rep n]; rfl
theorem lst_cls {h : AH} {v : AV} {xs : List AV} (e : lstOf h v = some xs) : clsOf h v = none ∧ lenV h v = some xs.length :=
  have := lst_ty (G := ⟨[], [], [], []⟩) e
  ⟨this.2.2.2.2.1, this.2.2.2.2.2⟩
theorem tup_cls {h : AH} {v : AV} {xs : List AV} (e : tupOf v = some xs) : clsOf h v = none ∧ lenV h v = some xs.length :=
  have := tup_ty (G := ⟨[], [], [], []⟩) (h := h) e
  ⟨this.2.2.2.2.1, this.2.2.2.2.2⟩
theorem c_neI {G : Gm} {C : Callee} {h : AH} {i j : Int} {Q : Bool → AH → Prop} : Rw (cmpC G C .ne (.int i) (.int j) h) Q = Q (!(i == j)) h := rfl
theorem c_eqS {G : Gm} {C : Callee} {h : AH} {s : List Nat} {Q : Bool → AH → Prop} (o : okStr s = true) : Rw (cmpC G C .eq (.str s) (.str s) h) Q = Q true h := by
  show Rw (match eqV h (.str s) (.str s) with | some b => .ok b h | none => .fail) Q = _
  have : eqV h (.str s) (.str s) = some true := by
    unfold eqV eqD
    have : toT h deepN (.str s) = some (.str s) := by
      show (if okStr s then some (T.str s) else none) = _
      rw [if_pos o]
    rw [this]
    show some (decide (s = s)) = _
    rw [decide_eq_true rfl]
  rw [this]; rfl
section
variable {G : Gm} (hS : G.fns.lookup (0, 12) = some fQ_same)
include hS
theorem same_non {k : Nat} {h : AH} : Rw (callAt G (k + 1) (0, 12) [.non, .non] [] h) fun r h' => r = .bl true ∧ ∃ l, h' = h ++ l := by
  rw [w_call (f := fQ_same) (ws := [.non, .non]) hS rfl]
  simp only [fQ_same, cQ_same, List.map_cons, List.map_nil, List.replicate, List.cons_append, List.nil_append, List.length_cons, List.length_nil, Nat.reduceAdd, Nat.reduceSub]
  rw [wB_cons]
  simp only [wE_loc, wE_con, wE_glo, wE_bin, wE_not, wE_and, wE_or, wE_ite, wE_isN, wE_notN, wE_cmp, wE_cmp2, wE_lst, wE_tup, wE_idx, wE_slc, wE_isi, wE_bi, wE_bm, wE_call, wE_cattr, wE_lis, wE_lcomp, wO_none, wO_some, iw_int, wEs_nil, wT_nil, wT_cons, wB_nil, wS_set, wS_ret, wS_ite, wS_for, wG_loc, wG_idx, wG_tup, bw_bl, es_loc, es_con, es_glo, es_bin, es_neg, es_not, es_and, es_or, es_isN, es_notN, es_cmp, es_cmp2, es_ite, es_lst, es_tup, es_fst, es_idx, es_slc, es_rev, es_isi, es_bi, es_bm, es_call, es_cattr, es_lis, es_tpl, es_lcomp, b_add, b_sub, b_mul, b_fdiv, b_mod, b_pow, b_adds, c_lt, c_le, c_gt, c_ge, c_eq, c_ne, c_eqb, c_in, c_nin, f_abs, f_int, c_le', c_lt', s_sub, sub_lst, s_put, put_lst, List.getElem?_cons_zero, List.getElem?_cons_succ, Option.some.injEq, exists_eq_left', Option.bind_some, List.length_cons, List.length_nil, Nat.reduceAdd, List.set_cons_succ, List.set_cons_zero, v_slcS, Nat.reduceLT, true_and, wipeC, List.foldr_cons, List.foldr_nil, isNon, if_true]
  rw [wB_cons]
  simp only [wE_loc, wE_con, wE_glo, wE_bin, wE_not, wE_and, wE_or, wE_ite, wE_isN, wE_notN, wE_cmp, wE_cmp2, wE_lst, wE_tup, wE_idx, wE_slc, wE_isi, wE_bi, wE_bm, wE_call, wE_cattr, wE_lis, wE_lcomp, wO_none, wO_some, iw_int, wEs_nil, wT_nil, wT_cons, wB_nil, wS_set, wS_ret, wS_ite, wS_for, wG_loc, wG_idx, wG_tup, bw_bl, es_loc, es_con, es_glo, es_bin, es_neg, es_not, es_and, es_or, es_isN, es_notN, es_cmp, es_cmp2, es_ite, es_lst, es_tup, es_fst, es_idx, es_slc, es_rev, es_isi, es_bi, es_bm, es_call, es_cattr, es_lis, es_tpl, es_lcomp, b_add, b_sub, b_mul, b_fdiv, b_mod, b_pow, b_adds, c_lt, c_le, c_gt, c_ge, c_eq, c_ne, c_eqb, c_in, c_nin, f_abs, f_int, c_le', c_lt', s_sub, sub_lst, s_put, put_lst, List.getElem?_cons_zero, List.getElem?_cons_succ, Option.some.injEq, exists_eq_left', Option.bind_some, List.length_cons, List.length_nil, Nat.reduceAdd, List.set_cons_succ, List.set_cons_zero, v_slcS, Nat.reduceLT, true_and, wipeC, List.foldr_cons, List.foldr_nil, isNon, if_true]
  exact ⟨[], by simp⟩
theorem same_bl {k : Nat} {h : AH} {b : Bool} : Rw (callAt G (k + 1) (0, 12) [.bl b, .bl b] [] h) fun r h' => r = .bl true ∧ ∃ l, h' = h ++ l := by
  rw [w_call (f := fQ_same) (ws := [.bl b, .bl b]) hS rfl]
  simp only [fQ_same, cQ_same, List.map_cons, List.map_nil, List.replicate, List.cons_append, List.nil_append, List.length_cons, List.length_nil, Nat.reduceAdd, Nat.reduceSub]
  rw [wB_cons]
  simp only [wE_loc, wE_con, wE_glo, wE_bin, wE_not, wE_and, wE_or, wE_ite, wE_isN, wE_notN, wE_cmp, wE_cmp2, wE_lst, wE_tup, wE_idx, wE_slc, wE_isi, wE_bi, wE_bm, wE_call, wE_cattr, wE_lis, wE_lcomp, wO_none, wO_some, iw_int, wEs_nil, wT_nil, wT_cons, wB_nil, wS_set, wS_ret, wS_ite, wS_for, wG_loc, wG_idx, wG_tup, bw_bl, es_loc, es_con, es_glo, es_bin, es_neg, es_not, es_and, es_or, es_isN, es_notN, es_cmp, es_cmp2, es_ite, es_lst, es_tup, es_fst, es_idx, es_slc, es_rev, es_isi, es_bi, es_bm, es_call, es_cattr, es_lis, es_tpl, es_lcomp, b_add, b_sub, b_mul, b_fdiv, b_mod, b_pow, b_adds, c_lt, c_le, c_gt, c_ge, c_eq, c_ne, c_eqb, c_in, c_nin, f_abs, f_int, c_le', c_lt', s_sub, sub_lst, s_put, put_lst, List.getElem?_cons_zero, List.getElem?_cons_succ, Option.some.injEq, exists_eq_left', Option.bind_some, List.length_cons, List.length_nil, Nat.reduceAdd, List.set_cons_succ, List.set_cons_zero, v_slcS, Nat.reduceLT, true_and, wipeC, List.foldr_cons, List.foldr_nil, isNon, if_true, Bool.false_eq_true, if_false]
  rw [wB_cons]
  simp only [wE_loc, wE_con, wE_glo, wE_bin, wE_not, wE_and, wE_or, wE_ite, wE_isN, wE_notN, wE_cmp, wE_cmp2, wE_lst, wE_tup, wE_idx, wE_slc, wE_isi, wE_bi, wE_bm, wE_call, wE_cattr, wE_lis, wE_lcomp, wO_none, wO_some, iw_int, wEs_nil, wT_nil, wT_cons, wB_nil, wS_set, wS_ret, wS_ite, wS_for, wG_loc, wG_idx, wG_tup, bw_bl, es_loc, es_con, es_glo, es_bin, es_neg, es_not, es_and, es_or, es_isN, es_notN, es_cmp, es_cmp2, es_ite, es_lst, es_tup, es_fst, es_idx, es_slc, es_rev, es_isi, es_bi, es_bm, es_call, es_cattr, es_lis, es_tpl, es_lcomp, b_add, b_sub, b_mul, b_fdiv, b_mod, b_pow, b_adds, c_lt, c_le, c_gt, c_ge, c_eq, c_ne, c_eqb, c_in, c_nin, f_abs, f_int, c_le', c_lt', s_sub, sub_lst, s_put, put_lst, List.getElem?_cons_zero, List.getElem?_cons_succ, Option.some.injEq, exists_eq_left', Option.bind_some, List.length_cons, List.length_nil, Nat.reduceAdd, List.set_cons_succ, List.set_cons_zero, v_slcS, Nat.reduceLT, true_and, wipeC, List.foldr_cons, List.foldr_nil, isiOk, hasTy, List.any_cons, List.any_nil, Bool.or_false, Bool.false_eq_true, if_false]
  rw [wB_cons]
  simp only [wE_loc, wE_con, wE_glo, wE_bin, wE_not, wE_and, wE_or, wE_ite, wE_isN, wE_notN, wE_cmp, wE_cmp2, wE_lst, wE_tup, wE_idx, wE_slc, wE_isi, wE_bi, wE_bm, wE_call, wE_cattr, wE_lis, wE_lcomp, wO_none, wO_some, iw_int, wEs_nil, wT_nil, wT_cons, wB_nil, wS_set, wS_ret, wS_ite, wS_for, wG_loc, wG_idx, wG_tup, bw_bl, es_loc, es_con, es_glo, es_bin, es_neg, es_not, es_and, es_or, es_isN, es_notN, es_cmp, es_cmp2, es_ite, es_lst, es_tup, es_fst, es_idx, es_slc, es_rev, es_isi, es_bi, es_bm, es_call, es_cattr, es_lis, es_tpl, es_lcomp, b_add, b_sub, b_mul, b_fdiv, b_mod, b_pow, b_adds, c_lt, c_le, c_gt, c_ge, c_eq, c_ne, c_eqb, c_in, c_nin, f_abs, f_int, c_le', c_lt', s_sub, sub_lst, s_put, put_lst, List.getElem?_cons_zero, List.getElem?_cons_succ, Option.some.injEq, exists_eq_left', Option.bind_some, List.length_cons, List.length_nil, Nat.reduceAdd, List.set_cons_succ, List.set_cons_zero, v_slcS, Nat.reduceLT, true_and, wipeC, List.foldr_cons, List.foldr_nil, isiOk, hasTy, List.any_cons, List.any_nil, Bool.or_false, Bool.false_eq_true, if_false]
  rw [wB_cons]
  simp only [wE_loc, wE_con, wE_glo, wE_bin, wE_not, wE_and, wE_or, wE_ite, wE_isN, wE_notN, wE_cmp, wE_cmp2, wE_lst, wE_tup, wE_idx, wE_slc, wE_isi, wE_bi, wE_bm, wE_call, wE_cattr, wE_lis, wE_lcomp, wO_none, wO_some, iw_int, wEs_nil, wT_nil, wT_cons, wB_nil, wS_set, wS_ret, wS_ite, wS_for, wG_loc, wG_idx, wG_tup, bw_bl, es_loc, es_con, es_glo, es_bin, es_neg, es_not, es_and, es_or, es_isN, es_notN, es_cmp, es_cmp2, es_ite, es_lst, es_tup, es_fst, es_idx, es_slc, es_rev, es_isi, es_bi, es_bm, es_call, es_cattr, es_lis, es_tpl, es_lcomp, b_add, b_sub, b_mul, b_fdiv, b_mod, b_pow, b_adds, c_lt, c_le, c_gt, c_ge, c_eq, c_ne, c_eqb, c_in, c_nin, f_abs, f_int, c_le', c_lt', s_sub, sub_lst, s_put, put_lst, List.getElem?_cons_zero, List.getElem?_cons_succ, Option.some.injEq, exists_eq_left', Option.bind_some, List.length_cons, List.length_nil, Nat.reduceAdd, List.set_cons_succ, List.set_cons_zero, v_slcS, Nat.reduceLT, true_and, wipeC, List.foldr_cons, List.foldr_nil, isiOk, hasTy, List.any_cons, List.any_nil, Bool.or_false, if_true]
  rw [wB_cons]
  simp only [wE_loc, wE_con, wE_glo, wE_bin, wE_not, wE_and, wE_or, wE_ite, wE_isN, wE_notN, wE_cmp, wE_cmp2, wE_lst, wE_tup, wE_idx, wE_slc, wE_isi, wE_bi, wE_bm, wE_call, wE_cattr, wE_lis, wE_lcomp, wO_none, wO_some, iw_int, wEs_nil, wT_nil, wT_cons, wB_nil, wS_set, wS_ret, wS_ite, wS_for, wG_loc, wG_idx, wG_tup, bw_bl, es_loc, es_con, es_glo, es_bin, es_neg, es_not, es_and, es_or, es_isN, es_notN, es_cmp, es_cmp2, es_ite, es_lst, es_tup, es_fst, es_idx, es_slc, es_rev, es_isi, es_bi, es_bm, es_call, es_cattr, es_lis, es_tpl, es_lcomp, b_add, b_sub, b_mul, b_fdiv, b_mod, b_pow, b_adds, c_lt, c_le, c_gt, c_ge, c_eq, c_ne, c_eqb, c_in, c_nin, f_abs, f_int, c_le', c_lt', s_sub, sub_lst, s_put, put_lst, List.getElem?_cons_zero, List.getElem?_cons_succ, Option.some.injEq, exists_eq_left', Option.bind_some, List.length_cons, List.length_nil, Nat.reduceAdd, List.set_cons_succ, List.set_cons_zero, v_slcS, Nat.reduceLT, true_and, wipeC, List.foldr_cons, List.foldr_nil, isiOk, hasTy, List.any_cons, List.any_nil, Bool.or_false, if_true, beq_self_eq_true]
  exact ⟨[], by simp⟩
theorem same_int {k : Nat} {h : AH} {b : Int} : Rw (callAt G (k + 1) (0, 12) [.int b, .int b] [] h) fun r h' => r = .bl true ∧ ∃ l, h' = h ++ l := by
  rw [w_call (f := fQ_same) (ws := [.int b, .int b]) hS rfl]
  simp only [fQ_same, cQ_same, List.map_cons, List.map_nil, List.replicate, List.cons_append, List.nil_append, List.length_cons, List.length_nil, Nat.reduceAdd, Nat.reduceSub]
  rw [wB_cons]
  simp only [wE_loc, wE_con, wE_glo, wE_bin, wE_not, wE_and, wE_or, wE_ite, wE_isN, wE_notN, wE_cmp, wE_cmp2, wE_lst, wE_tup, wE_idx, wE_slc, wE_isi, wE_bi, wE_bm, wE_call, wE_cattr, wE_lis, wE_lcomp, wO_none, wO_some, iw_int, wEs_nil, wT_nil, wT_cons, wB_nil, wS_set, wS_ret, wS_ite, wS_for, wG_loc, wG_idx, wG_tup, bw_bl, es_loc, es_con, es_glo, es_bin, es_neg, es_not, es_and, es_or, es_isN, es_notN, es_cmp, es_cmp2, es_ite, es_lst, es_tup, es_fst, es_idx, es_slc, es_rev, es_isi, es_bi, es_bm, es_call, es_cattr, es_lis, es_tpl, es_lcomp, b_add, b_sub, b_mul, b_fdiv, b_mod, b_pow, b_adds, c_lt, c_le, c_gt, c_ge, c_eq, c_ne, c_eqb, c_in, c_nin, f_abs, f_int, c_le', c_lt', s_sub, sub_lst, s_put, put_lst, List.getElem?_cons_zero, List.getElem?_cons_succ, Option.some.injEq, exists_eq_left', Option.bind_some, List.length_cons, List.length_nil, Nat.reduceAdd, List.set_cons_succ, List.set_cons_zero, v_slcS, Nat.reduceLT, true_and, wipeC, List.foldr_cons, List.foldr_nil, isNon, if_true, Bool.false_eq_true, if_false]
  rw [wB_cons]
  simp only [wE_loc, wE_con, wE_glo, wE_bin, wE_not, wE_and, wE_or, wE_ite, wE_isN, wE_notN, wE_cmp, wE_cmp2, wE_lst, wE_tup, wE_idx, wE_slc, wE_isi, wE_bi, wE_bm, wE_call, wE_cattr, wE_lis, wE_lcomp, wO_none, wO_some, iw_int, wEs_nil, wT_nil, wT_cons, wB_nil, wS_set, wS_ret, wS_ite, wS_for, wG_loc, wG_idx, wG_tup, bw_bl, es_loc, es_con, es_glo, es_bin, es_neg, es_not, es_and, es_or, es_isN, es_notN, es_cmp, es_cmp2, es_ite, es_lst, es_tup, es_fst, es_idx, es_slc, es_rev, es_isi, es_bi, es_bm, es_call, es_cattr, es_lis, es_tpl, es_lcomp, b_add, b_sub, b_mul, b_fdiv, b_mod, b_pow, b_adds, c_lt, c_le, c_gt, c_ge, c_eq, c_ne, c_eqb, c_in, c_nin, f_abs, f_int, c_le', c_lt', s_sub, sub_lst, s_put, put_lst, List.getElem?_cons_zero, List.getElem?_cons_succ, Option.some.injEq, exists_eq_left', Option.bind_some, List.length_cons, List.length_nil, Nat.reduceAdd, List.set_cons_succ, List.set_cons_zero, v_slcS, Nat.reduceLT, true_and, wipeC, List.foldr_cons, List.foldr_nil, isiOk, hasTy, List.any_cons, List.any_nil, Bool.or_false, Bool.false_eq_true, if_false]
  rw [wB_cons]
  simp only [wE_loc, wE_con, wE_glo, wE_bin, wE_not, wE_and, wE_or, wE_ite, wE_isN, wE_notN, wE_cmp, wE_cmp2, wE_lst, wE_tup, wE_idx, wE_slc, wE_isi, wE_bi, wE_bm, wE_call, wE_cattr, wE_lis, wE_lcomp, wO_none, wO_some, iw_int, wEs_nil, wT_nil, wT_cons, wB_nil, wS_set, wS_ret, wS_ite, wS_for, wG_loc, wG_idx, wG_tup, bw_bl, es_loc, es_con, es_glo, es_bin, es_neg, es_not, es_and, es_or, es_isN, es_notN, es_cmp, es_cmp2, es_ite, es_lst, es_tup, es_fst, es_idx, es_slc, es_rev, es_isi, es_bi, es_bm, es_call, es_cattr, es_lis, es_tpl, es_lcomp, b_add, b_sub, b_mul, b_fdiv, b_mod, b_pow, b_adds, c_lt, c_le, c_gt, c_ge, c_eq, c_ne, c_eqb, c_in, c_nin, f_abs, f_int, c_le', c_lt', s_sub, sub_lst, s_put, put_lst, List.getElem?_cons_zero, List.getElem?_cons_succ, Option.some.injEq, exists_eq_left', Option.bind_some, List.length_cons, List.length_nil, Nat.reduceAdd, List.set_cons_succ, List.set_cons_zero, v_slcS, Nat.reduceLT, true_and, wipeC, List.foldr_cons, List.foldr_nil, isiOk, hasTy, List.any_cons, List.any_nil, Bool.or_false, Bool.false_eq_true, if_false]
  rw [wB_cons]
  simp only [wE_loc, wE_con, wE_glo, wE_bin, wE_not, wE_and, wE_or, wE_ite, wE_isN, wE_notN, wE_cmp, wE_cmp2, wE_lst, wE_tup, wE_idx, wE_slc, wE_isi, wE_bi, wE_bm, wE_call, wE_cattr, wE_lis, wE_lcomp, wO_none, wO_some, iw_int, wEs_nil, wT_nil, wT_cons, wB_nil, wS_set, wS_ret, wS_ite, wS_for, wG_loc, wG_idx, wG_tup, bw_bl, es_loc, es_con, es_glo, es_bin, es_neg, es_not, es_and, es_or, es_isN, es_notN, es_cmp, es_cmp2, es_ite, es_lst, es_tup, es_fst, es_idx, es_slc, es_rev, es_isi, es_bi, es_bm, es_call, es_cattr, es_lis, es_tpl, es_lcomp, b_add, b_sub, b_mul, b_fdiv, b_mod, b_pow, b_adds, c_lt, c_le, c_gt, c_ge, c_eq, c_ne, c_eqb, c_in, c_nin, f_abs, f_int, c_le', c_lt', s_sub, sub_lst, s_put, put_lst, List.getElem?_cons_zero, List.getElem?_cons_succ, Option.some.injEq, exists_eq_left', Option.bind_some, List.length_cons, List.length_nil, Nat.reduceAdd, List.set_cons_succ, List.set_cons_zero, v_slcS, Nat.reduceLT, true_and, wipeC, List.foldr_cons, List.foldr_nil, isiOk, hasTy, List.any_cons, List.any_nil, Bool.or_false, Bool.false_eq_true, if_false]
  rw [wB_cons]
  simp only [wE_loc, wE_con, wE_glo, wE_bin, wE_not, wE_and, wE_or, wE_ite, wE_isN, wE_notN, wE_cmp, wE_cmp2, wE_lst, wE_tup, wE_idx, wE_slc, wE_isi, wE_bi, wE_bm, wE_call, wE_cattr, wE_lis, wE_lcomp, wO_none, wO_some, iw_int, wEs_nil, wT_nil, wT_cons, wB_nil, wS_set, wS_ret, wS_ite, wS_for, wG_loc, wG_idx, wG_tup, bw_bl, es_loc, es_con, es_glo, es_bin, es_neg, es_not, es_and, es_or, es_isN, es_notN, es_cmp, es_cmp2, es_ite, es_lst, es_tup, es_fst, es_idx, es_slc, es_rev, es_isi, es_bi, es_bm, es_call, es_cattr, es_lis, es_tpl, es_lcomp, b_add, b_sub, b_mul, b_fdiv, b_mod, b_pow, b_adds, c_lt, c_le, c_gt, c_ge, c_eq, c_ne, c_eqb, c_in, c_nin, f_abs, f_int, c_le', c_lt', s_sub, sub_lst, s_put, put_lst, List.getElem?_cons_zero, List.getElem?_cons_succ, Option.some.injEq, exists_eq_left', Option.bind_some, List.length_cons, List.length_nil, Nat.reduceAdd, List.set_cons_succ, List.set_cons_zero, v_slcS, Nat.reduceLT, true_and, wipeC, List.foldr_cons, List.foldr_nil, isiOk, hasTy, List.any_cons, List.any_nil, Bool.or_false, if_true]
  rw [wB_cons]
  simp only [wE_loc, wE_con, wE_glo, wE_bin, wE_not, wE_and, wE_or, wE_ite, wE_isN, wE_notN, wE_cmp, wE_cmp2, wE_lst, wE_tup, wE_idx, wE_slc, wE_isi, wE_bi, wE_bm, wE_call, wE_cattr, wE_lis, wE_lcomp, wO_none, wO_some, iw_int, wEs_nil, wT_nil, wT_cons, wB_nil, wS_set, wS_ret, wS_ite, wS_for, wG_loc, wG_idx, wG_tup, bw_bl, es_loc, es_con, es_glo, es_bin, es_neg, es_not, es_and, es_or, es_isN, es_notN, es_cmp, es_cmp2, es_ite, es_lst, es_tup, es_fst, es_idx, es_slc, es_rev, es_isi, es_bi, es_bm, es_call, es_cattr, es_lis, es_tpl, es_lcomp, b_add, b_sub, b_mul, b_fdiv, b_mod, b_pow, b_adds, c_lt, c_le, c_gt, c_ge, c_eq, c_ne, c_eqb, c_in, c_nin, f_abs, f_int, c_le', c_lt', s_sub, sub_lst, s_put, put_lst, List.getElem?_cons_zero, List.getElem?_cons_succ, Option.some.injEq, exists_eq_left', Option.bind_some, List.length_cons, List.length_nil, Nat.reduceAdd, List.set_cons_succ, List.set_cons_zero, v_slcS, Nat.reduceLT, true_and, wipeC, List.foldr_cons, List.foldr_nil, isiOk, hasTy, List.any_cons, List.any_nil, Bool.or_false, Bool.not_true, Bool.false_eq_true, if_false]
  rw [wB_cons]
  simp only [wE_loc, wE_con, wE_glo, wE_bin, wE_not, wE_and, wE_or, wE_ite, wE_isN, wE_notN, wE_cmp, wE_cmp2, wE_lst, wE_tup, wE_idx, wE_slc, wE_isi, wE_bi, wE_bm, wE_call, wE_cattr, wE_lis, wE_lcomp, wO_none, wO_some, iw_int, wEs_nil, wT_nil, wT_cons, wB_nil, wS_set, wS_ret, wS_ite, wS_for, wG_loc, wG_idx, wG_tup, bw_bl, es_loc, es_con, es_glo, es_bin, es_neg, es_not, es_and, es_or, es_isN, es_notN, es_cmp, es_cmp2, es_ite, es_lst, es_tup, es_fst, es_idx, es_slc, es_rev, es_isi, es_bi, es_bm, es_call, es_cattr, es_lis, es_tpl, es_lcomp, b_add, b_sub, b_mul, b_fdiv, b_mod, b_pow, b_adds, c_lt, c_le, c_gt, c_ge, c_eq, c_ne, c_eqb, c_in, c_nin, f_abs, f_int, c_le', c_lt', s_sub, sub_lst, s_put, put_lst, List.getElem?_cons_zero, List.getElem?_cons_succ, Option.some.injEq, exists_eq_left', Option.bind_some, List.length_cons, List.length_nil, Nat.reduceAdd, List.set_cons_succ, List.set_cons_zero, v_slcS, Nat.reduceLT, true_and, wipeC, List.foldr_cons, List.foldr_nil, isiOk, hasTy, List.any_cons, List.any_nil, Bool.or_false, Bool.not_false, if_true, beq_self_eq_true]
  exact ⟨[], by simp⟩
theorem same_str {k : Nat} {h : AH} {b : List Nat} (o : okStr b = true) : Rw (callAt G (k + 1) (0, 12) [.str b, .str b] [] h) fun r h' => r = .bl true ∧ ∃ l, h' = h ++ l := by
  rw [w_call (f := fQ_same) (ws := [.str b, .str b]) hS rfl]
  simp only [fQ_same, cQ_same, List.map_cons, List.map_nil, List.replicate, List.cons_append, List.nil_append, List.length_cons, List.length_nil, Nat.reduceAdd, Nat.reduceSub]
  rw [wB_cons]
  simp only [wE_loc, wE_con, wE_glo, wE_bin, wE_not, wE_and, wE_or, wE_ite, wE_isN, wE_notN, wE_cmp, wE_cmp2, wE_lst, wE_tup, wE_idx, wE_slc, wE_isi, wE_bi, wE_bm, wE_call, wE_cattr, wE_lis, wE_lcomp, wO_none, wO_some, iw_int, wEs_nil, wT_nil, wT_cons, wB_nil, wS_set, wS_ret, wS_ite, wS_for, wG_loc, wG_idx, wG_tup, bw_bl, es_loc, es_con, es_glo, es_bin, es_neg, es_not, es_and, es_or, es_isN, es_notN, es_cmp, es_cmp2, es_ite, es_lst, es_tup, es_fst, es_idx, es_slc, es_rev, es_isi, es_bi, es_bm, es_call, es_cattr, es_lis, es_tpl, es_lcomp, b_add, b_sub, b_mul, b_fdiv, b_mod, b_pow, b_adds, c_lt, c_le, c_gt, c_ge, c_eq, c_ne, c_eqb, c_in, c_nin, f_abs, f_int, c_le', c_lt', s_sub, sub_lst, s_put, put_lst, List.getElem?_cons_zero, List.getElem?_cons_succ, Option.some.injEq, exists_eq_left', Option.bind_some, List.length_cons, List.length_nil, Nat.reduceAdd, List.set_cons_succ, List.set_cons_zero, v_slcS, Nat.reduceLT, true_and, wipeC, List.foldr_cons, List.foldr_nil, isNon, if_true, Bool.false_eq_true, if_false]
  rw [wB_cons]
  simp only [wE_loc, wE_con, wE_glo, wE_bin, wE_not, wE_and, wE_or, wE_ite, wE_isN, wE_notN, wE_cmp, wE_cmp2, wE_lst, wE_tup, wE_idx, wE_slc, wE_isi, wE_bi, wE_bm, wE_call, wE_cattr, wE_lis, wE_lcomp, wO_none, wO_some, iw_int, wEs_nil, wT_nil, wT_cons, wB_nil, wS_set, wS_ret, wS_ite, wS_for, wG_loc, wG_idx, wG_tup, bw_bl, es_loc, es_con, es_glo, es_bin, es_neg, es_not, es_and, es_or, es_isN, es_notN, es_cmp, es_cmp2, es_ite, es_lst, es_tup, es_fst, es_idx, es_slc, es_rev, es_isi, es_bi, es_bm, es_call, es_cattr, es_lis, es_tpl, es_lcomp, b_add, b_sub, b_mul, b_fdiv, b_mod, b_pow, b_adds, c_lt, c_le, c_gt, c_ge, c_eq, c_ne, c_eqb, c_in, c_nin, f_abs, f_int, c_le', c_lt', s_sub, sub_lst, s_put, put_lst, List.getElem?_cons_zero, List.getElem?_cons_succ, Option.some.injEq, exists_eq_left', Option.bind_some, List.length_cons, List.length_nil, Nat.reduceAdd, List.set_cons_succ, List.set_cons_zero, v_slcS, Nat.reduceLT, true_and, wipeC, List.foldr_cons, List.foldr_nil, isiOk, hasTy, List.any_cons, List.any_nil, Bool.or_false, Bool.false_eq_true, if_false]
  rw [wB_cons]
  simp only [wE_loc, wE_con, wE_glo, wE_bin, wE_not, wE_and, wE_or, wE_ite, wE_isN, wE_notN, wE_cmp, wE_cmp2, wE_lst, wE_tup, wE_idx, wE_slc, wE_isi, wE_bi, wE_bm, wE_call, wE_cattr, wE_lis, wE_lcomp, wO_none, wO_some, iw_int, wEs_nil, wT_nil, wT_cons, wB_nil, wS_set, wS_ret, wS_ite, wS_for, wG_loc, wG_idx, wG_tup, bw_bl, es_loc, es_con, es_glo, es_bin, es_neg, es_not, es_and, es_or, es_isN, es_notN, es_cmp, es_cmp2, es_ite, es_lst, es_tup, es_fst, es_idx, es_slc, es_rev, es_isi, es_bi, es_bm, es_call, es_cattr, es_lis, es_tpl, es_lcomp, b_add, b_sub, b_mul, b_fdiv, b_mod, b_pow, b_adds, c_lt, c_le, c_gt, c_ge, c_eq, c_ne, c_eqb, c_in, c_nin, f_abs, f_int, c_le', c_lt', s_sub, sub_lst, s_put, put_lst, List.getElem?_cons_zero, List.getElem?_cons_succ, Option.some.injEq, exists_eq_left', Option.bind_some, List.length_cons, List.length_nil, Nat.reduceAdd, List.set_cons_succ, List.set_cons_zero, v_slcS, Nat.reduceLT, true_and, wipeC, List.foldr_cons, List.foldr_nil, isiOk, hasTy, List.any_cons, List.any_nil, Bool.or_false, Bool.false_eq_true, if_false]
  rw [wB_cons]
  simp only [wE_loc, wE_con, wE_glo, wE_bin, wE_not, wE_and, wE_or, wE_ite, wE_isN, wE_notN, wE_cmp, wE_cmp2, wE_lst, wE_tup, wE_idx, wE_slc, wE_isi, wE_bi, wE_bm, wE_call, wE_cattr, wE_lis, wE_lcomp, wO_none, wO_some, iw_int, wEs_nil, wT_nil, wT_cons, wB_nil, wS_set, wS_ret, wS_ite, wS_for, wG_loc, wG_idx, wG_tup, bw_bl, es_loc, es_con, es_glo, es_bin, es_neg, es_not, es_and, es_or, es_isN, es_notN, es_cmp, es_cmp2, es_ite, es_lst, es_tup, es_fst, es_idx, es_slc, es_rev, es_isi, es_bi, es_bm, es_call, es_cattr, es_lis, es_tpl, es_lcomp, b_add, b_sub, b_mul, b_fdiv, b_mod, b_pow, b_adds, c_lt, c_le, c_gt, c_ge, c_eq, c_ne, c_eqb, c_in, c_nin, f_abs, f_int, c_le', c_lt', s_sub, sub_lst, s_put, put_lst, List.getElem?_cons_zero, List.getElem?_cons_succ, Option.some.injEq, exists_eq_left', Option.bind_some, List.length_cons, List.length_nil, Nat.reduceAdd, List.set_cons_succ, List.set_cons_zero, v_slcS, Nat.reduceLT, true_and, wipeC, List.foldr_cons, List.foldr_nil, isiOk, hasTy, List.any_cons, List.any_nil, Bool.or_false, Bool.false_eq_true, if_false]
  rw [wB_cons]
  simp only [wE_loc, wE_con, wE_glo, wE_bin, wE_not, wE_and, wE_or, wE_ite, wE_isN, wE_notN, wE_cmp, wE_cmp2, wE_lst, wE_tup, wE_idx, wE_slc, wE_isi, wE_bi, wE_bm, wE_call, wE_cattr, wE_lis, wE_lcomp, wO_none, wO_some, iw_int, wEs_nil, wT_nil, wT_cons, wB_nil, wS_set, wS_ret, wS_ite, wS_for, wG_loc, wG_idx, wG_tup, bw_bl, es_loc, es_con, es_glo, es_bin, es_neg, es_not, es_and, es_or, es_isN, es_notN, es_cmp, es_cmp2, es_ite, es_lst, es_tup, es_fst, es_idx, es_slc, es_rev, es_isi, es_bi, es_bm, es_call, es_cattr, es_lis, es_tpl, es_lcomp, b_add, b_sub, b_mul, b_fdiv, b_mod, b_pow, b_adds, c_lt, c_le, c_gt, c_ge, c_eq, c_ne, c_eqb, c_in, c_nin, f_abs, f_int, c_le', c_lt', s_sub, sub_lst, s_put, put_lst, List.getElem?_cons_zero, List.getElem?_cons_succ, Option.some.injEq, exists_eq_left', Option.bind_some, List.length_cons, List.length_nil, Nat.reduceAdd, List.set_cons_succ, List.set_cons_zero, v_slcS, Nat.reduceLT, true_and, wipeC, List.foldr_cons, List.foldr_nil, isiOk, hasTy, List.any_cons, List.any_nil, Bool.or_false, Bool.false_eq_true, if_false]
  rw [wB_cons]
  simp only [wE_loc, wE_con, wE_glo, wE_bin, wE_not, wE_and, wE_or, wE_ite, wE_isN, wE_notN, wE_cmp, wE_cmp2, wE_lst, wE_tup, wE_idx, wE_slc, wE_isi, wE_bi, wE_bm, wE_call, wE_cattr, wE_lis, wE_lcomp, wO_none, wO_some, iw_int, wEs_nil, wT_nil, wT_cons, wB_nil, wS_set, wS_ret, wS_ite, wS_for, wG_loc, wG_idx, wG_tup, bw_bl, es_loc, es_con, es_glo, es_bin, es_neg, es_not, es_and, es_or, es_isN, es_notN, es_cmp, es_cmp2, es_ite, es_lst, es_tup, es_fst, es_idx, es_slc, es_rev, es_isi, es_bi, es_bm, es_call, es_cattr, es_lis, es_tpl, es_lcomp, b_add, b_sub, b_mul, b_fdiv, b_mod, b_pow, b_adds, c_lt, c_le, c_gt, c_ge, c_eq, c_ne, c_eqb, c_in, c_nin, f_abs, f_int, c_le', c_lt', s_sub, sub_lst, s_put, put_lst, List.getElem?_cons_zero, List.getElem?_cons_succ, Option.some.injEq, exists_eq_left', Option.bind_some, List.length_cons, List.length_nil, Nat.reduceAdd, List.set_cons_succ, List.set_cons_zero, v_slcS, Nat.reduceLT, true_and, wipeC, List.foldr_cons, List.foldr_nil, isiOk, hasTy, List.any_cons, List.any_nil, Bool.or_false, if_true, c_eqS o]
  exact ⟨[], by simp⟩
/-- the part that lists and tuples have in common -/
theorem same_zip {k : Nat} {h : AH} {v w : AV} {xs ys : List AV} {ts : List T} {n : Nat} {x y : It0}
    (ih : ∀ (k : Nat) (h : AH) (v w : AV) (t : T), toT h n v = some t → toT h n w = some t → t.sm = true → Rw (callAt G (k + n + 1) (0, 12) [v, w] [] h) fun r h' => r = .bl true ∧ ∃ l, h' = h ++ l)
    (ev : toTs (toT h n) xs = some ts) (ew : toTs (toT h n) ys = some ts) (l : ts.length ≤ lim) (sm : T.sms ts = true) (hx : x.has h xs) (hy : y.has h ys) :
    Rw (compL (.zip x y) [2, 3] true (evT G (callAt G (k + n + 1)) []) (evE G (callAt G (k + n + 1)) (.call 12 [(.loc 2), (.loc 3)] [] [])) [some v, some w, none, none] h) fun vs h' => Rw (newL vs h') fun v h' => Rw (biF G (callAt G (k + n + 1)) .all [v] h') fun r h' => r = .bl true ∧ ∃ l, h' = h ++ l := by
  have lx := toTs_len ev
  have ly := toTs_len ew
  have lz : (zipT xs ys).length = ts.length := by unfold zipT; simp; omega
  refine w_compT (xs := zipT xs ys) (I := fun i acc h' => acc = List.replicate i (.bl true) ∧ ∃ l, h' = h ++ l) ⟨rfl, [], by simp⟩ (zip_lock hx hy) (zip_len hx hy (by omega)) ?_ ?_ ?_
  · rintro i acc h' ⟨_, m, rfl⟩
    exact zip_at (It0.has_app hx) (It0.has_app hy) (by omega) i
  · rintro i u acc h' e ⟨rfl, m, rfl⟩
    unfold zipT at e
    rw [List.getElem?_zipWith] at e
    cases p : xs[i]? with
    | none => rw [p] at e; cases ys[i]? <;> cases e
    | some a =>
      cases q : ys[i]? with
      | none => rw [p, q] at e; cases e
      | some c =>
        rw [p, q] at e
        cases e
        refine ⟨_, rfl, ?_⟩
        obtain ⟨t, t1, t2⟩ := toTs_get ev p
        obtain ⟨t', t3, t4⟩ := toTs_get ew q
        rw [t1] at t3
        cases t3
        have il : i < xs.length := (List.getElem?_eq_some_iff.mp p).1
        simp only [wE_loc, wE_con, wE_glo, wE_bin, wE_not, wE_and, wE_or, wE_ite, wE_isN, wE_notN, wE_cmp, wE_cmp2, wE_lst, wE_tup, wE_idx, wE_slc, wE_isi, wE_bi, wE_bm, wE_call, wE_cattr, wE_lis, wE_lcomp, wO_none, wO_some, iw_int, wEs_nil, wT_nil, wT_cons, wB_nil, wS_set, wS_ret, wS_ite, wS_for, wG_loc, wG_idx, wG_tup, bw_bl, es_loc, es_con, es_glo, es_bin, es_neg, es_not, es_and, es_or, es_isN, es_notN, es_cmp, es_cmp2, es_ite, es_lst, es_tup, es_fst, es_idx, es_slc, es_rev, es_isi, es_bi, es_bm, es_call, es_cattr, es_lis, es_tpl, es_lcomp, b_add, b_sub, b_mul, b_fdiv, b_mod, b_pow, b_adds, c_lt, c_le, c_gt, c_ge, c_eq, c_ne, c_eqb, c_in, c_nin, f_abs, f_int, c_le', c_lt', s_sub, sub_lst, s_put, put_lst, List.getElem?_cons_zero, List.getElem?_cons_succ, Option.some.injEq, exists_eq_left', Option.bind_some, List.length_cons, List.length_nil, Nat.reduceAdd, List.set_cons_succ, List.set_cons_zero, v_slcS, Nat.reduceLT, true_and, wipeC, List.foldr_cons, List.foldr_nil, if_true, List.zip_nil_left]
        refine (ih k (h ++ m) a c t (toT_app t2) (toT_app t4) (sms_get sm t1)).mono ?_
        rintro r h2 ⟨rfl, m2, rfl⟩
        refine ⟨by simp; omega, ?_, m ++ m2, by simp⟩
        rw [List.replicate_succ']
  · rintro acc h' ⟨rfl, m, rfl⟩
    refine ⟨by simp; omega, ?_⟩
    simp only [w_newL]
    refine ⟨by simp; omega, ?_⟩
    rw [f_all (bs := List.replicate (zipT xs ys).length true) (by
      unfold lstOf
      simp only [get_new]
      exact allB_rep _)]
    refine ⟨?_, m ++ [.lst (List.replicate (zipT xs ys).length (.bl true))], by simp⟩
    simp
end
theorem same_ok {G : Gm} (hS : G.fns.lookup (0, 12) = some fQ_same) : ∀ (n k : Nat) (h : AH) (v w : AV) (t : T), toT h n v = some t → toT h n w = some t → t.sm = true →
    Rw (callAt G (k + n + 1) (0, 12) [v, w] [] h) fun r h' => r = .bl true ∧ ∃ l, h' = h ++ l := by
  intro n
  induction n with
  | zero =>
    intro k h v w t ev ew sm
    cases t with
    | lst ts => obtain ⟨m, _, q, _⟩ := toT_lst ev; cases q
    | tup ts => obtain ⟨m, _, q, _⟩ := toT_tup ev; cases q
    | non => rw [toT_non ev, toT_non ew]; exact same_non hS
    | bl b => rw [toT_bl ev, toT_bl ew]; exact same_bl hS
    | int i => rw [toT_int ev, toT_int ew]; exact same_int hS
    | str s => rw [(toT_str ev).1, (toT_str ew).1]; exact same_str hS (toT_str ev).2
  | succ n ih =>
    intro k h v w t ev ew sm
    cases t with
    | non => rw [toT_non ev, toT_non ew]; exact same_non hS
    | bl b => rw [toT_bl ev, toT_bl ew]; exact same_bl hS
    | int i => rw [toT_int ev, toT_int ew]; exact same_int hS
    | str s => rw [(toT_str ev).1, (toT_str ew).1]; exact same_str hS (toT_str ev).2
    | lst ts =>
      obtain ⟨m, xs, q, l1, r1⟩ := toT_lst ev
      cases q
      obtain ⟨m, ys, q, l2, r2⟩ := toT_lst ew
      cases q
      obtain ⟨a1, a2, a3, a4, a5, a6⟩ := lst_ty (G := G) l1
      obtain ⟨b1, b2, b3, b4, b5, b6⟩ := lst_ty (G := G) l2
      have lx := toTs_len r1
      have ly := toTs_len r2
      unfold T.sm at sm
      obtain ⟨s1, s2⟩ := Bool.and_eq_true_iff.mp sm
      have s1 := of_decide_eq_true s1
      rw [w_call (f := fQ_same) (ws := [v, w]) hS rfl]
      simp only [fQ_same, cQ_same, List.map_cons, List.map_nil, List.replicate, List.cons_append, List.nil_append, List.length_cons, List.length_nil, Nat.reduceAdd, Nat.reduceSub]
      rw [wB_cons]
      simp only [wE_loc, wE_con, wE_glo, wE_bin, wE_not, wE_and, wE_or, wE_ite, wE_isN, wE_notN, wE_cmp, wE_cmp2, wE_lst, wE_tup, wE_idx, wE_slc, wE_isi, wE_bi, wE_bm, wE_call, wE_cattr, wE_lis, wE_lcomp, wO_none, wO_some, iw_int, wEs_nil, wT_nil, wT_cons, wB_nil, wS_set, wS_ret, wS_ite, wS_for, wG_loc, wG_idx, wG_tup, bw_bl, es_loc, es_con, es_glo, es_bin, es_neg, es_not, es_and, es_or, es_isN, es_notN, es_cmp, es_cmp2, es_ite, es_lst, es_tup, es_fst, es_idx, es_slc, es_rev, es_isi, es_bi, es_bm, es_call, es_cattr, es_lis, es_tpl, es_lcomp, b_add, b_sub, b_mul, b_fdiv, b_mod, b_pow, b_adds, c_lt, c_le, c_gt, c_ge, c_eq, c_ne, c_eqb, c_in, c_nin, f_abs, f_int, c_le', c_lt', s_sub, sub_lst, s_put, put_lst, List.getElem?_cons_zero, List.getElem?_cons_succ, Option.some.injEq, exists_eq_left', Option.bind_some, List.length_cons, List.length_nil, Nat.reduceAdd, List.set_cons_succ, List.set_cons_zero, v_slcS, Nat.reduceLT, true_and, wipeC, List.foldr_cons, List.foldr_nil, a2, b2, if_true, Bool.false_eq_true, if_false]
      rw [wB_cons]
      simp only [wE_loc, wE_con, wE_glo, wE_bin, wE_not, wE_and, wE_or, wE_ite, wE_isN, wE_notN, wE_cmp, wE_cmp2, wE_lst, wE_tup, wE_idx, wE_slc, wE_isi, wE_bi, wE_bm, wE_call, wE_cattr, wE_lis, wE_lcomp, wO_none, wO_some, iw_int, wEs_nil, wT_nil, wT_cons, wB_nil, wS_set, wS_ret, wS_ite, wS_for, wG_loc, wG_idx, wG_tup, bw_bl, es_loc, es_con, es_glo, es_bin, es_neg, es_not, es_and, es_or, es_isN, es_notN, es_cmp, es_cmp2, es_ite, es_lst, es_tup, es_fst, es_idx, es_slc, es_rev, es_isi, es_bi, es_bm, es_call, es_cattr, es_lis, es_tpl, es_lcomp, b_add, b_sub, b_mul, b_fdiv, b_mod, b_pow, b_adds, c_lt, c_le, c_gt, c_ge, c_eq, c_ne, c_eqb, c_in, c_nin, f_abs, f_int, c_le', c_lt', s_sub, sub_lst, s_put, put_lst, List.getElem?_cons_zero, List.getElem?_cons_succ, Option.some.injEq, exists_eq_left', Option.bind_some, List.length_cons, List.length_nil, Nat.reduceAdd, List.set_cons_succ, List.set_cons_zero, v_slcS, Nat.reduceLT, true_and, wipeC, List.foldr_cons, List.foldr_nil, a1, b1, a3, b3, List.any_cons, List.any_nil, Bool.or_false, if_true]
      rw [wB_cons]
      simp only [wE_loc, wE_con, wE_glo, wE_bin, wE_not, wE_and, wE_or, wE_ite, wE_isN, wE_notN, wE_cmp, wE_cmp2, wE_lst, wE_tup, wE_idx, wE_slc, wE_isi, wE_bi, wE_bm, wE_call, wE_cattr, wE_lis, wE_lcomp, wO_none, wO_some, iw_int, wEs_nil, wT_nil, wT_cons, wB_nil, wS_set, wS_ret, wS_ite, wS_for, wG_loc, wG_idx, wG_tup, bw_bl, es_loc, es_con, es_glo, es_bin, es_neg, es_not, es_and, es_or, es_isN, es_notN, es_cmp, es_cmp2, es_ite, es_lst, es_tup, es_fst, es_idx, es_slc, es_rev, es_isi, es_bi, es_bm, es_call, es_cattr, es_lis, es_tpl, es_lcomp, b_add, b_sub, b_mul, b_fdiv, b_mod, b_pow, b_adds, c_lt, c_le, c_gt, c_ge, c_eq, c_ne, c_eqb, c_in, c_nin, f_abs, f_int, c_le', c_lt', s_sub, sub_lst, s_put, put_lst, List.getElem?_cons_zero, List.getElem?_cons_succ, Option.some.injEq, exists_eq_left', Option.bind_some, List.length_cons, List.length_nil, Nat.reduceAdd, List.set_cons_succ, List.set_cons_zero, v_slcS, Nat.reduceLT, true_and, wipeC, List.foldr_cons, List.foldr_nil, a1, a3, List.any_cons, List.any_nil, Bool.or_false, Bool.not_true, Bool.false_eq_true, if_false, f_len a5 a6, f_len b5 b6, c_neI, show xs.length = ys.length by omega, beq_self_eq_true]
      rw [wB_cons]
      simp only [wE_loc, wE_con, wE_glo, wE_bin, wE_not, wE_and, wE_or, wE_ite, wE_isN, wE_notN, wE_cmp, wE_cmp2, wE_lst, wE_tup, wE_idx, wE_slc, wE_isi, wE_bi, wE_bm, wE_call, wE_cattr, wE_lis, wE_lcomp, wO_none, wO_some, iw_int, wEs_nil, wT_nil, wT_cons, wB_nil, wS_set, wS_ret, wS_ite, wS_for, wG_loc, wG_idx, wG_tup, bw_bl, es_loc, es_con, es_glo, es_bin, es_neg, es_not, es_and, es_or, es_isN, es_notN, es_cmp, es_cmp2, es_ite, es_lst, es_tup, es_fst, es_idx, es_slc, es_rev, es_isi, es_bi, es_bm, es_call, es_cattr, es_lis, es_tpl, es_lcomp, b_add, b_sub, b_mul, b_fdiv, b_mod, b_pow, b_adds, c_lt, c_le, c_gt, c_ge, c_eq, c_ne, c_eqb, c_in, c_nin, f_abs, f_int, c_le', c_lt', s_sub, sub_lst, s_put, put_lst, List.getElem?_cons_zero, List.getElem?_cons_succ, Option.some.injEq, exists_eq_left', Option.bind_some, List.length_cons, List.length_nil, Nat.reduceAdd, List.set_cons_succ, List.set_cons_zero, v_slcS, Nat.reduceLT, true_and, wipeC, List.foldr_cons, List.foldr_nil]
      refine mk_zipL l1 l2 fun x y hx hy => ?_
      exact same_zip hS ih r1 r2 s1 s2 hx hy
    | tup ts =>
      obtain ⟨m, xs, q, l1, r1⟩ := toT_tup ev
      cases q
      obtain ⟨m, ys, q, l2, r2⟩ := toT_tup ew
      cases q
      obtain ⟨a1, a2, a3, a4, a5, a6⟩ := tup_ty (G := G) (h := h) l1
      obtain ⟨b1, b2, b3, b4, b5, b6⟩ := tup_ty (G := G) (h := h) l2
      have lx := toTs_len r1
      have ly := toTs_len r2
      unfold T.sm at sm
      obtain ⟨s1, s2⟩ := Bool.and_eq_true_iff.mp sm
      have s1 := of_decide_eq_true s1
      rw [w_call (f := fQ_same) (ws := [v, w]) hS rfl]
      simp only [fQ_same, cQ_same, List.map_cons, List.map_nil, List.replicate, List.cons_append, List.nil_append, List.length_cons, List.length_nil, Nat.reduceAdd, Nat.reduceSub]
      rw [wB_cons]
      simp only [wE_loc, wE_con, wE_glo, wE_bin, wE_not, wE_and, wE_or, wE_ite, wE_isN, wE_notN, wE_cmp, wE_cmp2, wE_lst, wE_tup, wE_idx, wE_slc, wE_isi, wE_bi, wE_bm, wE_call, wE_cattr, wE_lis, wE_lcomp, wO_none, wO_some, iw_int, wEs_nil, wT_nil, wT_cons, wB_nil, wS_set, wS_ret, wS_ite, wS_for, wG_loc, wG_idx, wG_tup, bw_bl, es_loc, es_con, es_glo, es_bin, es_neg, es_not, es_and, es_or, es_isN, es_notN, es_cmp, es_cmp2, es_ite, es_lst, es_tup, es_fst, es_idx, es_slc, es_rev, es_isi, es_bi, es_bm, es_call, es_cattr, es_lis, es_tpl, es_lcomp, b_add, b_sub, b_mul, b_fdiv, b_mod, b_pow, b_adds, c_lt, c_le, c_gt, c_ge, c_eq, c_ne, c_eqb, c_in, c_nin, f_abs, f_int, c_le', c_lt', s_sub, sub_lst, s_put, put_lst, List.getElem?_cons_zero, List.getElem?_cons_succ, Option.some.injEq, exists_eq_left', Option.bind_some, List.length_cons, List.length_nil, Nat.reduceAdd, List.set_cons_succ, List.set_cons_zero, v_slcS, Nat.reduceLT, true_and, wipeC, List.foldr_cons, List.foldr_nil, a2, b2, if_true, Bool.false_eq_true, if_false]
      rw [wB_cons]
      simp only [wE_loc, wE_con, wE_glo, wE_bin, wE_not, wE_and, wE_or, wE_ite, wE_isN, wE_notN, wE_cmp, wE_cmp2, wE_lst, wE_tup, wE_idx, wE_slc, wE_isi, wE_bi, wE_bm, wE_call, wE_cattr, wE_lis, wE_lcomp, wO_none, wO_some, iw_int, wEs_nil, wT_nil, wT_cons, wB_nil, wS_set, wS_ret, wS_ite, wS_for, wG_loc, wG_idx, wG_tup, bw_bl, es_loc, es_con, es_glo, es_bin, es_neg, es_not, es_and, es_or, es_isN, es_notN, es_cmp, es_cmp2, es_ite, es_lst, es_tup, es_fst, es_idx, es_slc, es_rev, es_isi, es_bi, es_bm, es_call, es_cattr, es_lis, es_tpl, es_lcomp, b_add, b_sub, b_mul, b_fdiv, b_mod, b_pow, b_adds, c_lt, c_le, c_gt, c_ge, c_eq, c_ne, c_eqb, c_in, c_nin, f_abs, f_int, c_le', c_lt', s_sub, sub_lst, s_put, put_lst, List.getElem?_cons_zero, List.getElem?_cons_succ, Option.some.injEq, exists_eq_left', Option.bind_some, List.length_cons, List.length_nil, Nat.reduceAdd, List.set_cons_succ, List.set_cons_zero, v_slcS, Nat.reduceLT, true_and, wipeC, List.foldr_cons, List.foldr_nil, a1, b1, a3, b3, List.any_cons, List.any_nil, Bool.or_false, Bool.false_eq_true, if_false]
      rw [wB_cons]
      simp only [wE_loc, wE_con, wE_glo, wE_bin, wE_not, wE_and, wE_or, wE_ite, wE_isN, wE_notN, wE_cmp, wE_cmp2, wE_lst, wE_tup, wE_idx, wE_slc, wE_isi, wE_bi, wE_bm, wE_call, wE_cattr, wE_lis, wE_lcomp, wO_none, wO_some, iw_int, wEs_nil, wT_nil, wT_cons, wB_nil, wS_set, wS_ret, wS_ite, wS_for, wG_loc, wG_idx, wG_tup, bw_bl, es_loc, es_con, es_glo, es_bin, es_neg, es_not, es_and, es_or, es_isN, es_notN, es_cmp, es_cmp2, es_ite, es_lst, es_tup, es_fst, es_idx, es_slc, es_rev, es_isi, es_bi, es_bm, es_call, es_cattr, es_lis, es_tpl, es_lcomp, b_add, b_sub, b_mul, b_fdiv, b_mod, b_pow, b_adds, c_lt, c_le, c_gt, c_ge, c_eq, c_ne, c_eqb, c_in, c_nin, f_abs, f_int, c_le', c_lt', s_sub, sub_lst, s_put, put_lst, List.getElem?_cons_zero, List.getElem?_cons_succ, Option.some.injEq, exists_eq_left', Option.bind_some, List.length_cons, List.length_nil, Nat.reduceAdd, List.set_cons_succ, List.set_cons_zero, v_slcS, Nat.reduceLT, true_and, wipeC, List.foldr_cons, List.foldr_nil, a1, b1, a4, b4, List.any_cons, List.any_nil, Bool.or_false, if_true]
      rw [wB_cons]
      simp only [wE_loc, wE_con, wE_glo, wE_bin, wE_not, wE_and, wE_or, wE_ite, wE_isN, wE_notN, wE_cmp, wE_cmp2, wE_lst, wE_tup, wE_idx, wE_slc, wE_isi, wE_bi, wE_bm, wE_call, wE_cattr, wE_lis, wE_lcomp, wO_none, wO_some, iw_int, wEs_nil, wT_nil, wT_cons, wB_nil, wS_set, wS_ret, wS_ite, wS_for, wG_loc, wG_idx, wG_tup, bw_bl, es_loc, es_con, es_glo, es_bin, es_neg, es_not, es_and, es_or, es_isN, es_notN, es_cmp, es_cmp2, es_ite, es_lst, es_tup, es_fst, es_idx, es_slc, es_rev, es_isi, es_bi, es_bm, es_call, es_cattr, es_lis, es_tpl, es_lcomp, b_add, b_sub, b_mul, b_fdiv, b_mod, b_pow, b_adds, c_lt, c_le, c_gt, c_ge, c_eq, c_ne, c_eqb, c_in, c_nin, f_abs, f_int, c_le', c_lt', s_sub, sub_lst, s_put, put_lst, List.getElem?_cons_zero, List.getElem?_cons_succ, Option.some.injEq, exists_eq_left', Option.bind_some, List.length_cons, List.length_nil, Nat.reduceAdd, List.set_cons_succ, List.set_cons_zero, v_slcS, Nat.reduceLT, true_and, wipeC, List.foldr_cons, List.foldr_nil, a1, a4, List.any_cons, List.any_nil, Bool.or_false, Bool.not_true, Bool.false_eq_true, if_false, f_len a5 a6, f_len b5 b6, c_neI, show xs.length = ys.length by omega, beq_self_eq_true]
      rw [wB_cons]
      simp only [wE_loc, wE_con, wE_glo, wE_bin, wE_not, wE_and, wE_or, wE_ite, wE_isN, wE_notN, wE_cmp, wE_cmp2, wE_lst, wE_tup, wE_idx, wE_slc, wE_isi, wE_bi, wE_bm, wE_call, wE_cattr, wE_lis, wE_lcomp, wO_none, wO_some, iw_int, wEs_nil, wT_nil, wT_cons, wB_nil, wS_set, wS_ret, wS_ite, wS_for, wG_loc, wG_idx, wG_tup, bw_bl, es_loc, es_con, es_glo, es_bin, es_neg, es_not, es_and, es_or, es_isN, es_notN, es_cmp, es_cmp2, es_ite, es_lst, es_tup, es_fst, es_idx, es_slc, es_rev, es_isi, es_bi, es_bm, es_call, es_cattr, es_lis, es_tpl, es_lcomp, b_add, b_sub, b_mul, b_fdiv, b_mod, b_pow, b_adds, c_lt, c_le, c_gt, c_ge, c_eq, c_ne, c_eqb, c_in, c_nin, f_abs, f_int, c_le', c_lt', s_sub, sub_lst, s_put, put_lst, List.getElem?_cons_zero, List.getElem?_cons_succ, Option.some.injEq, exists_eq_left', Option.bind_some, List.length_cons, List.length_nil, Nat.reduceAdd, List.set_cons_succ, List.set_cons_zero, v_slcS, Nat.reduceLT, true_and, wipeC, List.foldr_cons, List.foldr_nil]
      refine mk_zipT l1 l2 fun x y hx hy => ?_
      exact same_zip hS ih r1 r2 s1 s2 hx hy
end Br

set_option linter.all false
set_option Elab.async false
set_option autoImplicit false
set_option maxRecDepth 100000
set_option maxHeartbeats 2000000
/-! BrQ4: the laws' start. -/
namespace Br
def cQ_start : List CS := [.set (.loc 1) (.con (.int 5792)),
    .for [2] false .val [(.slc (.loc 0) none (some (.con (.int 63))))] [.set (.loc 1) (.bin .mod (.bi .int [(.bin .add (.bin .add (.bin .mul (.loc 1) (.con (.int 48017))) (.bin .mul (.bin .mod (.bi .int [(.loc 2)]) (.con (.int 1000133))) (.con (.int 911)))) (.con (.int 13)))]) (.con (.int 2147483587)))],
    .ret (.lst [(.lis .val [(.slc (.loc 0) none (some (.con (.int 63))))]), (.con (.int 0)), (.con (.int 0)), (.loc 1), (.con (.int 0))])]
def fQ_start : Fn := ⟨[14], [], false, [], 3, cQ_start⟩
theorem v_slcF {h : AH} {xs : List AV} {lo hi : Option Int} {Q : AV → AH → Prop} : Rw (slice (.fl xs) lo hi h) Q = Rw (newL (cut xs lo hi) h) Q := rfl
theorem cut63 {α : Type} {xs : List α} (l : xs.length ≤ 63) : cut xs none (some 63) = xs := by
  rw [show (63 : Int) = ((63 : Nat) : Int) from rfl, cut_take, List.take_of_length_le l]
theorem start_ok {G : Gm} (hS : G.fns.lookup (0, 9) = some fQ_start) {k : Nat} {h : AH} {ns : List Int} (l : ns.length ≤ 63) :
    Rw (callAt G (k + 1) (0, 9) [.fl (ns.map .int)] [] h) fun v h' => ∃ b, v = .ref b ∧ Bag h' b ∧ h.length ≤ b ∧ ∃ l, h' = h ++ l := by
  rw [w_call (f := fQ_start) (ws := [.fl (ns.map .int)]) hS rfl]
  simp only [fQ_start, cQ_start, List.map_cons, List.map_nil, List.replicate, List.cons_append, List.nil_append, List.length_cons, List.length_nil, Nat.reduceAdd, Nat.reduceSub]
  have l2 : (ns.map AV.int).length ≤ 63 := by simpa using l
  rw [wB_cons]
  simp only [wE_loc, wE_con, wE_glo, wE_bin, wE_not, wE_and, wE_or, wE_ite, wE_isN, wE_notN, wE_cmp, wE_cmp2, wE_lst, wE_tup, wE_idx, wE_slc, wE_isi, wE_bi, wE_bm, wE_call, wE_cattr, wE_lis, wE_lcomp, wO_none, wO_some, iw_int, wEs_nil, wT_nil, wT_cons, wB_nil, wS_set, wS_ret, wS_ite, wS_for, wG_loc, wG_idx, wG_tup, bw_bl, es_loc, es_con, es_glo, es_bin, es_neg, es_not, es_and, es_or, es_isN, es_notN, es_cmp, es_cmp2, es_ite, es_lst, es_tup, es_fst, es_idx, es_slc, es_rev, es_isi, es_bi, es_bm, es_call, es_cattr, es_lis, es_tpl, es_lcomp, b_add, b_sub, b_mul, b_fdiv, b_mod, b_pow, b_adds, c_lt, c_le, c_gt, c_ge, c_eq, c_ne, c_eqb, c_in, c_nin, f_abs, f_int, c_le', c_lt', s_sub, sub_lst, s_put, put_lst, List.getElem?_cons_zero, List.getElem?_cons_succ, Option.some.injEq, exists_eq_left', Option.bind_some, List.length_cons, List.length_nil, Nat.reduceAdd, List.set_cons_succ, List.set_cons_zero, v_slcS, Nat.reduceLT, true_and, wipeC, List.foldr_cons, List.foldr_nil]
  rw [wB_cons]
  simp only [wE_loc, wE_con, wE_glo, wE_bin, wE_not, wE_and, wE_or, wE_ite, wE_isN, wE_notN, wE_cmp, wE_cmp2, wE_lst, wE_tup, wE_idx, wE_slc, wE_isi, wE_bi, wE_bm, wE_call, wE_cattr, wE_lis, wE_lcomp, wO_none, wO_some, iw_int, wEs_nil, wT_nil, wT_cons, wB_nil, wS_set, wS_ret, wS_ite, wS_for, wG_loc, wG_idx, wG_tup, bw_bl, es_loc, es_con, es_glo, es_bin, es_neg, es_not, es_and, es_or, es_isN, es_notN, es_cmp, es_cmp2, es_ite, es_lst, es_tup, es_fst, es_idx, es_slc, es_rev, es_isi, es_bi, es_bm, es_call, es_cattr, es_lis, es_tpl, es_lcomp, b_add, b_sub, b_mul, b_fdiv, b_mod, b_pow, b_adds, c_lt, c_le, c_gt, c_ge, c_eq, c_ne, c_eqb, c_in, c_nin, f_abs, f_int, c_le', c_lt', s_sub, sub_lst, s_put, put_lst, List.getElem?_cons_zero, List.getElem?_cons_succ, Option.some.injEq, exists_eq_left', Option.bind_some, List.length_cons, List.length_nil, Nat.reduceAdd, List.set_cons_succ, List.set_cons_zero, v_slcS, Nat.reduceLT, true_and, wipeC, List.foldr_cons, List.foldr_nil, v_slcF, cut63 l2, w_newL]
  refine ⟨Nat.le_trans l2 (by decide), ?_⟩
  refine mk_list (xs := ns.map AV.int) (by unfold lstOf; simp only [get_new]) fun x hx => ?_
  refine w_forT (xs := ns.map AV.int) (I := fun _ a h' => h' = h ++ [.lst (ns.map AV.int)] ∧ ∃ (x : Int) (o : Option AV), a = [some (.fl (ns.map .int)), some (.int x), o] ∧ 0 ≤ x ∧ x < 2147483587) ⟨rfl, _, _, rfl, by decide, by decide⟩ (one_lock hx) (It0.has_len hx) ?_ ?_ ?_
  · rintro i a h' ⟨rfl, _⟩
    exact It0.has_at hx i
  · rintro i v a h' e ⟨rfl, x, o, rfl, x0, x1⟩
    rw [List.getElem?_map] at e
    cases q : ns[i]? with
    | none => rw [q] at e; cases e
    | some n =>
      rw [q] at e
      cases e
      refine ⟨_, rfl, ?_⟩
      rw [wB_cons]
      simp only [wE_loc, wE_con, wE_glo, wE_bin, wE_not, wE_and, wE_or, wE_ite, wE_isN, wE_notN, wE_cmp, wE_cmp2, wE_lst, wE_tup, wE_idx, wE_slc, wE_isi, wE_bi, wE_bm, wE_call, wE_cattr, wE_lis, wE_lcomp, wO_none, wO_some, iw_int, wEs_nil, wT_nil, wT_cons, wB_nil, wS_set, wS_ret, wS_ite, wS_for, wG_loc, wG_idx, wG_tup, bw_bl, es_loc, es_con, es_glo, es_bin, es_neg, es_not, es_and, es_or, es_isN, es_notN, es_cmp, es_cmp2, es_ite, es_lst, es_tup, es_fst, es_idx, es_slc, es_rev, es_isi, es_bi, es_bm, es_call, es_cattr, es_lis, es_tpl, es_lcomp, b_add, b_sub, b_mul, b_fdiv, b_mod, b_pow, b_adds, c_lt, c_le, c_gt, c_ge, c_eq, c_ne, c_eqb, c_in, c_nin, f_abs, f_int, c_le', c_lt', s_sub, sub_lst, s_put, put_lst, List.getElem?_cons_zero, List.getElem?_cons_succ, Option.some.injEq, exists_eq_left', Option.bind_some, List.length_cons, List.length_nil, Nat.reduceAdd, List.set_cons_succ, List.set_cons_zero, v_slcS, Nat.reduceLT, true_and, wipeC, List.foldr_cons, List.foldr_nil]
      exact ⟨Or.inr (by decide), by decide, Or.inr (by decide), by decide, _, _, rfl, Int.emod_nonneg _ (by decide), Int.emod_lt_of_pos _ (by decide)⟩
  · rintro a h' ⟨rfl, x, o, rfl, x0, x1⟩
    rw [wB_cons]
    simp only [wE_loc, wE_con, wE_glo, wE_bin, wE_not, wE_and, wE_or, wE_ite, wE_isN, wE_notN, wE_cmp, wE_cmp2, wE_lst, wE_tup, wE_idx, wE_slc, wE_isi, wE_bi, wE_bm, wE_call, wE_cattr, wE_lis, wE_lcomp, wO_none, wO_some, iw_int, wEs_nil, wT_nil, wT_cons, wB_nil, wS_set, wS_ret, wS_ite, wS_for, wG_loc, wG_idx, wG_tup, bw_bl, es_loc, es_con, es_glo, es_bin, es_neg, es_not, es_and, es_or, es_isN, es_notN, es_cmp, es_cmp2, es_ite, es_lst, es_tup, es_fst, es_idx, es_slc, es_rev, es_isi, es_bi, es_bm, es_call, es_cattr, es_lis, es_tpl, es_lcomp, b_add, b_sub, b_mul, b_fdiv, b_mod, b_pow, b_adds, c_lt, c_le, c_gt, c_ge, c_eq, c_ne, c_eqb, c_in, c_nin, f_abs, f_int, c_le', c_lt', s_sub, sub_lst, s_put, put_lst, List.getElem?_cons_zero, List.getElem?_cons_succ, Option.some.injEq, exists_eq_left', Option.bind_some, List.length_cons, List.length_nil, Nat.reduceAdd, List.set_cons_succ, List.set_cons_zero, v_slcS, Nat.reduceLT, true_and, wipeC, List.foldr_cons, List.foldr_nil, v_slcF, cut63 l2, w_newL, listOf, seqOf, get_new]
    refine ⟨Nat.le_trans l2 (by decide), Nat.le_trans l2 (by decide), by decide, _, rfl, ?_, by simp, _, by rw [List.append_assoc, List.append_assoc, List.append_assoc]⟩
    exact ⟨_, ns, 0, 0, x, 0, get_new, get_app get_new, by decide, by decide, x0, by omega, by simp⟩
end Br

set_option Elab.async false
set_option linter.all false
set_option maxRecDepth 100000
set_option maxHeartbeats 0
namespace K02
open Br
def c_law : List CS := [.set (.loc 1) (.call 9 [(.loc 0)] [] []),
    .set (.loc 2) (.con (.str [97, 98, 99, 100, 101, 102, 103, 104, 105, 106, 107, 108, 109, 110, 111, 112, 113, 114, 115, 116, 117, 118, 119, 120, 121, 122])),
    .for [3] false .range [(.con (.int 8))] [.set (.loc 6) (.idx (.call 13 [(.loc 1), (.con (.int 2))] [] []) (.con (.int 1))),
    .set (.loc 7) (.call 10 [(.loc 1), (.bin .add (.bi .len [(.loc 6)]) (.con (.int 1)))] [] []),
    .set (.loc 8) (.bin .add (.bin .add (.slc (.loc 6) none (some (.loc 7))) (.call 11 [(.loc 1), (.lst [(.con (.str [])), (.con (.str [97])), (.con (.str [65])), (.con (.str [32])), (.con (.str [49])), (.con (.str [122, 122])), (.con (.str [95])), (.con (.str [10])), (.con (.str [97, 98, 99, 100, 101, 102, 103, 104]))])] [] [])) (.slc (.loc 6) (some (.bin .add (.loc 7) (.call 10 [(.loc 1), (.con (.int 2))] [] []))) none)),
    .set (.loc 9) (.and (.cmp2 .le .le (.con (.int 1)) (.bi .len [(.loc 8)]) (.con (.int 8))) (.bi .all [(.lcomp [11] false .val [(.loc 8)] [] (.cmp .isin (.loc 11) (.loc 2)))])),
    .ite (.not (.call 12 [(.lst [(.call 20 [(.loc 6)] [] []), (.call 20 [] [21] [(.loc 8)])]), (.lst [(.con (.bl true)), (.loc 9)])] [] [])) [.ret (.con (.bl false))] []],
    .set (.loc 4) (.lst [(.con (.str [])), (.con .non), (.con (.bl true)), (.con (.int 3)), (.tup [(.con (.str [97]))]), (.lst [(.con (.str [97]))]), (.con (.str [65])), (.con (.str [97, 32, 98])), (.con (.str [97, 98, 99, 100, 101, 102, 103, 104, 105]))]),
    .ite (.not (.call 12 [(.lcomp [10] false .val [(.loc 4)] [] (.call 20 [(.loc 10)] [] [])), (.bin .mul (.lst [(.con (.bl false))]) (.con (.int 9)))] [] [])) [.ret (.con (.bl false))] [],
    .set (.loc 5) (.lst [(.glo 22), (.glo 23), (.cattr 24 25), (.cattr 26 25), (.cattr 26 27), (.cattr 26 28), (.cattr 29 25), (.cattr 30 25), (.cattr 31 25)]),
    .ret (.call 12 [(.loc 5), (.lst [(.con (.int 9)), (.tup [(.con (.str [117, 110, 100, 101, 114])), (.con (.str [111, 118, 101, 114]))]), (.con (.int 9)), (.con (.int 6)), (.con (.int 24)), (.con (.int 4)), (.con (.int 8)), (.con (.int 6)), (.con (.int 12))])] [] [])]
def c__law_start : List CS := [.set (.loc 1) (.con (.int 5792)),
    .for [2] false .val [(.slc (.loc 0) none (some (.con (.int 63))))] [.set (.loc 1) (.bin .mod (.bi .int [(.bin .add (.bin .add (.bin .mul (.loc 1) (.con (.int 48017))) (.bin .mul (.bin .mod (.bi .int [(.loc 2)]) (.con (.int 1000133))) (.con (.int 911)))) (.con (.int 13)))]) (.con (.int 2147483587)))],
    .ret (.lst [(.lis .val [(.slc (.loc 0) none (some (.con (.int 63))))]), (.con (.int 0)), (.con (.int 0)), (.loc 1), (.con (.int 0))])]
def c__law_names_drawn : List CS := [.set (.loc 2) (.con (.str [97, 98, 99, 100, 101, 102, 103, 104, 105, 106, 107, 108, 109, 110, 111, 112, 113, 114, 115, 116, 117, 118, 119, 120, 121, 122])),
    .set (.loc 3) (.bm .join (.con (.str [])) [(.lcomp [6] false .range [(.call 11 [(.loc 0), (.lst [(.con (.int 0)), (.con (.int 1)), (.con (.int 3)), (.con (.int 7))])] [] [])] [] (.call 11 [(.loc 0), (.loc 2)] [] []))]),
    .set (.tup [4, 5] none) (.tup [(.call 10 [(.loc 0), (.bin .add (.bi .len [(.loc 3)]) (.con (.int 1)))] [] []), (.call 10 [(.loc 0), (.con (.int 26))] [] [])]),
    .ret (.lcomp [6] false .range [(.loc 1)] [] (.bin .add (.bin .add (.slc (.loc 3) none (some (.loc 4))) (.idx (.loc 2) (.bin .mod (.bi .int [(.bin .add (.loc 5) (.loc 6))]) (.con (.int 26))))) (.slc (.loc 3) (some (.loc 4)) none)))]
def c__law_pull : List CS := [.set (.idx (.loc 0) (.con (.int 4))) (.bin .add (.idx (.loc 0) (.con (.int 4))) (.con (.int 1))),
    .ite (.and (.cmp .eq (.idx (.loc 0) (.con (.int 2))) (.con (.int 0))) (.cmp .lt (.idx (.loc 0) (.con (.int 1))) (.bi .len [(.idx (.loc 0) (.con (.int 0)))]))) [.set (.loc 3) (.idx (.idx (.loc 0) (.con (.int 0))) (.idx (.loc 0) (.con (.int 1)))),
    .set (.idx (.loc 0) (.con (.int 1))) (.bin .add (.idx (.loc 0) (.con (.int 1))) (.con (.int 1))),
    .ite (.cmp .ge (.bi .abs [(.loc 3)]) (.bin .pow (.con (.int 10)) (.con (.int 18)))) [.set (.idx (.loc 0) (.con (.int 2))) (.bi .abs [(.loc 3)])] [.set (.idx (.loc 0) (.con (.int 3))) (.bin .mod (.bi .int [(.bin .add (.bin .add (.bin .mul (.idx (.loc 0) (.con (.int 3))) (.con (.int 41351))) (.bin .mul (.bin .mod (.bi .int [(.loc 3)]) (.con (.int 1000133))) (.con (.int 733)))) (.con (.int 37)))]) (.con (.int 2147483629)))]] [],
    .ite (.cmp .gt (.idx (.loc 0) (.con (.int 2))) (.con (.int 0))) [.set (.loc 4) (.bin .mod (.bi .int [(.idx (.loc 0) (.con (.int 2)))]) (.loc 1)),
    .set (.idx (.loc 0) (.con (.int 2))) (.bin .fdiv (.idx (.loc 0) (.con (.int 2))) (.loc 1)),
    .ret (.loc 4)] [],
    .set (.loc 2) (.bin .mod (.bi .int [(.bin .add (.bin .mul (.idx (.loc 0) (.con (.int 3))) (.idx (.loc 0) (.con (.int 3)))) (.bin .mul (.idx (.loc 0) (.con (.int 4))) (.con (.int 8311))))]) (.con (.int 2147483549))),
    .set (.idx (.loc 0) (.con (.int 3))) (.bin .mod (.bi .int [(.bin .add (.bin .add (.bin .mul (.loc 2) (.con (.int 15991))) (.bin .mul (.idx (.loc 0) (.con (.int 3))) (.con (.int 60101)))) (.con (.int 54011)))]) (.con (.int 2147483629))),
    .ret (.bin .mod (.bi .int [(.bin .fdiv (.idx (.loc 0) (.con (.int 3))) (.con (.int 64)))]) (.loc 1))]
def c__law_pick : List CS := [.ret (.idx (.loc 1) (.call 10 [(.loc 0), (.bi .len [(.loc 1)])] [] []))]
def c__law_same : List CS := [.ite (.or (.isN (.loc 1)) (.isN (.loc 0))) [.ret (.and (.isN (.loc 1)) (.isN (.loc 0)))] [],
    .ite (.isi (.loc 1) [.list]) [.ite (.or (.not (.isi (.loc 0) [.list])) (.cmp .ne (.bi .len [(.loc 0)]) (.bi .len [(.loc 1)]))) [.ret (.con (.bl false))] [],
    .ret (.bi .all [(.lcomp [2, 3] true .zip [(.loc 0), (.loc 1)] [] (.call 12 [(.loc 2), (.loc 3)] [] []))])] [],
    .ite (.isi (.loc 1) [.tuple]) [.ite (.or (.not (.isi (.loc 0) [.tuple])) (.cmp .ne (.bi .len [(.loc 0)]) (.bi .len [(.loc 1)]))) [.ret (.con (.bl false))] [],
    .ret (.bi .all [(.lcomp [2, 3] true .zip [(.loc 0), (.loc 1)] [] (.call 12 [(.loc 2), (.loc 3)] [] []))])] [],
    .ite (.isi (.loc 1) [.bool]) [.ret (.and (.isi (.loc 0) [.bool]) (.cmp .eq (.loc 0) (.loc 1)))] [],
    .ite (.isi (.loc 1) [.int]) [.ite (.not (.isi (.loc 0) [.int])) [.ret (.con (.bl false))] [],
    .ret (.and (.not (.isi (.loc 0) [.bool])) (.cmp .eq (.loc 0) (.loc 1)))] [],
    .ret (.and (.isi (.loc 0) [.str]) (.cmp .eq (.loc 0) (.loc 1)))]
def c_is_name : List CS := [.ite (.or (.not (.isi (.loc 0) [.str])) (.not (.cmp2 .le .le (.con (.int 1)) (.bi .len [(.loc 0)]) (.glo 32)))) [.ret (.con (.bl false))] [],
    .ret (.bi .all [(.lcomp [1] false .val [(.loc 0)] [] (.cmp .isin (.loc 1) (.glo 33)))])]
def fLaw : Fn := ⟨[14], [], false, [], 12, c_law⟩
def G : Gm := ⟨[((0, 34), fLaw),
  ((0, 9), ⟨[14], [], false, [], 3, c__law_start⟩),
  ((0, 13), ⟨[15, 16], [], false, [], 7, c__law_names_drawn⟩),
  ((0, 10), ⟨[15, 16], [], false, [], 5, c__law_pull⟩),
  ((0, 11), ⟨[15, 17], [], false, [], 2, c__law_pick⟩),
  ((0, 12), ⟨[18, 19], [], false, [], 4, c__law_same⟩),
  ((0, 20), ⟨[21], [], false, [], 2, c_is_name⟩)],
  [(31, ⟨[31], [], [], [], [(25, (.int 12))], none⟩),
  (29, ⟨[29], [], [], [], [(25, (.int 8))], none⟩),
  (24, ⟨[24], [], [], [], [(25, (.int 9))], none⟩),
  (26, ⟨[26], [], [], [], [(25, (.int 6)), (27, (.int 24)), (28, (.int 4))], none⟩),
  (30, ⟨[30], [], [], [], [(25, (.int 6))], none⟩)],
  [], [(33, (.str [97, 98, 99, 100, 101, 102, 103, 104, 105, 106, 107, 108, 109, 110, 111, 112, 113, 114, 115, 116, 117, 118, 119, 120, 121, 122])), (22, (.int 9)), (32, (.int 8)), (23, (.kt [(.str [117, 110, 100, 101, 114]), (.str [111, 118, 101, 114])]))]⟩
end K02

set_option Elab.async false
set_option linter.all false
set_option maxRecDepth 100000
set_option maxHeartbeats 0
namespace K02
open Br
def at_ : List PySem.Str := (["__add__", "__sub__", "__eq__", "__contains__", "__len__", "__bool__", "__repr__", "__call__", "code", "_law_start", "_law_pull", "_law_pick", "_law_same", "_law_names_drawn", "_law_script", "_law_bag", "_law_many", "_law_some", "_law_found", "_law_due", "is_name", "value", "MOST_FLOW", "SIDES", "Mode", "MOST", "Plan", "MOST_SIZE", "MOST_RUN", "Gauge", "Showing", "Book", "MOST_NAME", "LETTERS", "law"] : List String).map PySem.Str.ofString
def P : PySem.Program := PySem.Challenge.pw_brimrest_k02_names_and_constants
def nc_law : List PySem.Str := (["_law_script", "_law_bag", "_law_letters", "_law_turn", "_law_odds", "_law_found", "_law_name", "_law_at", "_law_bent", "_law_good", "_law_odd", "_law_sign"] : List String).map PySem.Str.ofString
def nc__law_start : List PySem.Str := (["_law_script", "_law_mixed", "_law_cell"] : List String).map PySem.Str.ofString
def nc__law_names_drawn : List PySem.Str := (["_law_bag", "_law_many", "_law_letters", "_law_stem", "_law_at", "_law_first", "_law_k"] : List String).map PySem.Str.ofString
def nc__law_pull : List PySem.Str := (["_law_bag", "_law_many", "_law_twice", "_law_cell", "_law_digit"] : List String).map PySem.Str.ofString
def nc__law_pick : List PySem.Str := (["_law_bag", "_law_some"] : List String).map PySem.Str.ofString
def nc__law_same : List PySem.Str := (["_law_found", "_law_due", "_law_a", "_law_b"] : List String).map PySem.Str.ofString
def nc_is_name : List PySem.Str := (["value", "sign"] : List String).map PySem.Str.ofString
/-- each def: its key, its place in the text, its names, its parameters -/
def dLaw : DefP := ⟨(0, 34), ("law", none), "law", "law", (stmtAt P 79), nc_law, 1, [], []⟩
def defs : List DefP := [dLaw,
  ⟨(0, 9), ("_law_start", none), "_law_start", "_law_start", (stmtAt P 74), nc__law_start, 1, [], []⟩,
  ⟨(0, 13), ("_law_names_drawn", none), "_law_names_drawn", "_law_names_drawn", (stmtAt P 77), nc__law_names_drawn, 2, [], []⟩,
  ⟨(0, 10), ("_law_pull", none), "_law_pull", "_law_pull", (stmtAt P 75), nc__law_pull, 2, [], []⟩,
  ⟨(0, 11), ("_law_pick", none), "_law_pick", "_law_pick", (stmtAt P 76), nc__law_pick, 2, [], []⟩,
  ⟨(0, 12), ("_law_same", none), "_law_same", "_law_same", (stmtAt P 78), nc__law_same, 2, [], []⟩,
  ⟨(0, 20), ("is_name", none), "is_name", "is_name", (stmtAt P 29), nc_is_name, 1, [], []⟩]
end K02
namespace K02
open Br PySem PySem.Spec PyProof.Rows L2
theorem ck_nd : at_.Nodup := by decide +kernel
theorem ck_nm : ∀ x ∈ at_, nmOk x = true := by decide +kernel
theorem ck_defs : defsB G at_ G.fns defs = true := by decide +kernel
theorem ck_law : defB G at_ fLaw dLaw = true := by decide +kernel
end K02

set_option Elab.async false
set_option linter.all false
set_option maxRecDepth 100000
set_option maxHeartbeats 0
namespace K02
open Br PySem PySem.W PySem.Calls PySem.Spec PyProof.Rows
def fn : List He.DefD := defs.map DefP.d
def ex (K : Frag) : Bool := fctB G at_ K
abbrev R : OpenRow := OpenLaw.row PySem.Challenge.rw_brimrest_k02_names_and_constants
abbrev qv : Program := view R.prog [79]
def names : List PySem.Str := (R.prog.main.scope.names.map (·.1)).filter (fun x => x != "law")
def used : List PySem.Str := (G.fns.map fun q => nmT at_ q.1.2) ++ (G.cls.map fun q => nmT at_ q.1) ++ G.cons.map fun q => nmT at_ q.1
abbrev hk : Hook := hookB used 2 fn ex
def ob (s : SharedT) : He.AlD × Bool := obsB used 2 fn ex (HandSHeadRun.getT s)
theorem ob_eq (s : SharedT) : ob s = hk.obs s.abs := obsB_eq (HandSHeadRun.getT_eq s)
theorem run1 (w : World) : HandSHeadRun.RunEq R qv hk ob 12000 names (w.withFollow "special-get-raises" false) := by
  intro os
  kernel_rfl
theorem run2 (w : World) : HandSHeadRun.RunEq R qv hk ob 12000 names (w.withFollow "special-get-raises" true) := by
  intro os
  kernel_rfl
theorem run (w : World) : HandSHeadRun.RunEq R qv hk ob 12000 names w :=
  byRow2 "special-get-raises" (P := fun w => HandSHeadRun.RunEq R qv hk ob 12000 names w) run1 run2 w
end K02

set_option linter.all false
set_option Elab.async false
set_option autoImplicit false
set_option maxRecDepth 100000
set_option maxHeartbeats 2000000
namespace K02
open Br
theorem g10 : G.fns.lookup (0, 10) = some fQ_pull := rfl
theorem g11 : G.fns.lookup (0, 11) = some fQ_pick := rfl
theorem g12 : G.fns.lookup (0, 12) = some fQ_same := rfl
theorem g13 : G.fns.lookup (0, 13) = some fQ_names := rfl
theorem g9 : G.fns.lookup (0, 9) = some fQ_start := rfl
/-- what is_name says -/
def nameB : AV → Bool
  | .str s => decide (1 ≤ s.length) && decide (s.length ≤ 8) && s.all fun c => decide (c ∈ abc)
  | _ => false
theorem allB_map {α : Type} (f : α → Bool) : ∀ l : List α, allB (l.map fun c => .bl (f c)) = some (l.map f)
  | [] => rfl
  | c :: r => by
    show (allB (r.map _)).map (f c :: ·) = _
    rw [allB_map f r]; rfl
theorem name_ok {k : Nat} {h : AH} {v : AV} {vs : List AV} {kw : List (Nat × AV)} (b : (⟨[21], [], false, [], 2, c_is_name⟩ : Fn).bind vs kw = some [v]) (o : isiOk G h v = true) (l : ∀ s, v = .str s → s.length ≤ 1000) :
    Rw (callAt G (k + 1) (0, 20) vs kw h) fun r h' => r = .bl (nameB v) ∧ ∃ l, h' = h ++ l := by
  rw [w_call (f := ⟨[21], [], false, [], 2, c_is_name⟩) (ws := [v]) rfl b]
  simp only [c_is_name, List.map_cons, List.map_nil, List.replicate, List.cons_append, List.nil_append, List.length_cons, List.length_nil, Nat.reduceAdd, Nat.reduceSub]
  rw [wB_cons]
  simp only [wE_loc, wE_con, wE_glo, wE_bin, wE_not, wE_and, wE_or, wE_ite, wE_isN, wE_notN, wE_cmp, wE_cmp2, wE_lst, wE_tup, wE_idx, wE_slc, wE_isi, wE_bi, wE_bm, wE_call, wE_cattr, wE_lis, wE_lcomp, wO_none, wO_some, iw_int, wEs_nil, wT_nil, wT_cons, wB_nil, wS_set, wS_ret, wS_ite, wS_for, wG_loc, wG_idx, wG_tup, bw_bl, es_loc, es_con, es_glo, es_bin, es_neg, es_not, es_and, es_or, es_isN, es_notN, es_cmp, es_cmp2, es_ite, es_lst, es_tup, es_fst, es_idx, es_slc, es_rev, es_isi, es_bi, es_bm, es_call, es_cattr, es_lis, es_tpl, es_lcomp, b_add, b_sub, b_mul, b_fdiv, b_mod, b_pow, b_adds, c_lt, c_le, c_gt, c_ge, c_eq, c_ne, c_eqb, c_in, c_nin, f_abs, f_int, c_le', c_lt', s_sub, sub_lst, s_put, put_lst, List.getElem?_cons_zero, List.getElem?_cons_succ, Option.some.injEq, exists_eq_left', Option.bind_some, List.length_cons, List.length_nil, Nat.reduceAdd, List.set_cons_succ, List.set_cons_zero, v_slcS, Nat.reduceLT, true_and, wipeC, List.foldr_cons, List.foldr_nil, o, List.any_cons, List.any_nil, Bool.or_false]
  cases v with
  | str s =>
    have sl := l s rfl
    simp only [wE_loc, wE_con, wE_glo, wE_bin, wE_not, wE_and, wE_or, wE_ite, wE_isN, wE_notN, wE_cmp, wE_cmp2, wE_lst, wE_tup, wE_idx, wE_slc, wE_isi, wE_bi, wE_bm, wE_call, wE_cattr, wE_lis, wE_lcomp, wO_none, wO_some, iw_int, wEs_nil, wT_nil, wT_cons, wB_nil, wS_set, wS_ret, wS_ite, wS_for, wG_loc, wG_idx, wG_tup, bw_bl, es_loc, es_con, es_glo, es_bin, es_neg, es_not, es_and, es_or, es_isN, es_notN, es_cmp, es_cmp2, es_ite, es_lst, es_tup, es_fst, es_idx, es_slc, es_rev, es_isi, es_bi, es_bm, es_call, es_cattr, es_lis, es_tpl, es_lcomp, b_add, b_sub, b_mul, b_fdiv, b_mod, b_pow, b_adds, c_lt, c_le, c_gt, c_ge, c_eq, c_ne, c_eqb, c_in, c_nin, f_abs, f_int, c_le', c_lt', s_sub, sub_lst, s_put, put_lst, List.getElem?_cons_zero, List.getElem?_cons_succ, Option.some.injEq, exists_eq_left', Option.bind_some, List.length_cons, List.length_nil, Nat.reduceAdd, List.set_cons_succ, List.set_cons_zero, v_slcS, Nat.reduceLT, true_and, wipeC, List.foldr_cons, List.foldr_nil, hasTy, Bool.not_true, Bool.false_eq_true, if_false, f_lenS (s := s) (by unfold lim; omega)]
    have all_ : s.length ≤ 1000 → Sw (evB G (callAt G k) [.ret (.bi .all [.lcomp [1] false .val [.loc 0] [] (.cmp .isin (.loc 1) (.glo 33))])] [some (.str s), none] h) (fun x h' => AV.non = .bl (s.all fun c => decide (c ∈ abc)) ∧ ∃ l, h' = h ++ l) (fun r h' => r = .bl (s.all fun c => decide (c ∈ abc)) ∧ ∃ l, h' = h ++ l) := by
      intro sl
      rw [wB_cons]
      simp only [wE_loc, wE_con, wE_glo, wE_bin, wE_not, wE_and, wE_or, wE_ite, wE_isN, wE_notN, wE_cmp, wE_cmp2, wE_lst, wE_tup, wE_idx, wE_slc, wE_isi, wE_bi, wE_bm, wE_call, wE_cattr, wE_lis, wE_lcomp, wO_none, wO_some, iw_int, wEs_nil, wT_nil, wT_cons, wB_nil, wS_set, wS_ret, wS_ite, wS_for, wG_loc, wG_idx, wG_tup, bw_bl, es_loc, es_con, es_glo, es_bin, es_neg, es_not, es_and, es_or, es_isN, es_notN, es_cmp, es_cmp2, es_ite, es_lst, es_tup, es_fst, es_idx, es_slc, es_rev, es_isi, es_bi, es_bm, es_call, es_cattr, es_lis, es_tpl, es_lcomp, b_add, b_sub, b_mul, b_fdiv, b_mod, b_pow, b_adds, c_lt, c_le, c_gt, c_ge, c_eq, c_ne, c_eqb, c_in, c_nin, f_abs, f_int, c_le', c_lt', s_sub, sub_lst, s_put, put_lst, List.getElem?_cons_zero, List.getElem?_cons_succ, Option.some.injEq, exists_eq_left', Option.bind_some, List.length_cons, List.length_nil, Nat.reduceAdd, List.set_cons_succ, List.set_cons_zero, v_slcS, Nat.reduceLT, true_and, wipeC, List.foldr_cons, List.foldr_nil, mk_str]
      refine w_comp (I := fun i acc h' => acc = (s.take i).map (fun c => .bl (decide (c ∈ abc))) ∧ h' = h) ⟨rfl, rfl⟩ ?_ ?_
      · rintro i v acc h' e ⟨rfl, rfl⟩
        rw [List.getElem?_map] at e
        cases q : s[i]? with
        | none => rw [q] at e; cases e
        | some c =>
          rw [q] at e
          cases e
          refine ⟨_, rfl, ?_⟩
          have il := (List.getElem?_eq_some_iff.mp q).1
          simp only [wE_loc, wE_con, wE_glo, wE_bin, wE_not, wE_and, wE_or, wE_ite, wE_isN, wE_notN, wE_cmp, wE_cmp2, wE_lst, wE_tup, wE_idx, wE_slc, wE_isi, wE_bi, wE_bm, wE_call, wE_cattr, wE_lis, wE_lcomp, wO_none, wO_some, iw_int, wEs_nil, wT_nil, wT_cons, wB_nil, wS_set, wS_ret, wS_ite, wS_for, wG_loc, wG_idx, wG_tup, bw_bl, es_loc, es_con, es_glo, es_bin, es_neg, es_not, es_and, es_or, es_isN, es_notN, es_cmp, es_cmp2, es_ite, es_lst, es_tup, es_fst, es_idx, es_slc, es_rev, es_isi, es_bi, es_bm, es_call, es_cattr, es_lis, es_tpl, es_lcomp, b_add, b_sub, b_mul, b_fdiv, b_mod, b_pow, b_adds, c_lt, c_le, c_gt, c_ge, c_eq, c_ne, c_eqb, c_in, c_nin, f_abs, f_int, c_le', c_lt', s_sub, sub_lst, s_put, put_lst, List.getElem?_cons_zero, List.getElem?_cons_succ, Option.some.injEq, exists_eq_left', Option.bind_some, List.length_cons, List.length_nil, Nat.reduceAdd, List.set_cons_succ, List.set_cons_zero, v_slcS, Nat.reduceLT, true_and, wipeC, List.foldr_cons, List.foldr_nil, if_true, show List.lookup 33 G.cons = some (.str abc) from rfl]
          refine ⟨by simp [lim]; omega, ?_, trivial⟩
          rw [List.take_succ, q, List.map_append]
          rfl
      · rintro acc h' ⟨rfl, rfl⟩
        simp only [List.length_map, List.take_length]
        refine ⟨by unfold lim; omega, ?_⟩
        simp only [w_newL]
        refine ⟨by simp [lim]; omega, ?_⟩
        rw [f_all (bs := s.map fun c => decide (c ∈ abc)) (by
          unfold lstOf
          simp only [get_new]
          exact allB_map _ s)]
        refine ⟨?_, _, rfl⟩
        rw [List.all_map]
        rfl
    have nb : nameB (.str s) = (decide (1 ≤ s.length) && decide (s.length ≤ 8) && s.all fun c => decide (c ∈ abc)) := rfl
    by_cases c1 : (1 : Int) ≤ (s.length : Int)
    · have c1' : 1 ≤ s.length := by omega
      simp only [c1, decide_true, if_true, wE_loc, wE_con, wE_glo, wE_bin, wE_not, wE_and, wE_or, wE_ite, wE_isN, wE_notN, wE_cmp, wE_cmp2, wE_lst, wE_tup, wE_idx, wE_slc, wE_isi, wE_bi, wE_bm, wE_call, wE_cattr, wE_lis, wE_lcomp, wO_none, wO_some, iw_int, wEs_nil, wT_nil, wT_cons, wB_nil, wS_set, wS_ret, wS_ite, wS_for, wG_loc, wG_idx, wG_tup, bw_bl, es_loc, es_con, es_glo, es_bin, es_neg, es_not, es_and, es_or, es_isN, es_notN, es_cmp, es_cmp2, es_ite, es_lst, es_tup, es_fst, es_idx, es_slc, es_rev, es_isi, es_bi, es_bm, es_call, es_cattr, es_lis, es_tpl, es_lcomp, b_add, b_sub, b_mul, b_fdiv, b_mod, b_pow, b_adds, c_lt, c_le, c_gt, c_ge, c_eq, c_ne, c_eqb, c_in, c_nin, f_abs, f_int, c_le', c_lt', s_sub, sub_lst, s_put, put_lst, List.getElem?_cons_zero, List.getElem?_cons_succ, Option.some.injEq, exists_eq_left', Option.bind_some, List.length_cons, List.length_nil, Nat.reduceAdd, List.set_cons_succ, List.set_cons_zero, v_slcS, Nat.reduceLT, true_and, wipeC, List.foldr_cons, List.foldr_nil, show List.lookup 32 G.cons = some (.int 8) from rfl]
      by_cases c2 : (s.length : Int) ≤ 8
      · have c2' : s.length ≤ 8 := by omega
        rw [nb]
        simp only [c2, c1', c2', decide_true, Bool.not_true, Bool.false_eq_true, if_false, wE_loc, wE_con, wE_glo, wE_bin, wE_not, wE_and, wE_or, wE_ite, wE_isN, wE_notN, wE_cmp, wE_cmp2, wE_lst, wE_tup, wE_idx, wE_slc, wE_isi, wE_bi, wE_bm, wE_call, wE_cattr, wE_lis, wE_lcomp, wO_none, wO_some, iw_int, wEs_nil, wT_nil, wT_cons, wB_nil, wS_set, wS_ret, wS_ite, wS_for, wG_loc, wG_idx, wG_tup, bw_bl, es_loc, es_con, es_glo, es_bin, es_neg, es_not, es_and, es_or, es_isN, es_notN, es_cmp, es_cmp2, es_ite, es_lst, es_tup, es_fst, es_idx, es_slc, es_rev, es_isi, es_bi, es_bm, es_call, es_cattr, es_lis, es_tpl, es_lcomp, b_add, b_sub, b_mul, b_fdiv, b_mod, b_pow, b_adds, c_lt, c_le, c_gt, c_ge, c_eq, c_ne, c_eqb, c_in, c_nin, f_abs, f_int, c_le', c_lt', s_sub, sub_lst, s_put, put_lst, List.getElem?_cons_zero, List.getElem?_cons_succ, Option.some.injEq, exists_eq_left', Option.bind_some, List.length_cons, List.length_nil, Nat.reduceAdd, List.set_cons_succ, List.set_cons_zero, v_slcS, Nat.reduceLT, true_and, wipeC, List.foldr_cons, List.foldr_nil, Bool.true_and]
        exact all_ sl
      · have c2' : ¬ s.length ≤ 8 := by omega
        rw [nb]
        simp only [c2, c1', c2', decide_false, decide_true, Bool.not_false, if_true, Bool.and_false, Bool.false_and]
        rw [wB_cons]
        simp only [wE_loc, wE_con, wE_glo, wE_bin, wE_not, wE_and, wE_or, wE_ite, wE_isN, wE_notN, wE_cmp, wE_cmp2, wE_lst, wE_tup, wE_idx, wE_slc, wE_isi, wE_bi, wE_bm, wE_call, wE_cattr, wE_lis, wE_lcomp, wO_none, wO_some, iw_int, wEs_nil, wT_nil, wT_cons, wB_nil, wS_set, wS_ret, wS_ite, wS_for, wG_loc, wG_idx, wG_tup, bw_bl, es_loc, es_con, es_glo, es_bin, es_neg, es_not, es_and, es_or, es_isN, es_notN, es_cmp, es_cmp2, es_ite, es_lst, es_tup, es_fst, es_idx, es_slc, es_rev, es_isi, es_bi, es_bm, es_call, es_cattr, es_lis, es_tpl, es_lcomp, b_add, b_sub, b_mul, b_fdiv, b_mod, b_pow, b_adds, c_lt, c_le, c_gt, c_ge, c_eq, c_ne, c_eqb, c_in, c_nin, f_abs, f_int, c_le', c_lt', s_sub, sub_lst, s_put, put_lst, List.getElem?_cons_zero, List.getElem?_cons_succ, Option.some.injEq, exists_eq_left', Option.bind_some, List.length_cons, List.length_nil, Nat.reduceAdd, List.set_cons_succ, List.set_cons_zero, v_slcS, Nat.reduceLT, true_and, wipeC, List.foldr_cons, List.foldr_nil]
        exact ⟨[], by simp⟩
    · have c1' : ¬ 1 ≤ s.length := by omega
      rw [nb]
      simp only [c1, c1', decide_false, Bool.false_eq_true, if_false, Bool.not_false, if_true, Bool.false_and]
      rw [wB_cons]
      simp only [wE_loc, wE_con, wE_glo, wE_bin, wE_not, wE_and, wE_or, wE_ite, wE_isN, wE_notN, wE_cmp, wE_cmp2, wE_lst, wE_tup, wE_idx, wE_slc, wE_isi, wE_bi, wE_bm, wE_call, wE_cattr, wE_lis, wE_lcomp, wO_none, wO_some, iw_int, wEs_nil, wT_nil, wT_cons, wB_nil, wS_set, wS_ret, wS_ite, wS_for, wG_loc, wG_idx, wG_tup, bw_bl, es_loc, es_con, es_glo, es_bin, es_neg, es_not, es_and, es_or, es_isN, es_notN, es_cmp, es_cmp2, es_ite, es_lst, es_tup, es_fst, es_idx, es_slc, es_rev, es_isi, es_bi, es_bm, es_call, es_cattr, es_lis, es_tpl, es_lcomp, b_add, b_sub, b_mul, b_fdiv, b_mod, b_pow, b_adds, c_lt, c_le, c_gt, c_ge, c_eq, c_ne, c_eqb, c_in, c_nin, f_abs, f_int, c_le', c_lt', s_sub, sub_lst, s_put, put_lst, List.getElem?_cons_zero, List.getElem?_cons_succ, Option.some.injEq, exists_eq_left', Option.bind_some, List.length_cons, List.length_nil, Nat.reduceAdd, List.set_cons_succ, List.set_cons_zero, v_slcS, Nat.reduceLT, true_and, wipeC, List.foldr_cons, List.foldr_nil]
      exact ⟨[], by simp⟩
  | _ =>
    simp only [show ∀ v, hasTy G h v .str = (match v with | .str _ => true | _ => false) from fun v => rfl, Bool.not_false, if_true]
    rw [wB_cons]
    simp only [wE_loc, wE_con, wE_glo, wE_bin, wE_not, wE_and, wE_or, wE_ite, wE_isN, wE_notN, wE_cmp, wE_cmp2, wE_lst, wE_tup, wE_idx, wE_slc, wE_isi, wE_bi, wE_bm, wE_call, wE_cattr, wE_lis, wE_lcomp, wO_none, wO_some, iw_int, wEs_nil, wT_nil, wT_cons, wB_nil, wS_set, wS_ret, wS_ite, wS_for, wG_loc, wG_idx, wG_tup, bw_bl, es_loc, es_con, es_glo, es_bin, es_neg, es_not, es_and, es_or, es_isN, es_notN, es_cmp, es_cmp2, es_ite, es_lst, es_tup, es_fst, es_idx, es_slc, es_rev, es_isi, es_bi, es_bm, es_call, es_cattr, es_lis, es_tpl, es_lcomp, b_add, b_sub, b_mul, b_fdiv, b_mod, b_pow, b_adds, c_lt, c_le, c_gt, c_ge, c_eq, c_ne, c_eqb, c_in, c_nin, f_abs, f_int, c_le', c_lt', s_sub, sub_lst, s_put, put_lst, List.getElem?_cons_zero, List.getElem?_cons_succ, Option.some.injEq, exists_eq_left', Option.bind_some, List.length_cons, List.length_nil, Nat.reduceAdd, List.set_cons_succ, List.set_cons_zero, v_slcS, Nat.reduceLT, true_and, wipeC, List.foldr_cons, List.foldr_nil, nameB]
    exact ⟨[], by simp⟩
theorem all_in {G : Gm} {C : Callee} {a : Lc} {h : AH} {Q : AV → AH → Prop} {t i : Nat} {X : CE} {s L : List Nat} (hi : a[i]? = some (some (.str s))) (ht : t < a.length) (hX : ∀ o h Q, Rw (evE G C X ((a.set t none).set t o) h) Q = Q (.str L) h) (sl : s.length ≤ 1000)
    (q : ∀ l, Q (.bl (s.all fun c => decide (c ∈ L))) (h ++ l)) : Rw (evE G C (.bi .all [.lcomp [t] false .val [.loc i] [] (.cmp .isin (.loc t) X)]) a h) Q := by
  simp only [wE_loc, wE_con, wE_glo, wE_bin, wE_not, wE_and, wE_or, wE_ite, wE_isN, wE_notN, wE_cmp, wE_cmp2, wE_lst, wE_tup, wE_idx, wE_slc, wE_isi, wE_bi, wE_bm, wE_call, wE_cattr, wE_lis, wE_lcomp, wO_none, wO_some, iw_int, wEs_nil, wT_nil, wT_cons, wB_nil, wS_set, wS_ret, wS_ite, wS_for, wG_loc, wG_idx, wG_tup, bw_bl, es_loc, es_con, es_glo, es_bin, es_neg, es_not, es_and, es_or, es_isN, es_notN, es_cmp, es_cmp2, es_ite, es_lst, es_tup, es_fst, es_idx, es_slc, es_rev, es_isi, es_bi, es_bm, es_call, es_cattr, es_lis, es_tpl, es_lcomp, b_add, b_sub, b_mul, b_fdiv, b_mod, b_pow, b_adds, c_lt, c_le, c_gt, c_ge, c_eq, c_ne, c_eqb, c_in, c_nin, f_abs, f_int, c_le', c_lt', s_sub, sub_lst, s_put, put_lst, List.getElem?_cons_zero, List.getElem?_cons_succ, Option.some.injEq, exists_eq_left', Option.bind_some, List.length_cons, List.length_nil, Nat.reduceAdd, List.set_cons_succ, List.set_cons_zero, v_slcS, Nat.reduceLT, true_and, wipeC, List.foldr_cons, List.foldr_nil, hi, mk_str]
  refine w_comp (I := fun i acc h' => acc = (s.take i).map (fun c => .bl (decide (c ∈ L))) ∧ h' = h) ⟨rfl, rfl⟩ ?_ ?_
  · rintro i v acc h' e ⟨rfl, rfl⟩
    rw [List.getElem?_map] at e
    cases q : s[i]? with
    | none => rw [q] at e; cases e
    | some c =>
      rw [q] at e
      cases e
      refine ⟨(a.set t none).set t (some (.str [c])), by
        show setTs [t] [.str [c]] (a.set t none) = _
        unfold setTs
        rw [if_pos (by simpa using ht)]; rfl, ?_⟩
      have il := (List.getElem?_eq_some_iff.mp q).1
      have e2 : ((a.set t none).set t (some (AV.str [c])))[t]? = some (some (.str [c])) := by rw [List.getElem?_set_self (by simpa using ht)]
      simp only [wE_loc, wE_con, wE_glo, wE_bin, wE_not, wE_and, wE_or, wE_ite, wE_isN, wE_notN, wE_cmp, wE_cmp2, wE_lst, wE_tup, wE_idx, wE_slc, wE_isi, wE_bi, wE_bm, wE_call, wE_cattr, wE_lis, wE_lcomp, wO_none, wO_some, iw_int, wEs_nil, wT_nil, wT_cons, wB_nil, wS_set, wS_ret, wS_ite, wS_for, wG_loc, wG_idx, wG_tup, bw_bl, es_loc, es_con, es_glo, es_bin, es_neg, es_not, es_and, es_or, es_isN, es_notN, es_cmp, es_cmp2, es_ite, es_lst, es_tup, es_fst, es_idx, es_slc, es_rev, es_isi, es_bi, es_bm, es_call, es_cattr, es_lis, es_tpl, es_lcomp, b_add, b_sub, b_mul, b_fdiv, b_mod, b_pow, b_adds, c_lt, c_le, c_gt, c_ge, c_eq, c_ne, c_eqb, c_in, c_nin, f_abs, f_int, c_le', c_lt', s_sub, sub_lst, s_put, put_lst, List.getElem?_cons_zero, List.getElem?_cons_succ, Option.some.injEq, exists_eq_left', Option.bind_some, List.length_cons, List.length_nil, Nat.reduceAdd, List.set_cons_succ, List.set_cons_zero, v_slcS, Nat.reduceLT, true_and, wipeC, List.foldr_cons, List.foldr_nil, if_true, e2, hX]
      refine ⟨by simp [lim]; omega, ?_⟩
      rw [List.take_succ, q, List.map_append]
      exact ⟨rfl, trivial⟩
  · rintro acc h' ⟨rfl, rfl⟩
    simp only [List.length_map, List.take_length]
    refine ⟨by unfold lim; omega, ?_⟩
    simp only [w_newL]
    refine ⟨by simp [lim]; omega, ?_⟩
    rw [f_all (bs := s.map fun c => decide (c ∈ L)) (by
      unfold lstOf
      simp only [get_new]
      exact allB_map _ s)]
    rw [List.all_map]
    exact q _
theorem toT_new {h : AH} {n : Nat} {xs : List AV} : toT (h ++ [.lst xs]) (n + 1) (.ref h.length) = (toTs (toT (h ++ [.lst xs]) n) xs).map .lst := by
  conv => lhs; unfold toT
  simp only [get_new]
theorem isiOk_app {G : Gm} {h l : AH} {v : AV} (e : isiOk G h v = true) : isiOk G (h ++ l) v = true := by
  cases v with
  | ref i =>
    unfold isiOk at e ⊢
    simp only at e ⊢
    cases q : h[i]? with
    | none => rw [q] at e; cases e
    | some o => rw [q] at e; rw [get_app q]; exact e
  | _ => rfl
theorem b_mulL {G : Gm} {C : Callee} {h : AH} {i : Nat} {k : Int} {xs : List AV} {Q : AV → AH → Prop} (e : h[i]? = some (.lst xs)) (l : 0 ≤ k ∧ k ≤ lim) : Rw (bopC G C .mul (.ref i) (.int k) h) Q = Rw (newL (List.replicate k.toNat xs).flatten h) Q := by
  unfold bopC clsOf bop
  simp only [e, if_pos l]
theorem good_ok {G : Gm} {C : Callee} {a : Lc} {h : AH} {t i : Nat} {X : CE} {s : List Nat} (hi : a[i]? = some (some (.str s))) (ht : t < a.length) (hX : ∀ o h Q, Rw (evE G C X ((a.set t none).set t o) h) Q = Q (.str abc) h) (sl : s.length ≤ 1000) :
    Rw (evE G C (.and (.cmp2 .le .le (.con (.int 1)) (.bi .len [(.loc i)]) (.con (.int 8))) (.bi .all [.lcomp [t] false .val [.loc i] [] (.cmp .isin (.loc t) X)])) a h) fun v h' => v = .bl (nameB (.str s)) ∧ ∃ l, h' = h ++ l := by
  have nb : nameB (.str s) = (decide (1 ≤ s.length) && decide (s.length ≤ 8) && s.all fun c => decide (c ∈ abc)) := rfl
  rw [wE_and]
  refine Rw.mono (P := fun v h' => v = .bl (decide (1 ≤ s.length) && decide (s.length ≤ 8)) ∧ h' = h) ?_ ?_
  · simp only [wE_loc, wE_con, wE_glo, wE_bin, wE_not, wE_and, wE_or, wE_ite, wE_isN, wE_notN, wE_cmp, wE_cmp2, wE_lst, wE_tup, wE_idx, wE_slc, wE_isi, wE_bi, wE_bm, wE_call, wE_cattr, wE_lis, wE_lcomp, wO_none, wO_some, iw_int, wEs_nil, wT_nil, wT_cons, wB_nil, wS_set, wS_ret, wS_ite, wS_for, wG_loc, wG_idx, wG_tup, bw_bl, es_loc, es_con, es_glo, es_bin, es_neg, es_not, es_and, es_or, es_isN, es_notN, es_cmp, es_cmp2, es_ite, es_lst, es_tup, es_fst, es_idx, es_slc, es_rev, es_isi, es_bi, es_bm, es_call, es_cattr, es_lis, es_tpl, es_lcomp, b_add, b_sub, b_mul, b_fdiv, b_mod, b_pow, b_adds, c_lt, c_le, c_gt, c_ge, c_eq, c_ne, c_eqb, c_in, c_nin, f_abs, f_int, c_le', c_lt', s_sub, sub_lst, s_put, put_lst, List.getElem?_cons_zero, List.getElem?_cons_succ, Option.some.injEq, exists_eq_left', Option.bind_some, List.length_cons, List.length_nil, Nat.reduceAdd, List.set_cons_succ, List.set_cons_zero, v_slcS, Nat.reduceLT, true_and, wipeC, List.foldr_cons, List.foldr_nil, hi, f_lenS (s := s) (by unfold lim; omega)]
    by_cases c1 : (1 : Int) ≤ (s.length : Int)
    · have c1' : 1 ≤ s.length := by omega
      have e : decide ((s.length : Int) ≤ 8) = decide (s.length ≤ 8) := by simp only [decide_eq_decide]; omega
      simp only [c1, c1', decide_true, if_true, wE_loc, wE_con, wE_glo, wE_bin, wE_not, wE_and, wE_or, wE_ite, wE_isN, wE_notN, wE_cmp, wE_cmp2, wE_lst, wE_tup, wE_idx, wE_slc, wE_isi, wE_bi, wE_bm, wE_call, wE_cattr, wE_lis, wE_lcomp, wO_none, wO_some, iw_int, wEs_nil, wT_nil, wT_cons, wB_nil, wS_set, wS_ret, wS_ite, wS_for, wG_loc, wG_idx, wG_tup, bw_bl, es_loc, es_con, es_glo, es_bin, es_neg, es_not, es_and, es_or, es_isN, es_notN, es_cmp, es_cmp2, es_ite, es_lst, es_tup, es_fst, es_idx, es_slc, es_rev, es_isi, es_bi, es_bm, es_call, es_cattr, es_lis, es_tpl, es_lcomp, b_add, b_sub, b_mul, b_fdiv, b_mod, b_pow, b_adds, c_lt, c_le, c_gt, c_ge, c_eq, c_ne, c_eqb, c_in, c_nin, f_abs, f_int, c_le', c_lt', s_sub, sub_lst, s_put, put_lst, List.getElem?_cons_zero, List.getElem?_cons_succ, Option.some.injEq, exists_eq_left', Option.bind_some, List.length_cons, List.length_nil, Nat.reduceAdd, List.set_cons_succ, List.set_cons_zero, v_slcS, Nat.reduceLT, true_and, wipeC, List.foldr_cons, List.foldr_nil, e, Bool.true_and]
    · have c1' : ¬ 1 ≤ s.length := by omega
      simp only [c1, c1', decide_false, Bool.false_eq_true, if_false, Bool.false_and]
      exact ⟨trivial, trivial⟩
  · rintro _ h5 ⟨rfl, rfl⟩
    rw [bw_bl, nb]
    split
    · next c =>
      rw [c, Bool.true_and]
      exact all_in hi ht hX sl fun l => ⟨rfl, l, rfl⟩
    · next c =>
      rw [Bool.not_eq_true] at c
      rw [c, Bool.false_and]
      exact ⟨rfl, [], by simp⟩
theorem sw_true {r : SR} (w : Sw r (fun _ _ => False) fun v _ => v = .bl true) : ∃ h1, r = .rt (.bl true) h1 := by
  cases r with
  | nx a h => exact w.elim
  | rt v h => exact ⟨h, by rw [show v = .bl true from w]⟩
  | ct a h => exact w.elim
  | exc c fs a h => exact w.elim
  | fail => exact w.elim
theorem law_true {ns : List Int} (l : ns.length ≤ 63) : Sw (evB G (callAt G 10) c_law (some (.fl (ns.map AV.int)) :: List.replicate 11 none) []) (fun _ _ => False) fun v _ => v = .bl true := by
  simp only [c_law, List.replicate]
  rw [wB_cons]
  simp only [wE_loc, wE_con, wE_glo, wE_bin, wE_not, wE_and, wE_or, wE_ite, wE_isN, wE_notN, wE_cmp, wE_cmp2, wE_lst, wE_tup, wE_idx, wE_slc, wE_isi, wE_bi, wE_bm, wE_call, wE_cattr, wE_lis, wE_lcomp, wO_none, wO_some, iw_int, wEs_nil, wT_nil, wT_cons, wB_nil, wS_set, wS_ret, wS_ite, wS_for, wG_loc, wG_idx, wG_tup, bw_bl, es_loc, es_con, es_glo, es_bin, es_neg, es_not, es_and, es_or, es_isN, es_notN, es_cmp, es_cmp2, es_ite, es_lst, es_tup, es_fst, es_idx, es_slc, es_rev, es_isi, es_bi, es_bm, es_call, es_cattr, es_lis, es_tpl, es_lcomp, b_add, b_sub, b_mul, b_fdiv, b_mod, b_pow, b_adds, c_lt, c_le, c_gt, c_ge, c_eq, c_ne, c_eqb, c_in, c_nin, f_abs, f_int, c_le', c_lt', s_sub, sub_lst, s_put, put_lst, List.getElem?_cons_zero, List.getElem?_cons_succ, Option.some.injEq, exists_eq_left', Option.bind_some, List.length_cons, List.length_nil, Nat.reduceAdd, List.set_cons_succ, List.set_cons_zero, v_slcS, Nat.reduceLT, true_and, wipeC, List.foldr_cons, List.foldr_nil, List.zip_nil_left]
  refine (start_ok g9 l).mono ?_
  rintro _ h ⟨b, rfl, B, -, -⟩
  rw [wB_cons]
  simp only [wE_loc, wE_con, wE_glo, wE_bin, wE_not, wE_and, wE_or, wE_ite, wE_isN, wE_notN, wE_cmp, wE_cmp2, wE_lst, wE_tup, wE_idx, wE_slc, wE_isi, wE_bi, wE_bm, wE_call, wE_cattr, wE_lis, wE_lcomp, wO_none, wO_some, iw_int, wEs_nil, wT_nil, wT_cons, wB_nil, wS_set, wS_ret, wS_ite, wS_for, wG_loc, wG_idx, wG_tup, bw_bl, es_loc, es_con, es_glo, es_bin, es_neg, es_not, es_and, es_or, es_isN, es_notN, es_cmp, es_cmp2, es_ite, es_lst, es_tup, es_fst, es_idx, es_slc, es_rev, es_isi, es_bi, es_bm, es_call, es_cattr, es_lis, es_tpl, es_lcomp, b_add, b_sub, b_mul, b_fdiv, b_mod, b_pow, b_adds, c_lt, c_le, c_gt, c_ge, c_eq, c_ne, c_eqb, c_in, c_nin, f_abs, f_int, c_le', c_lt', s_sub, sub_lst, s_put, put_lst, List.getElem?_cons_zero, List.getElem?_cons_succ, Option.some.injEq, exists_eq_left', Option.bind_some, List.length_cons, List.length_nil, Nat.reduceAdd, List.set_cons_succ, List.set_cons_zero, v_slcS, Nat.reduceLT, true_and, wipeC, List.foldr_cons, List.foldr_nil]
  rw [wB_cons]
  simp only [wE_loc, wE_con, wE_glo, wE_bin, wE_not, wE_and, wE_or, wE_ite, wE_isN, wE_notN, wE_cmp, wE_cmp2, wE_lst, wE_tup, wE_idx, wE_slc, wE_isi, wE_bi, wE_bm, wE_call, wE_cattr, wE_lis, wE_lcomp, wO_none, wO_some, iw_int, wEs_nil, wT_nil, wT_cons, wB_nil, wS_set, wS_ret, wS_ite, wS_for, wG_loc, wG_idx, wG_tup, bw_bl, es_loc, es_con, es_glo, es_bin, es_neg, es_not, es_and, es_or, es_isN, es_notN, es_cmp, es_cmp2, es_ite, es_lst, es_tup, es_fst, es_idx, es_slc, es_rev, es_isi, es_bi, es_bm, es_call, es_cattr, es_lis, es_tpl, es_lcomp, b_add, b_sub, b_mul, b_fdiv, b_mod, b_pow, b_adds, c_lt, c_le, c_gt, c_ge, c_eq, c_ne, c_eqb, c_in, c_nin, f_abs, f_int, c_le', c_lt', s_sub, sub_lst, s_put, put_lst, List.getElem?_cons_zero, List.getElem?_cons_succ, Option.some.injEq, exists_eq_left', Option.bind_some, List.length_cons, List.length_nil, Nat.reduceAdd, List.set_cons_succ, List.set_cons_zero, v_slcS, Nat.reduceLT, true_and, wipeC, List.foldr_cons, List.foldr_nil]
  rw [mk_range1 (by decide) (by decide)]
  refine w_for (I := fun _ a h' => Bag h' b ∧ ∃ o3 o6 o7 o8 o9, a = [some (.fl (ns.map AV.int)), some (.ref b), some (.str abc), o3, none, none, o6, o7, o8, o9, none, none]) ⟨B, _, _, _, _, _, rfl⟩ ?_ ?_
  · rintro i v a h' e ⟨B, o3, o6, o7, o8, o9, rfl⟩
    refine ⟨_, rfl, ?_⟩
    rw [wB_cons]
    simp only [wE_loc, wE_con, wE_glo, wE_bin, wE_not, wE_and, wE_or, wE_ite, wE_isN, wE_notN, wE_cmp, wE_cmp2, wE_lst, wE_tup, wE_idx, wE_slc, wE_isi, wE_bi, wE_bm, wE_call, wE_cattr, wE_lis, wE_lcomp, wO_none, wO_some, iw_int, wEs_nil, wT_nil, wT_cons, wB_nil, wS_set, wS_ret, wS_ite, wS_for, wG_loc, wG_idx, wG_tup, bw_bl, es_loc, es_con, es_glo, es_bin, es_neg, es_not, es_and, es_or, es_isN, es_notN, es_cmp, es_cmp2, es_ite, es_lst, es_tup, es_fst, es_idx, es_slc, es_rev, es_isi, es_bi, es_bm, es_call, es_cattr, es_lis, es_tpl, es_lcomp, b_add, b_sub, b_mul, b_fdiv, b_mod, b_pow, b_adds, c_lt, c_le, c_gt, c_ge, c_eq, c_ne, c_eqb, c_in, c_nin, f_abs, f_int, c_le', c_lt', s_sub, sub_lst, s_put, put_lst, List.getElem?_cons_zero, List.getElem?_cons_succ, Option.some.injEq, exists_eq_left', Option.bind_some, List.length_cons, List.length_nil, Nat.reduceAdd, List.set_cons_succ, List.set_cons_zero, v_slcS, Nat.reduceLT, true_and, wipeC, List.foldr_cons, List.foldr_nil, List.zip_nil_left]
    refine (names_ok g10 g11 g13 (n := 2) B (by decide)).mono ?_
    rintro _ h1 ⟨S, r, rfl, -, e1, B1, -⟩
    have nl := S.len 1
    have s7 := S.l7
    generalize hn : S.name 1 = nm at *
    have e1' : h1[r]? = some (.lst [.str (S.name 0), .str nm]) := by rw [e1, ← hn]; rfl
    simp only [wE_loc, wE_con, wE_glo, wE_bin, wE_not, wE_and, wE_or, wE_ite, wE_isN, wE_notN, wE_cmp, wE_cmp2, wE_lst, wE_tup, wE_idx, wE_slc, wE_isi, wE_bi, wE_bm, wE_call, wE_cattr, wE_lis, wE_lcomp, wO_none, wO_some, iw_int, wEs_nil, wT_nil, wT_cons, wB_nil, wS_set, wS_ret, wS_ite, wS_for, wG_loc, wG_idx, wG_tup, bw_bl, es_loc, es_con, es_glo, es_bin, es_neg, es_not, es_and, es_or, es_isN, es_notN, es_cmp, es_cmp2, es_ite, es_lst, es_tup, es_fst, es_idx, es_slc, es_rev, es_isi, es_bi, es_bm, es_call, es_cattr, es_lis, es_tpl, es_lcomp, b_add, b_sub, b_mul, b_fdiv, b_mod, b_pow, b_adds, c_lt, c_le, c_gt, c_ge, c_eq, c_ne, c_eqb, c_in, c_nin, f_abs, f_int, c_le', c_lt', s_sub, sub_lst, s_put, put_lst, List.getElem?_cons_zero, List.getElem?_cons_succ, Option.some.injEq, exists_eq_left', Option.bind_some, List.length_cons, List.length_nil, Nat.reduceAdd, List.set_cons_succ, List.set_cons_zero, v_slcS, Nat.reduceLT, true_and, wipeC, List.foldr_cons, List.foldr_nil, e1', show ixN 2 1 = some 1 from rfl]
    rw [wB_cons]
    simp only [wE_loc, wE_con, wE_glo, wE_bin, wE_not, wE_and, wE_or, wE_ite, wE_isN, wE_notN, wE_cmp, wE_cmp2, wE_lst, wE_tup, wE_idx, wE_slc, wE_isi, wE_bi, wE_bm, wE_call, wE_cattr, wE_lis, wE_lcomp, wO_none, wO_some, iw_int, wEs_nil, wT_nil, wT_cons, wB_nil, wS_set, wS_ret, wS_ite, wS_for, wG_loc, wG_idx, wG_tup, bw_bl, es_loc, es_con, es_glo, es_bin, es_neg, es_not, es_and, es_or, es_isN, es_notN, es_cmp, es_cmp2, es_ite, es_lst, es_tup, es_fst, es_idx, es_slc, es_rev, es_isi, es_bi, es_bm, es_call, es_cattr, es_lis, es_tpl, es_lcomp, b_add, b_sub, b_mul, b_fdiv, b_mod, b_pow, b_adds, c_lt, c_le, c_gt, c_ge, c_eq, c_ne, c_eqb, c_in, c_nin, f_abs, f_int, c_le', c_lt', s_sub, sub_lst, s_put, put_lst, List.getElem?_cons_zero, List.getElem?_cons_succ, Option.some.injEq, exists_eq_left', Option.bind_some, List.length_cons, List.length_nil, Nat.reduceAdd, List.set_cons_succ, List.set_cons_zero, v_slcS, Nat.reduceLT, true_and, wipeC, List.foldr_cons, List.foldr_nil, List.zip_nil_left, f_lenS (s := nm) (by unfold lim; omega)]
    refine (pull_ok g10 B1 (by omega) (by omega)).mono ?_
    rintro _ h2 ⟨p, rfl, p0, p1, B2, -⟩
    obtain ⟨p, rfl⟩ := Int.eq_ofNat_of_zero_le p0
    rw [wB_cons]
    simp only [wE_loc, wE_con, wE_glo, wE_bin, wE_not, wE_and, wE_or, wE_ite, wE_isN, wE_notN, wE_cmp, wE_cmp2, wE_lst, wE_tup, wE_idx, wE_slc, wE_isi, wE_bi, wE_bm, wE_call, wE_cattr, wE_lis, wE_lcomp, wO_none, wO_some, iw_int, wEs_nil, wT_nil, wT_cons, wB_nil, wS_set, wS_ret, wS_ite, wS_for, wG_loc, wG_idx, wG_tup, bw_bl, es_loc, es_con, es_glo, es_bin, es_neg, es_not, es_and, es_or, es_isN, es_notN, es_cmp, es_cmp2, es_ite, es_lst, es_tup, es_fst, es_idx, es_slc, es_rev, es_isi, es_bi, es_bm, es_call, es_cattr, es_lis, es_tpl, es_lcomp, b_add, b_sub, b_mul, b_fdiv, b_mod, b_pow, b_adds, c_lt, c_le, c_gt, c_ge, c_eq, c_ne, c_eqb, c_in, c_nin, f_abs, f_int, c_le', c_lt', s_sub, sub_lst, s_put, put_lst, List.getElem?_cons_zero, List.getElem?_cons_succ, Option.some.injEq, exists_eq_left', Option.bind_some, List.length_cons, List.length_nil, Nat.reduceAdd, List.set_cons_succ, List.set_cons_zero, v_slcS, Nat.reduceLT, true_and, wipeC, List.foldr_cons, List.foldr_nil, List.zip_nil_left, w_newL, cut_take]
    refine ⟨by unfold lim; omega, by decide, ?_⟩
    refine (pick_ref g10 g11 B2.app get_new (by have := B2.lt; omega) (by decide) (by decide)).mono ?_
    rintro v h3 ⟨vm, B3, -⟩
    have hv : ∃ m : List Nat, m.length ≤ 8 ∧ v = .str m := by
      simp only [List.mem_cons, List.not_mem_nil, or_false] at vm
      rcases vm with rfl | rfl | rfl | rfl | rfl | rfl | rfl | rfl | rfl
      all_goals exact ⟨_, by decide, rfl⟩
    obtain ⟨m, ml, rfl⟩ := hv
    have tl : (nm.take p).length ≤ 8 := by rw [List.length_take]; omega
    simp only [wE_loc, wE_con, wE_glo, wE_bin, wE_not, wE_and, wE_or, wE_ite, wE_isN, wE_notN, wE_cmp, wE_cmp2, wE_lst, wE_tup, wE_idx, wE_slc, wE_isi, wE_bi, wE_bm, wE_call, wE_cattr, wE_lis, wE_lcomp, wO_none, wO_some, iw_int, wEs_nil, wT_nil, wT_cons, wB_nil, wS_set, wS_ret, wS_ite, wS_for, wG_loc, wG_idx, wG_tup, bw_bl, es_loc, es_con, es_glo, es_bin, es_neg, es_not, es_and, es_or, es_isN, es_notN, es_cmp, es_cmp2, es_ite, es_lst, es_tup, es_fst, es_idx, es_slc, es_rev, es_isi, es_bi, es_bm, es_call, es_cattr, es_lis, es_tpl, es_lcomp, b_add, b_sub, b_mul, b_fdiv, b_mod, b_pow, b_adds, c_lt, c_le, c_gt, c_ge, c_eq, c_ne, c_eqb, c_in, c_nin, f_abs, f_int, c_le', c_lt', s_sub, sub_lst, s_put, put_lst, List.getElem?_cons_zero, List.getElem?_cons_succ, Option.some.injEq, exists_eq_left', Option.bind_some, List.length_cons, List.length_nil, Nat.reduceAdd, List.set_cons_succ, List.set_cons_zero, v_slcS, Nat.reduceLT, true_and, wipeC, List.foldr_cons, List.foldr_nil]
    refine ⟨by unfold lim; omega, ?_⟩
    refine (pull_ok g10 B3 (by omega) (by omega)).mono ?_
    rintro _ h4 ⟨q, rfl, q0, q1, B4, -⟩
    obtain ⟨q, rfl⟩ := Int.eq_ofNat_of_zero_le q0
    simp only [wE_loc, wE_con, wE_glo, wE_bin, wE_not, wE_and, wE_or, wE_ite, wE_isN, wE_notN, wE_cmp, wE_cmp2, wE_lst, wE_tup, wE_idx, wE_slc, wE_isi, wE_bi, wE_bm, wE_call, wE_cattr, wE_lis, wE_lcomp, wO_none, wO_some, iw_int, wEs_nil, wT_nil, wT_cons, wB_nil, wS_set, wS_ret, wS_ite, wS_for, wG_loc, wG_idx, wG_tup, bw_bl, es_loc, es_con, es_glo, es_bin, es_neg, es_not, es_and, es_or, es_isN, es_notN, es_cmp, es_cmp2, es_ite, es_lst, es_tup, es_fst, es_idx, es_slc, es_rev, es_isi, es_bi, es_bm, es_call, es_cattr, es_lis, es_tpl, es_lcomp, b_add, b_sub, b_mul, b_fdiv, b_mod, b_pow, b_adds, c_lt, c_le, c_gt, c_ge, c_eq, c_ne, c_eqb, c_in, c_nin, f_abs, f_int, c_le', c_lt', s_sub, sub_lst, s_put, put_lst, List.getElem?_cons_zero, List.getElem?_cons_succ, Option.some.injEq, exists_eq_left', Option.bind_some, List.length_cons, List.length_nil, Nat.reduceAdd, List.set_cons_succ, List.set_cons_zero, v_slcS, Nat.reduceLT, true_and, wipeC, List.foldr_cons, List.foldr_nil, show ((p : Int) + (q : Int)) = ((p + q : Nat) : Int) by omega, cut_drop]
    have dl : (nm.drop (p + q)).length ≤ 8 := by rw [List.length_drop]; omega
    refine ⟨by unfold lim; omega, by rw [List.length_append]; unfold lim; omega, ?_⟩
    have bl : (nm.take p ++ m ++ nm.drop (p + q)).length ≤ 24 := by rw [List.length_append, List.length_append]; omega
    generalize nm.take p ++ m ++ nm.drop (p + q) = bent at *
    rw [wB_cons, wS_set]
    refine (good_ok (t := 11) (i := 8) (X := .loc 2) (s := bent) rfl (by simp) (fun o h Q => by simp only [wE_loc, wE_con, wE_glo, wE_bin, wE_not, wE_and, wE_or, wE_ite, wE_isN, wE_notN, wE_cmp, wE_cmp2, wE_lst, wE_tup, wE_idx, wE_slc, wE_isi, wE_bi, wE_bm, wE_call, wE_cattr, wE_lis, wE_lcomp, wO_none, wO_some, iw_int, wEs_nil, wT_nil, wT_cons, wB_nil, wS_set, wS_ret, wS_ite, wS_for, wG_loc, wG_idx, wG_tup, bw_bl, es_loc, es_con, es_glo, es_bin, es_neg, es_not, es_and, es_or, es_isN, es_notN, es_cmp, es_cmp2, es_ite, es_lst, es_tup, es_fst, es_idx, es_slc, es_rev, es_isi, es_bi, es_bm, es_call, es_cattr, es_lis, es_tpl, es_lcomp, b_add, b_sub, b_mul, b_fdiv, b_mod, b_pow, b_adds, c_lt, c_le, c_gt, c_ge, c_eq, c_ne, c_eqb, c_in, c_nin, f_abs, f_int, c_le', c_lt', s_sub, sub_lst, s_put, put_lst, List.getElem?_cons_zero, List.getElem?_cons_succ, Option.some.injEq, exists_eq_left', Option.bind_some, List.length_cons, List.length_nil, Nat.reduceAdd, List.set_cons_succ, List.set_cons_zero, v_slcS, Nat.reduceLT, true_and, wipeC, List.foldr_cons, List.foldr_nil]) (by omega)).mono ?_
    rintro _ h5 ⟨rfl, m1, rfl⟩
    simp only [wE_loc, wE_con, wE_glo, wE_bin, wE_not, wE_and, wE_or, wE_ite, wE_isN, wE_notN, wE_cmp, wE_cmp2, wE_lst, wE_tup, wE_idx, wE_slc, wE_isi, wE_bi, wE_bm, wE_call, wE_cattr, wE_lis, wE_lcomp, wO_none, wO_some, iw_int, wEs_nil, wT_nil, wT_cons, wB_nil, wS_set, wS_ret, wS_ite, wS_for, wG_loc, wG_idx, wG_tup, bw_bl, es_loc, es_con, es_glo, es_bin, es_neg, es_not, es_and, es_or, es_isN, es_notN, es_cmp, es_cmp2, es_ite, es_lst, es_tup, es_fst, es_idx, es_slc, es_rev, es_isi, es_bi, es_bm, es_call, es_cattr, es_lis, es_tpl, es_lcomp, b_add, b_sub, b_mul, b_fdiv, b_mod, b_pow, b_adds, c_lt, c_le, c_gt, c_ge, c_eq, c_ne, c_eqb, c_in, c_nin, f_abs, f_int, c_le', c_lt', s_sub, sub_lst, s_put, put_lst, List.getElem?_cons_zero, List.getElem?_cons_succ, Option.some.injEq, exists_eq_left', Option.bind_some, List.length_cons, List.length_nil, Nat.reduceAdd, List.set_cons_succ, List.set_cons_zero, v_slcS, Nat.reduceLT, true_and, wipeC, List.foldr_cons, List.foldr_nil]
    rw [wB_cons]
    have nmB : nameB (.str nm) = true := by
      have := S.abc 1
      rw [hn] at this
      unfold nameB
      simp only [Bool.and_eq_true, decide_eq_true_eq, List.all_eq_true]
      exact ⟨⟨by omega, by omega⟩, this⟩
    simp only [wE_loc, wE_con, wE_glo, wE_bin, wE_not, wE_and, wE_or, wE_ite, wE_isN, wE_notN, wE_cmp, wE_cmp2, wE_lst, wE_tup, wE_idx, wE_slc, wE_isi, wE_bi, wE_bm, wE_call, wE_cattr, wE_lis, wE_lcomp, wO_none, wO_some, iw_int, wEs_nil, wT_nil, wT_cons, wB_nil, wS_set, wS_ret, wS_ite, wS_for, wG_loc, wG_idx, wG_tup, bw_bl, es_loc, es_con, es_glo, es_bin, es_neg, es_not, es_and, es_or, es_isN, es_notN, es_cmp, es_cmp2, es_ite, es_lst, es_tup, es_fst, es_idx, es_slc, es_rev, es_isi, es_bi, es_bm, es_call, es_cattr, es_lis, es_tpl, es_lcomp, b_add, b_sub, b_mul, b_fdiv, b_mod, b_pow, b_adds, c_lt, c_le, c_gt, c_ge, c_eq, c_ne, c_eqb, c_in, c_nin, f_abs, f_int, c_le', c_lt', s_sub, sub_lst, s_put, put_lst, List.getElem?_cons_zero, List.getElem?_cons_succ, Option.some.injEq, exists_eq_left', Option.bind_some, List.length_cons, List.length_nil, Nat.reduceAdd, List.set_cons_succ, List.set_cons_zero, v_slcS, Nat.reduceLT, true_and, wipeC, List.foldr_cons, List.foldr_nil, List.zip_nil_left]
    refine (name_ok (v := .str nm) rfl rfl (fun s e => by cases e; omega)).mono ?_
    rintro _ h6 ⟨rfl, m2, rfl⟩
    simp only [wE_loc, wE_con, wE_glo, wE_bin, wE_not, wE_and, wE_or, wE_ite, wE_isN, wE_notN, wE_cmp, wE_cmp2, wE_lst, wE_tup, wE_idx, wE_slc, wE_isi, wE_bi, wE_bm, wE_call, wE_cattr, wE_lis, wE_lcomp, wO_none, wO_some, iw_int, wEs_nil, wT_nil, wT_cons, wB_nil, wS_set, wS_ret, wS_ite, wS_for, wG_loc, wG_idx, wG_tup, bw_bl, es_loc, es_con, es_glo, es_bin, es_neg, es_not, es_and, es_or, es_isN, es_notN, es_cmp, es_cmp2, es_ite, es_lst, es_tup, es_fst, es_idx, es_slc, es_rev, es_isi, es_bi, es_bm, es_call, es_cattr, es_lis, es_tpl, es_lcomp, b_add, b_sub, b_mul, b_fdiv, b_mod, b_pow, b_adds, c_lt, c_le, c_gt, c_ge, c_eq, c_ne, c_eqb, c_in, c_nin, f_abs, f_int, c_le', c_lt', s_sub, sub_lst, s_put, put_lst, List.getElem?_cons_zero, List.getElem?_cons_succ, Option.some.injEq, exists_eq_left', Option.bind_some, List.length_cons, List.length_nil, Nat.reduceAdd, List.set_cons_succ, List.set_cons_zero, v_slcS, Nat.reduceLT, true_and, wipeC, List.foldr_cons, List.foldr_nil, List.zip_nil_left, List.zip_cons_cons]
    refine (name_ok (v := .str bent) rfl rfl (fun s e => by cases e; omega)).mono ?_
    rintro _ h7 ⟨rfl, m3, rfl⟩
    simp only [wE_loc, wE_con, wE_glo, wE_bin, wE_not, wE_and, wE_or, wE_ite, wE_isN, wE_notN, wE_cmp, wE_cmp2, wE_lst, wE_tup, wE_idx, wE_slc, wE_isi, wE_bi, wE_bm, wE_call, wE_cattr, wE_lis, wE_lcomp, wO_none, wO_some, iw_int, wEs_nil, wT_nil, wT_cons, wB_nil, wS_set, wS_ret, wS_ite, wS_for, wG_loc, wG_idx, wG_tup, bw_bl, es_loc, es_con, es_glo, es_bin, es_neg, es_not, es_and, es_or, es_isN, es_notN, es_cmp, es_cmp2, es_ite, es_lst, es_tup, es_fst, es_idx, es_slc, es_rev, es_isi, es_bi, es_bm, es_call, es_cattr, es_lis, es_tpl, es_lcomp, b_add, b_sub, b_mul, b_fdiv, b_mod, b_pow, b_adds, c_lt, c_le, c_gt, c_ge, c_eq, c_ne, c_eqb, c_in, c_nin, f_abs, f_int, c_le', c_lt', s_sub, sub_lst, s_put, put_lst, List.getElem?_cons_zero, List.getElem?_cons_succ, Option.some.injEq, exists_eq_left', Option.bind_some, List.length_cons, List.length_nil, Nat.reduceAdd, List.set_cons_succ, List.set_cons_zero, v_slcS, Nat.reduceLT, true_and, wipeC, List.foldr_cons, List.foldr_nil, List.zip_nil_left, w_newL]
    refine ⟨by decide, by decide, ?_⟩
    rw [nmB]
    refine (same_ok g12 1 8 _ _ _ (.lst [.bl true, .bl (nameB (.str bent))]) ?_ ?_ rfl).mono ?_
    · exact toT_app (toT_new.trans rfl)
    · exact toT_new.trans rfl
    · rintro _ h8 ⟨rfl, m4, rfl⟩
      simp only [wE_loc, wE_con, wE_glo, wE_bin, wE_not, wE_and, wE_or, wE_ite, wE_isN, wE_notN, wE_cmp, wE_cmp2, wE_lst, wE_tup, wE_idx, wE_slc, wE_isi, wE_bi, wE_bm, wE_call, wE_cattr, wE_lis, wE_lcomp, wO_none, wO_some, iw_int, wEs_nil, wT_nil, wT_cons, wB_nil, wS_set, wS_ret, wS_ite, wS_for, wG_loc, wG_idx, wG_tup, bw_bl, es_loc, es_con, es_glo, es_bin, es_neg, es_not, es_and, es_or, es_isN, es_notN, es_cmp, es_cmp2, es_ite, es_lst, es_tup, es_fst, es_idx, es_slc, es_rev, es_isi, es_bi, es_bm, es_call, es_cattr, es_lis, es_tpl, es_lcomp, b_add, b_sub, b_mul, b_fdiv, b_mod, b_pow, b_adds, c_lt, c_le, c_gt, c_ge, c_eq, c_ne, c_eqb, c_in, c_nin, f_abs, f_int, c_le', c_lt', s_sub, sub_lst, s_put, put_lst, List.getElem?_cons_zero, List.getElem?_cons_succ, Option.some.injEq, exists_eq_left', Option.bind_some, List.length_cons, List.length_nil, Nat.reduceAdd, List.set_cons_succ, List.set_cons_zero, v_slcS, Nat.reduceLT, true_and, wipeC, List.foldr_cons, List.foldr_nil, Bool.not_true, Bool.false_eq_true, if_false]
      refine ⟨?_, _, _, _, _, _, rfl⟩
      exact Bag.app (Bag.app (Bag.app (Bag.app (Bag.app (Bag.app B4)))))
  · rintro a h' ⟨B, o3, o6, o7, o8, o9, rfl⟩
    rw [wB_cons]
    simp only [wE_loc, wE_con, wE_glo, wE_bin, wE_not, wE_and, wE_or, wE_ite, wE_isN, wE_notN, wE_cmp, wE_cmp2, wE_lst, wE_tup, wE_idx, wE_slc, wE_isi, wE_bi, wE_bm, wE_call, wE_cattr, wE_lis, wE_lcomp, wO_none, wO_some, iw_int, wEs_nil, wT_nil, wT_cons, wB_nil, wS_set, wS_ret, wS_ite, wS_for, wG_loc, wG_idx, wG_tup, bw_bl, es_loc, es_con, es_glo, es_bin, es_neg, es_not, es_and, es_or, es_isN, es_notN, es_cmp, es_cmp2, es_ite, es_lst, es_tup, es_fst, es_idx, es_slc, es_rev, es_isi, es_bi, es_bm, es_call, es_cattr, es_lis, es_tpl, es_lcomp, b_add, b_sub, b_mul, b_fdiv, b_mod, b_pow, b_adds, c_lt, c_le, c_gt, c_ge, c_eq, c_ne, c_eqb, c_in, c_nin, f_abs, f_int, c_le', c_lt', s_sub, sub_lst, s_put, put_lst, List.getElem?_cons_zero, List.getElem?_cons_succ, Option.some.injEq, exists_eq_left', Option.bind_some, List.length_cons, List.length_nil, Nat.reduceAdd, List.set_cons_succ, List.set_cons_zero, v_slcS, Nat.reduceLT, true_and, wipeC, List.foldr_cons, List.foldr_nil, w_newL]
    refine ⟨by decide, by decide, by decide, ?_⟩
    rw [wB_cons]
    simp only [wE_loc, wE_con, wE_glo, wE_bin, wE_not, wE_and, wE_or, wE_ite, wE_isN, wE_notN, wE_cmp, wE_cmp2, wE_lst, wE_tup, wE_idx, wE_slc, wE_isi, wE_bi, wE_bm, wE_call, wE_cattr, wE_lis, wE_lcomp, wO_none, wO_some, iw_int, wEs_nil, wT_nil, wT_cons, wB_nil, wS_set, wS_ret, wS_ite, wS_for, wG_loc, wG_idx, wG_tup, bw_bl, es_loc, es_con, es_glo, es_bin, es_neg, es_not, es_and, es_or, es_isN, es_notN, es_cmp, es_cmp2, es_ite, es_lst, es_tup, es_fst, es_idx, es_slc, es_rev, es_isi, es_bi, es_bm, es_call, es_cattr, es_lis, es_tpl, es_lcomp, b_add, b_sub, b_mul, b_fdiv, b_mod, b_pow, b_adds, c_lt, c_le, c_gt, c_ge, c_eq, c_ne, c_eqb, c_in, c_nin, f_abs, f_int, c_le', c_lt', s_sub, sub_lst, s_put, put_lst, List.getElem?_cons_zero, List.getElem?_cons_succ, Option.some.injEq, exists_eq_left', Option.bind_some, List.length_cons, List.length_nil, Nat.reduceAdd, List.set_cons_succ, List.set_cons_zero, v_slcS, Nat.reduceLT, true_and, wipeC, List.foldr_cons, List.foldr_nil, List.zip_nil_left]
    refine mk_list (xs := [.str [], .non, .bl true, .int 3, .tup [.str [97]], .ref h'.length, .str [65], .str [97, 32, 98], .str [97, 98, 99, 100, 101, 102, 103, 104, 105]]) (by unfold lstOf; simp only [get_new]) fun x hx => ?_
    have odd : ∀ v ∈ ([.str [], .non, .bl true, .int 3, .tup [.str [97]], .ref h'.length, .str [65], .str [97, 32, 98], .str [97, 98, 99, 100, 101, 102, 103, 104, 105]] : List AV), (∀ o, isiOk G (h' ++ [.lst [.str [97]]] ++ [o]) v = true) ∧ nameB v = false ∧ ∀ s, v = .str s → s.length ≤ 1000 := by
      intro v m
      simp only [List.mem_cons, List.not_mem_nil, or_false] at m
      rcases m with rfl | rfl | rfl | rfl | rfl | rfl | rfl | rfl | rfl
      case inr.inr.inr.inr.inr.inl =>
        refine ⟨fun o => isiOk_app ?_, rfl, fun s e => by cases e⟩
        unfold isiOk
        simp only [get_new]
      all_goals refine ⟨fun o => rfl, rfl, fun s e => by cases e; try decide⟩
    refine w_compT (I := fun i acc h2 => acc = List.replicate i (.bl false) ∧ ∃ l, h2 = h' ++ [.lst [.str [97]]] ++ [.lst [.str [], .non, .bl true, .int 3, .tup [.str [97]], .ref h'.length, .str [65], .str [97, 32, 98], .str [97, 98, 99, 100, 101, 102, 103, 104, 105]]] ++ l) ⟨rfl, [], by simp⟩ (one_lock hx) (It0.has_len hx) ?_ ?_ ?_
    · rintro i acc h2 ⟨_, m, rfl⟩
      exact It0.has_at (It0.has_app hx) i
    · rintro i u acc h2 e ⟨rfl, m, rfl⟩
      have il := (List.getElem?_eq_some_iff.mp e).1
      refine ⟨_, rfl, ?_⟩
      obtain ⟨q1, q2, q3⟩ := odd u (List.mem_of_getElem? e)
      simp only [wE_loc, wE_con, wE_glo, wE_bin, wE_not, wE_and, wE_or, wE_ite, wE_isN, wE_notN, wE_cmp, wE_cmp2, wE_lst, wE_tup, wE_idx, wE_slc, wE_isi, wE_bi, wE_bm, wE_call, wE_cattr, wE_lis, wE_lcomp, wO_none, wO_some, iw_int, wEs_nil, wT_nil, wT_cons, wB_nil, wS_set, wS_ret, wS_ite, wS_for, wG_loc, wG_idx, wG_tup, bw_bl, es_loc, es_con, es_glo, es_bin, es_neg, es_not, es_and, es_or, es_isN, es_notN, es_cmp, es_cmp2, es_ite, es_lst, es_tup, es_fst, es_idx, es_slc, es_rev, es_isi, es_bi, es_bm, es_call, es_cattr, es_lis, es_tpl, es_lcomp, b_add, b_sub, b_mul, b_fdiv, b_mod, b_pow, b_adds, c_lt, c_le, c_gt, c_ge, c_eq, c_ne, c_eqb, c_in, c_nin, f_abs, f_int, c_le', c_lt', s_sub, sub_lst, s_put, put_lst, List.getElem?_cons_zero, List.getElem?_cons_succ, Option.some.injEq, exists_eq_left', Option.bind_some, List.length_cons, List.length_nil, Nat.reduceAdd, List.set_cons_succ, List.set_cons_zero, v_slcS, Nat.reduceLT, true_and, wipeC, List.foldr_cons, List.foldr_nil, if_true, List.zip_nil_left]
      refine (name_ok (v := u) rfl (isiOk_app (q1 _)) q3).mono ?_
      rintro _ h3 ⟨rfl, m2, rfl⟩
      refine ⟨by simp [lim] at il ⊢; omega, ?_, m ++ m2, by rw [List.append_assoc]⟩
      rw [q2, List.replicate_succ']
    · rintro acc h2 ⟨rfl, m, rfl⟩
      refine ⟨by simp [lim], ?_⟩
      simp only [w_newL]
      refine ⟨by simp [lim], by decide, ?_⟩
      rw [b_mulL get_new (by decide), w_newL]
      refine ⟨by decide, ?_⟩
      refine (same_ok g12 1 8 _ _ _ (.lst (List.replicate 9 (.bl false))) ?_ ?_ rfl).mono ?_
      · exact toT_app (toT_app (toT_new.trans rfl))
      · exact toT_new.trans rfl
      · rintro _ h8 ⟨rfl, m4, rfl⟩
        simp only [wE_loc, wE_con, wE_glo, wE_bin, wE_not, wE_and, wE_or, wE_ite, wE_isN, wE_notN, wE_cmp, wE_cmp2, wE_lst, wE_tup, wE_idx, wE_slc, wE_isi, wE_bi, wE_bm, wE_call, wE_cattr, wE_lis, wE_lcomp, wO_none, wO_some, iw_int, wEs_nil, wT_nil, wT_cons, wB_nil, wS_set, wS_ret, wS_ite, wS_for, wG_loc, wG_idx, wG_tup, bw_bl, es_loc, es_con, es_glo, es_bin, es_neg, es_not, es_and, es_or, es_isN, es_notN, es_cmp, es_cmp2, es_ite, es_lst, es_tup, es_fst, es_idx, es_slc, es_rev, es_isi, es_bi, es_bm, es_call, es_cattr, es_lis, es_tpl, es_lcomp, b_add, b_sub, b_mul, b_fdiv, b_mod, b_pow, b_adds, c_lt, c_le, c_gt, c_ge, c_eq, c_ne, c_eqb, c_in, c_nin, f_abs, f_int, c_le', c_lt', s_sub, sub_lst, s_put, put_lst, List.getElem?_cons_zero, List.getElem?_cons_succ, Option.some.injEq, exists_eq_left', Option.bind_some, List.length_cons, List.length_nil, Nat.reduceAdd, List.set_cons_succ, List.set_cons_zero, v_slcS, Nat.reduceLT, true_and, wipeC, List.foldr_cons, List.foldr_nil, Bool.not_true, Bool.false_eq_true, if_false]
        rw [wB_cons]
        simp only [wE_loc, wE_con, wE_glo, wE_bin, wE_not, wE_and, wE_or, wE_ite, wE_isN, wE_notN, wE_cmp, wE_cmp2, wE_lst, wE_tup, wE_idx, wE_slc, wE_isi, wE_bi, wE_bm, wE_call, wE_cattr, wE_lis, wE_lcomp, wO_none, wO_some, iw_int, wEs_nil, wT_nil, wT_cons, wB_nil, wS_set, wS_ret, wS_ite, wS_for, wG_loc, wG_idx, wG_tup, bw_bl, es_loc, es_con, es_glo, es_bin, es_neg, es_not, es_and, es_or, es_isN, es_notN, es_cmp, es_cmp2, es_ite, es_lst, es_tup, es_fst, es_idx, es_slc, es_rev, es_isi, es_bi, es_bm, es_call, es_cattr, es_lis, es_tpl, es_lcomp, b_add, b_sub, b_mul, b_fdiv, b_mod, b_pow, b_adds, c_lt, c_le, c_gt, c_ge, c_eq, c_ne, c_eqb, c_in, c_nin, f_abs, f_int, c_le', c_lt', s_sub, sub_lst, s_put, put_lst, List.getElem?_cons_zero, List.getElem?_cons_succ, Option.some.injEq, exists_eq_left', Option.bind_some, List.length_cons, List.length_nil, Nat.reduceAdd, List.set_cons_succ, List.set_cons_zero, v_slcS, Nat.reduceLT, true_and, wipeC, List.foldr_cons, List.foldr_nil, w_newL, show List.lookup 22 G.cons = some (.int 9) from rfl, show List.lookup 23 G.cons = some (.kt [(.str [117, 110, 100, 101, 114]), (.str [111, 118, 101, 114])]) from rfl,
          show ((G.cls.lookup 24).bind fun k => k.cons.lookup 25) = some (.int 9) from rfl, show ((G.cls.lookup 26).bind fun k => k.cons.lookup 25) = some (.int 6) from rfl, show ((G.cls.lookup 26).bind fun k => k.cons.lookup 27) = some (.int 24) from rfl, show ((G.cls.lookup 26).bind fun k => k.cons.lookup 28) = some (.int 4) from rfl,
          show ((G.cls.lookup 29).bind fun k => k.cons.lookup 25) = some (.int 8) from rfl, show ((G.cls.lookup 30).bind fun k => k.cons.lookup 25) = some (.int 6) from rfl, show ((G.cls.lookup 31).bind fun k => k.cons.lookup 25) = some (.int 12) from rfl]
        refine ⟨by decide, ?_⟩
        rw [wB_cons]
        simp only [wE_loc, wE_con, wE_glo, wE_bin, wE_not, wE_and, wE_or, wE_ite, wE_isN, wE_notN, wE_cmp, wE_cmp2, wE_lst, wE_tup, wE_idx, wE_slc, wE_isi, wE_bi, wE_bm, wE_call, wE_cattr, wE_lis, wE_lcomp, wO_none, wO_some, iw_int, wEs_nil, wT_nil, wT_cons, wB_nil, wS_set, wS_ret, wS_ite, wS_for, wG_loc, wG_idx, wG_tup, bw_bl, es_loc, es_con, es_glo, es_bin, es_neg, es_not, es_and, es_or, es_isN, es_notN, es_cmp, es_cmp2, es_ite, es_lst, es_tup, es_fst, es_idx, es_slc, es_rev, es_isi, es_bi, es_bm, es_call, es_cattr, es_lis, es_tpl, es_lcomp, b_add, b_sub, b_mul, b_fdiv, b_mod, b_pow, b_adds, c_lt, c_le, c_gt, c_ge, c_eq, c_ne, c_eqb, c_in, c_nin, f_abs, f_int, c_le', c_lt', s_sub, sub_lst, s_put, put_lst, List.getElem?_cons_zero, List.getElem?_cons_succ, Option.some.injEq, exists_eq_left', Option.bind_some, List.length_cons, List.length_nil, Nat.reduceAdd, List.set_cons_succ, List.set_cons_zero, v_slcS, Nat.reduceLT, true_and, wipeC, List.foldr_cons, List.foldr_nil, w_newL, List.zip_nil_left]
        refine ⟨by decide, by decide, ?_⟩
        refine (same_ok g12 2 7 _ _ _ (.lst [.int 9, .tup [.str [117, 110, 100, 101, 114], .str [111, 118, 101, 114]], .int 9, .int 6, .int 24, .int 4, .int 8, .int 6, .int 12]) ?_ ?_ rfl).mono ?_
        · exact toT_app (toT_new.trans rfl)
        · exact toT_new.trans rfl
        · rintro _ h9 ⟨rfl, _⟩
          rfl
theorem law_plain (ns : List Int) (l : ns.length ≤ 63) : ∃ h1, evB G (callAt G 10) c_law (some (.fl (ns.map AV.int)) :: List.replicate 11 none) [] = .rt (.bl true) h1 := sw_true (law_true l)
end K02

set_option Elab.async false
set_option linter.all false
set_option maxRecDepth 100000
set_option maxHeartbeats 0
open Br PySem PySem.W PySem.Calls PyProof.Rows
theorem PySem.Challenge.cw_brimrest_k02_names_and_constants_holds : PySem.Challenge.rw_brimrest_k02_names_and_constants.Holds := by
  w_on; o_law
  refine HandSHeadRun.head_any (r := OpenLaw.row PySem.Challenge.rw_brimrest_k02_names_and_constants) (q := view (OpenLaw.row PySem.Challenge.rw_brimrest_k02_names_and_constants).prog [79]) (H := K02.hk) (ob := K02.ob) (M := 12000) (loose := K02.names) (d := HandSHeadRun.topDef (OpenLaw.row PySem.Challenge.rw_brimrest_k02_names_and_constants).prog 79) (kwd := [])
    K02.ob_eq (by kernel_rfl) (fun s => by kernel_rfl) K02.run (by kernel_rfl) (by kernel_rfl) (by kernel_rfl) (by rfl) (by first | assumption | decide +kernel) (by decide +kernel) ⟨rfl, rfl, rfl, rfl, rfl, by decide +kernel⟩ ?hw ?hc
  case hw => w_witness2
  case hc =>
    refine walk_ofW (l := PySem.Challenge.rw_brimrest_k02_names_and_constants) (k := 11) (x := "_law_script") rfl (by kernel_rfl) ⟨rfl, by decide, by decide⟩ fun w mg fa h Y NS hmg => ?_
    obtain ⟨K, inK, c, ex⟩ := Y
    have hmg' : mg ("law" : PySem.Str) = some (.ref fa) := hmg
    exact lawW_of (G := K02.G) (T := K02.at_) (ps := K02.defs) (pl := K02.dLaw) (fl := K02.fLaw) K02.ck_nd K02.ck_nm K02.ck_defs (by decide +kernel) inK NS c ex
      (List.mem_cons_self ..) K02.ck_law rfl rfl rfl rfl hmg' (fun _ _ _ _ _ _ us hl => match us, hl with | [_], _ => rfl) 10 K02.law_plain
