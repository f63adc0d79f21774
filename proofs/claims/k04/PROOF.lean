import PyProof.Rows.All
import Wide.All
import OpenK.AllK
import Wide.FinOn
import KE.DataMinMax
import KE.KStateDown
import HandS.ForExc
import HandS.Comp
import HandS.Iter
import HandS.Defaults
import HandS.Zip
import HandS.Wide
import HandS.WideBits
import HandS.TupAny
import HandS.TupMul
import HandS.IsInst
import HandS.Lambda
import HandS.EndTab
import HandS.SortKw
import HandS.HeadHook4
import HandS.Head0
import HandS.Head1
import HandS.Head2
import HandS.HeadEnd
import HandS.Rev
import HandS.Conv
import HandS.NoneIn
import HandS.Style
import KE.GoesMore
import KE.GoesEnum
import PyProof.EnumMake
import KE.DataEq
import KE.DataAny
import KE.DataFind
import KE.SortData
import KE.SortCalls
import HandS.TupSets
import HandS.ExcValue
import HandS.Strs
import HandS.Deep
import HandS.Gcd
import HandS.DictTup
import HandS.DictComp
import HandS.EndBits
import HandS.Codes
import PySem.Challenge.RW_telltracks_k04_rings_turned_and_gone_twi
set_option Elab.async false
set_option linter.all false
set_option maxRecDepth 100000
-- RR0
set_option maxHeartbeats 200000
/-! An interpreter over plain data, for the programs' own fragment of Python. -/
namespace RR
open PySem
abbrev D := PyData
inductive Val where
  | d (x : D)
  | ref (n : Nat)
  | fn (g : Nat)
  | clo (l : Nat) (caps : List D)
  | fd (tk : Bool) (kvs : List (D × D))
inductive Cell where
  | lst (xs : List D)
  | vls (xs : List Val)
  | dct (tk : Bool) (kvs : List (D × D))
  | dead
abbrev IH := List Cell
structure Exc where
  cls : Nat
  arg : Option D
inductive Res (α : Type) where
  | ok (a : α) (h : IH)
  | exc (x : Exc) (h : IH)
  | stuck
def Res.bind {α β : Type} (r : Res α) (k : α → IH → Res β) : Res β := match r with
  | .ok a h => k a h
  | .exc x h => .exc x h
  | .stuck => .stuck
@[simp] theorem bind_ok {α β : Type} (a : α) (h : IH) (k : α → IH → Res β) : (Res.ok a h).bind k = k a h := Eq.trans rfl rfl
@[simp] theorem bind_exc {α β : Type} (x : Exc) (h : IH) (k : α → IH → Res β) : (Res.exc (α := α) x h).bind k = .exc x h := Eq.trans rfl rfl
@[simp] theorem bind_stuck {α β : Type} (k : α → IH → Res β) : (Res.stuck (α := α)).bind k = .stuck := Eq.trans rfl rfl
/-- an exception inside becomes stuck -/
def Res.calm {α : Type} : Res α → Res α
  | .ok a h => .ok a h
  | _ => .stuck
@[simp] theorem calm_ok {α : Type} (a : α) (h : IH) : (Res.ok a h).calm = .ok a h := Eq.trans rfl rfl

/-! ### the text -/
inductive Bi where
  | len | tuple | list | all | any | min | max | sum | abs | repr | divmod | sorted | int | gcd | minD
  deriving DecidableEq
inductive Me where
  | append | pop | popAt | extend | index | count
  deriving DecidableEq
inductive Ty where
  | int | bool | str | tuple | list
  deriving DecidableEq
inductive Ik where
  | val | range1 | range2 | enum | zip | rev | dkeys
  deriving DecidableEq
inductive Tg where
  | one (i : Nat)
  | tup (is : List Nat)
inductive IE where
  | nop
  | c (x : D) | v (i : Nat) | fn (g : Nat)
  | bin (op : Operator) (a b : IE) | neg (a : IE) | nt (a : IE)
  | cmp (op : CmpOp) (a b : IE) | chain (op op2 : CmpOp) (a b c : IE)
  | isN (yes : Bool) (a : IE)
  | and_ (a b : IE) | or_ (a b : IE)
  | ifx (t a b : IE)
  | tup (es : List IE) | lst (es : List IE)
  | ix (a i : IE) | sl (a lo hi : IE) | rev (a : IE)
  | call (g : Nat) (es : List IE) | callK (g : Nat) (perm : List Nat) (es : List IE)
  | callD (g : Nat) (es : List IE) (ks : List Int)
  | callL (g : Nat) (es : List IE) (l : Nat) (caps : List Nat)
  | callV (i : Nat) (es : List IE)
  | bi (b : Bi) (es : List IE)
  | isI (t : Ty) (e : IE)
  | me (m : Me) (o : IE) (es : List IE)
  | lc (k : Ik) (its : List IE) (tg : Tg) (cond elt : IE)
  | lc2 (k : Ik) (its : List IE) (tg : Tg) (k2 : Ik) (its2 : List IE) (tg2 : Tg) (cond elt : IE)
  | tupR (a : IE)
  | mut (e : IE)
  | md (m : Me) (o : IE) (es : List IE)
  | lset (e : IE) | sset (e : IE)
  | din (neg : Bool) (k d : IE)
  | dget (d k : IE) | dget1 (d k : IE) | dget2 (d k x : IE)
  | dnew (tk : Bool)
  | dlen (d : IE) | dkeys (d : IE) | dsort (d : IE)
  | dcomp (tk : Bool) (k : Ik) (its : List IE) (tg : Tg) (cond key val : IE)
  | frz (i : Nat)
  | lstV (es : List IE)
  | apV (o e : IE)
  | ixV (o i : IE)
def IE.isNop : IE → Bool
  | .nop => true
  | _ => false
inductive TE1 where
  | one (i : Nat)
  | sub (o i : IE)
inductive IS where
  | pass
  | set (i : Nat) (e : IE)
  | setS (o i e : IE)
  | setT (ts : List TE1) (e : IE)
  | par (is : List Nat) (es : List IE)
  | ex (e : IE)
  | ret (e : IE)
  | ite (t : IE) (a b : List IS)
  | for_ (k : Ik) (its : List IE) (tg : Tg) (body : List IS)
  | while_ (t : IE) (body : List IS)
  | raise (cls : Nat) (es : List IE)
  | brk | cont
  | dput (o k e : IE)

/-! ### values -/
def lim : Nat := 16777216
def truth : Val → IH → Option Bool
  | .d .none, _ => some false
  | .d (.bool b), _ => some b
  | .d (.int i), _ => some (i != 0)
  | .d (.str x), _ => if x.length ≤ lim then some (x.length != 0) else none
  | .d (.list xs), _ => some (!xs.isEmpty)
  | .d (.tuple xs), _ => some (!xs.isEmpty)
  | .ref n, h => match h[n]? with
    | some (.lst xs) => some (!xs.isEmpty)
    | _ => none
  | _, _ => none
/-- the data that a value stands for now -/
def dat : Val → IH → Option D
  | .d x, _ => some x
  | .ref n, h => match h[n]? with
    | some (.lst xs) => some (.list xs)
    | _ => none
  | _, _ => none
def dats : List Val → IH → Option (List D)
  | [], _ => some []
  | v :: vs, h => match v with
    | .d x => match dats vs h with
      | some xs => some (x :: xs)
      | none => none
    | _ => none
def ofO {α : Type} (o : Option α) (h : IH) : Res α := match o with
  | some a => .ok a h
  | none => .stuck
def okI (b : Bool) (x : D) : Option D := if b then some x else none
def big (i : Int) : Nat := i.natAbs.log2
def mulOk (i j : Int) : Bool := (decide (-(2 ^ 64) < i) && decide (i < 2 ^ 64)) || (decide (-(2 ^ 64) < j) && decide (j < 2 ^ 64)) || decide (big i + big j < 1000000)
def binD (op : Operator) (a b : D) : Option D := match op, a, b with
  | .Add, .int i, .int j => some (.int (i + j))
  | .Add, .tuple xs, .tuple ys => if xs.length + ys.length ≤ lim then some (.tuple (xs ++ ys)) else none
  | .Add, .list xs, .list ys => if xs.length + ys.length ≤ lim then some (.list (xs ++ ys)) else none
  | .Sub, .int i, .int j => some (.int (i - j))
  | .Mult, .int i, .int j => if mulOk i j then some (.int (i * j)) else none
  | .Mult, .tuple xs, .int k => if !xs.isEmpty && decide (-1000 ≤ k) && decide (k ≤ 1000) && decide (xs.length ≤ 1000) then some (.tuple (List.replicate k.toNat xs).flatten) else none
  | .Mult, .list xs, .int k => if decide (0 ≤ k) && decide (k ≤ 1) && decide (xs.length ≤ lim) then some (.list (List.replicate k.toNat xs).flatten) else none
  | .Mod, .int i, .int j => if 0 < j then some (.int (i % j)) else none
  | .FloorDiv, .int i, .int j => if 0 < j && decide (big j < 9000) then some (.int (i / j)) else none
  | .LShift, .int i, .int j => if decide (0 ≤ j) && decide (j ≤ 1000000) && decide (i.natAbs < 2 ^ 64) then some (.int (i * 2 ^ j.toNat)) else none
  | .Pow, .int i, .int j => if decide (0 ≤ j) && decide (j ≤ 1000000) && decide (i.natAbs < 2 ^ 64) then some (.int (i ^ j.toNat)) else none
  | _, _, _ => none
def intsOf : List D → Option (List Int)
  | [] => some []
  | .int i :: r => match intsOf r with
    | some xs => some (i :: xs)
    | none => none
  | _ => none
def dep (a : D) : Bool := decide (a.depth ≤ 50)
def cmpD (op : CmpOp) (a b : D) : Option Bool := match op with
  | .Eq => if dep a || dep b then some (PyData.eqv a b) else none
  | .NotEq => if dep a || dep b then some (!PyData.eqv a b) else none
  | .In => match b with
    | .list xs => if dep a || dep b then some (xs.any fun y => PyData.eqv y a) else none
    | .tuple xs => if dep a || dep b then some (xs.any fun y => PyData.eqv y a) else none
    | _ => none
  | .NotIn => match b with
    | .list xs => if dep a || dep b then some (!xs.any fun y => PyData.eqv y a) else none
    | .tuple xs => if dep a || dep b then some (!xs.any fun y => PyData.eqv y a) else none
    | _ => none
  | .Lt => match a, b with
    | .int i, .int j => some (decide (i < j))
    | .tuple xs, .tuple ys => match intsOf xs, intsOf ys with
      | some ns, some ms => some (decide (ns < ms))
      | _, _ => none
    | _, _ => none
  | .LtE => match a, b with
    | .int i, .int j => some (decide (i ≤ j))
    | .tuple xs, .tuple ys => match intsOf xs, intsOf ys with
      | some ns, some ms => some (!decide (ms < ns))
      | _, _ => none
    | _, _ => none
  | .Gt => match a, b with
    | .int i, .int j => some (decide (j < i))
    | .tuple xs, .tuple ys => match intsOf xs, intsOf ys with
      | some ns, some ms => some (decide (ms < ns))
      | _, _ => none
    | _, _ => none
  | .GtE => match a, b with
    | .int i, .int j => some (decide (j ≤ i))
    | .tuple xs, .tuple ys => match intsOf xs, intsOf ys with
      | some ns, some ms => some (!decide (ns < ms))
      | _, _ => none
    | _, _ => none
  | _ => none
def isNone : Val → Bool
  | .d .none => true
  | _ => false
def hasTy (t : Ty) : D → Bool
  | .none => false
  | .bool _ => t == .bool || t == .int
  | .int _ => t == .int
  | .str _ => t == .str
  | .list _ => t == .list
  | .tuple _ => t == .tuple
  | .dict _ => false
def isDict : D → Bool
  | .dict _ => true
  | _ => false
/-- the place of an index -/
def plc (n : Nat) (i : Int) : Option Nat := if 0 ≤ i then (if i < n then some i.toNat else none) else if -(n : Int) ≤ i then some (i + n).toNat else none
def atD (xs : List D) (i : Int) : Option D := (plc xs.length i).bind fun j => xs[j]?
def ixD (a b : D) : Option D := match a, b with
  | .tuple xs, .int i => atD xs i
  | .list xs, .int i => atD xs i
  | _, _ => none
/-- a slice's bounds -/
def bnd (n d : Nat) : Option Int → Nat
  | none => d
  | some v => if v < 0 then (v + (n : Int)).toNat else min v.toNat n
def cutD (xs : List D) (lo hi : Option Int) : List D := (xs.drop (bnd xs.length 0 lo)).take (bnd xs.length xs.length hi - bnd xs.length 0 lo)
def partOf : Val → Option (Option Int)
  | .d (.int i) => some (some i)
  | _ => none
def slD (a : D) (lo hi : Option Int) : Option D := match a with
  | .tuple xs => some (.tuple (cutD xs lo hi))
  | .list xs => some (.list (cutD xs lo hi))
  | _ => none
def boolsOf : List D → Option (List Bool)
  | [] => some []
  | .bool i :: r => match boolsOf r with
    | some xs => some (i :: xs)
    | none => none
  | _ => none
def least : Int → List Int → Int
  | m, [] => m
  | m, x :: r => least (if x < m then x else m) r
def most : Int → List Int → Int
  | m, [] => m
  | m, x :: r => most (if m < x then x else m) r
def seqOf : D → Option (List D)
  | .list xs => some xs
  | .tuple xs => some xs
  | _ => none
/-- tuples of ints -/
def tupsB (xs : List D) : Bool := xs.all fun x => match x with
  | .tuple ys => (intsOf ys).isSome
  | _ => false
/-- the first place, from lo on, of what is equal -/
def findD (y : D) : List D → Nat → Nat → Option Nat
  | [], _, _ => none
  | x :: r, lo, i => if lo ≤ i ∧ PyData.eqv x y = true then some i else findD y r lo (i + 1)
def meD (m : Me) (o : D) (as : List D) : Option D := match m, o, as with
  | .index, .tuple xs, [y] => if dep o || dep y then (findD y xs 0 0).map fun (j : Nat) => .int (j : Int) else none
  | .index, .list xs, [y] => if (dep o || dep y) && decide (xs.length ≤ lim) then (findD y xs 0 0).map fun (j : Nat) => .int (j : Int) else none
  | .index, .tuple xs, [y, .int lo] => if (dep o || dep y) && decide (0 ≤ lo) then (findD y xs lo.toNat 0).map fun (j : Nat) => .int (j : Int) else none
  | .count, .tuple xs, [y] => if dep o || dep y then some (.int (xs.countP fun x => PyData.eqv x y)) else none
  | .count, .list xs, [y] => if dep o || dep y then some (.int (xs.countP fun x => PyData.eqv x y)) else none
  | _, _, _ => none
/-- without what was there already -/
def uniqD : List (List Int) → List (List Int)
  | [] => []
  | x :: r => if x ∈ r then uniqD r else x :: uniqD r
def rowsOf : List D → Option (List (List Int))
  | [] => some []
  | .tuple xs :: r => match intsOf xs, rowsOf r with
    | some ns, some rs => some (ns :: rs)
    | _, _ => none
  | _ => none
def rowD (ns : List Int) : D := .tuple (ns.map .int)
/-- a short row of small numbers as one number -/
def codeR : List Int → Int
  | [] => 0
  | d :: r => d * 1000 ^ r.length + codeR r
def sortR (rs : List (List Int)) : List (List Int) := rs.mergeSort fun a b => decide (codeR a ≤ codeR b)
/-- small numbers -/
def smlR (rs : List (List Int)) : Bool := rs.all fun r => r.all fun i => decide (0 ≤ i) && decide (i < 1000)
def lsetD (x : D) : Option D := match x with
  | .tuple xs => match rowsOf xs with
    | some rs => if rs.length < 60 then some (.int (uniqD rs).length) else none
    | none => none
  | _ => none
/-- rows of one length -/
def evenR : List (List Int) → Bool
  | [] => true
  | r :: t => decide (1 ≤ r.length) && t.all fun q => decide (q.length = r.length)
def sortable (rs : List (List Int)) : Bool := decide (rs.length < 60) && smlR rs && evenR rs
def ssetD (x : D) : Option D := match x with
  | .tuple xs => match rowsOf xs with
    | some rs => if sortable rs then some (.list ((sortR (uniqD rs)).map rowD)) else none
    | none => none
  | _ => none
def sortD (x : D) : Option D := match seqOf x with
  | some xs => match rowsOf xs with
    | some rs => if sortable rs then some (.list ((sortR rs).map rowD)) else none
    | none => none
  | none => none
def biD (b : Bi) (as : List D) : Option D := match b, as with
  | .len, [.tuple xs] => some (.int xs.length)
  | .len, [.list xs] => some (.int xs.length)
  | .tuple, [.tuple xs] => some (.tuple xs)
  | .tuple, [.list xs] => some (.tuple xs)
  | .list, [.tuple xs] => some (.list xs)
  | .list, [.list xs] => some (.list xs)
  | .all, [.list xs] => match boolsOf xs with
    | some bs => some (.bool (bs.all id))
    | none => none
  | .any, [.list xs] => match boolsOf xs with
    | some bs => some (.bool (bs.any id))
    | none => none
  | .sum, [.list xs] => match intsOf xs with
    | some ns => some (.int ns.sum)
    | none => none
  | .min, [.list xs] => match intsOf xs with
    | some (n :: ns) => some (.int (least n ns))
    | _ => match xs with
      | x :: r => if tupsB (x :: r) then some (PySem.W.minD x r) else none
      | [] => none
  | .max, [.list xs] => match intsOf xs with
    | some (n :: ns) => some (.int (most n ns))
    | _ => none
  | .minD, [.list xs] => match intsOf xs with
    | some (n :: ns) => some (.int (least n ns))
    | some [] => some .none
    | _ => none
  | .min, [.int i, .int j] => some (.int (if j < i then j else i))
  | .max, [.int i, .int j] => some (.int (if j > i then j else i))
  | .abs, [.int i] => some (.int (if i < 0 then -i else i))
  | .divmod, [.int i, .int j] => if decide (0 < j) && decide (j < 1073741824) then some (.tuple [.int (i / j), .int (i % j)]) else none
  | .repr, [x] => if x.showable && !x.hasDict && decide (x.depth < 50) && decide (x.shown.length ≤ lim) then some (.str x.shown) else none
  | .int, [.int i] => some (.int i)
  | .int, [.bool b] => some (.int (if b then 1 else 0))
  | .gcd, [.int i, .int j] => some (.int (Nat.gcd i.natAbs j.natAbs : Nat))
  | .sorted, [x] => sortD x
  | _, _ => none
/-! ### dicts -/
def isKey : D → Bool
  | .int _ => true
  | .str _ => true
  | _ => false
def isKeyT : D → Bool
  | .tuple xs => xs.all isKey
  | _ => false
def okKey (tk : Bool) (k : D) : Bool := if tk then isKeyT k else isKey k
def sameA : D → D → Bool
  | .int i, .int j => decide (i = j)
  | .str i, .str j => decide (i = j)
  | _, _ => false
def sameAs : List D → List D → Bool
  | [], [] => true
  | x :: xs, y :: ys => sameA x y && sameAs xs ys
  | _, _ => false
def sameK : D → D → Bool
  | .tuple xs, .tuple ys => sameAs xs ys
  | a, b => sameA a b
def findK (k : D) : List (D × D) → Option D
  | [] => none
  | (a, v) :: r => if sameK a k then some v else findK k r
def hasK (k : D) (kvs : List (D × D)) : Bool := (findK k kvs).isSome
def putK (k v : D) : List (D × D) → List (D × D)
  | [] => [(k, v)]
  | (a, w) :: r => if sameK a k then (a, v) :: r else (a, w) :: putK k v r
def dctOf : Val → IH → Option (Bool × List (D × D))
  | .fd tk kvs, _ => some (tk, kvs)
  | .ref n, h => match h[n]? with
    | some (.dct tk kvs) => some (tk, kvs)
    | _ => none
  | _, _ => none
def rangeD (lo hi : Int) : List D := (List.range (hi - lo).toNat).map fun (i : Nat) => .int (lo + (i : Int))
def enumD (xs : List D) : List D := xs.mapIdx fun (i : Nat) x => .tuple [.int (i : Int), x]
def zipD (xs ys : List D) : List D := List.zipWith (fun x y => .tuple [x, y]) xs ys
def sml (i : Int) : Bool := decide (-(2 ^ 62) ≤ i) && decide (i < 2 ^ 62)
/-- the items of what a for walks -/
def itemsD (k : Ik) (as : List D) : Option (List D) := match k, as with
  | .val, [.list xs] => some xs
  | .val, [.tuple xs] => some xs
  | .range1, [.int j] => if sml j then some (rangeD 0 j) else none
  | .range2, [.int i, .int j] => if sml i && sml j then some (rangeD i j) else none
  | .enum, [.tuple xs] => some (enumD xs)
  | .enum, [.list xs] => some (enumD xs)
  | .zip, [.tuple xs, .tuple ys] => some (zipD xs ys)
  | .zip, [.list xs, .list ys] => some (zipD xs ys)
  | .rev, [.tuple xs] => some xs.reverse
  | .rev, [.list xs] => some xs.reverse
  | _, _ => none

/-! ### the walk -/
abbrev Env := List (Option Val)
def getS (env : Env) (i : Nat) : Option Val := match env[i]? with
  | some (some v) => some v
  | _ => none
def setAll (env : Env) : List Nat → List D → Option Env
  | [], [] => some env
  | i :: is, x :: xs => setAll (env.set i (some (.d x))) is xs
  | _, _ => none
def bindT (tg : Tg) (x : D) (env : Env) : Option Env := match tg with
  | .one i => some (env.set i (some (.d x)))
  | .tup is => match x with
    | .tuple xs => setAll env is xs
    | _ => none
def capsOf (env : Env) : List Nat → Option (List D)
  | [] => some []
  | i :: is => match getS env i with
    | some (.d x) => match capsOf env is with
      | some xs => some (x :: xs)
      | none => none
    | _ => none
def wipeE (env : Env) : List Nat → Env
  | [] => env
  | v :: vs => (wipeE env vs).set v none
def tgs : Tg → List Nat
  | .one i => [i]
  | .tup is => is
/-- an item put at the end of the list in cell n -/
def pushC (n : Nat) (y : D) (h : IH) : Option IH := match h[n]? with
  | some (.lst xs) => if xs.length < lim then some (h.set n (.lst (xs ++ [y]))) else none
  | _ => none
/-- a comprehension's loop: its list grows in cell n -/
def lcLoop (n : Nat) (f : D → IH → Res (Option D)) : List D → IH → Res Unit
  | [], h => .ok () h
  | x :: r, h => (f x h).bind fun o h1 => match o with
    | some y => match pushC n y h1 with
      | some h2 => lcLoop n f r h2
      | none => .stuck
    | none => lcLoop n f r h1
/-- .. of two clauses -/
def lcLoop2 (f : D → IH → Res Unit) : List D → IH → Res Unit
  | [], h => .ok () h
  | x :: r, h => (f x h).bind fun _ h1 => lcLoop2 f r h1
/-- the list in cell n, the cell gone -/
def lcEnd (n : Nat) (h : IH) : Res Val := match h[n]? with
  | some (.lst ys) => .ok (.d (.list ys)) (h.take n)
  | _ => .stuck
structure Sem where
  call : Nat → List Val → IH → Res Val
  lam : Nat → List D → List D → IH → Res Val
def isLst : Val → IH → Bool
  | .ref n, h => match h[n]? with
    | some (.lst _) => true
    | _ => false
  | _, _ => false
def isSeq : Val → IH → Bool
  | .d (.tuple _), _ => true
  | .d (.list _), _ => true
  | .ref n, h => match h[n]? with
    | some (.lst _) => true
    | _ => false
  | _, _ => false
def meV (m : Me) (o : Val) (as : List D) (h : IH) : Res Val := match o with
  | .ref n => match h[n]? with
    | some (.lst xs) => match m, as with
      | .append, [x] => if xs.length < lim then .ok (.d .none) (h.set n (.lst (xs ++ [x]))) else .stuck
      | .extend, [.list ys] => if xs.length + ys.length ≤ lim then .ok (.d .none) (h.set n (.lst (xs ++ ys))) else .stuck
      | .pop, [] => match xs.getLast? with
        | some y => .ok (.d y) (h.set n (.lst xs.dropLast))
        | none => .stuck
      | _, _ => .stuck
    | _ => .stuck
  | _ => .stuck
def permV {α : Type} : List Nat → List α → Option (List α)
  | [], _ => some []
  | i :: is, xs => match xs[i]?, permV is xs with
    | some x, some ys => some (x :: ys)
    | _, _ => none
def asD (v : Val) (h : IH) : Res D := match v with
  | .d x => .ok x h
  | _ => .stuck
/-- what a for or a comprehension walks -/
def itrN (k : Ik) (xs : List Val) (h : IH) : Res (List D) := match k, xs with
  | .dkeys, [.fd _ kvs] => .ok (kvs.map (·.1)) h
  | _, _ => .stuck
def itr (k : Ik) (r : Res (List Val)) : Res (List D) := r.bind fun xs h => match dats xs h with
  | some ds => ofO (itemsD k ds) h
  | none => itrN k xs h
def noRef : Val → Bool
  | .ref _ => false
  | .clo _ _ => false
  | _ => true
/-- a dict comprehension's loop: its dict grows in cell n -/
def dcLoop (n : Nat) (tk : Bool) (f : D → IH → Res (Option (D × D))) : List D → IH → Res Unit
  | [], h => .ok () h
  | x :: r, h => (f x h).bind fun o h1 => match o with
    | some (k, y) => match h1[n]? with
      | some (.dct tk' kvs) => if tk' = tk ∧ okKey tk k = true ∧ kvs.length < lim then dcLoop n tk f r (h1.set n (.dct tk (putK k y kvs))) else .stuck
      | _ => .stuck
    | none => dcLoop n tk f r h1
def noClo (v : Val) (h : IH) : Res Val := match v with
  | .clo _ _ => .stuck
  | v => .ok v h
section
variable (C : Sem)
mutual
def ev (env : Env) : IE → IH → Res Val
  | .nop, _ => .stuck
  | .c x, h => .ok (.d x) h
  | .v i, h => ofO (getS env i) h
  | .fn g, h => .ok (.fn g) h
  | .bin op a b, h => (ev env a h).bind fun x h1 => (ev env b h1).bind fun y h2 => match x, y with
    | .d x, .d y => ofO ((binD op x y).map .d) h2
    | _, _ => .stuck
  | .neg a, h => (ev env a h).bind fun x h1 => match x with
    | .d (.int i) => .ok (.d (.int (-i))) h1
    | _ => .stuck
  | .nt a, h => (ev env a h).bind fun x h1 => match truth x h1 with
    | some b => .ok (.d (.bool (!b))) h1
    | none => .stuck
  | .cmp op a b, h => (ev env a h).bind fun x h1 => (ev env b h1).bind fun y h2 => match dat x h2, dat y h2 with
    | some x, some y => ofO ((cmpD op x y).map fun b => .d (.bool b)) h2
    | _, _ => .stuck
  | .chain op op2 a b c, h => (ev env a h).bind fun x h1 => (ev env b h1).bind fun y h2 => match x, y with
    | .d x, .d y => match cmpD op x y with
      | some true => (ev env c h2).bind fun z h3 => match z with
        | .d z => ofO ((cmpD op2 y z).map fun b => .d (.bool b)) h3
        | _ => .stuck
      | some false => .ok (.d (.bool false)) h2
      | none => .stuck
    | _, _ => .stuck
  | .isN yes a, h => (ev env a h).bind fun x h1 => .ok (.d (.bool (isNone x == yes))) h1
  | .and_ a b, h => (ev env a h).bind fun x h1 => match truth x h1 with
    | some true => ev env b h1
    | some false => .ok x h1
    | none => .stuck
  | .or_ a b, h => (ev env a h).bind fun x h1 => match truth x h1 with
    | some true => .ok x h1
    | some false => ev env b h1
    | none => .stuck
  | .ifx t a b, h => (ev env t h).bind fun x h1 => match truth x h1 with
    | some true => ev env a h1
    | some false => ev env b h1
    | none => .stuck
  | .tup es, h => (evs env es h).bind fun xs h1 => match dats xs h1 with
    | some ds => if ds.length ≤ lim then .ok (.d (.tuple ds)) h1 else .stuck
    | none => .stuck
  | .lst es, h => (evs env es h).bind fun xs h1 => match dats xs h1 with
    | some ds => if ds.length ≤ lim then .ok (.d (.list ds)) h1 else .stuck
    | none => .stuck
  | .ix a i, h => (ev env a h).bind fun x h1 => (ev env i h1).bind fun y h2 => match dat x h2, y with
    | some x, .d y => ofO ((ixD x y).map .d) h2
    | _, _ => .stuck
  | .sl a lo hi, h => (ev env a h).bind fun x h1 => (if lo.isNop then .ok none h1 else (ev env lo h1).bind fun v h2 => ofO (partOf v) h2).bind fun l h2 =>
    (if hi.isNop then .ok none h2 else (ev env hi h2).bind fun v h3 => ofO (partOf v) h3).bind fun u h3 => match dat x h3 with
    | some x => ofO ((slD x l u).map .d) h3
    | none => .stuck
  | .rev a, h => (ev env a h).bind fun x h1 => match dat x h1 with
    | some (.tuple xs) => .ok (.d (.tuple xs.reverse)) h1
    | some (.list xs) => .ok (.d (.list xs.reverse)) h1
    | _ => .stuck
  | .call g es, h => (evs env es h).bind fun xs h1 => C.call g xs h1
  | .callK g perm es, h => (evs env es h).bind fun xs h1 => if xs.length = perm.length then match permV perm xs with
      | some ys => C.call g ys h1
      | none => .stuck
    else .stuck
  | .callD g es ks, h => (evs env es h).bind fun xs h1 => C.call g (xs ++ ks.map fun i => .d (.int i)) h1
  | .callL g es l cs, h => (evs env es h).bind fun xs h1 => match capsOf env cs with
    | some caps => (C.call g (xs ++ [.clo l caps]) h1).bind noClo
    | none => .stuck
  | .callV i es, h => match getS env i with
    | some (.clo l caps) => (evs env es h).bind fun xs h1 => match dats xs h1 with
      | some ds => C.lam l caps ds h1
      | none => .stuck
    | _ => .stuck
  | .bi b es, h => (evs env es h).bind fun xs h1 => match xs with
    | [x] => match dat x h1 with
      | some x => ofO ((biD b [x]).map .d) h1
      | none => .stuck
    | _ => match dats xs h1 with
      | some ds => ofO ((biD b ds).map .d) h1
      | none => .stuck
  | .tupR a, h => (ev env a h).bind fun x h1 => match x with
    | .d (.int i) => if decide (0 ≤ i) && decide (i ≤ 1000) then .ok (.d (.tuple (rangeD 0 i))) h1 else .stuck
    | _ => .stuck
  | .isI t e, h => (ev env e h).bind fun x h1 => match x with
    | .d x => if isDict x then .stuck else .ok (.d (.bool (hasTy t x))) h1
    | _ => .stuck
  | .me m o es, h => (ev env o h).bind fun x h1 => if isLst x h1 then (evs env es h1).bind fun xs h2 => match dats xs h2 with
    | some ds => meV m x ds h2
    | none => .stuck
    else .stuck
  | .lc k its tg cond elt, h => (itr k (evs env its h)).bind fun items h1 => (lcLoop h1.length (fun x h => match bindT tg x (wipeE env (tgs tg)) with
          | some env1 => (if cond.isNop then .ok true h else (ev env1 cond h).bind fun v h2 => ofO (truth v h2) h2).bind fun b h2 => if b then (ev env1 elt h2).bind fun y h3 => (asD y h3).bind fun y h4 => .ok (some y) h4 else .ok none h2
          | none => .stuck) items (h1 ++ [.lst []])).calm.bind fun _ h2 => lcEnd h1.length h2
  | .lc2 k its tg k2 its2 tg2 cond elt, h => (itr k (evs env its h)).bind fun items h1 => (lcLoop2 (fun x h => match bindT tg x (wipeE env (tgs tg ++ tgs tg2)) with
          | some env1 => (itr k2 (evs env1 its2 h)).bind fun items2 h2 => lcLoop h1.length (fun x h => match bindT tg2 x (wipeE env1 (tgs tg2)) with
                | some env1 => (if cond.isNop then .ok true h else (ev env1 cond h).bind fun v h2 => ofO (truth v h2) h2).bind fun b h2 => if b then (ev env1 elt h2).bind fun y h3 => (asD y h3).bind fun y h4 => .ok (some y) h4 else .ok none h2
                | none => .stuck) items2 h2
          | none => .stuck) items (h1 ++ [.lst []])).calm.bind fun _ h2 => lcEnd h1.length h2
  | .mut e, h => (ev env e h).bind fun x h1 => match x with
    | .d (.list xs) => .ok (.ref h1.length) (h1 ++ [.lst xs])
    | _ => .stuck
  | .md m o es, h => (ev env o h).bind fun x h1 => if isSeq x h1 then (evs env es h1).bind fun xs h2 => match dat x h2, dats xs h2 with
    | some d, some ds => ofO ((meD m d ds).map .d) h2
    | _, _ => .stuck
    else .stuck
  | .lset e, h => (ev env e h).bind fun x h1 => match dat x h1 with
    | some d => ofO ((lsetD d).map .d) h1
    | none => .stuck
  | .sset e, h => (ev env e h).bind fun x h1 => match dat x h1 with
    | some d => ofO ((ssetD d).map .d) h1
    | none => .stuck
  | .din neg k d, h => (ev env k h).bind fun x h1 => (ev env d h1).bind fun y h2 => match x, dctOf y h2 with
    | .d x, some (tk, kvs) => if okKey tk x then .ok (.d (.bool (hasK x kvs != neg))) h2 else .stuck
    | _, _ => .stuck
  | .dget d k, h => (ev env d h).bind fun y h1 => (ev env k h1).bind fun x h2 => match x, dctOf y h2 with
    | .d x, some (tk, kvs) => if okKey tk x then ofO ((findK x kvs).map .d) h2 else .stuck
    | _, _ => .stuck
  | .dget1 d k, h => (ev env d h).bind fun y h1 => (ev env k h1).bind fun x h2 => match x, dctOf y h2 with
    | .d x, some (tk, kvs) => if okKey tk x then .ok (.d ((findK x kvs).getD .none)) h2 else .stuck
    | _, _ => .stuck
  | .dget2 d k e, h => (ev env d h).bind fun y h1 => (ev env k h1).bind fun x h2 => (ev env e h2).bind fun z h3 => match x, z, dctOf y h3 with
    | .d x, .d z, some (tk, kvs) => if okKey tk x then .ok (.d ((findK x kvs).getD z)) h3 else .stuck
    | _, _, _ => .stuck
  | .dnew tk, h => .ok (.ref h.length) (h ++ [.dct tk []])
  | .dlen d, h => (ev env d h).bind fun y h1 => match dctOf y h1 with
    | some (_, kvs) => .ok (.d (.int kvs.length)) h1
    | none => .stuck
  | .dkeys d, h => (ev env d h).bind fun y h1 => match dctOf y h1 with
    | some (_, kvs) => .ok (.d (.list (kvs.map (·.1)))) h1
    | none => .stuck
  | .dsort d, h => (ev env d h).bind fun y h1 => match dctOf y h1 with
    | some (false, kvs) => match intsOf (kvs.map (·.1)) with
      | some ns => if ns.length < 64 then .ok (.d (.list ((ns.mergeSort fun a b => decide (a ≤ b)).map .int))) h1 else .stuck
      | none => .stuck
    | _ => .stuck
  | .dcomp tk k its tg cond key val, h => (itr k (evs env its h)).bind fun items h1 => (dcLoop h1.length tk (fun x h => match bindT tg x (wipeE env (tgs tg)) with
          | some env1 => (if cond.isNop then .ok true h else (ev env1 cond h).bind fun v h2 => ofO (truth v h2) h2).bind fun b h2 => if b then (ev env1 key h2).bind fun y h3 => (ev env1 val h3).bind fun z h4 => match y, z with
            | .d y, .d z => .ok (some (y, z)) h4
            | _, _ => .stuck
            else .ok none h2
          | none => .stuck) items (h1 ++ [.dct tk []])).calm.bind fun _ h2 => match h2[h1.length]? with
            | some (.dct _ kvs) => .ok (.fd tk kvs) (h2.take h1.length)
            | _ => .stuck
  | .frz i, h => match getS env i with
    | some (.ref n) => match h[n]? with
      | some (.dct tk kvs) => .ok (.fd tk kvs) (h.set n .dead)
      | _ => .stuck
    | some (.fd tk kvs) => .ok (.fd tk kvs) h
    | _ => .stuck
  | .lstV es, h => (evs env es h).bind fun xs h1 => if xs.all noRef && decide (xs.length ≤ lim) then .ok (.ref h1.length) (h1 ++ [.vls xs]) else .stuck
  | .apV o e, h => (ev env o h).bind fun x h1 => (ev env e h1).bind fun y h2 => match x with
    | .ref n => match h2[n]? with
      | some (.vls xs) => if noRef y && decide (xs.length < lim) then .ok (.d .none) (h2.set n (.vls (xs ++ [y]))) else .stuck
      | _ => .stuck
    | _ => .stuck
  | .ixV o i, h => (ev env o h).bind fun x h1 => (ev env i h1).bind fun y h2 => match x, y with
    | .ref n, .d (.int i) => match h2[n]? with
      | some (.vls xs) => ofO ((plc xs.length i).bind fun j => xs[j]?) h2
      | _ => .stuck
    | _, _ => .stuck
def evs (env : Env) : List IE → IH → Res (List Val)
  | [], h => .ok [] h
  | e :: es, h => (ev env e h).bind fun x h1 => (evs env es h1).bind fun xs h2 => .ok (x :: xs) h2
end
/-! ### statements -/
inductive Out where
  | next (env : Env) (h : IH)
  | ret (v : Val) (h : IH)
  | brk (env : Env) (h : IH)
  | cont (env : Env) (h : IH)
  | exc (x : Exc) (env : Env) (h : IH)
  | stuck
/-- behind an expression -/
def Res.then_ {α : Type} (env : Env) (r : Res α) (k : α → IH → Out) : Out := match r with
  | .ok a h => k a h
  | .exc x h => .exc x env h
  | .stuck => .stuck
@[simp] theorem then_ok {α : Type} (env : Env) (a : α) (h : IH) (k : α → IH → Out) : (Res.ok a h).then_ env k = k a h := Eq.trans rfl rfl
@[simp] theorem then_exc {α : Type} (env : Env) (x : Exc) (h : IH) (k : α → IH → Out) : (Res.exc (α := α) x h).then_ env k = .exc x env h := Eq.trans rfl rfl
@[simp] theorem then_stuck {α : Type} (env : Env) (k : α → IH → Out) : (Res.stuck (α := α)).then_ env k = .stuck := Eq.trans rfl rfl
def Out.bind (o : Out) (k : Env → IH → Out) : Out := match o with
  | .next env h => k env h
  | o => o
@[simp] theorem obind_next (env : Env) (h : IH) (k : Env → IH → Out) : (Out.next env h).bind k = k env h := Eq.trans rfl rfl
@[simp] theorem obind_ret (v : Val) (h : IH) (k : Env → IH → Out) : (Out.ret v h).bind k = .ret v h := Eq.trans rfl rfl
def storeAt (o : Val) (i x : D) (h : IH) : Option IH := match o with
  | .ref n => match h[n]? with
    | some (.lst xs) => match i with
      | .int i => match plc xs.length i with
        | some j => some (h.set n (.lst (xs.set j x)))
        | none => none
      | _ => none
    | _ => none
  | _ => none
def forLoop (tg : Tg) (body : Env → IH → Out) : List D → Env → IH → Out
  | [], env, h => .next env h
  | x :: r, env, h => match bindT tg x env with
    | some env1 => match body env1 h with
      | .next env2 h2 => forLoop tg body r env2 h2
      | .cont env2 h2 => forLoop tg body r env2 h2
      | .brk env2 h2 => .next env2 h2
      | o => o
    | none => .stuck
def whileLoop (t : Env → IH → Res Bool) (body : Env → IH → Out) : Nat → Env → IH → Out
  | 0, _, _ => .stuck
  | m + 1, env, h => (t env h).then_ env fun b h1 => if b then match body env h1 with
      | .next env2 h2 => whileLoop t body m env2 h2
      | .cont env2 h2 => whileLoop t body m env2 h2
      | .brk env2 h2 => .next env2 h2
      | o => o
    else .next env h1
def storeT (env : Env) : List TE1 → List D → IH → Out
  | [], [], h => .next env h
  | .one i :: ts, x :: xs, h => storeT (env.set i (some (.d x))) ts xs h
  | .sub o i :: ts, x :: xs, h => (ev C env o h).then_ env fun ov h1 => (ev C env i h1).then_ env fun iv h2 => match iv with
    | .d iv => match storeAt ov iv x h2 with
      | some h3 => storeT env ts xs h3
      | none => .stuck
    | _ => .stuck
  | _, _, _ => .stuck
def setVs (env : Env) : List Nat → List Val → Option Env
  | [], [] => some env
  | i :: is, x :: xs => setVs (env.set i (some x)) is xs
  | _, _ => none
def setV (env : Env) (i : Nat) (x : Val) (h : IH) : Out := match x with
  | .clo _ _ => .stuck
  | x => .next (env.set i (some x)) h
mutual
def ex1 (wf : Nat) (env : Env) : IS → IH → Out
  | .pass, h => .next env h
  | .set i e, h => (ev C env e h).then_ env fun x h1 => setV env i x h1
  | .setS o i e, h => (ev C env e h).then_ env fun x h1 => (ev C env o h1).then_ env fun ov h2 => (ev C env i h2).then_ env fun iv h3 => match x, iv with
    | .d x, .d iv => match storeAt ov iv x h3 with
      | some h4 => .next env h4
      | none => .stuck
    | _, _ => .stuck
  | .setT ts e, h => (ev C env e h).then_ env fun x h1 => match x with
    | .d (.tuple xs) => if xs.length = ts.length then storeT C env ts xs h1 else .stuck
    | x => match dat x h1 with
      | some (.list xs) => if xs.length = ts.length then storeT C env ts xs h1 else .stuck
      | _ => .stuck
  | .par is es, h => (evs C env es h).then_ env fun xs h1 => match setVs env is xs with
    | some env1 => .next env1 h1
    | none => .stuck
  | .ex e, h => (ev C env e h).then_ env fun _ h1 => .next env h1
  | .ret e, h => (ev C env e h).then_ env fun x h1 => .ret x h1
  | .ite t a b, h => (ev C env t h).then_ env fun x h1 => match truth x h1 with
    | some true => exs wf env a h1
    | some false => exs wf env b h1
    | none => .stuck
  | .for_ k its tg body, h => (itr k (evs C env its h)).then_ env fun items h1 => forLoop tg (fun env h => exs wf env body h) items env h1
  | .while_ t body, h => whileLoop (fun env h => (ev C env t h).bind fun x h1 => ofO (truth x h1) h1) (fun env h => exs wf env body h) wf env h
  | .raise _ _, _ => .stuck
  | .dput o k e, h => (ev C env e h).then_ env fun x h1 => (ev C env o h1).then_ env fun ov h2 => (ev C env k h2).then_ env fun kv h3 => match x, kv, ov with
    | .d x, .d k, .ref n => match h3[n]? with
      | some (.dct tk kvs) => if okKey tk k = true ∧ kvs.length < lim then .next env (h3.set n (.dct tk (putK k x kvs))) else .stuck
      | _ => .stuck
    | _, _, _ => .stuck
  | .brk, h => .brk env h
  | .cont, h => .cont env h
def exs (wf : Nat) (env : Env) : List IS → IH → Out
  | [], h => .next env h
  | s :: r, h => (ex1 wf env s h).bind fun env1 h1 => exs wf env1 r h1
end
end
/-! ### defs -/
structure FDef where
  n : Nat
  slots : Nat
  body : List IS
structure LDef where
  caps : Nat
  n : Nat
  body : IE
def finish (n0 : Nat) : Out → Res Val
  | .next _ h => .ok (.d .none) (h.take n0)
  | .ret v h => match v with
    | .d x => .ok (.d x) (h.take n0)
    | .ref n => if n < n0 then .ok (.ref n) (h.take n0) else match h[n]? with
      | some c => .ok (.ref n0) (h.take n0 ++ [c])
      | none => .stuck
    | .fn g => .ok (.fn g) (h.take n0)
    | .fd tk kvs => .ok (.fd tk kvs) (h.take n0)
    | .clo _ _ => .stuck
  | .exc x _ h => .exc x (h.take n0)
  | _ => .stuck
def begin_ (slots : Nat) (vs : List Val) : Env := vs.map some ++ List.replicate (slots - vs.length) none
structure Prog where
  defs : List FDef
  lams : List LDef
  wf : Nat
def runDef (P : Prog) (C : Sem) (g : Nat) (vs : List Val) (h : IH) : Res Val := match P.defs[g]? with
  | some f => if vs.length = f.n then finish h.length (exs C P.wf (begin_ f.slots vs) f.body h) else .stuck
  | none => .stuck
def runLam (P : Prog) (C : Sem) (l : Nat) (cs ds : List D) (h : IH) : Res Val := match P.lams[l]? with
  | some f => if ds.length = f.n ∧ cs.length = f.caps then (ev C ((cs ++ ds).map fun x => some (.d x)) f.body h).bind fun v h1 => match v with
      | .d x => .ok (.d x) (h1.take h.length)
      | _ => .stuck
    else .stuck
  | none => .stuck
def sem (P : Prog) : Nat → Sem
  | 0 => ⟨fun _ _ _ => .stuck, fun _ _ _ _ => .stuck⟩
  | L + 1 => ⟨runDef P (sem P L), runLam P (sem P L)⟩
end RR

-- RR1
set_option maxHeartbeats 2000000
/-! The interpreter's state beside the machine's. -/
namespace RR
open PySem PySem.Spec PyProof.Rows L2

/-! ### data in the abstract heap; M: what may still change -/
/-- a list of the module -/
def KL (K : PySem.W.Frag) (a : Addr) (xs : List V) : Prop := ∃ (o : Obj) (its : Array Value) (n : Nat), K.lookup a = some o ∧ o.cls = .type "list" ∧ o.dict = none ∧ o.data = .seq its n ∧ its.size ≤ sizeLine ∧ Vals xs its.toList
mutual
inductive FD (K : PySem.W.Frag) (M : Addr → Prop) (H : Hp) : V → D → Prop
  | non : FD K M H .non .none
  | bl (b : Bool) : FD K M H (.bl b) (.bool b)
  | int (i : Int) : FD K M H (.int i) (.int i)
  | str (x : Str) : FD K M H (.str x) (.str x)
  | lst {a : Addr} {xs : List V} {ds : List D} : Rd H a (.lst xs) → ¬ M a → FDs K M H xs ds → FD K M H (.ref a) (.list ds)
  | klst {a : Addr} {xs : List V} {ds : List D} : KL K a xs → FDs K M H xs ds → FD K M H (.ref a) (.list ds)
  | tup {a : Addr} {xs : List V} {ds : List D} {o : Obj} : H a = some (.frz o (.tup xs)) → o.dict = none → FDs K M H xs ds → FD K M H (.ref a) (.tuple ds)
inductive FDs (K : PySem.W.Frag) (M : Addr → Prop) (H : Hp) : List V → List D → Prop
  | nil : FDs K M H [] []
  | cons {v : V} {vs : List V} {d : D} {ds : List D} : FD K M H v d → FDs K M H vs ds → FDs K M H (v :: vs) (d :: ds)
end
/-- what may change -/
def MutO : HO → Prop
  | .lst _ => True
  | .dK _ => True
  | .dT _ => True
  | .ins _ _ _ => True
  | _ => False
/-- what a change keeps -/
structure Kp (M M' : Addr → Prop) (H H' : Hp) : Prop where
  lst : ∀ a, M a → ∃ o, H a = some o ∧ MutO o
  keep : ∀ a o, H a = some o → ¬ M a → (∀ ps, o ≠ .tbl ps) → H' a = some o
  mem : ∀ a, M' a → M a ∨ H a = none
section
variable {K : PySem.W.Frag} {M M' : Addr → Prop} {H H' : Hp}
mutual
theorem FD.mono (k : Kp M M' H H') : ∀ {d : D} {v : V}, FD K M H v d → FD K M' H' v d
  | .none, _, h => by cases h; exact .non
  | .bool _, _, h => by cases h; exact .bl _
  | .int _, _, h => by cases h; exact .int _
  | .str _, _, h => by cases h; exact .str _
  | .list ds, _, h => by
    cases h with
    | lst r n q =>
      refine .lst ?_ (fun m => ?_) (FDs.mono k q)
      · rcases r with r | ⟨o, r⟩
        · exact .inl (k.keep _ _ r n (fun _ z => nomatch z))
        · exact .inr ⟨o, k.keep _ _ r n (fun _ z => nomatch z)⟩
      · rcases k.mem _ m with z | z
        · exact n z
        · rcases r with r | ⟨o, r⟩ <;> (rw [z] at r; cases r)
    | klst r q => exact .klst r (FDs.mono k q)
  | .tuple ds, _, h => by
    cases h with
    | tup r n q =>
      refine .tup (k.keep _ _ r (fun m => ?_) (fun _ z => nomatch z)) n (FDs.mono k q)
      obtain ⟨xs, e, mo⟩ := k.lst _ m
      rw [r] at e
      cases e
      exact mo
  | .dict _, _, h => by cases h
theorem FDs.mono (k : Kp M M' H H') : ∀ {ds : List D} {vs : List V}, FDs K M H vs ds → FDs K M' H' vs ds
  | [], _, h => by cases h; exact .nil
  | _ :: _, _, h => by
    cases h with
    | cons a b => exact .cons (FD.mono k a) (FDs.mono k b)
end
mutual
theorem FD.dp : ∀ {d : D} {v : V}, FD K M H v d → Dp K H v d
  | .none, _, h => by cases h; exact .non
  | .bool _, _, h => by cases h; exact .bl _
  | .int _, _, h => by cases h; exact .int _
  | .str _, _, h => by cases h; exact .str _
  | .list ds, _, h => by
    cases h with
    | lst r n q => exact .lst (.inl r) (FDs.dp q)
    | klst r q => exact .lst (.inr r) (FDs.dp q)
  | .tuple ds, _, h => by
    cases h with
    | tup r n q => exact .tup (.inl (.inr ⟨_, r⟩)) (FDs.dp q)
  | .dict _, _, h => by cases h
theorem FDs.dp : ∀ {ds : List D} {vs : List V}, FDs K M H vs ds → DpAll K H vs ds
  | [], _, h => by cases h; exact .nil
  | _ :: _, _, h => by
    cases h with
    | cons a b => exact .cons (FD.dp a) (FDs.dp b)
end
theorem FDs.length : ∀ {ds : List D} {vs : List V}, FDs K M H vs ds → vs.length = ds.length
  | [], _, h => by cases h; rfl
  | _ :: _, _, h => by
    cases h with
    | cons a b => exact congrArg Nat.succ (FDs.length b)
theorem FDs.get : ∀ {ds : List D} {vs : List V} {i : Nat} {d : D}, FDs K M H vs ds → ds[i]? = some d → ∃ v, vs[i]? = some v ∧ FD K M H v d
  | [], _, _, _, _, e => by simp at e
  | _ :: _, _, 0, _, h, e => by
    cases h with
    | cons a b => simp at e; subst e; exact ⟨_, rfl, a⟩
  | _ :: _, _, i + 1, _, h, e => by
    cases h with
    | cons a b =>
      obtain ⟨v, h1, h2⟩ := FDs.get (i := i) b (by simpa using e)
      exact ⟨v, by simpa using h1, h2⟩
theorem FDs.at_ : ∀ {ds : List D} {vs : List V} {i : Nat} {v : V}, FDs K M H vs ds → vs[i]? = some v → ∃ d, ds[i]? = some d ∧ FD K M H v d := fun {ds vs i v} h e => by
  have hl := h.length
  have hi : i < vs.length := (List.getElem?_eq_some_iff.mp e).1
  have e2 : ds[i]? = some (ds[i]'(by omega)) := List.getElem?_eq_getElem (by omega)
  obtain ⟨v', h1, h2⟩ := h.get e2
  rw [e] at h1
  cases h1
  exact ⟨_, e2, h2⟩
theorem FDs.append : ∀ {ds es : List D} {vs ws : List V}, FDs K M H vs ds → FDs K M H ws es → FDs K M H (vs ++ ws) (ds ++ es)
  | [], _, _, _, h, q => by cases h; exact q
  | _ :: _, _, _, _, h, q => by
    cases h with
    | cons a b => exact .cons a (FDs.append b q)
theorem FDs.take : ∀ {ds : List D} {vs : List V} (n : Nat), FDs K M H vs ds → FDs K M H (vs.take n) (ds.take n)
  | _, _, 0, _ => by simpa using FDs.nil
  | [], _, n + 1, h => by cases h; exact .nil
  | _ :: _, _, n + 1, h => by
    cases h with
    | cons a b => exact .cons a (FDs.take n b)
theorem FDs.drop : ∀ {ds : List D} {vs : List V} (n : Nat), FDs K M H vs ds → FDs K M H (vs.drop n) (ds.drop n)
  | _, _, 0, h => h
  | [], _, n + 1, h => by cases h; exact .nil
  | _ :: _, _, n + 1, h => by
    cases h with
    | cons a b => exact FDs.drop n b
theorem FDs.set : ∀ {ds : List D} {vs : List V} {d : D} {v : V} (n : Nat), FDs K M H vs ds → FD K M H v d → FDs K M H (vs.set n v) (ds.set n d)
  | [], _, _, _, _, h, _ => by cases h; exact .nil
  | _ :: _, _, _, _, 0, h, q => by
    cases h with
    | cons a b => exact .cons q b
  | _ :: _, _, _, _, n + 1, h, q => by
    cases h with
    | cons a b => exact .cons a (FDs.set n b q)
theorem FDs.reverse {ds : List D} {vs : List V} (h : FDs K M H vs ds) : FDs K M H vs.reverse ds.reverse := by
  induction ds generalizing vs with
  | nil => cases h; exact .nil
  | cons d ds ih =>
    cases h with
    | cons a b =>
      rw [List.reverse_cons, List.reverse_cons]
      exact (ih b).append (.cons a .nil)
theorem FDs.dropLast {ds : List D} {vs : List V} (h : FDs K M H vs ds) : FDs K M H vs.dropLast ds.dropLast := by
  rw [List.dropLast_eq_take, List.dropLast_eq_take, h.length]
  exact h.take _
theorem FDs.rep {ds : List D} {vs : List V} (h : FDs K M H vs ds) : ∀ k : Nat, FDs K M H (List.replicate k vs).flatten (List.replicate k ds).flatten
  | 0 => .nil
  | k + 1 => by
    rw [List.replicate_succ, List.replicate_succ, List.flatten_cons, List.flatten_cons]
    exact h.append (FDs.rep h k)
theorem FDs.ints : ∀ {ds : List D} {vs : List V} {ns : List Int}, FDs K M H vs ds → intsOf ds = some ns → vs = ns.map V.int
  | [], _, _, h, e => by
    cases h
    simp [intsOf] at e
    subst e
    rfl
  | .int i :: r, _, _, h, e => by
    cases h with
    | cons a b =>
      cases a
      simp only [intsOf] at e
      cases q : intsOf r with
      | none => rw [q] at e; cases e
      | some xs =>
        rw [q] at e
        cases e
        rw [FDs.ints b q]
        rfl
  | .none :: _, _, _, _, e => by simp [intsOf] at e
  | .bool _ :: _, _, _, _, e => by simp [intsOf] at e
  | .str _ :: _, _, _, _, e => by simp [intsOf] at e
  | .list _ :: _, _, _, _, e => by simp [intsOf] at e
  | .tuple _ :: _, _, _, _, e => by simp [intsOf] at e
  | .dict _ :: _, _, _, _, e => by simp [intsOf] at e
theorem FDs.bools : ∀ {ds : List D} {vs : List V} {ns : List Bool}, FDs K M H vs ds → boolsOf ds = some ns → vs = ns.map V.bl
  | [], _, _, h, e => by
    cases h
    simp [boolsOf] at e
    subst e
    rfl
  | .bool i :: r, _, _, h, e => by
    cases h with
    | cons a b =>
      cases a
      simp only [boolsOf] at e
      cases q : boolsOf r with
      | none => rw [q] at e; cases e
      | some xs =>
        rw [q] at e
        cases e
        rw [FDs.bools b q]
        rfl
  | .none :: _, _, _, _, e => by simp [boolsOf] at e
  | .int _ :: _, _, _, _, e => by simp [boolsOf] at e
  | .str _ :: _, _, _, _, e => by simp [boolsOf] at e
  | .list _ :: _, _, _, _, e => by simp [boolsOf] at e
  | .tuple _ :: _, _, _, _, e => by simp [boolsOf] at e
  | .dict _ :: _, _, _, _, e => by simp [boolsOf] at e
theorem fds_ints (ns : List Int) : FDs K M H (ns.map V.int) (ns.map PyData.int) := by
  induction ns with
  | nil => exact .nil
  | cons n ns ih => exact .cons (.int n) ih
end
/-! ### the text -/
structure DefT where
  name : Str
  params : Arguments
  body : List Stmt
  scope : Scope
  N : List Str
  ps : List Str
  q : Option Str
  dfl : List Int
/-- what the relation leans on -/
structure Cs where
  K : PySem.W.Frag
  T : List (Addr × Str)
  adr : Nat → Addr
  cls : Nat → Value
  atr : Nat → Str
  lamP : Nat → Arguments → Expr → Scope → List Str → Prop
/-- an object known for good -/
def KO (o : Obj) : HO := .frz o (.ext fun _ => True)
/-! ### values -/
def CapOk (c : Cs) (M : Addr → Prop) (H : Hp) (cl : List (Str × Addr)) (x : Str) (d : D) : Prop :=
  ∃ (b : Addr) (o : Obj) (u : Value) (v : V), cl.lookup x = some b ∧ H b = some (KO o) ∧ o.data = .cell (some u) ∧ RelV v u ∧ FD c.K M H v d
def CloH (c : Cs) (M : Addr → Prop) (H : Hp) (f : Addr) (l : Nat) (caps : List D) : Prop :=
  ∃ (q : Str) (params : Arguments) (body : Expr) (scope : Scope) (names : List Str) (cl : List (Str × Addr)) (c' : Addr) (pm ctv : Value), c.lamP l params body scope names ∧ H f = some (KO (PySem.W.kla_obj "<lambda>" q params body scope cl pm c' ctv)) ∧
    H c' = some (LamX.CodeO c' q) ∧ Paired (CapOk c M H cl) names caps ∧ (∀ x b, cl.lookup x = some b → x ∈ names) ∧ ∀ x y b, cl.lookup x = some b → cl.lookup y = some b → x = y
theorem Paired.mp {α β : Type} {F G : α → β → Prop} : ∀ {l₁ : List α} {l₂ : List β}, Paired F l₁ l₂ → (∀ a b, F a b → G a b) → Paired G l₁ l₂
  | _, _, .nil, _ => .nil
  | _, _, .cons r t, f => .cons (f _ _ r) (Paired.mp t f)
theorem KO_ne_tbl {o : Obj} (ps : Array Value) : KO o ≠ .tbl ps := fun z => nomatch z
theorem KO_ne_lst {o : Obj} (ps : List V) : KO o ≠ .lst ps := fun z => nomatch z
theorem codeO_not_mut {c : Addr} {q : Str} : ¬ MutO (LamX.CodeO c q) := fun z => by
  unfold LamX.CodeO at z
  exact z
section
variable {c : Cs} {M M' : Addr → Prop} {H H' : Hp}
theorem Kp.stays (k : Kp M M' H H') {a : Addr} {u : HO} (e : H a = some u) (n : ¬ MutO u) (t : ∀ ps, u ≠ .tbl ps) : H' a = some u :=
  k.keep a _ e (fun m => by obtain ⟨o, q, mo⟩ := k.lst a m; rw [e] at q; cases q; exact n mo) t
theorem Kp.known (k : Kp M M' H H') {a : Addr} {o : Obj} (e : H a = some (KO o)) : H' a = some (KO o) := k.stays e (fun z => z) KO_ne_tbl
theorem Kp.code (k : Kp M M' H H') {a : Addr} {q : Str} (e : H a = some (LamX.CodeO a q)) : H' a = some (LamX.CodeO a q) := k.stays e codeO_not_mut LamX.codeO_ne
theorem CloH.mono (k : Kp M M' H H') {f : Addr} {l : Nat} {caps : List D} (q : CloH c M H f l caps) : CloH c M' H' f l caps := by
  obtain ⟨qn, params, body, scope, names, cl, c', pm, ctv, e1, e2, e3, e4, e5, e6⟩ := q
  refine ⟨qn, params, body, scope, names, cl, c', pm, ctv, e1, k.known e2, k.code e3, Paired.mp e4 fun x d z => ?_, e5, e6⟩
  obtain ⟨b, o, u, v, q1, q2, q3, q4, q5⟩ := z
  exact ⟨b, o, u, v, q1, k.known q2, q3, q4, q5.mono k⟩
end
/-! ### dicts -/
def keyD : Key → D
  | .inl i => .int i
  | .inr x => .str x
/-- a dict's entries -/
def EntK (K : PySem.W.Frag) (M : Addr → Prop) (H : Hp) (p : Key × V) (q : D × D) : Prop := q.1 = keyD p.1 ∧ FD K M H p.2 q.2
def EntT (K : PySem.W.Frag) (M : Addr → Prop) (H : Hp) (p : List Key × V) (q : D × D) : Prop := q.1 = .tuple (p.1.map keyD) ∧ FD K M H p.2 q.2
/-- a dict that doesn't change any more -/
def FroD (K : PySem.W.Frag) (M : Addr → Prop) (H : Hp) (a : Addr) (kvs : List (D × D)) : Bool → Prop
  | false => ∃ o ks, H a = some (.frz o (.dK ks)) ∧ Paired (EntK K M H) ks kvs
  | true => ∃ o ks, H a = some (.frz o (.dT ks)) ∧ Paired (EntT K M H) ks kvs
/-! ### values -/
/-- a value that is no cell -/
def RVN (c : Cs) (M : Addr → Prop) (H : Hp) : Val → V → Prop
  | .d x, v => FD c.K M H v x
  | .ref _, _ => False
  | .fn g, v => v = .ref (c.adr g)
  | .clo _ _, _ => False
  | .fd tk kvs, v => ∃ a, v = .ref a ∧ FroD c.K M H a kvs tk
def RV (c : Cs) (M : Addr → Prop) (α : List Addr) (H : Hp) : Val → V → Prop
  | .d x, v => FD c.K M H v x
  | .ref n, v => ∃ a, α[n]? = some a ∧ v = .ref a
  | .fn g, v => v = .ref (c.adr g)
  | .clo l caps, v => ∃ f, v = .ref f ∧ CloH c M H f l caps
  | .fd tk kvs, v => ∃ a, v = .ref a ∧ FroD c.K M H a kvs tk
section
variable {c : Cs} {M M' : Addr → Prop} {H H' : Hp}
theorem FroD.mono (k : Kp M M' H H') {a : Addr} {kvs : List (D × D)} : ∀ {tk : Bool}, FroD c.K M H a kvs tk → FroD c.K M' H' a kvs tk
  | false, ⟨o, ks, e, q⟩ => ⟨o, ks, k.stays e (fun z => z) (fun _ z => nomatch z), Paired.mp q fun _ _ y => ⟨y.1, y.2.mono k⟩⟩
  | true, ⟨o, ks, e, q⟩ => ⟨o, ks, k.stays e (fun z => z) (fun _ z => nomatch z), Paired.mp q fun _ _ y => ⟨y.1, y.2.mono k⟩⟩
theorem RVN.mono (k : Kp M M' H H') : ∀ {x : Val} {v : V}, RVN c M H x v → RVN c M' H' x v
  | .d x, v, q => FD.mono k q
  | .ref n, v, z => z
  | .fn g, v, q => q
  | .clo l caps, v, z => z
  | .fd tk kvs, v, ⟨a, e, z⟩ => ⟨a, e, z.mono k⟩
theorem RVN.rv {α : List Addr} : ∀ {x : Val} {v : V}, RVN c M H x v → RV c M α H x v
  | .d x, v, q => q
  | .ref n, v, z => z.elim
  | .fn g, v, q => q
  | .clo l caps, v, z => z.elim
  | .fd tk kvs, v, q => q
theorem RV.rvn {α : List Addr} : ∀ {x : Val} {v : V}, RV c M α H x v → (∀ n, x ≠ .ref n) → (∀ l cs, x ≠ .clo l cs) → RVN c M H x v
  | .d x, v, q, _, _ => q
  | .ref n, v, _, z, _ => absurd rfl (z n)
  | .fn g, v, q, _, _ => q
  | .clo l caps, v, _, _, z => absurd rfl (z l caps)
  | .fd tk kvs, v, q, _, _ => q
theorem RV.kp {α α' : List Addr} (k : Kp M M' H H') (g : ∀ (n : Nat) (a : Addr), α[n]? = some a → α'[n]? = some a) : ∀ {x : Val} {v : V}, RV c M α H x v → RV c M' α' H' x v
  | .d x, v, q => FD.mono k q
  | .ref n, v, ⟨a, e, z⟩ => ⟨a, g n a e, z⟩
  | .fn g, v, q => q
  | .clo l caps, v, ⟨f, e, z⟩ => ⟨f, e, z.mono k⟩
  | .fd tk kvs, v, ⟨a, e, z⟩ => ⟨a, e, z.mono k⟩
end
abbrev RVs (c : Cs) (M : Addr → Prop) (α : List Addr) (H : Hp) : List Val → List V → Prop := Paired (RV c M α H)
/-! ### cells -/
/-- what a cell says of the object at a -/
def CellR (c : Cs) (M : Addr → Prop) (H : Hp) (a : Addr) : Cell → Prop
  | .lst xs => ∃ vs, H a = some (.lst vs) ∧ FDs c.K M H vs xs
  | .vls xs => ∃ vs, H a = some (.lst vs) ∧ Paired (RVN c M H) xs vs
  | .dct false kvs => ∃ ks, H a = some (.dK ks) ∧ Paired (EntK c.K M H) ks kvs
  | .dct true kvs => ∃ ks, H a = some (.dT ks) ∧ Paired (EntT c.K M H) ks kvs
  | .dead => False
def Cell.live : Cell → Prop
  | .dead => False
  | _ => True
theorem CellR.obj {c : Cs} {M : Addr → Prop} {H : Hp} {a : Addr} : ∀ {x : Cell}, CellR c M H a x → ∃ o, H a = some o ∧ MutO o
  | .lst _, ⟨_, e, _⟩ => ⟨_, e, trivial⟩
  | .vls _, ⟨_, e, _⟩ => ⟨_, e, trivial⟩
  | .dct false _, ⟨_, e, _⟩ => ⟨_, e, trivial⟩
  | .dct true _, ⟨_, e, _⟩ => ⟨_, e, trivial⟩
  | .dead, z => z.elim
theorem CellR.live {c : Cs} {M : Addr → Prop} {H : Hp} {a : Addr} : ∀ {x : Cell}, CellR c M H a x → x.live
  | .lst _, _ => trivial
  | .vls _, _ => trivial
  | .dct _ _, _ => trivial
  | .dead, z => z.elim
/-- the object stays as it is -/
theorem CellR.kp {c : Cs} {M M' : Addr → Prop} {H H' : Hp} (k : Kp M M' H H') {a : Addr} (e : H' a = H a) : ∀ {x : Cell}, CellR c M H a x → CellR c M' H' a x
  | .lst _, ⟨vs, z, q⟩ => ⟨vs, e.trans z, q.mono k⟩
  | .vls _, ⟨vs, z, q⟩ => ⟨vs, e.trans z, Paired.mp q fun _ _ y => y.mono k⟩
  | .dct false _, ⟨vs, z, q⟩ => ⟨vs, e.trans z, Paired.mp q fun _ _ y => ⟨y.1, y.2.mono k⟩⟩
  | .dct true _, ⟨vs, z, q⟩ => ⟨vs, e.trans z, Paired.mp q fun _ _ y => ⟨y.1, y.2.mono k⟩⟩
  | .dead, z => z.elim
/-! ### the heaps side by side -/
def liv (α : List Addr) (h : IH) (a : Addr) : Prop := ∃ (n : Nat) (x : Cell), α[n]? = some a ∧ h[n]? = some x ∧ x.live
structure HR (c : Cs) (α : List Addr) (h : IH) (H : Hp) : Prop where
  len : α.length = h.length
  cel : ∀ (n : Nat) (x : Cell), h[n]? = some x → x.live → ∃ a, α[n]? = some a ∧ CellR c (liv α h) H a x
  ij : ∀ (n m : Nat) (a : Addr) (x y : Cell), α[n]? = some a → α[m]? = some a → h[n]? = some x → x.live → h[m]? = some y → y.live → n = m
  tabs : LamX.Tabs c.T H
structure Stp (α : List Addr) (h : IH) (H : Hp) (α' : List Addr) (h' : IH) (H' : Hp) : Prop where
  pre : ∃ β, α' = α ++ β
  keep : ∀ a o, H a = some o → ¬ liv α h a → (∀ ps, o ≠ .tbl ps) → H' a = some o
  tbl : ∀ a ps, H a = some (.tbl ps) → ∃ ps', H' a = some (.tbl ps')
  mem : ∀ a, liv α' h' a → liv α h a ∨ H a = none
section
variable {c : Cs} {α α1 α2 : List Addr} {h h1 h2 : IH} {H H1 H2 : Hp}
theorem HR.cell (r : HR c α h H) (n : Nat) (xs : List D) (e : h[n]? = some (Cell.lst xs)) : ∃ a vs, α[n]? = some a ∧ H a = some (.lst vs) ∧ FDs c.K (liv α h) H vs xs := by
  obtain ⟨a, e1, vs, e2, e3⟩ := r.cel n _ e trivial
  exact ⟨a, vs, e1, e2, e3⟩
theorem HR.inj (r : HR c α h H) (n m : Nat) (a : Addr) (xs ys : List D) (e1 : α[n]? = some a) (e2 : α[m]? = some a) (e3 : h[n]? = some (Cell.lst xs)) (e4 : h[m]? = some (Cell.lst ys)) : n = m :=
  r.ij n m a _ _ e1 e2 e3 trivial e4 trivial
theorem HR.lst (r : HR c α h H) (a : Addr) (l : liv α h a) : ∃ o, H a = some o ∧ MutO o := by
  obtain ⟨n, x, e1, e2, e3⟩ := l
  obtain ⟨b, q1, q2⟩ := r.cel n x e2 e3
  rw [e1] at q1
  cases q1
  exact q2.obj
theorem Stp.kp (s : Stp α h H α1 h1 H1) (r : HR c α h H) : Kp (liv α h) (liv α1 h1) H H1 := ⟨r.lst, s.keep, s.mem⟩
theorem Stp.refl : Stp α h H α h H := ⟨⟨[], by simp⟩, fun _ _ e _ _ => e, fun _ ps e => ⟨ps, e⟩, fun _ l => .inl l⟩
theorem Stp.trans (a : Stp α h H α1 h1 H1) (b : Stp α1 h1 H1 α2 h2 H2) : Stp α h H α2 h2 H2 where
  pre := by
    obtain ⟨β, e1⟩ := a.pre
    obtain ⟨γ, e2⟩ := b.pre
    exact ⟨β ++ γ, by rw [e2, e1, List.append_assoc]⟩
  keep := fun x o e n t => b.keep x o (a.keep x o e n t) (fun l => (a.mem x l).elim n fun z => by rw [e] at z; cases z) t
  tbl := fun x ps e => by
    obtain ⟨ps1, e1⟩ := a.tbl x ps e
    exact b.tbl x ps1 e1
  mem := fun x l => by
    rcases b.mem x l with z | z
    · exact a.mem x z
    · cases q : H x with
      | none => exact .inr rfl
      | some o =>
        refine .inl (Classical.byContradiction fun n => ?_)
        by_cases t : ∃ ps, o = .tbl ps
        · obtain ⟨ps, t⟩ := t
          obtain ⟨ps1, e1⟩ := a.tbl x ps (by rw [q, t])
          rw [z] at e1
          cases e1
        · have e1 := a.keep x o q n (fun ps e => t ⟨ps, e⟩)
          rw [z] at e1
          cases e1
theorem Stp.get (s : Stp α h H α1 h1 H1) {n : Nat} {a : Addr} (e : α[n]? = some a) : α1[n]? = some a := by
  obtain ⟨β, q⟩ := s.pre
  rw [q, List.getElem?_append_left (List.getElem?_eq_some_iff.mp e).1]
  exact e
/-- nothing but the heap has grown: a new object at p -/
theorem Stp.new {p : Addr} {o : HO} (n : H p = none) (α : List Addr) (h : IH) : Stp α h H α h (upd H p o) where
  pre := ⟨[], by simp⟩
  keep := fun a u e _ _ => by rw [upd_ne (ne_of_none e n)]; exact e
  tbl := fun a ps e => ⟨ps, by rw [upd_ne (ne_of_none e n)]; exact e⟩
  mem := fun a l => .inl l
theorem ext_new {p : Addr} {o : HO} (n : H p = none) : ∀ b u, H b = some u → upd H p o b = some u := fun b u e => by rw [upd_ne (ne_of_none e n)]; exact e
theorem HR.ext (r : HR c α h H) (e : ∀ b o, H b = some o → H1 b = some o) : HR c α h H1 where
  len := r.len
  cel := fun n x q l => by
    obtain ⟨a, q1, q2⟩ := r.cel n x q l
    obtain ⟨o, z, _⟩ := q2.obj
    exact ⟨a, q1, q2.kp ⟨r.lst, fun a o z _ _ => e a o z, fun a l => .inl l⟩ ((e _ _ z).trans z.symm)⟩
  ij := r.ij
  tabs := r.tabs.ext e
theorem Stp.ext (e : ∀ b o, H b = some o → H1 b = some o) : Stp α h H α h H1 := ⟨⟨[], by simp⟩, fun a o z _ _ => e a o z, fun a ps z => ⟨ps, e _ _ z⟩, fun _ l => .inl l⟩
end
end RR

-- RR2
set_option maxHeartbeats 2000000
/-! Changes of the heaps side by side. -/
namespace RR
open PySem PySem.Spec PyProof.Rows L2
section
variable {c : Cs} {T : List (Addr × Str)} {α α1 α2 : List Addr} {h h1 h2 : IH} {H H1 H2 : Hp}
theorem codeO_ne_lst {c : Addr} {q : Str} {xs : List V} : LamX.CodeO c q ≠ .lst xs := fun z => by
  unfold LamX.CodeO at z
  cases z
theorem ne_mut {a b : Addr} {o u : HO} (e : H a = some o) (n : ¬ MutO o) (e' : H b = some u) (m : MutO u) : a ≠ b := fun z => by
  subst z
  rw [e] at e'
  cases e'
  exact n m
theorem tabs_but {a : Addr} {o u : HO} (t : LamX.Tabs T H) (e : H a = some o) (m : MutO o) : LamX.Tabs T (upd H a u) := fun p hp => by
  obtain ⟨ps, e1, e2, e3⟩ := t p hp
  refine ⟨ps, ?_, e2, fun pos cv hc => ?_⟩
  · rw [upd_ne (ne_mut e1 (fun z => z) e m)]
    exact e1
  · obtain ⟨c, q1, q2⟩ := e3 pos cv hc
    exact ⟨c, q1, by rw [upd_ne (ne_mut q2 codeO_not_mut e m)]; exact q2⟩
theorem liv_setC {n : Nat} {x y : Cell} (e : h[n]? = some x) (lx : x.live) (ly : y.live) {b : Addr} : liv α (h.set n y) b ↔ liv α h b := by
  have hn : n < h.length := (List.getElem?_eq_some_iff.mp e).1
  constructor
  · rintro ⟨m, zs, e1, e2, e3⟩
    by_cases hm : n = m
    · subst hm
      exact ⟨n, x, e1, e, lx⟩
    · rw [List.getElem?_set_ne hm] at e2
      exact ⟨m, zs, e1, e2, e3⟩
  · rintro ⟨m, zs, e1, e2, e3⟩
    by_cases hm : n = m
    · subst hm
      exact ⟨n, y, e1, List.getElem?_set_self hn, ly⟩
    · exact ⟨m, zs, e1, by rw [List.getElem?_set_ne hm]; exact e2, e3⟩
theorem liv_set {n : Nat} {xs ys : List D} (e : h[n]? = some (Cell.lst xs)) {b : Addr} : liv α (h.set n (Cell.lst ys)) b ↔ liv α h b := liv_setC (y := Cell.lst ys) e trivial trivial
theorem HR.objAt (r : HR c α h H) {n : Nat} {a : Addr} {x : Cell} (e : h[n]? = some x) (lx : x.live) (ea : α[n]? = some a) : CellR c (liv α h) H a x := by
  obtain ⟨b, q1, q2⟩ := r.cel n x e lx
  rw [ea] at q1
  cases q1
  exact q2
/-- what a store at a live cell keeps -/
theorem HR.kwr {n : Nat} {a : Addr} {x y : Cell} {u : HO} (r : HR c α h H) (e : h[n]? = some x) (lx : x.live) (ly : y.live) (ea : α[n]? = some a) : Kp (liv α h) (liv α (h.set n y)) H (upd H a u) :=
  ⟨r.lst, fun b o z nl _ => by rw [upd_ne (show b ≠ a from fun w => nl (by rw [w]; exact ⟨n, x, ea, e, lx⟩))]; exact z, fun b l => .inl ((liv_setC e lx ly).mp l)⟩
/-- a cell's object is changed -/
theorem HR.wrC {n : Nat} {a : Addr} {x y : Cell} {u : HO} (r : HR c α h H) (e : h[n]? = some x) (lx : x.live) (ly : y.live) (ea : α[n]? = some a) (q : CellR c (liv α (h.set n y)) (upd H a u) a y) :
    HR c α (h.set n y) (upd H a u) ∧ Stp α h H α (h.set n y) (upd H a u) := by
  have la : liv α h a := ⟨n, x, ea, e, lx⟩
  have k : Kp (liv α h) (liv α (h.set n y)) H (upd H a u) := r.kwr e lx ly ea
  obtain ⟨o, ho, mo⟩ := (r.objAt e lx ea).obj
  have hn : n < h.length := (List.getElem?_eq_some_iff.mp e).1
  refine ⟨⟨by rw [r.len, List.length_set], fun m zs z lz => ?_, fun m1 m2 b x1 x2 a1 a2 z1 l1 z2 l2 => ?_, tabs_but r.tabs ho mo⟩, ⟨⟨[], by simp⟩, fun b o z nl _ => by rw [upd_ne (show b ≠ a from fun w => nl (by rw [w]; exact la))]; exact z, fun b ps z => ⟨ps, ?_⟩, fun b l => .inl ((liv_setC e lx ly).mp l)⟩⟩
  · by_cases hm : n = m
    · subst hm
      rw [List.getElem?_set_self hn] at z
      cases z
      exact ⟨a, ea, q⟩
    · rw [List.getElem?_set_ne hm] at z
      obtain ⟨b, e1, e2⟩ := r.cel m zs z lz
      refine ⟨b, e1, e2.kp k ?_⟩
      rw [upd_ne]
      rintro rfl
      exact hm (r.ij n m b _ _ ea e1 e lx z lz)
  · have f : ∀ {m : Nat} {x' : Cell}, (h.set n y)[m]? = some x' → x'.live → ∃ x'' : Cell, h[m]? = some x'' ∧ x''.live := fun {m x'} z lz => by
      by_cases hm : n = m
      · subst hm
        exact ⟨_, e, lx⟩
      · rw [List.getElem?_set_ne hm] at z
        exact ⟨_, z, lz⟩
    obtain ⟨_, w1, v1⟩ := f z1 l1
    obtain ⟨_, w2, v2⟩ := f z2 l2
    exact r.ij m1 m2 b _ _ a1 a2 w1 v1 w2 v2
  · rw [upd_ne (ne_mut z (fun z => z) ho mo)]
    exact z
theorem HR.wr {n : Nat} {a : Addr} {xs ys : List D} {ws : List V} (r : HR c α h H) (e : h[n]? = some (Cell.lst xs)) (ea : α[n]? = some a) (q : FDs c.K (liv α h) H ws ys) :
    HR c α (h.set n (Cell.lst ys)) (upd H a (.lst ws)) ∧ Stp α h H α (h.set n (Cell.lst ys)) (upd H a (.lst ws)) :=
  r.wrC e trivial trivial ea ⟨ws, upd_same, q.mono (r.kwr (y := Cell.lst ys) e trivial trivial ea)⟩
/-- a cell is let go (its object is not changed any more) -/
theorem HR.kill {n : Nat} {a : Addr} {x : Cell} {o u : HO} (r : HR c α h H) (e : h[n]? = some x) (lx : x.live) (ea : α[n]? = some a) (nt : ∀ ps, u ≠ .tbl ps) :
    HR c α (h.set n .dead) (upd H a u) ∧ Stp α h H α (h.set n .dead) (upd H a u) := by
  have la : liv α h a := ⟨n, x, ea, e, lx⟩
  have hn : n < h.length := (List.getElem?_eq_some_iff.mp e).1
  obtain ⟨o, ho, mo⟩ := (r.objAt e lx ea).obj
  have hl : ∀ {b}, liv α (h.set n .dead) b → liv α h b := fun {b} ⟨m, zs, e1, e2, e3⟩ => by
    by_cases hm : n = m
    · subst hm
      rw [List.getElem?_set_self hn] at e2
      cases e2
      exact e3.elim
    · rw [List.getElem?_set_ne hm] at e2
      exact ⟨m, zs, e1, e2, e3⟩
  have k : Kp (liv α h) (liv α (h.set n .dead)) H (upd H a u) :=
    ⟨r.lst, fun b o z nl _ => by rw [upd_ne (show b ≠ a from fun w => nl (by rw [w]; exact la))]; exact z, fun b l => .inl (hl l)⟩
  have f : ∀ {m : Nat} {x' : Cell}, (h.set n .dead)[m]? = some x' → x'.live → n ≠ m ∧ h[m]? = some x' := fun {m x'} z lz => by
    by_cases hm : n = m
    · subst hm
      rw [List.getElem?_set_self hn] at z
      cases z
      exact lz.elim
    · rw [List.getElem?_set_ne hm] at z
      exact ⟨hm, z⟩
  refine ⟨⟨by rw [r.len, List.length_set], fun m zs z lz => ?_, fun m1 m2 b x1 x2 a1 a2 z1 l1 z2 l2 => r.ij m1 m2 b _ _ a1 a2 (f z1 l1).2 l1 (f z2 l2).2 l2, tabs_but r.tabs ho mo⟩, ⟨⟨[], by simp⟩, k.keep, fun b ps z => ⟨ps, ?_⟩, fun b l => .inl (hl l)⟩⟩
  · obtain ⟨hm, z'⟩ := f z lz
    obtain ⟨b, e1, e2⟩ := r.cel m zs z' lz
    refine ⟨b, e1, e2.kp k ?_⟩
    rw [upd_ne]
    rintro rfl
    exact hm (r.ij n m b _ _ ea e1 e lx z' lz)
  · rw [upd_ne (ne_mut z (fun z => z) ho mo)]
    exact z
theorem HR.madeC {p : Addr} {x : Cell} {u : HO} (r : HR c α h H) (n : H p = none) (lx : x.live) (q : CellR c (liv (α ++ [p]) (h ++ [x])) (upd H p u) p x) :
    HR c (α ++ [p]) (h ++ [x]) (upd H p u) ∧ Stp α h H (α ++ [p]) (h ++ [x]) (upd H p u) := by
  have hl : ∀ {b}, liv (α ++ [p]) (h ++ [x]) b → liv α h b ∨ b = p := fun {b} ⟨m, zs, e1, e2, e3⟩ => by
    by_cases hm : m < h.length
    · rw [List.getElem?_append_left hm] at e2
      rw [List.getElem?_append_left (by rw [r.len]; exact hm)] at e1
      exact .inl ⟨m, zs, e1, e2, e3⟩
    · rw [List.getElem?_append_right (by rw [r.len]; omega)] at e1
      have hm2 : m - α.length = 0 := by
        by_cases z : m - α.length = 0
        · exact z
        · rw [List.getElem?_eq_none (by simp; omega)] at e1
          cases e1
      rw [hm2] at e1
      simp at e1
      exact .inr e1.symm
  have k : Kp (liv α h) (liv (α ++ [p]) (h ++ [x])) H (upd H p u) :=
    ⟨r.lst, fun b o z _ _ => ext_new n b o z, fun b l => (hl l).imp_right fun z => by rw [z]; exact n⟩
  refine ⟨⟨by simp [r.len], fun m zs z lz => ?_, fun m1 m2 b x1 x2 a1 a2 z1 l1 z2 l2 => ?_, r.tabs.ext (ext_new n)⟩, ⟨⟨[p], rfl⟩, fun b o z _ _ => ext_new n b o z, fun b ps z => ⟨ps, ext_new n b _ z⟩, k.mem⟩⟩
  · by_cases hm : m < h.length
    · rw [List.getElem?_append_left hm] at z
      obtain ⟨b, e1, e2⟩ := r.cel m zs z lz
      obtain ⟨o, e3, _⟩ := e2.obj
      exact ⟨b, by rw [List.getElem?_append_left (by rw [r.len]; exact hm)]; exact e1, e2.kp k ((ext_new n b _ e3).trans e3.symm)⟩
    · have hm2 : m = h.length := by
        by_cases w : m = h.length
        · exact w
        · rw [List.getElem?_eq_none (by simp; omega)] at z
          cases z
      subst hm2
      simp at z
      subst z
      exact ⟨p, by rw [← r.len]; simp, q⟩
  · have f : ∀ {m : Nat} {x' : Cell}, (α ++ [p])[m]? = some b → (h ++ [x])[m]? = some x' → x'.live → (m < h.length ∧ α[m]? = some b ∧ h[m]? = some x' ∧ x'.live) ∨ (m = h.length ∧ b = p) := fun {m x'} w1 w2 w3 => by
      by_cases hm : m < h.length
      · rw [List.getElem?_append_left hm] at w2
        rw [List.getElem?_append_left (by rw [r.len]; exact hm)] at w1
        exact .inl ⟨hm, w1, w2, w3⟩
      · have hm2 : m = h.length := by
          by_cases w : m = h.length
          · exact w
          · rw [List.getElem?_eq_none (by simp; omega)] at w2
            cases w2
        subst hm2
        rw [← r.len] at w1
        simp at w1
        exact .inr ⟨rfl, w1.symm⟩
    rcases f a1 z1 l1 with ⟨d1, b1, c1, t1⟩ | ⟨d1, b1⟩ <;> rcases f a2 z2 l2 with ⟨d2, b2, c2, t2⟩ | ⟨d2, b2⟩
    · exact r.ij _ _ _ _ _ b1 b2 c1 t1 c2 t2
    · obtain ⟨o, y2, _⟩ := (r.objAt c1 t1 b1).obj
      rw [b2, n] at y2
      cases y2
    · obtain ⟨o, y2, _⟩ := (r.objAt c2 t2 b2).obj
      rw [b1, n] at y2
      cases y2
    · omega
theorem HR.made {p : Addr} {xs : List D} {vs : List V} (r : HR c α h H) (n : H p = none) (q : FDs c.K (liv α h) H vs xs) :
    HR c (α ++ [p]) (h ++ [Cell.lst xs]) (upd H p (.lst vs)) ∧ Stp α h H (α ++ [p]) (h ++ [Cell.lst xs]) (upd H p (.lst vs)) := by
  refine r.madeC n trivial ⟨vs, upd_same, q.mono ⟨r.lst, fun b o z _ _ => ext_new n b o z, ?_⟩⟩
  rintro b ⟨m, zs, e1, e2, e3⟩
  by_cases hm : m < h.length
  · rw [List.getElem?_append_left hm] at e2
    rw [List.getElem?_append_left (by rw [r.len]; exact hm)] at e1
    exact .inl ⟨m, zs, e1, e2, e3⟩
  · rw [List.getElem?_append_right (by rw [r.len]; omega)] at e1
    have hm2 : m - α.length = 0 := by
      by_cases z : m - α.length = 0
      · exact z
      · rw [List.getElem?_eq_none (by simp; omega)] at e1
        cases e1
    rw [hm2] at e1
    simp at e1
    exact .inr (by rw [← e1]; exact n)
/-- cells forgotten: α', h' picked out of α, h by an injective map of places -/
theorem HR.pick {α' : List Addr} {h' : IH} (r : HR c α h H) (hl : α'.length = h'.length) (f : Nat → Nat) (hf : ∀ (n : Nat) (x : Cell), h'[n]? = some x → x.live → h[f n]? = some x ∧ α'[n]? = α[f n]?)
    (inj : ∀ n m, n < h'.length → m < h'.length → f n = f m → n = m) : HR c α' h' H ∧ ∀ b, liv α' h' b → liv α h b := by
  have hv : ∀ b, liv α' h' b → liv α h b := fun b ⟨n, x, e1, e2, e3⟩ => by
    obtain ⟨q1, q2⟩ := hf n x e2 e3
    exact ⟨f n, x, by rw [← q2]; exact e1, q1, e3⟩
  refine ⟨⟨hl, fun n x e lx => ?_, fun n m a x y a1 a2 z1 l1 z2 l2 => ?_, r.tabs⟩, hv⟩
  · obtain ⟨q1, q2⟩ := hf n x e lx
    obtain ⟨a, e1, e2⟩ := r.cel _ _ q1 lx
    exact ⟨a, by rw [q2]; exact e1, e2.kp ⟨r.lst, fun _ _ z _ _ => z, fun b l => .inl (hv b l)⟩ rfl⟩
  · obtain ⟨q1, q2⟩ := hf n x z1 l1
    obtain ⟨q3, q4⟩ := hf m y z2 l2
    exact inj n m (List.getElem?_eq_some_iff.mp z1).1 (List.getElem?_eq_some_iff.mp z2).1 (r.ij _ _ a _ _ (by rw [← q2]; exact a1) (by rw [← q4]; exact a2) q1 l1 q3 l2)
theorem getElem?_take_lt {β : Type} {l : List β} {n m : Nat} {x : β} (e : (l.take n)[m]? = some x) : m < n ∧ l[m]? = some x := by
  have h1 : m < (l.take n).length := (List.getElem?_eq_some_iff.mp e).1
  rw [List.length_take] at h1
  have hm : m < n := by omega
  rw [List.getElem?_take_of_lt hm] at e
  exact ⟨hm, e⟩
/-- a def's end -/
theorem HR.cut (r0 : HR c α h H) (r : HR c α1 h1 H1) (s : Stp α h H α1 h1 H1) : HR c α (h1.take h.length) H1 ∧ Stp α h H α (h1.take h.length) H1 := by
  obtain ⟨β, eβ⟩ := s.pre
  have hlen : h.length ≤ h1.length := by rw [← r.len, ← r0.len, eβ, List.length_append]; omega
  obtain ⟨q, hv⟩ := r.pick (α' := α) (h' := h1.take h.length) (by rw [List.length_take, r0.len]; omega) id (fun n xs e _ => by
    obtain ⟨l, e'⟩ := getElem?_take_lt e
    refine ⟨e', ?_⟩
    show α[n]? = α1[n]?
    rw [eβ, List.getElem?_append_left (by rw [r0.len]; exact l)]) (fun _ _ _ _ e => e)
  exact ⟨q, ⟨[], by simp⟩, s.keep, s.tbl, fun b l => s.mem b (hv b l)⟩
/-- .. that hands back a new cell -/
theorem HR.cut1 {n : Nat} {a : Addr} {c' : Cell} (r0 : HR c α h H) (r : HR c α1 h1 H1) (s : Stp α h H α1 h1 H1) (hn : h.length ≤ n) (ea : α1[n]? = some a) (ec : h1[n]? = some c') :
    HR c (α ++ [a]) (h1.take h.length ++ [c']) H1 ∧ Stp α h H (α ++ [a]) (h1.take h.length ++ [c']) H1 := by
  obtain ⟨β, eβ⟩ := s.pre
  have hlen : h.length ≤ h1.length := by rw [← r.len, ← r0.len, eβ, List.length_append]; omega
  have htl : (h1.take h.length).length = h.length := by rw [List.length_take]; omega
  obtain ⟨q, hv⟩ := r.pick (α' := α ++ [a]) (h' := h1.take h.length ++ [c']) (by simp [r0.len]; omega) (fun m => if m < h.length then m else n) (fun m xs e _ => by
    by_cases hm : m < h.length
    · rw [List.getElem?_append_left (by omega)] at e
      obtain ⟨l, e'⟩ := getElem?_take_lt e
      rw [if_pos hm]
      refine ⟨e', ?_⟩
      rw [eβ, List.getElem?_append_left (by rw [r0.len]; exact l), List.getElem?_append_left (by rw [r0.len]; exact l)]
    · rw [if_neg hm]
      have hm2 : m = h.length := by
        have := (List.getElem?_eq_some_iff.mp e).1
        simp at this
        omega
      subst hm2
      have e2 : some c' = some xs := by
        rw [← e, List.getElem?_append_right (by omega), htl]
        simp
      refine ⟨by rw [ec]; exact e2, ?_⟩
      rw [ea, List.getElem?_append_right (by rw [r0.len]; omega), r0.len]
      simp) (fun m1 m2 l1 l2 e => by
    have b1 : m1 ≤ h.length := by simp at l1; omega
    have b2 : m2 ≤ h.length := by simp at l2; omega
    by_cases c1 : m1 < h.length <;> by_cases c2 : m2 < h.length
    · simpa [c1, c2] using e
    · simp [c1, c2] at e; omega
    · simp [c1, c2] at e; omega
    · omega)
  exact ⟨q, ⟨[a], rfl⟩, s.keep, s.tbl, fun b l => s.mem b (hv b l)⟩
end
end RR

-- RR3
set_option maxHeartbeats 2000000
/-! Values, slots, results; calls. -/
namespace RR
open PySem PySem.Spec L2

section
variable {c : Cs} {α α1 : List Addr} {h h1 : IH} {H H1 : Hp}
theorem RV.mono (r : HR c α h H) (s : Stp α h H α1 h1 H1) {x : Val} {v : V} (q : RV c (liv α h) α H x v) : RV c (liv α1 h1) α1 H1 x v := q.kp (s.kp r) fun _ _ e => s.get e
theorem RVs.mono (r : HR c α h H) (s : Stp α h H α1 h1 H1) {xs : List Val} {vs : List V} (q : RVs c (liv α h) α H xs vs) : RVs c (liv α1 h1) α1 H1 xs vs := Paired.mp q fun _ _ z => z.mono r s
theorem RVs.dats {M : Addr → Prop} : ∀ {xs : List Val} {vs : List V} {ds : List D}, RVs c M α H xs vs → dats xs h = some ds → FDs c.K M H vs ds
  | [], _, _, q, e => by
    cases q
    simp [RR.dats] at e
    subst e
    exact .nil
  | .d x :: xs, _, _, q, e => by
    cases q with
    | cons a b =>
      simp only [RR.dats] at e
      cases z : RR.dats xs h with
      | none => rw [z] at e; cases e
      | some ys =>
        rw [z] at e
        cases e
        exact .cons a (RVs.dats b z)
  | .ref _ :: _, _, _, _, e => by simp [RR.dats] at e
  | .fn _ :: _, _, _, _, e => by simp [RR.dats] at e
  | .clo _ _ :: _, _, _, _, e => by simp [RR.dats] at e
  | .fd _ _ :: _, _, _, _, e => by simp [RR.dats] at e
/-- slots -/
def SR (c : Cs) (M : Addr → Prop) (α : List Addr) (H : Hp) (env : Env) (σ : St) : Prop := env.length = σ.length ∧ ∀ (i : Nat) (x : Val), env[i]? = some (some x) → ∃ v, σ[i]? = some (some v) ∧ RV c M α H x v
theorem SR.mono (r : HR c α h H) (s : Stp α h H α1 h1 H1) {env : Env} {σ : St} (q : SR c (liv α h) α H env σ) : SR c (liv α1 h1) α1 H1 env σ := ⟨q.1, fun i x e => by
  obtain ⟨v, e1, e2⟩ := q.2 i x e
  exact ⟨v, e1, e2.mono r s⟩⟩
theorem SR.set {M : Addr → Prop} {env : Env} {σ : St} (q : SR c M α H env σ) {i : Nat} {x : Val} {v : V} (z : RV c M α H x v) : SR c M α H (env.set i (some x)) (σ.set i (some v)) := by
  refine ⟨by rw [List.length_set, List.length_set]; exact q.1, fun j y e => ?_⟩
  by_cases hj : i = j
  · subst hj
    have hi : i < env.length := by
      have := (List.getElem?_eq_some_iff.mp e).1
      rw [List.length_set] at this
      exact this
    rw [List.getElem?_set_self hi] at e
    cases e
    exact ⟨v, List.getElem?_set_self (by rw [← q.1]; exact hi), z⟩
  · rw [List.getElem?_set_ne hj] at e ⊢
    exact q.2 j y e
theorem SR.wipe {M : Addr → Prop} {env env' : Env} {σ : St} {vs : List Nat} (q : SR c M α H env σ) (hl : env'.length = env.length) (he : ∀ (i : Nat) (x : Val), env'[i]? = some (some x) → env[i]? = some (some x) ∧ i ∉ vs) : SR c M α H env' (L2.wipe σ vs) := by
  refine ⟨by rw [hl, wipe_length]; exact q.1, fun i x e => ?_⟩
  obtain ⟨e1, e2⟩ := he i x e
  obtain ⟨v, q1, q2⟩ := q.2 i x e1
  refine ⟨v, ?_, q2⟩
  clear he e hl
  induction vs with
  | nil => exact q1
  | cons w vs ih =>
    simp only [List.mem_cons, not_or] at e2
    show ((L2.wipe σ vs).set w none)[i]? = _
    rw [List.getElem?_set_ne (fun z => e2.1 z.symm)]
    exact ih e2.2

/-! ### results -/
/-- an exception that was made so lies so -/
def XR (c : Cs) (M : Addr → Prop) (H : Hp) (x : Exc) (cls : Value) (d : Option Addr) : Prop := cls = c.cls x.cls ∧ match x.arg with
  | none => d = none
  | some a => ∃ dd v, d = some dd ∧ H dd = some (.xd [(c.atr x.cls, v)]) ∧ FD c.K M H v a
theorem XR.mono {M M' : Addr → Prop} {H H' : Hp} (k : Kp M M' H H') {x : Exc} {cls : Value} {d : Option Addr} (q : XR c M H x cls d) : XR c M' H' x cls d := by
  obtain ⟨e, q⟩ := q
  refine ⟨e, ?_⟩
  cases z : x.arg with
  | none => rw [z] at q; exact q
  | some a =>
    rw [z] at q
    obtain ⟨dd, v, q1, q2, q3⟩ := q
    exact ⟨dd, v, q1, k.stays q2 (fun w => w) (fun _ w => nomatch w), q3.mono k⟩
end
/-- how a result lies: at the end some α', H' in relation, come from α, h, H -/
def Post {β γ : Type} (c : Cs) (R : (Addr → Prop) → List Addr → Hp → β → γ → Prop) (α : List Addr) (h : IH) (H : Hp) (r : Res β) (Q : γ → Hp → Prop) (E : XK) : Prop := match r with
  | .ok v h' => ∀ v' α' H', HR c α' h' H' → Stp α h H α' h' H' → R (liv α' h') α' H' v v' → Q v' H'
  | .exc x h' => ∀ cls d α' H', HR c α' h' H' → Stp α h H α' h' H' → XR c (liv α' h') H' x cls d → E cls d H'
  | .stuck => False
section
variable {c : Cs} {α α1 : List Addr} {h h1 : IH} {H H1 : Hp} {E : XK}
theorem Post.here {β γ : Type} {R : (Addr → Prop) → List Addr → Hp → β → γ → Prop} {v : β} {v' : γ} {Q : γ → Hp → Prop} (p : Post c R α h H (.ok v h) Q E) (r : HR c α h H) (q : R (liv α h) α H v v') : Q v' H :=
  p v' α H r Stp.refl q
theorem Post.at_ {β γ : Type} {R : (Addr → Prop) → List Addr → Hp → β → γ → Prop} {v : β} {v' : γ} {Q : γ → Hp → Prop} (p : Post c R α h H (.ok v h1) Q E) (r : HR c α1 h1 H1) (s : Stp α h H α1 h1 H1) (q : R (liv α1 h1) α1 H1 v v') : Q v' H1 :=
  p v' α1 H1 r s q
/-- from a later state -/
theorem Post.from {β γ : Type} {R : (Addr → Prop) → List Addr → Hp → β → γ → Prop} {r : Res β} {Q : γ → Hp → Prop} (p : Post c R α h H r Q E) (s : Stp α h H α1 h1 H1) : Post c R α1 h1 H1 r Q E := by
  cases r with
  | ok v h2 => exact fun v' α' H' a b q => p v' α' H' a (s.trans b) q
  | exc x h2 => exact fun cls d α' H' a b q => p cls d α' H' a (s.trans b) q
  | stuck => exact p
theorem Post.mono {β γ : Type} {R : (Addr → Prop) → List Addr → Hp → β → γ → Prop} {r : Res β} {Q Q' : γ → Hp → Prop} (p : Post c R α h H r Q E) (k : ∀ v H, Q v H → Q' v H) : Post c R α h H r Q' E := by
  cases r with
  | ok v h2 => exact fun v' α' H' a b q => k _ _ (p v' α' H' a b q)
  | exc x h2 => exact p
  | stuck => exact p
/-- one thing, then another, from a later state; what follows is kept from the earlier one -/
theorem Post.bindAt {β γ β' γ' : Type} {R : (Addr → Prop) → List Addr → Hp → β → γ → Prop} {R' : (Addr → Prop) → List Addr → Hp → β' → γ' → Prop} {r : Res β} {k : β → IH → Res β'} {Q : γ' → Hp → Prop} {α' : List Addr} {h' : IH} {H' : Hp} (s : Stp α h H α' h' H') (p : Post c R' α h H (r.bind k) Q E) :
    Post c R α' h' H' r (fun v' H'' => ∃ v h1 α1, HR c α1 h1 H'' ∧ Stp α' h' H' α1 h1 H'' ∧ R (liv α1 h1) α1 H'' v v' ∧ Post c R' α h H (k v h1) Q E) E := by
  cases r with
  | ok v h2 => exact fun v' α' H' a b q => ⟨v, h2, α', a, b, q, p⟩
  | exc x h2 => exact fun cls d α' H' a b q => p cls d α' H' a (s.trans b) q
  | stuck => exact p.elim
theorem Post.bindCAt {β γ β' γ' : Type} {R : (Addr → Prop) → List Addr → Hp → β → γ → Prop} {R' : (Addr → Prop) → List Addr → Hp → β' → γ' → Prop} {r : Res β} {k : β → IH → Res β'} {Q : γ' → Hp → Prop} {α' : List Addr} {h' : IH} {H' : Hp} (s : Stp α h H α' h' H') (p : Post c R' α h H (r.calm.bind k) Q E) :
    Post c R α' h' H' r (fun v' H'' => ∃ v h1 α1, HR c α1 h1 H'' ∧ Stp α' h' H' α1 h1 H'' ∧ R (liv α1 h1) α1 H'' v v' ∧ Post c R' α h H (k v h1) Q E) (fun _ _ _ => False) := by
  cases r with
  | ok v h2 => exact fun v' α' H' a b q => ⟨v, h2, α', a, b, q, p⟩
  | exc x h2 => exact p.elim
  | stuck => exact p.elim
/-- one thing, then another -/
theorem Post.bind {β γ β' γ' : Type} {R : (Addr → Prop) → List Addr → Hp → β → γ → Prop} {R' : (Addr → Prop) → List Addr → Hp → β' → γ' → Prop} {r : Res β} {k : β → IH → Res β'} {Q : γ' → Hp → Prop} (p : Post c R' α h H (r.bind k) Q E) :
    Post c R α h H r (fun v' H' => ∃ v h1 α1, HR c α1 h1 H' ∧ Stp α h H α1 h1 H' ∧ R (liv α1 h1) α1 H' v v' ∧ Post c R' α1 h1 H' (k v h1) Q E) E := by
  cases r with
  | ok v h2 => exact fun v' α' H' a b q => ⟨v, h2, α', a, b, q, Post.from p b⟩
  | exc x h2 => exact p
  | stuck => exact p.elim
theorem Post.bindC {β γ β' γ' : Type} {R : (Addr → Prop) → List Addr → Hp → β → γ → Prop} {R' : (Addr → Prop) → List Addr → Hp → β' → γ' → Prop} {r : Res β} {k : β → IH → Res β'} {Q : γ' → Hp → Prop} (p : Post c R' α h H (r.calm.bind k) Q E) :
    Post c R α h H r (fun v' H' => ∃ v h1 α1, HR c α1 h1 H' ∧ Stp α h H α1 h1 H' ∧ R (liv α1 h1) α1 H' v v' ∧ Post c R' α1 h1 H' (k v h1) Q E) (fun _ _ _ => False) := by
  cases r with
  | ok v h2 => exact fun v' α' H' a b q => ⟨v, h2, α', a, b, q, Post.from p b⟩
  | exc x h2 => exact p.elim
  | stuck => exact p.elim
end

/-! ### a def that keeps a promise, where no repr runs around -/
structure FnG (P : Program) (w : World) (K : PySem.W.Frag) (mg : Str → Option Value) (base : Heap) (k : Nat) (f : Addr) (fd : FuncData) (ps : List Str) (sp : Sp) : Prop where
  len : ∀ vs H Q E, sp vs H Q E → vs.length = ps.length
  run : ∀ (A : Around) (outer : List PySem.Env) (s : Shared) (H : Hp) (args : Args) (us : List Value) (vs : List V) (Q : VK) (E : XK), A.guards = some [] → Room k A → Env0 P w K mg base A outer s H → BindsTo s fd args (ps.zip us) → Vals vs us → sp vs H Q E →
    codeAny (model P w) A (.call (.ref f) args) (CR (L2.CX P w) outer P w H s Q E) s
section
variable {X : Cx} {k : Nat} {f : Addr} {fd : FuncData} {ps : List Str} {sp : Sp} {W : WX} {x : Str} {p pos : Pos} {es : List Expr} {t : TA}
theorem run_g {pins : List (Addr × Obj)} {σ : St} {H : Hp} {s : Shared} {Q : VK} {us : List Value} {vs : List V} {args : Args} (F : FnG X.prog X.w X.K X.mg X.base k f fd ps sp) (hg : X.A.guards = some []) (hr : Room k X.A) (tk : Takes X W)
    (I : Inv X pins σ H s) (b : BindsTo s fd args (ps.zip us)) (r : Vals vs us) (h : sp vs H Q (WE W σ)) : wpAny (model X.prog X.w) X.A (call (.ref f) args.pos args.kw) (EP X pins σ Q) X.xe s := by
  refine wpAny_call (codeAny_mono (F.run X.A X.stack s H args us vs Q (WE W σ) hg hr I.env0 b r h) fun r s' hq => ?_)
  match r, hq with
  | .error e, hq => exact passAt tk σ pins H s e s' I hq
  | .ok (.ret u), hq => exact I.after hq
def tCallG (W : WX) (sp : Sp) (t : TA) : TE := fun σ H Q => t σ H fun vs H1 => sp vs H1 Q (WE W σ)
theorem noStar {es : List Expr} {env : PySem.Env} (h : es.all (fun e => match e with | .Starred .. => false | _ => true) = true) : starEach es env = es.map fun e => (false, eval e env) := by
  induction es with
  | nil => rfl
  | cons e es ih =>
    rw [List.all_cons, Bool.and_eq_true] at h
    have z := ih h.2
    cases e <;> first | (simp at h; done) | (show _ :: _ = _; rw [z]; rfl)
theorem plain_star {es : List Expr} {env : PySem.Env} {pos : Pos} (h : es.all (fun e => match e with | .Starred .. => false | _ => true) = true) : (backTo pos (starEach es env)).any (·.1) = false := by
  rw [noStar h]
  unfold backTo
  rw [List.any_map, List.any_map]
  rw [List.any_eq_false]
  intro e _
  simp
abbrev noSt (es : List Expr) : Bool := es.all (fun e => match e with | .Starred .. => false | _ => true)
theorem pe_callG (F : FnG X.prog X.w X.K X.mg X.base k f fd ps sp) (hg : X.A.guards = some []) (hr : Room k X.A) (tk : Takes X W) (hgl : Gl X x) (hm : X.mg x = some (.ref f)) (hk : PySem.W.keepIn X.K (.ref f) = true) (hb : Binds X.K fd ps [])
    (ha : PA X es t) (he : es ≠ []) (hs : noSt es = true) (hdb : (x == ("__debug__" : Str)) = false) : PE X (.Call (.Name x p) es [] pos) (tCallG W sp t) := by
  refine ⟨fun pins s σ H Q I h => ?_⟩
  refine wpAny_Call_Name_kw (ld_glob I hgl hm ?_ hdb)
  have fin : ∀ {us : List Value} {s1 : Shared}, AP X pins σ (fun vs H1 => sp vs H1 Q (WE W σ)) us s1 → X.K.In s1.heap ∧ wpAny (model X.prog X.w) X.A (call (.ref f) us) (EP X pins σ Q) X.xe s1 := fun {us s1} ⟨vs, H1, I1, r, q⟩ => by
    refine ⟨I1.kIn, ?_⟩
    have hl : us.length = ps.length := by rw [← r.length]; exact F.len _ _ _ _ q
    have b := hb s1 us I1.kIn (by rw [List.append_nil]; exact hl)
    rw [List.append_nil] at b
    exact run_g (args := ⟨us, []⟩) F hg hr tk I1 b r q
  cases es with
  | nil => exact absurd rfl he
  | cons e es =>
    have h1 : starEach (e :: es) X.env = (false, eval e X.env) :: starEach es X.env := by
      have q : noSt es = true := by
        have z : (_ && noSt es) = true := hs
        exact (Bool.and_eq_true_iff.mp z).2
      rw [noStar hs, noStar q]
      rfl
    have h2 : (backTo pos (starEach es X.env)).any (·.1) = false := plain_star (by
      have z : (_ && noSt es) = true := hs
      exact (Bool.and_eq_true_iff.mp z).2)
    exact PySem.W.callWith_K (h₀ := X.base) I.ok.mod.kin hk (thn (ha.run pos pins s σ H _ I h) fun us s1 q => fin q) h1 h2
theorem pe_callGD {dvs : List V} {ds : List Value} (rd : Vals dvs ds) (F : FnG X.prog X.w X.K X.mg X.base k f fd ps sp) (hg : X.A.guards = some []) (hr : Room k X.A) (tk : Takes X W) (hgl : Gl X x) (hm : X.mg x = some (.ref f)) (hk : PySem.W.keepIn X.K (.ref f) = true) (hb : Binds X.K fd ps ds)
    (ha : PA X es t) (he : es ≠ []) (hs : noSt es = true) (hdb : (x == ("__debug__" : Str)) = false) : PE X (.Call (.Name x p) es [] pos) (fun σ H Q => t σ H fun vs H1 => sp (vs ++ dvs) H1 Q (WE W σ)) := by
  refine ⟨fun pins s σ H Q I h => ?_⟩
  refine wpAny_Call_Name_kw (ld_glob I hgl hm ?_ hdb)
  have fin : ∀ {us : List Value} {s1 : Shared}, AP X pins σ (fun vs H1 => sp (vs ++ dvs) H1 Q (WE W σ)) us s1 → X.K.In s1.heap ∧ wpAny (model X.prog X.w) X.A (call (.ref f) us) (EP X pins σ Q) X.xe s1 := fun {us s1} ⟨vs, H1, I1, r, q⟩ => by
    refine ⟨I1.kIn, ?_⟩
    have hl : (us ++ ds).length = ps.length := by rw [← (r.append rd).length]; exact F.len _ _ _ _ q
    exact run_g (args := ⟨us, []⟩) F hg hr tk I1 (hb s1 us I1.kIn hl) (r.append rd) q
  cases es with
  | nil => exact absurd rfl he
  | cons e es =>
    have h1 : starEach (e :: es) X.env = (false, eval e X.env) :: starEach es X.env := by
      have q : noSt es = true := by
        have z : (_ && noSt es) = true := hs
        exact (Bool.and_eq_true_iff.mp z).2
      rw [noStar hs, noStar q]
      rfl
    have h2 : (backTo pos (starEach es X.env)).any (·.1) = false := plain_star (by
      have z : (_ && noSt es) = true := hs
      exact (Bool.and_eq_true_iff.mp z).2)
    exact PySem.W.callWith_K (h₀ := X.base) I.ok.mod.kin hk (thn (ha.run pos pins s σ H _ I h) fun us s1 q => fin q) h1 h2
theorem pe_callG0 (F : FnG X.prog X.w X.K X.mg X.base k f fd ps sp) (hg : X.A.guards = some []) (hr : Room k X.A) (tk : Takes X W) (hgl : Gl X x) (hm : X.mg x = some (.ref f)) (hk : PySem.W.keepIn X.K (.ref f) = true) (hb : Binds X.K fd ps [])
    (hdb : (x == ("__debug__" : Str)) = false) : PE X (.Call (.Name x p) [] [] pos) (tCallG W sp tNil) := by
  refine ⟨fun pins s σ H Q I h => ?_⟩
  refine wpAny_Call_Name_kw (ld_glob I hgl hm ?_ hdb)
  refine PySem.W.callWith_K0 I.kIn hk ?_
  have hl : ([] : List Value).length = ps.length := F.len [] _ _ _ h
  have b := hb s [] I.kIn (by simpa using hl)
  exact run_g (args := ⟨[], []⟩) (us := []) (vs := []) F hg hr tk I (by simpa using b) .nil h
end
end RR

-- RRT
set_option maxHeartbeats 4000000
/-! Tuples that are made: their objects are known (no dict of their own). -/
namespace RR
open PySem PySem.Spec PyProof.Rows L2
/-- a new tuple, its object known -/
def NewT (H : Hp) (xs : List V) (Q : VK) : Prop := ∀ p o, H p = none → o.dict = none → Q (.ref p) (upd H p (.frz o (.tup xs)))
section
variable {X : Cx} {pins : List (Addr × Obj)} {σ : L2.St} {H : Hp} {s : Shared}
theorem newT_inv {us : List Value} {xs : List V} {g : Heap} {tk : Nat} {Q : VK} (I : Inv X pins σ H { s with heap := g, toks := tk }) (r : Vals xs us) (z : xs.length ≤ sizeLine) (q : NewT H xs Q) :
    ∃ v H', Inv X pins σ H' { s with heap := g.push { cls := .type "tuple", data := .seq us.toArray }, toks := tk } ∧ RelV v (.ref g.objs.size) ∧ Q v H' := by
  have new : ObjOk X.prog X.w (upd H g.objs.size (.frz { cls := .type "tuple", data := .seq us.toArray } (.tup xs))) (g.push { cls := .type "tuple", data := .seq us.toArray }) g.objs.size (.frz { cls := .type "tuple", data := .seq us.toArray } (.tup xs)) :=
    ⟨Heap.get?_push_size g rfl, z, us, r, IsTup.new _ _⟩
  exact ⟨.ref g.objs.size, _, I.laid (t' := tk) (fun _ _ h => Heap.get?_push_of_some _ h) (Nat.le_refl _) new, rfl, q _ _ (I.hok.fresh (Nat.le_refl _)) rfl⟩
end
section
variable {X : Cx}
def tTupN (t : TA) : TE := fun σ H Q => t σ H fun xs H1 => xs.length ≤ sizeLine ∧ NewT H1 xs Q
theorem pe_tupN {es : List Expr} {t : TA} {j pos} (ht : PA X es t) : PE X (.Tuple es j pos) (tTupN t) := by
  refine ⟨fun pins s σ H Q I hq => ?_⟩
  refine wpAny_Tuple_spliced (thn (ht.run pos pins s σ H _ I hq) fun us s1 ⟨ys, H1, I1, r, z, q⟩ => ⟨by rw [← r.length]; exact z, ?_⟩)
  exact newT_inv (tk := s1.toks) (g := s1.heap) (s := s1) I1 r z q
theorem call_tupleN : CallR X (.type "tuple") (fun xs H Q => ∃ a ys, xs = [.ref a] ∧ ((SqL X.K H a ys ∧ NewT H ys Q) ∨ (SqT X.K H a ys ∧ Q (.ref a) H))) := by
  intro pins s σ H xs us Q I r ⟨a, ys, ex, h⟩
  subst ex
  obtain ⟨u, rfl, ru⟩ := vals1 r
  cases ru
  rcases h with ⟨sq, q⟩ | ⟨sq, q⟩
  · obtain ⟨items, rv, pl, hz⟩ := I.list sq
    have hl := rv.length
    refine call_tuple_list pl.isList (fun g kp => ?_) (by simp only [List.size_toArray] <;> omega)
    exact newT_inv (tk := s.toks) (g := g) (s := s) (I.kept (t' := s.toks) kp) rv hz q
  · obtain ⟨items, rv, pl, hz⟩ := I.tuple sq
    exact call_tuple_same pl ⟨.ref a, H, I, rfl, q⟩
/-- t[lo:hi] -/
def rSlN (K : PySem.W.Frag) : V → Option Int → Option Int → Hp → VK → Prop := fun x lo hi H Q => ∃ a xs, x = .ref a ∧ SqT K H a xs ∧
  (HT.sIx xs.length 0 lo = 0 ∧ HT.sIx xs.length xs.length hi = xs.length → Q (.ref a) H) ∧ (¬ (HT.sIx xs.length 0 lo = 0 ∧ HT.sIx xs.length xs.length hi = xs.length) → NewT H (cutV xs lo hi) Q)
theorem sl_tupN : SlR X (rSlN X.K) := by
  intro pins s σ H x v vl vu lo hi sl Q I rx hs pl pu ⟨a, xs, ex, sq, q1, q2⟩
  subst ex
  cases rx
  obtain ⟨items, rv, it, hz⟩ := I.tuple sq
  have es : items.toArray.size = xs.length := by rw [List.size_toArray, rv.length]
  refine ⟨"tuple", _, PyProof.Rows.slot_tuple_getitem.lookup, it.typeIs, ?_⟩
  by_cases whole : HT.sIx xs.length 0 lo = 0 ∧ HT.sIx xs.length xs.length hi = xs.length
  · exact getItem_tuple_whole it hs pl pu (by rw [es]; exact whole) ⟨.ref a, H, I, rfl, q1 whole⟩
  · refine HT.getItem_tuple_cut it hs pl pu (by rw [es]; exact whole) ?_ (by rw [es]; exact hz)
    rw [es]
    exact newT_inv (tk := s.toks) (g := s.heap) (s := s) I ((rv.drop (HT.sIx xs.length 0 lo)).take (HT.sIx xs.length xs.length hi - HT.sIx xs.length 0 lo)) (Nat.le_trans (cutV_length xs lo hi) hz) (q2 whole)
/-- t + u -/
def rCatN (K : PySem.W.Frag) : R2 := fun x y H Q => ∃ a b xs ys, x = .ref a ∧ y = .ref b ∧ SqT K H a xs ∧ SqT K H b ys ∧ xs.length + ys.length ≤ sizeLine ∧
  (xs = [] → Q (.ref b) H) ∧ (xs ≠ [] → ys = [] → Q (.ref a) H) ∧ (xs ≠ [] → ys ≠ [] → NewT H (xs ++ ys) Q)
theorem op_catN : OpR X (binaryOp .Add) (rCatN X.K) := by
  intro pins s σ H x y v u Q I rx ry ⟨a, b, xs, ys, ex, ey, sa, sb, hz, q0, q1, q2⟩
  subst ex
  subst ey
  cases rx
  cases ry
  obtain ⟨ia, ra, ta, _⟩ := I.tuple sa
  obtain ⟨ib, rb, tb, _⟩ := I.tuple sb
  by_cases nil1 : xs = []
  · subst nil1
    cases ra
    exact cat_tup0 ta tb ⟨.ref b, H, I, rfl, q0 rfl⟩
  · refine HT.cat_tup ta tb (fun e => nil1 (ra.nil_iff.mp e)) (fun e => ⟨.ref a, H, I, rfl, q1 nil1 (rb.nil_iff.mp e)⟩) (fun e => ?_) (by rw [← ra.length, ← rb.length]; exact hz)
    exact newT_inv (tk := s.toks) (g := s.heap) (s := s) I (ra.append rb) (by rw [List.length_append]; exact hz) (q2 nil1 fun z => e (rb.nil_iff.mpr z))
theorem call_divmodN : CallR X (.builtin "divmod") (fun xs H Q => ∃ i j, xs = [.int i, .int j] ∧ CDiv i j ∧ NewT H [.int (i / j), .int (i % j)] Q) := by
  intro pins s σ H xs us Q I r ⟨i, j, ex, ⟨c1, c2⟩, q⟩
  subst ex
  obtain ⟨u, y, rfl, ⟨t, rfl⟩, ⟨t2, rfl⟩⟩ := vals2 r
  refine divmod_int (by omega) ?_ (.inl (PyProof.noPylong_small (by omega)))
  rw [Int.fdiv_eq_ediv_of_nonneg i (by omega), Int.fmod_eq_emod_of_nonneg i (by omega)]
  have len : [V.int (i / j), V.int (i % j)].length ≤ sizeLine := by
    rw [sizeLine_eq]
    show 2 ≤ 16777216
    decide
  have vs : Vals [V.int (i / j), V.int (i % j)] [.int (i / j) s.toks, .int (i % j) (s.toks + 1)] := .cons ⟨_, rfl⟩ (.cons ⟨_, rfl⟩ .nil)
  exact newT_inv (g := s.heap) (s := s) (I.kept (t' := _) fun _ _ h => h) vs len q
/-- a tuple no time -/
theorem tuple_zero (l : Addr) (items : Array Value) (m : Nat) (dd : Option Addr) (sl : Array (Option Value)) (k : Int) (u : Tok) (hk : k ≤ 0) (hk2 : -1000 ≤ k) :
    Meets (Builtin.«tuple.__mul__» ⟨[.ref l, .int k u], []⟩) (fun _ R s => s.heap.get? l = some { cls := .type "tuple", dict := dd, data := .seq items m, slots := sl } ∧ items.isEmpty = false ∧
      R (.ok (.ret (Value.ref s.heap.objs.size))) { s with heap := s.heap.push { cls := Value.type "tuple", data := .seq #[] } }) :=
  .of_wp fun prog w A R s h => by
    obtain ⟨hp, g, d, tk, os⟩ := s
    obtain ⟨hl, hne, h⟩ := h
    have f1 := AutoSeq1.idx_int
    have c0 : (decide (k < -(2 ^ 63)) || decide (k ≥ 2 ^ 63)) = false := by
      have a1 : decide (k < -(2 ^ 63)) = false := decide_eq_false (by omega)
      have a2 : decide (k ≥ 2 ^ 63) = false := decide_eq_false (by omega)
      rw [a1, a2] <;> rfl
    have c1 : (items.isEmpty || k == 1) = false := by
      rw [hne, Bool.false_or]
      exact beq_eq_false_iff_ne.mpr (by omega)
    have c2 : (decide (k ≤ 0) || items.isEmpty) = true := by rw [decide_eq_true hk] <;> rfl
    wp_walk using wpAny_loadPart' hl
    repeat (first
      | (refine wpAny_ite_false (decide_eq_false (by rw [c0]; exact Bool.false_ne_true)) ?_; wp_walk using wpAny_loadPart' hl)
      | (refine wpAny_ite_false (decide_eq_false (by rw [c1]; exact Bool.false_ne_true)) ?_; wp_walk using wpAny_loadPart' hl)
      | (refine wpAny_ite_true (decide_eq_true c2) ?_; wp_walk using wpAny_loadPart' hl))
    exact ⟨_, rfl, h⟩
/-- tuple * k -/
def rRepN (K : PySem.W.Frag) : R2 := fun x y H Q => ∃ l k xs, x = .ref l ∧ y = .int k ∧ SqT K H l xs ∧ xs ≠ [] ∧ xs.length ≤ 1000 ∧ -1000 ≤ k ∧ k ≤ 1000 ∧ (k = 1 → Q (.ref l) H) ∧ (k ≤ 0 → NewT H [] Q) ∧ (2 ≤ k → NewT H (List.replicate k.toNat xs).flatten Q)
theorem op_repN (op1 : OpR X (binaryOp .Mult) (fun x y H Q => ∃ l xs, x = .ref l ∧ y = .int 1 ∧ SqT X.K H l xs ∧ Q (.ref l) H)) : OpR X (binaryOp .Mult) (rRepN X.K) := by
  intro pins s σ H x y v u Q I rx ry ⟨l, k, xs, ex, ey, sq, ne, len, lo, hi, q1, q0, q2⟩
  subst ex
  subst ey
  by_cases k1 : k = 1
  · subst k1
    exact op1 pins s σ H _ _ v u Q I rx ry ⟨l, xs, rfl, rfl, sq, q1 rfl⟩
  cases rx
  obtain ⟨t, rfl⟩ := ry
  obtain ⟨its, rv, ⟨⟨cls, dd, data, sl⟩, at_, hc, n, hd⟩, hz⟩ := I.tuple sq
  simp only at hc hd
  subst hc hd
  have el : its.length = xs.length := rv.length.symm
  have en : its.toArray.isEmpty = false := by
    cases its with
    | nil => exact absurd (List.eq_nil_of_length_eq_zero el.symm) ne
    | cons _ _ => rfl
  have es : its.toArray.size = xs.length := by rw [List.size_toArray, el]
  have start : ∀ {R : VK}, wpAny (model X.prog X.w) X.A (call (.builtin "tuple.__mul__") [.ref l, .int k t]) (EP X pins σ R) X.xe s → wpAny (model X.prog X.w) X.A (binaryOp .Mult (.ref l) (.int k t)) (EP X pins σ R) X.xe s := fun {R} h => by
    refine wpAny_binaryOp_repeat_ref (T := "tuple") (U := "int") (by decide) ⟨_, at_, rfl⟩ (fun s' => typeIs_int s' k t) noFill_tuple_mul PySem.F.fills_int_mul PySem.F.slot_int_rmul repeat_tuple PySem.F.slot_int_index.lookup ?_
    exact call_meets PySem.F.slot_int_rmul (typeIs_int s k t) PySem.F.entry_int_rmul (PySem.F.args_int_rmul_2 _ _) (int_rmul_tuple k t l its.toArray n dd sl) ⟨at_, rfl, ⟨_, at_, rfl⟩, h⟩
  refine start ?_
  by_cases k0 : k ≤ 0
  · refine call_meets PySem.F.slot_tuple_mul ⟨_, at_, rfl⟩ PySem.F.entry_tuple_mul (PySem.F.args_tuple_mul_2 _ _) (tuple_zero l its.toArray n dd sl k t k0 lo) ⟨at_, en, ?_⟩
    exact newT_inv (tk := s.toks) (g := s.heap) (s := s) (us := []) I .nil (by rw [sizeLine_eq]; decide) (q0 k0)
  · have mul : ((its.toArray.size : Nat) : Int) * k ≤ 1000000 := by
      rw [es]
      have b1 : ((xs.length : Nat) : Int) * k ≤ 1000 * k := Int.mul_le_mul_of_nonneg_right (by omega) (by omega)
      omega
    have nat : k.toNat * xs.length ≤ 1000 * 1000 := Nat.mul_le_mul (by omega) len
    have c0 : (decide (k < -(2 ^ 63)) || decide (k ≥ 2 ^ 63)) = false := by
      have a1 : decide (k < -(2 ^ 63)) = false := decide_eq_false (by omega)
      have a2 : decide (k ≥ 2 ^ 63) = false := decide_eq_false (by omega)
      rw [a1, a2] <;> rfl
    have c1 : (its.toArray.isEmpty || k == 1) = false := by
      rw [en, Bool.false_or]
      exact beq_eq_false_iff_ne.mpr k1
    have c2 : (decide (k ≤ 0) || its.toArray.isEmpty) = false := by
      rw [en, Bool.or_false]
      exact decide_eq_false k0
    have c4 : Builtin.Tuple.tupleTooMany (((its.toArray.size : Nat) : Int) * k) = false := by
      unfold Builtin.Tuple.tupleTooMany
      rw [sizeLine_eq]
      exact decide_eq_false (by omega)
    refine call_meets PySem.F.slot_tuple_mul ⟨_, at_, rfl⟩ PySem.F.entry_tuple_mul (PySem.F.args_tuple_mul_2 _ _) (tuple_mulW l its.toArray n dd sl k t c0 c1 c2 (by omega) c4 ?_) ⟨at_, ?_⟩
    · rw [size_rep, List.size_toArray, PyProof.Rows.lm_len_rep_flat, el, sizeLine_eq]
      omega
    · rw [size_rep]
      refine newT_inv (tk := s.toks) (g := s.heap) (s := s) I (rv.rep k.toNat) ?_ (q2 (by omega))
      rw [PyProof.Rows.lm_len_rep_flat, sizeLine_eq]
      omega
end
end RR

-- RR4
set_option maxHeartbeats 2000000
/-! Operations on values. -/
namespace RR
open PySem PySem.Spec L2

/-- data, or a list that may still change -/
def FT (K : PySem.W.Frag) (M : Addr → Prop) (H : Hp) (v : V) (d : D) : Prop := FD K M H v d ∨ ∃ a vs ds, v = .ref a ∧ d = .list ds ∧ H a = some (.lst vs) ∧ FDs K M H vs ds
/-- what is wanted behind an operation: a value of this data -/
def Fin (K : PySem.W.Frag) (M : Addr → Prop) (H : Hp) (d : D) (Q : VK) : Prop := ∀ v H', (∀ b o, H b = some o → H' b = some o) → FD K M H' v d → Q v H'
def Lv (M : Addr → Prop) (H : Hp) : Prop := ∀ a, M a → ∃ o, H a = some o ∧ MutO o
section
variable {K : PySem.W.Frag} {M : Addr → Prop} {H H' : Hp}
theorem Lv.kp (l : Lv M H) (e : ∀ b o, H b = some o → H' b = some o) : Kp M M H H' := ⟨l, fun a o z _ _ => e a o z, fun _ m => .inl m⟩
theorem FT.dp {v : V} {d : D} (f : FT K M H v d) : Dp K H v d := by
  rcases f with f | ⟨a, vs, ds, rfl, rfl, e, q⟩
  · exact f.dp
  · exact .lst (SqL.of e) q.dp
mutual
theorem FD.plain : ∀ {d : D} {v : V}, FD K M H v d → d.plain = true
  | .none, _, _ => rfl
  | .bool _, _, _ => rfl
  | .int _, _, _ => rfl
  | .str _, _, _ => rfl
  | .list ds, _, h => by
    cases h with
    | lst r n q => rw [PyData.plain]; exact FDs.plain q
    | klst r q => rw [PyData.plain]; exact FDs.plain q
  | .tuple ds, _, h => by
    cases h with
    | tup r n q => rw [PyData.plain]; exact FDs.plain q
  | .dict _, _, h => by cases h
theorem FDs.plain : ∀ {ds : List D} {vs : List V}, FDs K M H vs ds → PyData.plainAll ds = true
  | [], _, _ => rfl
  | _ :: _, _, h => by
    cases h with
    | cons a b => rw [PyData.plainAll, FD.plain a, FDs.plain b]; rfl
end
theorem FT.plain {v : V} {d : D} (f : FT K M H v d) : d.plain = true := by
  rcases f with f | ⟨a, vs, ds, rfl, rfl, e, q⟩
  · exact f.plain
  · rw [PyData.plain]; exact q.plain
theorem FT.list {v : V} {ds : List D} (f : FT K M H v (.list ds)) : ∃ a vs, v = .ref a ∧ SqL K H a vs ∧ FDs K M H vs ds := by
  rcases f with f | ⟨a, vs, ds, rfl, e, q, z⟩
  · cases f with
    | lst r n q => exact ⟨_, _, rfl, .inl r, q⟩
    | klst r q => exact ⟨_, _, rfl, .inr r, q⟩
  · cases e
    exact ⟨a, vs, rfl, .inl (Rd.of q), z⟩
theorem FT.tuple {v : V} {ds : List D} (f : FT K M H v (.tuple ds)) : ∃ a vs, v = .ref a ∧ SqT K H a vs ∧ FDs K M H vs ds := by
  rcases f with f | ⟨a, vs, ds, rfl, e, q, z⟩
  · cases f with
    | tup r n q => exact ⟨_, _, rfl, .inl (.inr ⟨_, r⟩), q⟩
  · cases e
theorem FT.tupleN {v : V} {ds : List D} (f : FT K M H v (.tuple ds)) : ∃ a vs o, v = .ref a ∧ H a = some (.frz o (.tup vs)) ∧ o.dict = Option.none ∧ FDs K M H vs ds := by
  rcases f with f | ⟨a, vs, ds, rfl, e, q, z⟩
  · cases f with
    | tup r n q => exact ⟨_, _, _, rfl, r, n, q⟩
  · cases e
theorem FT.int {v : V} {i : Int} (f : FT K M H v (.int i)) : v = .int i := by
  rcases f with f | ⟨a, vs, ds, rfl, e, q, z⟩
  · cases f; rfl
  · cases e
theorem FT.bool {v : V} {i : Bool} (f : FT K M H v (.bool i)) : v = .bl i := by
  rcases f with f | ⟨a, vs, ds, rfl, e, q, z⟩
  · cases f; rfl
  · cases e
theorem FT.none {v : V} (f : FT K M H v .none) : v = .non := by
  rcases f with f | ⟨a, vs, ds, rfl, e, q, z⟩
  · cases f; rfl
  · cases e
theorem FT.str {v : V} {x : Str} (f : FT K M H v (.str x)) : v = .str x := by
  rcases f with f | ⟨a, vs, ds, rfl, e, q, z⟩
  · cases f; rfl
  · cases e
theorem FT.dict {v : V} {x : List (D × D)} (f : FT K M H v (.dict x)) : False := by
  rcases f with f | ⟨a, vs, ds, rfl, e, q, z⟩
  · cases f
  · cases e
/-- a new tuple, a new list -/
theorem FDs.up {p : Addr} {o : HO} (l : Lv M H) (n : H p = Option.none) {vs : List V} {ds : List D} (q : FDs K M H vs ds) : FDs K M (upd H p o) vs ds := q.mono (l.kp (ext_new n))
theorem fd_tup {p : Addr} {o : Obj} (l : Lv M H) (n : H p = Option.none) (od : o.dict = Option.none) {vs : List V} {ds : List D} (q : FDs K M H vs ds) : FD K M (upd H p (.frz o (.tup vs))) (.ref p) (.tuple ds) := .tup upd_same od (q.up l n)
theorem fd_lst {p : Addr} (l : Lv M H) (n : H p = Option.none) {vs : List V} {ds : List D} (q : FDs K M H vs ds) : FD K M (upd H p (.lst vs)) (.ref p) (.list ds) :=
  .lst (.inl upd_same) (fun m => by obtain ⟨xs, e, _⟩ := l p m; rw [n] at e; cases e) (q.up l n)
theorem Fin.tup {ds : List D} {vs : List V} {Q : VK} (f : Fin K M H (.tuple ds) Q) (l : Lv M H) (q : FDs K M H vs ds) : ∀ p o, H p = Option.none → o.dict = Option.none → Q (.ref p) (upd H p (.frz o (.tup vs))) := fun p o n od => f _ _ (ext_new n) (fd_tup l n od q)
theorem Fin.lst {ds : List D} {vs : List V} {Q : VK} (f : Fin K M H (.list ds) Q) (l : Lv M H) (q : FDs K M H vs ds) : ∀ p, H p = Option.none → Q (.ref p) (upd H p (.lst vs)) := fun p n => f _ _ (ext_new n) (fd_lst l n q)
theorem Fin.here {d : D} {v : V} {Q : VK} (f : Fin K M H d Q) (q : FD K M H v d) : Q v H := f v H (fun _ _ e => e) q
end
theorem lim_eq : lim = sizeLine := by rw [sizeLine_eq]; rfl
theorem bnd_eq (n d : Nat) (o : Option Int) : bnd n d o = HT.sIx n d o := by
  cases o <;> rfl
theorem cutD_get {K : PySem.W.Frag} {M : Addr → Prop} {H : Hp} {vs : List V} {ds : List D} (q : FDs K M H vs ds) (lo hi : Option Int) : FDs K M H (cutV vs lo hi) (cutD ds lo hi) := by
  unfold cutV cutD
  rw [bnd_eq, bnd_eq, ← q.length]
  exact (q.drop _).take _

/-! ### operators -/
/-- a two-place operation by data -/
def rD (K : PySem.W.Frag) (g : D → D → Option D) : R2 := fun x y H Q => ∃ M a b d, Lv M H ∧ FT K M H x a ∧ FT K M H y b ∧ g a b = some d ∧ Fin K M H d Q
section
variable {X : Cx}
theorem small_mul {i j : Int} (h : mulOk i j = true) : CMul i j ∨ CMulW i j := by
  unfold mulOk at h
  simp only [Bool.or_eq_true, Bool.and_eq_true, decide_eq_true_eq] at h
  rcases h with (h | h) | h
  · exact .inl (.inl h)
  · exact .inl (.inr h)
  · exact .inr h
theorem flat_nil {α : Type} : ∀ k : Nat, (List.replicate k ([] : List α)).flatten = []
  | 0 => rfl
  | k + 1 => by rw [List.replicate_succ, List.flatten_cons, flat_nil k]; rfl
theorem bin_add : OpR X (binaryOp .Add) (rD X.K (binD .Add)) := by
  intro pins s σ H x y v u Q I rx ry h
  obtain ⟨M, a, b, d, l, fa, fb, e, q⟩ := h
  cases a <;> cases b <;> simp only [binD] at e <;> try (cases e; done)
  · cases e
    cases fa.int; cases fb.int
    exact op_add pins s σ H _ _ v u Q I rx ry ⟨_, _, rfl, rfl, q.here (.int _)⟩
  · rename_i xs ys
    split at e
    · rename_i hz
      cases e
      obtain ⟨p, vs, rfl, s1, q1⟩ := fa.list
      obtain ⟨p2, ws, rfl, s2, q2⟩ := fb.list
      cases rx; cases ry
      obtain ⟨its, r1, e1, z1⟩ := I.list s1
      obtain ⟨its2, r2, e2, z2⟩ := I.list s2
      have l1 := r1.length
      have l2 := r2.length
      have m1 := q1.length
      have m2 := q2.length
      rw [lim_eq] at hz
      obtain ⟨⟨c1, dd, dt, sl⟩, n, ho, hc, _, hd⟩ := e1
      obtain ⟨⟨c2, dd2, dt2, sl2⟩, n2, ho2, hc2, _, hd2⟩ := e2
      simp only at hc hd hc2 hd2
      subst hc hd hc2 hd2
      refine concat_meets ⟨_, ho, rfl⟩ ⟨_, ho2, rfl⟩ noFill_list_add seq_list_add PySem.F.slot_list_add PySem.F.entry_list_add (PySem.F.args_list_add_2 _ _) (PyProof.Rows.list_addW p p2 its.toArray its2.toArray n n2 dd dd2 sl sl2 (by rw [List.size_toArray, List.size_toArray]; omega)) ⟨ho, ho2, ?_⟩
      have ea : its.toArray ++ its2.toArray = (its ++ its2).toArray := by simp
      rw [ea]
      exact ⟨.ref _, _, I.lnew (t' := s.toks) (r1.append r2) (by rw [List.length_append]; omega), rfl, q.lst l (q1.append q2) _ I.fresh⟩
    · cases e
  · rename_i xs ys
    split at e
    · rename_i hz
      cases e
      obtain ⟨p, vs, rfl, s1, q1⟩ := fa.tuple
      obtain ⟨p2, ws, rfl, s2, q2⟩ := fb.tuple
      have m1 := q1.length
      have m2 := q2.length
      rw [lim_eq] at hz
      refine op_catN pins s σ H _ _ v u Q I rx ry ⟨p, p2, vs, ws, rfl, rfl, s1, s2, by omega, fun ev => ?_, fun _ ew => ?_, fun _ _ => q.tup l (q1.append q2)⟩
      · subst ev
        cases q1
        obtain ⟨p', vs', o, ep, g1, g2, g3⟩ := fb.tupleN
        cases ep
        exact q.here (.tup g1 g2 g3)
      · subst ew
        cases q2
        rw [List.append_nil] at q
        obtain ⟨p', vs', o, ep, g1, g2, g3⟩ := fa.tupleN
        cases ep
        exact q.here (.tup g1 g2 g3)
    · cases e
theorem bin_sub : OpR X (binaryOp .Sub) (rD X.K (binD .Sub)) := by
  intro pins s σ H x y v u Q I rx ry h
  obtain ⟨M, a, b, d, l, fa, fb, e, q⟩ := h
  cases a <;> cases b <;> simp only [binD] at e <;> try (cases e; done)
  cases e
  cases fa.int; cases fb.int
  exact op_sub pins s σ H _ _ v u Q I rx ry ⟨_, _, rfl, rfl, q.here (.int _)⟩
/-- a tuple once: itself -/
theorem tuple_once (l : Addr) (items : Array Value) (m : Nat) (dd : Option Addr) (sl : Array (Option Value)) (u : Tok) :
    Meets (Builtin.«tuple.__mul__» ⟨[.ref l, .int 1 u], []⟩) (fun _ R s => s.heap.get? l = some { cls := .type "tuple", dict := dd, data := .seq items m, slots := sl } ∧ R (.ok (.ret (Value.ref l))) s) :=
  .of_wp fun prog w A R s h => by
    obtain ⟨hp, g, d, tk, os⟩ := s
    obtain ⟨hl, h⟩ := h
    have f1 := AutoSeq1.idx_int
    have c0 : (decide ((1 : Int) < -(2 ^ 63)) || decide ((1 : Int) ≥ 2 ^ 63)) = false := by decide
    have c1 : (items.isEmpty || (1 : Int) == 1) = true := by simp
    wp_walk using wpAny_loadPart' hl
    repeat (first
      | (refine wpAny_ite_false (decide_eq_false (by rw [c0]; exact Bool.false_ne_true)) ?_; wp_walk using wpAny_loadPart' hl)
      | (refine wpAny_ite_true (decide_eq_true c1) ?_; wp_walk using wpAny_loadPart' hl))
    exact ⟨_, rfl, h⟩
theorem op_rep1 : OpR X (binaryOp .Mult) (fun x y H Q => ∃ l xs, x = .ref l ∧ y = .int 1 ∧ SqT X.K H l xs ∧ Q (.ref l) H) := by
  intro pins s σ H x y v u Q I rx ry h
  obtain ⟨l, xs, rfl, rfl, hT, q⟩ := h
  cases rx
  obtain ⟨t, rfl⟩ := ry
  obtain ⟨its, r, ⟨⟨cls, dd, data, sl⟩, ho, hc, m, hd⟩, hs⟩ := I.tuple hT
  simp only at hc hd
  subst hc hd
  refine wpAny_binaryOp_repeat_ref (T := "tuple") (U := "int") (by decide) ⟨_, ho, rfl⟩ (fun s' => typeIs_int s' 1 t) noFill_tuple_mul PySem.F.fills_int_mul PySem.F.slot_int_rmul repeat_tuple PySem.F.slot_int_index.lookup ?_
  refine call_meets PySem.F.slot_int_rmul (typeIs_int s 1 t) PySem.F.entry_int_rmul (PySem.F.args_int_rmul_2 _ _) (int_rmul_tuple 1 t l its.toArray m dd sl) ⟨ho, rfl, ⟨_, ho, rfl⟩, ?_⟩
  exact call_meets PySem.F.slot_tuple_mul ⟨_, ho, rfl⟩ PySem.F.entry_tuple_mul (PySem.F.args_tuple_mul_2 _ _) (tuple_once l its.toArray m dd sl t) ⟨ho, ⟨.ref l, H, I, rfl, q⟩⟩
/-- a list no times, or once -/
theorem list_few (l : Addr) (its : Array Value) (m : Nat) (dd : Option Addr) (sl : Array (Option Value)) (k : Int) (u : Tok) (f0 : ¬(!Builtin.List.listFitsIndex k) = true) (f1 : ¬its.size * k.toNat > (2 ^ 63 - 1) / 8) (f2 : ¬Builtin.List.listTooLong (its.size * k.toNat) = true) :
    Meets (Builtin.«list.__mul__» ⟨[.ref l, .int k u], []⟩) (fun _ R s => s.heap.get? l = some { cls := .type "list", dict := dd, data := .seq its m, slots := sl } ∧ R (.ok (.ret (Value.ref s.heap.objs.size))) { s with heap := s.heap.push { cls := .type "list", data := .seq (List.foldl (fun x y => x ++ y) #[] (List.replicate (if its.isEmpty = true then 0 else k.toNat) its)) } }) :=
  .of_wp fun prog w A R s h => by
    obtain ⟨hp, g, d, tk, os⟩ := s
    obtain ⟨hl, h⟩ := h
    have fit := AutoListH.joined_fits f2
    wp_walk
    refine wpAny_ite_false (decide_eq_false (Nat.not_lt.mpr fit)) ?_
    wp_walk
    exact ⟨_, rfl, h⟩
theorem list_few' (k : Int) (u : Tok) (l : Addr) (its : Array Value) (m : Nat) (dd : Option Addr) (sl : Array (Option Value)) :
    Meets (Builtin.«int.__rmul__» ⟨[.int k u, .ref l], []⟩) (fun _ R s => s.heap.get? l = some { cls := .type "list", dict := dd, data := .seq its m, slots := sl } ∧ R (.ok (.ret Value.notImplemented)) s) :=
  .of_wp fun prog w A R s h => by
    obtain ⟨hp, g, d, tk, os⟩ := s
    obtain ⟨hl, h⟩ := h
    wp_walk
    exact ⟨_, rfl, h⟩
theorem op_few : OpR X (binaryOp .Mult) (fun x y H Q => ∃ l k xs, x = .ref l ∧ y = .int k ∧ 0 ≤ k ∧ k ≤ 1 ∧ SqL X.K H l xs ∧ xs.length ≤ sizeLine ∧ ∀ p, H p = none → Q (.ref p) (upd H p (.lst (List.replicate k.toNat xs).flatten))) := by
  intro pins s σ H x y v u Q I rx ry h
  obtain ⟨l, k, xs, rfl, rfl, k0, k1, hL, hz, q⟩ := h
  cases rx
  obtain ⟨t, rfl⟩ := ry
  obtain ⟨its, r, ⟨⟨cls, dd, data, sl⟩, m, ho, hc, _, hd⟩, hs⟩ := I.list hL
  simp only at hc hd
  subst hc hd
  have kk : k.toNat ≤ 1 := by omega
  have rl := r.length
  have sl1 := sizeLine_eq
  have few : its.toArray.size * k.toNat ≤ sizeLine := by
    rw [List.size_toArray]
    exact Nat.le_trans (Nat.mul_le_mul_left _ kk) (by omega)
  have made : List.foldl (fun x y => x ++ y) #[] (List.replicate (if its.toArray.isEmpty = true then 0 else k.toNat) its.toArray) = (List.replicate k.toNat its).flatten.toArray := by
    have k2 : k.toNat = 0 ∨ k.toNat = 1 := by omega
    rcases k2 with z | z <;> rw [z]
    · simp
    · cases its with
      | nil => simp
      | cons a b => simp
  refine wpAny_binaryOp_repeat_ref (T := "list") (U := "int") (by decide) ⟨_, ho, rfl⟩ (fun s' => typeIs_int s' k t) noFill_list_mul PySem.F.fills_int_mul PySem.F.slot_int_rmul repeat_list PySem.F.slot_int_index.lookup ?_
  refine call_meets PySem.F.slot_int_rmul (typeIs_int s k t) PySem.F.entry_int_rmul (PySem.F.args_int_rmul_2 _ _) (list_few' k t l its.toArray m dd sl) ⟨ho, rfl, ⟨_, ho, rfl⟩, ?_⟩
  refine call_meets PySem.F.slot_list_mul ⟨_, ho, rfl⟩ PySem.F.entry_list_mul (PySem.F.args_list_mul_2 _ _) (list_few l its.toArray m dd sl k t (by rw [fitsIndex_both (by omega) (by omega)]; exact Bool.false_ne_true) (by omega) (by rw [notLongL few]; exact Bool.false_ne_true)) ⟨ho, ?_⟩
  rw [made]
  refine ⟨.ref _, _, I.lnew (t' := s.toks) (r.rep k.toNat) ?_, rfl, q _ I.fresh⟩
  rw [List.length_flatten, List.map_replicate, List.sum_replicate_nat]
  exact Nat.le_trans (Nat.mul_le_mul_right _ kk) (by omega)
theorem bin_mul : OpR X (binaryOp .Mult) (rD X.K (binD .Mult)) := by
  intro pins s σ H x y v u Q I rx ry h
  obtain ⟨M, a, b, d, l, fa, fb, e, q⟩ := h
  cases a <;> cases b <;> simp only [binD] at e <;> try (cases e; done)
  · split at e
    · rename_i hm
      cases e
      cases fa.int; cases fb.int
      rcases small_mul hm with hm | hm
      · exact op_mul pins s σ H _ _ v u Q I rx ry ⟨_, _, rfl, rfl, hm, q.here (.int _)⟩
      · exact op_mulW pins s σ H _ _ v u Q I rx ry ⟨_, _, rfl, rfl, hm, q.here (.int _)⟩
    · cases e
  · rename_i xs k
    split at e
    · rename_i hz
      cases e
      obtain ⟨p, vs, rfl, s1, q1⟩ := fa.list
      cases fb.int
      simp only [Bool.and_eq_true, decide_eq_true_eq] at hz
      obtain ⟨⟨h1, h2⟩, h3⟩ := hz
      rw [lim_eq] at h3
      exact op_few pins s σ H _ _ v u Q I rx ry ⟨p, k, vs, rfl, rfl, h1, h2, s1, by rw [q1.length]; exact h3, q.lst l (q1.rep _)⟩
    · cases e
  · rename_i xs k
    split at e
    · rename_i hz
      cases e
      obtain ⟨p, vs, rfl, s1, q1⟩ := fa.tuple
      cases fb.int
      simp only [Bool.and_eq_true, decide_eq_true_eq, Bool.not_eq_true', List.isEmpty_eq_false_iff] at hz
      obtain ⟨⟨⟨h1, h2⟩, h3⟩, h4⟩ := hz
      have m1 := q1.length
      refine op_repN op_rep1 pins s σ H _ _ v u Q I rx ry ⟨p, k, vs, rfl, rfl, s1, fun z => h1 (List.eq_nil_of_length_eq_zero (by rw [← m1, z]; rfl)), by omega, h2, h3, fun k1 => ?_, fun k0 => ?_, fun _ => q.tup l (q1.rep _)⟩
      · subst k1
        obtain ⟨p', vs', o, ep, r1, r2, r3⟩ := fa.tupleN
        cases ep
        have e1 : (List.replicate (1 : Int).toNat xs).flatten = xs := by
          show (List.replicate 1 xs).flatten = xs
          simp
        rw [e1] at q
        exact q.here (.tup r1 r2 r3)
      · have e0 : k.toNat = 0 := by omega
        rw [e0] at q
        exact q.tup l .nil
    · cases e
theorem bin_mod : OpR X (binaryOp .Mod) (rD X.K (binD .Mod)) := by
  intro pins s σ H x y v u Q I rx ry h
  obtain ⟨M, a, b, d, l, fa, fb, e, q⟩ := h
  cases a <;> cases b <;> simp only [binD] at e <;> try (cases e; done)
  split at e
  · rename_i hz
    cases e
    cases fa.int; cases fb.int
    exact op_mod pins s σ H _ _ v u Q I rx ry ⟨_, _, rfl, rfl, hz, q.here (.int _)⟩
  · cases e
theorem bin_fdiv : OpR X (binaryOp .FloorDiv) (rD X.K (binD .FloorDiv)) := by
  intro pins s σ H x y v u Q I rx ry h
  obtain ⟨M, a, b, d, l, fa, fb, e, q⟩ := h
  cases a <;> cases b <;> simp only [binD] at e <;> try (cases e; done)
  split at e
  · rename_i hz
    cases e
    cases fa.int; cases fb.int
    simp only [Bool.and_eq_true, decide_eq_true_eq] at hz
    exact op_fdivW pins s σ H _ _ v u Q I rx ry ⟨_, _, rfl, rfl, hz, q.here (.int _)⟩
  · cases e
theorem bin_shl : OpR X (binaryOp .LShift) (rD X.K (binD .LShift)) := by
  intro pins s σ H x y v u Q I rx ry h
  obtain ⟨M, a, b, d, l, fa, fb, e, q⟩ := h
  cases a <;> cases b <;> simp only [binD] at e <;> try (cases e; done)
  split at e
  · rename_i hz
    cases e
    cases fa.int; cases fb.int
    simp only [Bool.and_eq_true, decide_eq_true_eq] at hz
    exact op_shl pins s σ H _ _ v u Q I rx ry ⟨_, _, rfl, rfl, ⟨hz.1.1, hz.1.2, hz.2⟩, q.here (.int _)⟩
  · cases e
theorem bin_pow : OpR X (binaryOp .Pow) (rD X.K (binD .Pow)) := by
  intro pins s σ H x y v u Q I rx ry h
  obtain ⟨M, a, b, d, l, fa, fb, e, q⟩ := h
  cases a <;> cases b <;> simp only [binD] at e <;> try (cases e; done)
  split at e
  · rename_i hz
    cases e
    cases fa.int; cases fb.int
    simp only [Bool.and_eq_true, decide_eq_true_eq] at hz
    exact op_pow pins s σ H _ _ v u Q I rx ry ⟨_, _, rfl, rfl, ⟨hz.1.1, hz.1.2, hz.2⟩, q.here (.int _)⟩
  · cases e
def okBin : Operator → Bool
  | .Add | .Sub | .Mult | .Mod | .FloorDiv | .Pow | .LShift => true
  | _ => false
theorem bin_ok {op : Operator} (h : okBin op = true) : OpR X (binaryOp op) (rD X.K (binD op)) := by
  cases op <;> first | exact bin_add | exact bin_sub | exact bin_mul | exact bin_mod | exact bin_fdiv | exact bin_pow | exact bin_shl | cases h

/-! ### comparisons -/
def rC (K : PySem.W.Frag) (g : D → D → Option Bool) : R2 := fun x y H Q => ∃ M a b d, Lv M H ∧ FT K M H x a ∧ FT K M H y b ∧ g a b = some d ∧ Q (.bl d) H
theorem dep_min {A : Around} {a b : D} (hu : A.units + 64 < cLine) (h : (dep a || dep b) = true) : A.units + 1 + min a.depth b.depth < cLine := by
  unfold dep at h
  simp only [Bool.or_eq_true, decide_eq_true_eq] at h
  omega
theorem cmp_eq (hu : X.A.units + 64 < cLine) : OpR X (compareOp .Eq) (rC X.K (cmpD .Eq)) := by
  intro pins s σ H x y v u Q I rx ry h
  obtain ⟨M, a, b, d, l, fa, fb, e, q⟩ := h
  simp only [cmpD] at e
  split at e
  · rename_i hz
    cases e
    obtain ⟨as, r1⟩ := Dp.reads I a x v fa.dp rx
    obtain ⟨bs, r2⟩ := Dp.reads I b y u fb.dp ry
    exact SeqAt.eq_plain r1 r2 fa.plain fb.plain (by have := dep_min hu hz; omega) ⟨.bl _, H, I, rfl, q⟩
  · cases e
theorem cmp_ne (hu : X.A.units + 64 < cLine) : OpR X (compareOp .NotEq) (rC X.K (cmpD .NotEq)) := by
  intro pins s σ H x y v u Q I rx ry h
  obtain ⟨M, a, b, d, l, fa, fb, e, q⟩ := h
  simp only [cmpD] at e
  split at e
  · rename_i hz
    cases e
    obtain ⟨as, r1⟩ := Dp.reads I a x v fa.dp rx
    obtain ⟨bs, r2⟩ := Dp.reads I b y u fb.dp ry
    exact SeqAt.ne_plain r1 r2 fa.plain fb.plain (by have := dep_min hu hz; omega) ⟨.bl _, H, I, rfl, q⟩
  · cases e
theorem depthAll_le (xs : List D) : PyData.depthAll xs ≤ (PyData.tuple xs).depth ∧ PyData.depthAll xs ≤ (PyData.list xs).depth := by
  rw [PyData.depth, PyData.depth]
  exact ⟨Nat.le_succ _, Nat.le_succ _⟩
theorem cmp_in (hu : X.A.units + 64 < cLine) : OpR X (compareOp .In) (rC X.K (cmpD .In)) := by
  intro pins s σ H x y v u Q I rx ry h
  obtain ⟨M, a, b, d, l, fa, fb, e, q⟩ := h
  have hd := depthAll_le
  cases b <;> simp only [cmpD] at e <;> try (cases e; done)
  all_goals
    split at e
    · rename_i hz
      cases e
      obtain ⟨as, r1⟩ := Dp.reads I a x v fa.dp rx
      obtain ⟨bs, r2⟩ := Dp.reads I _ y u fb.dp ry
      have z := dep_min hu hz
      first
        | exact SeqAt.in_list_data r2 r1 (by have := fb.plain; rwa [PyData.plain] at this) fa.plain (by have := (hd ‹List PyData›).2; omega) ⟨.bl _, H, I, rfl, q⟩
        | exact SeqAt.in_tuple_data r2 r1 (by have := fb.plain; rwa [PyData.plain] at this) fa.plain (by have := (hd ‹List PyData›).1; omega) ⟨.bl _, H, I, rfl, q⟩
    · cases e
theorem cmp_notIn (hu : X.A.units + 64 < cLine) : OpR X (compareOp .NotIn) (rC X.K (cmpD .NotIn)) := by
  intro pins s σ H x y v u Q I rx ry h
  obtain ⟨M, a, b, d, l, fa, fb, e, q⟩ := h
  have hd := depthAll_le
  cases b <;> simp only [cmpD] at e <;> try (cases e; done)
  all_goals
    split at e
    · rename_i hz
      cases e
      obtain ⟨as, r1⟩ := Dp.reads I a x v fa.dp rx
      obtain ⟨bs, r2⟩ := Dp.reads I _ y u fb.dp ry
      have z := dep_min hu hz
      first
        | exact SeqAt.notIn_list_data r2 r1 (by have := fb.plain; rwa [PyData.plain] at this) fa.plain (by have := (hd ‹List PyData›).2; omega) ⟨.bl _, H, I, rfl, q⟩
        | exact SeqAt.notIn_tuple_data r2 r1 (by have := fb.plain; rwa [PyData.plain] at this) fa.plain (by have := (hd ‹List PyData›).1; omega) ⟨.bl _, H, I, rfl, q⟩
    · cases e
theorem cmp_int {op : CmpOp} {p : Int → Int → Bool} (ho : OpR X (compareOp op) (rI0 fun i j => .bl (p i j))) (hc : ∀ a b d, cmpD op a b = some d → ∃ i j, a = .int i ∧ b = .int j ∧ d = p i j) : OpR X (compareOp op) (rC X.K (cmpD op)) := by
  intro pins s σ H x y v u Q I rx ry h
  obtain ⟨M, a, b, d, l, fa, fb, e, q⟩ := h
  obtain ⟨i, j, rfl, rfl, rfl⟩ := hc a b d e
  cases fa.int; cases fb.int
  exact ho pins s σ H _ _ v u Q I rx ry ⟨_, _, rfl, rfl, q⟩
def okCmp : CmpOp → Bool
  | .Is | .IsNot => false
  | _ => true
theorem intsOf_eq : ∀ {ds : List D} {ns : List Int}, intsOf ds = some ns → ds = ns.map PyData.int
  | [], _, e => by cases e; rfl
  | d :: r, _, e => by
    cases d with
    | int i =>
      simp only [intsOf] at e
      split at e
      · rename_i ms h
        cases e
        rw [intsOf_eq h]
        rfl
      · cases e
    | _ => cases e
theorem tup_lt (ns ms : List Int) : PySem.W.dataLt (.tuple (ns.map .int)) (.tuple (ms.map .int)) = decide (ns < ms) := by
  rw [PySem.W.dataLt_tuple]
  exact PySem.W.dataLt_ints ns ms
theorem tup_small (X : Cx) (hu : X.A.units + 64 < cLine) (ns ms : List Int) : X.A.units + min (PyData.tuple (ns.map .int)).depth (PyData.tuple (ms.map .int)).depth < cLine := by
  rw [PyData.depth, PyData.depth, PySem.W.depth_ints, PySem.W.depth_ints]
  omega
theorem tup_alike (ns ms : List Int) : PySem.W.alike (.tuple (ns.map .int)) (.tuple (ms.map .int)) = true := by
  rw [PySem.W.alike]
  exact PySem.W.alike_ints ns ms
/-- an order of ints, or of tuples of ints -/
theorem cmp_ord {op : CmpOp} {p : Int → Int → Bool} {t : List Int → List Int → Bool} (ho : OpR X (compareOp op) (rI0 fun i j => .bl (p i j)))
    (ht : ∀ (ns ms : List Int) (s : Shared) (a b : Value) (as bs : List Addr) (Q : Value → Shared → Prop), Reads s.heap a (.tuple (ns.map .int)) as → Reads s.heap b (.tuple (ms.map .int)) bs → Q (.bool (t ns ms)) s → wpAny (model X.prog X.w) X.A (compareOp op a b) Q X.xe s)
    (hc : ∀ a b d, cmpD op a b = some d → (∃ i j, a = .int i ∧ b = .int j ∧ d = p i j) ∨ ∃ ns ms : List Int, a = .tuple (ns.map .int) ∧ b = .tuple (ms.map .int) ∧ d = t ns ms) : OpR X (compareOp op) (rC X.K (cmpD op)) := by
  intro pins s σ H x y v u Q I rx ry h
  obtain ⟨M, a, b, d, l, fa, fb, e, q⟩ := h
  rcases hc a b d e with ⟨i, j, rfl, rfl, rfl⟩ | ⟨ns, ms, rfl, rfl, rfl⟩
  · cases fa.int; cases fb.int
    exact ho pins s σ H _ _ v u Q I rx ry ⟨_, _, rfl, rfl, q⟩
  · obtain ⟨as, r1⟩ := Dp.reads I _ x v fa.dp rx
    obtain ⟨bs, r2⟩ := Dp.reads I _ y u fb.dp ry
    exact ht ns ms s v u as bs _ r1 r2 ⟨.bl _, H, I, rfl, q⟩
theorem cmp_split {op : CmpOp} {p : Int → Int → Bool} {t : List Int → List Int → Bool} (h1 : ∀ a b, cmpD op a b = match a, b with
    | .int i, .int j => some (p i j)
    | .tuple xs, .tuple ys => match intsOf xs, intsOf ys with
      | some ns, some ms => some (t ns ms)
      | _, _ => none
    | _, _ => none) : ∀ a b d, cmpD op a b = some d → (∃ i j, a = .int i ∧ b = .int j ∧ d = p i j) ∨ ∃ ns ms : List Int, a = .tuple (ns.map .int) ∧ b = .tuple (ms.map .int) ∧ d = t ns ms := by
  intro a b d e
  rw [h1] at e
  cases a <;> cases b <;> simp only at e <;> try (cases e; done)
  · cases e
    exact .inl ⟨_, _, rfl, rfl, rfl⟩
  · split at e
    · rename_i ns ms e1 e2
      cases e
      exact .inr ⟨ns, ms, by rw [intsOf_eq e1], by rw [intsOf_eq e2], rfl⟩
    · cases e
theorem cmp_ok (hu : X.A.units + 64 < cLine) {op : CmpOp} (h : okCmp op = true) : OpR X (compareOp op) (rC X.K (cmpD op)) := by
  have no : ∀ ns : List Int, (PyData.tuple (ns.map .int)) ≠ .none := fun ns z => nomatch z
  cases op
  · exact cmp_eq hu
  · exact cmp_ne hu
  · exact cmp_ord op_lt (fun ns ms s a b as bs Q r1 r2 q => PySem.W.lt_data r1 r2 (tup_alike ns ms) (no ns) (tup_small X hu ns ms) (by rw [tup_lt]; exact q)) (cmp_split (t := fun ns ms => decide (ns < ms)) fun a b => rfl)
  · exact cmp_ord op_le (fun ns ms s a b as bs Q r1 r2 q => PySem.W.le_data r1 r2 (tup_alike ns ms) (no ns) (tup_small X hu ns ms) (by rw [tup_lt]; exact q)) (cmp_split (t := fun ns ms => !decide (ms < ns)) fun a b => rfl)
  · exact cmp_ord op_gt (fun ns ms s a b as bs Q r1 r2 q => PySem.W.gt_data r1 r2 (tup_alike ns ms) (no ns) (tup_small X hu ns ms) (by rw [tup_lt]; exact q)) (cmp_split (t := fun ns ms => decide (ms < ns)) fun a b => rfl)
  · exact cmp_ord op_ge (fun ns ms s a b as bs Q r1 r2 q => PySem.W.ge_data r1 r2 (tup_alike ns ms) (no ns) (tup_small X hu ns ms) (by rw [tup_lt]; exact q)) (cmp_split (t := fun ns ms => !decide (ns < ms)) fun a b => rfl)
  · cases h
  · cases h
  · exact cmp_in hu
  · exact cmp_notIn hu
end
end RR

-- RR5
set_option maxHeartbeats 2000000
/-! Built-ins, subscripts, methods. -/
namespace RR
open PySem PySem.Spec L2
def rB (K : PySem.W.Frag) (b : Bi) : List V → Hp → VK → Prop := fun vs H Q => ∃ M ds d, Lv M H ∧ Paired (FT K M H) vs ds ∧ biD b ds = some d ∧ Fin K M H d Q
section
variable {X : Cx}
theorem pair1 {K : PySem.W.Frag} {M : Addr → Prop} {H : Hp} {vs : List V} {d : D} (p : Paired (FT K M H) vs [d]) : ∃ v, vs = [v] ∧ FT K M H v d := by
  cases p with
  | cons a b => cases b; exact ⟨_, rfl, a⟩
theorem pair2 {K : PySem.W.Frag} {M : Addr → Prop} {H : Hp} {vs : List V} {d e : D} (p : Paired (FT K M H) vs [d, e]) : ∃ v w, vs = [v, w] ∧ FT K M H v d ∧ FT K M H w e := by
  cases p with
  | cons a b => cases b with
    | cons c z => cases z; exact ⟨_, _, rfl, a, c⟩
theorem least_ok : ∀ (ns : List Int) (m : Int), (least m ns = m ∨ least m ns ∈ ns) ∧ least m ns ≤ m ∧ ∀ y ∈ ns, least m ns ≤ y
  | [], m => ⟨.inl rfl, Int.le_refl _, fun _ h => nomatch h⟩
  | x :: r, m => by
    obtain ⟨h1, h2, h3⟩ := least_ok r (if x < m then x else m)
    show (least (if x < m then x else m) r = m ∨ least (if x < m then x else m) r ∈ x :: r) ∧ least (if x < m then x else m) r ≤ m ∧ ∀ y ∈ x :: r, least (if x < m then x else m) r ≤ y
    split at h1 <;> split at h2 <;> (try omega) <;> rename_i hx _ <;> simp only [hx, if_true, if_false] at h1 h2 h3 ⊢
    · refine ⟨?_, by omega, fun y hy => ?_⟩
      · rcases h1 with h1 | h1
        · exact .inr (by rw [h1]; exact List.mem_cons_self)
        · exact .inr (List.mem_cons_of_mem _ h1)
      · rcases List.mem_cons.mp hy with rfl | hy
        · exact h2
        · exact h3 y hy
    · refine ⟨?_, h2, fun y hy => ?_⟩
      · rcases h1 with h1 | h1
        · exact .inl h1
        · exact .inr (List.mem_cons_of_mem _ h1)
      · rcases List.mem_cons.mp hy with rfl | hy
        · omega
        · exact h3 y hy
theorem most_ok : ∀ (ns : List Int) (m : Int), (most m ns = m ∨ most m ns ∈ ns) ∧ m ≤ most m ns ∧ ∀ y ∈ ns, y ≤ most m ns
  | [], m => ⟨.inl rfl, Int.le_refl _, fun _ h => nomatch h⟩
  | x :: r, m => by
    obtain ⟨h1, h2, h3⟩ := most_ok r (if m < x then x else m)
    show (most (if m < x then x else m) r = m ∨ most (if m < x then x else m) r ∈ x :: r) ∧ m ≤ most (if m < x then x else m) r ∧ ∀ y ∈ x :: r, y ≤ most (if m < x then x else m) r
    split at h1 <;> split at h2 <;> (try omega) <;> rename_i hx _ <;> simp only [hx, if_true, if_false] at h1 h2 h3 ⊢
    · refine ⟨?_, by omega, fun y hy => ?_⟩
      · rcases h1 with h1 | h1
        · exact .inr (by rw [h1]; exact List.mem_cons_self)
        · exact .inr (List.mem_cons_of_mem _ h1)
      · rcases List.mem_cons.mp hy with rfl | hy
        · exact h2
        · exact h3 y hy
    · refine ⟨?_, h2, fun y hy => ?_⟩
      · rcases h1 with h1 | h1
        · exact .inl h1
        · exact .inr (List.mem_cons_of_mem _ h1)
      · rcases List.mem_cons.mp hy with rfl | hy
        · omega
        · exact h3 y hy
theorem bi_len : CallR X (.builtin "len") (rB X.K .len) := by
  intro pins s σ H vs us Q I r h
  obtain ⟨M, ds, d, l, p, e, q⟩ := h
  unfold biD at e
  split at e <;> try (cases e; done)
  all_goals (rename_i hb; try (cases hb; done))
  all_goals
    cases e
    obtain ⟨v, rfl, f⟩ := pair1 p
    first
      | (obtain ⟨a, ws, rfl, s1, q1⟩ := f.tuple
         have m1 := q1.length
         exact call_len_seq pins s σ H _ us Q I r ⟨a, ws, rfl, .inr s1, by rw [m1]; exact q.here (.int _)⟩)
      | (obtain ⟨a, ws, rfl, s1, q1⟩ := f.list
         have m1 := q1.length
         exact call_len_seq pins s σ H _ us Q I r ⟨a, ws, rfl, .inl s1, by rw [m1]; exact q.here (.int _)⟩)
theorem bi_tuple : CallR X (.type "tuple") (rB X.K .tuple) := by
  intro pins s σ H vs us Q I r h
  obtain ⟨M, ds, d, l, p, e, q⟩ := h
  unfold biD at e
  split at e <;> try (cases e; done)
  all_goals (rename_i hb; try (cases hb; done))
  all_goals
    cases e
    obtain ⟨v, rfl, f⟩ := pair1 p
    first
      | (obtain ⟨a, ws, rfl, s1, q1⟩ := f.tuple
         exact call_tupleN pins s σ H _ us Q I r ⟨a, ws, rfl, .inr ⟨s1, q.here (by obtain ⟨p', vs', o, ep, g1, g2, g3⟩ := f.tupleN; cases ep; exact .tup g1 g2 g3)⟩⟩)
      | (obtain ⟨a, ws, rfl, s1, q1⟩ := f.list
         exact call_tupleN pins s σ H _ us Q I r ⟨a, ws, rfl, .inl ⟨s1, q.tup l q1⟩⟩)
theorem bi_int : CallR X (.type "int") (rB X.K .int) := by
  intro pins s σ H vs us Q I r h
  obtain ⟨M, ds, d, l, p, e, q⟩ := h
  unfold biD at e
  split at e <;> try (cases e; done)
  all_goals (rename_i hb; try (cases hb; done))
  all_goals
    cases e
    obtain ⟨v, rfl, f⟩ := pair1 p
    rcases f with f | ⟨_, _, _, _, z, _⟩
    · cases f
      first
        | exact call_int1 pins s σ H _ us Q I r (.inl ⟨_, rfl, q.here (.int _)⟩)
        | exact call_int1 pins s σ H _ us Q I r (.inr ⟨_, rfl, q.here (.int _)⟩)
    · cases z
theorem bi_list : CallR X (.type "list") (rB X.K .list) := by
  intro pins s σ H vs us Q I r h
  obtain ⟨M, ds, d, l, p, e, q⟩ := h
  unfold biD at e
  split at e <;> try (cases e; done)
  all_goals (rename_i hb; try (cases hb; done))
  all_goals
    cases e
    obtain ⟨v, rfl, f⟩ := pair1 p
    first
      | (obtain ⟨a, ws, rfl, s1, q1⟩ := f.tuple
         exact call_list_of pins s σ H _ us Q I r ⟨a, ws, rfl, .inr s1, q.lst l q1⟩)
      | (obtain ⟨a, ws, rfl, s1, q1⟩ := f.list
         exact call_list_of pins s σ H _ us Q I r ⟨a, ws, rfl, .inl s1, q.lst l q1⟩)
theorem bi_all (hc : X.calm = true) : CallR X (.builtin "all") (rB X.K .all) := by
  intro pins s σ H vs us Q I r h
  obtain ⟨M, ds, d, l, p, e, q⟩ := h
  unfold biD at e
  split at e <;> try (cases e; done)
  all_goals (rename_i hb; try (cases hb; done))
  split at e
  · rename_i bs hbs
    cases e
    obtain ⟨v, rfl, f⟩ := pair1 p
    obtain ⟨a, ws, rfl, s1, q1⟩ := f.list
    rw [q1.bools hbs] at s1
    exact cr_all hc pins s σ H _ us Q I r ⟨a, bs, rfl, s1, q.here (.bl _)⟩
  · cases e
theorem bi_any (hc : X.calm = true) : CallR X (.builtin "any") (rB X.K .any) := by
  intro pins s σ H vs us Q I r h
  obtain ⟨M, ds, d, l, p, e, q⟩ := h
  unfold biD at e
  split at e <;> try (cases e; done)
  all_goals (rename_i hb; try (cases hb; done))
  split at e
  · rename_i bs hbs
    cases e
    obtain ⟨v, rfl, f⟩ := pair1 p
    obtain ⟨a, ws, rfl, s1, q1⟩ := f.list
    rw [q1.bools hbs] at s1
    exact cr_any hc pins s σ H _ us Q I r ⟨a, bs, rfl, s1, q.here (.bl _)⟩
  · cases e
theorem bi_sum (hc : X.calm = true) : CallR X (.builtin "sum") (rB X.K .sum) := by
  intro pins s σ H vs us Q I r h
  obtain ⟨M, ds, d, l, p, e, q⟩ := h
  unfold biD at e
  split at e <;> try (cases e; done)
  all_goals (rename_i hb; try (cases hb; done))
  split at e
  · rename_i bs hbs
    cases e
    obtain ⟨v, rfl, f⟩ := pair1 p
    obtain ⟨a, ws, rfl, s1, q1⟩ := f.list
    rw [q1.ints hbs] at s1
    exact cr_sum hc pins s σ H _ us Q I r ⟨a, bs, rfl, s1, q.here (.int _)⟩
  · cases e
theorem tups_alike {xs : List D} (h : tupsB xs = true) : W.AlikeAll xs ∧ PyData.depthAll xs ≤ 1 := by
  have q : ∀ x ∈ xs, ∃ ns : List Int, x = .tuple (ns.map .int) := fun x hx => by
    have z := List.all_eq_true.mp h x hx
    cases x <;> first | (cases z; done) | skip
    rename_i ys
    have inv : ∀ (ys : List D), (intsOf ys).isSome = true → ∃ ns : List Int, ys = ns.map .int := fun ys => by
      induction ys with
      | nil => exact fun _ => ⟨[], rfl⟩
      | cons y r ih =>
        intro z
        cases y <;> first | (cases z; done) | skip
        rename_i i
        simp only [intsOf] at z
        cases e : intsOf r with
        | none => rw [e] at z; cases z
        | some ms =>
          obtain ⟨ns, rfl⟩ := ih (by rw [e]; rfl)
          exact ⟨i :: ns, rfl⟩
    obtain ⟨ns, rfl⟩ := inv ys z
    exact ⟨ns, rfl⟩
  refine ⟨⟨fun x hx y hy => ?_, fun x hx e => ?_⟩, ?_⟩
  · obtain ⟨ns, rfl⟩ := q x hx
    obtain ⟨ms, rfl⟩ := q y hy
    rw [W.alike]
    exact W.alike_ints ns ms
  · obtain ⟨ns, rfl⟩ := q x hx
    cases e
  · clear h
    induction xs with
    | nil => simp [PyData.depthAll]
    | cons x r ih =>
      obtain ⟨ns, rfl⟩ := q x List.mem_cons_self
      have h1 := ih fun z hz => q z (List.mem_cons_of_mem _ hz)
      have h2 : PyData.depthAll (ns.map .int) ≤ 0 := by
        clear q ih h1
        induction ns with
        | nil => simp [PyData.depthAll]
        | cons n r ih => simp only [List.map_cons, PyData.depthAll, PyData.depth]; omega
      simp only [PyData.depthAll, PyData.depth]
      omega
theorem bi_min (hc : X.calm = true) (hu : X.A.units + 64 < cLine) : CallR X (.builtin "min") (rB X.K .min) := by
  intro pins s σ H vs us Q I r h
  obtain ⟨M, ds, d, l, p, e, q⟩ := h
  unfold biD at e
  split at e <;> try (cases e; done)
  all_goals (rename_i hb; try (cases hb; done))
  · split at e
    · rename_i n ns hbs
      cases e
      obtain ⟨v, rfl, f⟩ := pair1 p
      obtain ⟨a, ws, rfl, s1, q1⟩ := f.list
      rw [q1.ints hbs] at s1
      refine cr_min hc pins s σ H _ us Q I r ⟨a, n :: ns, rfl, s1, Nat.succ_pos _, fun m hm hle => ?_⟩
      obtain ⟨h1, h2, h3⟩ := least_ok ns n
      have em : m = least n ns := by
        apply Int.le_antisymm
        · rcases h1 with h1 | h1
          · exact hle _ (by rw [h1]; exact List.mem_cons_self)
          · exact hle _ (List.mem_cons_of_mem _ h1)
        · rcases List.mem_cons.mp hm with rfl | hm
          · exact h2
          · exact h3 m hm
      rw [em]
      exact q.here (.int _)
    · split at e
      · rename_i x r0 _
        split at e
        · rename_i ht
          cases e
          obtain ⟨v, rfl, f⟩ := pair1 p
          obtain ⟨u, rfl, rx⟩ := vals1 r
          obtain ⟨as, rd⟩ := Dp.reads I _ v u f.dp rx
          obtain ⟨a, ws, rfl, s1, q1⟩ := f.list
          cases rx
          obtain ⟨its, rv, pl, _⟩ := I.list s1
          cases rd with
          | @list _ o vs m _ as' h1 h2 h3 h4 =>
            obtain ⟨al, dp⟩ := tups_alike ht
            refine W.min_list_data (I.ok.hd hc) ⟨o, h1, h2, m, h3⟩ h4 al (by omega) fun i v h' tk bs hi rr hk => ?_
            obtain ⟨bs', r2, hlt, _, _⟩ := W.readsAll_at h4 i v (by simpa using hi)
            obtain ⟨e1, _⟩ := PyProof.Rows.reads_det (fun b o e _ => hk b o e) r2 rr
            obtain ⟨w, ew, fw⟩ := q1.get (d := (x :: r0).getD i .none) (i := i) (by rw [List.getD_eq_getElem?_getD, List.getElem?_eq_getElem hlt]; rfl)
            obtain ⟨u2, eu, ru⟩ := rv.get ew
            have same : u2 = v := by
              obtain ⟨o2, g1, g2, _, g3⟩ := pl.isList
              rw [h1] at g1
              cases g1
              rw [h3] at g3
              cases g3
              have : its[i]? = some v := by simpa using hi
              rw [this] at eu
              exact (Option.some.inj eu).symm
            subst same
            exact ⟨w, H, I.kept hk, ru, q.here (by rw [e1]; exact fw)⟩
        · cases e
      · cases e
  · cases e
    obtain ⟨v, w, rfl, f, g⟩ := pair2 p
    cases f.int; cases g.int
    exact call_min2 hc pins s σ H _ us Q I r ⟨_, _, rfl, q.here (.int _)⟩
theorem bi_max (hc : X.calm = true) : CallR X (.builtin "max") (rB X.K .max) := by
  intro pins s σ H vs us Q I r h
  obtain ⟨M, ds, d, l, p, e, q⟩ := h
  unfold biD at e
  split at e <;> try (cases e; done)
  all_goals (rename_i hb; try (cases hb; done))
  · split at e
    · rename_i n ns hbs
      cases e
      obtain ⟨v, rfl, f⟩ := pair1 p
      obtain ⟨a, ws, rfl, s1, q1⟩ := f.list
      rw [q1.ints hbs] at s1
      refine cr_max hc pins s σ H _ us Q I r ⟨a, n :: ns, rfl, s1, Nat.succ_pos _, fun m hm hle => ?_⟩
      obtain ⟨h1, h2, h3⟩ := most_ok ns n
      have em : m = most n ns := by
        apply Int.le_antisymm
        · rcases List.mem_cons.mp hm with rfl | hm
          · exact h2
          · exact h3 m hm
        · rcases h1 with h1 | h1
          · exact hle _ (by rw [h1]; exact List.mem_cons_self)
          · exact hle _ (List.mem_cons_of_mem _ h1)
      rw [em]
      exact q.here (.int _)
    · cases e
  · cases e
    obtain ⟨v, w, rfl, f, g⟩ := pair2 p
    cases f.int; cases g.int
    exact call_max2 hc pins s σ H _ us Q I r ⟨_, _, rfl, q.here (.int _)⟩
theorem bi_abs : CallR X (.builtin "abs") (rB X.K .abs) := by
  intro pins s σ H vs us Q I r h
  obtain ⟨M, ds, d, l, p, e, q⟩ := h
  unfold biD at e
  split at e <;> try (cases e; done)
  all_goals (rename_i hb; try (cases hb; done))
  cases e
  obtain ⟨v, rfl, f⟩ := pair1 p
  cases f.int
  exact call_abs pins s σ H _ us Q I r ⟨_, rfl, q.here (.int _)⟩
theorem bi_divmod : CallR X (.builtin "divmod") (rB X.K .divmod) := by
  intro pins s σ H vs us Q I r h
  obtain ⟨M, ds, d, l, p, e, q⟩ := h
  unfold biD at e
  split at e <;> try (cases e; done)
  all_goals (rename_i hb; try (cases hb; done))
  split at e
  · rename_i hz
    cases e
    obtain ⟨v, w, rfl, f, g⟩ := pair2 p
    cases f.int; cases g.int
    simp only [Bool.and_eq_true, decide_eq_true_eq] at hz
    exact call_divmodN pins s σ H _ us Q I r ⟨_, _, rfl, hz, q.tup l (.cons (.int _) (.cons (.int _) .nil))⟩
  · cases e
theorem bi_repr (hg : X.A.guards = some []) (hu : X.A.units + 64 < cLine) : CallR X (.builtin "repr") (rB X.K .repr) := by
  intro pins s σ H vs us Q I r h
  obtain ⟨M, ds, d, l, p, e, q⟩ := h
  unfold biD at e
  split at e <;> try (cases e; done)
  all_goals (rename_i hb; try (cases hb; done))
  split at e
  · rename_i hz
    cases e
    obtain ⟨v, rfl, f⟩ := pair1 p
    obtain ⟨u, rfl, rx⟩ := vals1 r
    obtain ⟨as, rd⟩ := Dp.reads I _ v u f.dp rx
    simp only [Bool.and_eq_true, decide_eq_true_eq, Bool.not_eq_true'] at hz
    obtain ⟨⟨⟨h1, h2⟩, h3⟩, h4⟩ := hz
    have go : ∀ a, u = .ref a → wpAny (model X.prog X.w) X.A (call (.builtin "repr") [u]) (EP X pins σ Q) X.xe s := fun a eu => by
      subst eu
      exact repr_of_reads' (h₀ := s.heap) rd h1 (fun z => by rw [h2] at z; cases z) hg (by omega) (fun _ _ z => z) (fun h' u tk hk => ⟨.str _, H, I.kept (t' := tk) hk, ⟨_, rfl⟩, q.here (.str _)⟩) (by rw [← lim_eq]; exact h4)
    cases rd with
    | none => exact PySem.P.repr_of_none ⟨.str _, H, I.kept (t' := s.toks + 1) (fun _ _ z => z), ⟨_, rfl⟩, q.here (.str _)⟩
    | bool b => exact PySem.P.repr_of_bool ⟨.str _, H, I.kept (t' := s.toks + 1) (fun _ _ z => z), ⟨_, rfl⟩, q.here (.str _)⟩
    | int i t => exact PySem.P.repr_of_int (of_decide_eq_true h1) ⟨.str _, H, I.kept (t' := s.toks + 1) (fun _ _ z => z), ⟨_, rfl⟩, q.here (.str _)⟩
    | str x t => exact PySem.P.repr_of_str ⟨.str _, H, I.kept (t' := s.toks + 1) (fun _ _ z => z), ⟨_, rfl⟩, q.here (.str _)⟩ (by rw [← lim_eq]; exact h4)
    | list _ _ _ _ => exact go _ rfl
    | tuple _ _ _ _ => exact go _ rfl
    | dict _ _ _ _ _ => exact go _ rfl
  · cases e
end
end RR

-- RR6
set_option maxHeartbeats 2000000
/-! Subscripts, slices, truth, types, methods of lists. -/
namespace RR
open PySem PySem.Spec L2
section
variable {X : Cx}
theorem plc_eq (n : Nat) (i : Int) : plc n i = ixN n i := rfl
theorem at_fd {K : PySem.W.Frag} {M : Addr → Prop} {H : Hp} {vs : List V} {ds : List D} {i : Int} {d : D} (q : FDs K M H vs ds) (e : atD ds i = some d) : ∃ v, atI vs i = some v ∧ FD K M H v d := by
  unfold atD at e
  unfold atI
  rw [plc_eq] at e
  rw [q.length]
  cases z : ixN ds.length i with
  | none => rw [z] at e; cases e
  | some j =>
    rw [z] at e
    exact q.get e
theorem ix_data : IxR X (rD X.K ixD) := by
  intro value slice pins s σ H x y v u Q I rx ry h hs
  obtain ⟨M, a, b, d, l, fa, fb, e, q⟩ := h
  cases a <;> cases b <;> simp only [ixD] at e <;> try (cases e; done)
  · obtain ⟨p, ws, rfl, s1, q1⟩ := fa.list
    cases fb.int
    obtain ⟨w, e1, e2⟩ := at_fd q1 e
    exact ix_list value slice pins s σ H _ _ v u Q I rx ry ⟨p, ws, _, w, rfl, rfl, s1, e1, q.here e2⟩ hs
  · obtain ⟨p, ws, rfl, s1, q1⟩ := fa.tuple
    cases fb.int
    obtain ⟨w, e1, e2⟩ := at_fd q1 e
    exact ix_tup value slice pins s σ H _ _ v u Q I rx ry ⟨p, ws, _, w, rfl, rfl, s1, e1, q.here e2⟩ hs
def rSl (K : PySem.W.Frag) : V → Option Int → Option Int → Hp → VK → Prop := fun x lo hi H Q => ∃ M a d, Lv M H ∧ FT K M H x a ∧ slD a lo hi = some d ∧ Fin K M H d Q
theorem sl_data : SlR X (rSl X.K) := by
  intro pins s σ H x v vl vu lo hi sl Q I rx hs pl pu h
  obtain ⟨M, a, d, l, fa, e, q⟩ := h
  cases a <;> simp only [slD] at e <;> try (cases e; done)
  · cases e
    obtain ⟨p, ws, rfl, s1, q1⟩ := fa.list
    exact sl_list pins s σ H _ v vl vu lo hi sl Q I rx hs pl pu ⟨p, ws, rfl, s1, q.lst l (cutD_get q1 lo hi)⟩
  · cases e
    obtain ⟨p, ws, o, rfl, g1, g2, q1⟩ := fa.tupleN
    have s1 : SqT X.K H p ws := .inl (.inr ⟨o, g1⟩)
    refine sl_tupN pins s σ H _ v vl vu lo hi sl Q I rx hs pl pu ⟨p, ws, rfl, s1, fun hw => ?_, fun _ => q.tup l (cutD_get q1 lo hi)⟩
    refine q.here ?_
    have z := cutD_get q1 lo hi
    unfold cutV at z
    rw [hw.1, hw.2] at z
    simp only [List.drop_zero, Nat.sub_zero, List.take_length] at z
    exact .tup g1 g2 z
/-! ### truth -/
theorem truth_v {c : Cs} {α : List Addr} {h : IH} {H : Hp} {x : Val} {v : V} {b : Bool} (r : HR c α h H) (q : RV c (liv α h) α H x v) (e : truth x h = some b) : TruV c.K v H b := by
  cases x with
  | d x =>
    cases x with
    | none => cases q; cases e; rfl
    | bool y => cases q; cases e; rfl
    | int y => cases q; cases e; rfl
    | str y =>
      cases q
      simp only [truth] at e
      split at e
      · rename_i hz
        cases e
        refine ⟨by rw [← lim_eq]; exact hz, ?_⟩
        show (y.length != 0) = ((y.length : Int) != 0)
        by_cases hy : y.length = 0
        · rw [hy]; rfl
        · have h1 : (y.length != 0) = true := bne_iff_ne.mpr hy
          have h2 : ((y.length : Int) != 0) = true := bne_iff_ne.mpr (by omega)
          rw [h1, h2]
      · cases e
    | list ds =>
      cases q with
      | lst s1 n q1 =>
        cases e
        refine .inl ⟨_, .inl s1, ?_⟩
        cases q1 <;> rfl
      | klst s1 q1 =>
        cases e
        refine .inl ⟨_, .inr s1, ?_⟩
        cases q1 <;> rfl
    | tuple ds =>
      cases q with
      | tup s1 n1 q1 =>
        cases e
        refine .inr (.inl ⟨_, .inl (.inr ⟨_, s1⟩), ?_⟩)
        cases q1 <;> rfl
    | dict y => cases q
  | ref n =>
    obtain ⟨a, e1, rfl⟩ := q
    simp only [truth] at e
    split at e
    · rename_i xs hx
      cases e
      obtain ⟨a', vs, q1, q2, q3⟩ := r.cell n xs hx
      rw [e1] at q1
      cases q1
      refine .inl ⟨_, SqL.of q2, ?_⟩
      cases q3 <;> rfl
    · cases e
  | fn g => cases e
  | clo a b => cases e
  | fd a b => cases e
theorem dat_v {c : Cs} {α : List Addr} {h : IH} {H : Hp} {x : Val} {v : V} {d : D} (r : HR c α h H) (q : RV c (liv α h) α H x v) (e : dat x h = some d) : FT c.K (liv α h) H v d := by
  cases x with
  | d x => cases e; exact .inl q
  | ref n =>
    obtain ⟨a, e1, rfl⟩ := q
    simp only [dat] at e
    split at e
    · rename_i xs hx
      cases e
      obtain ⟨a', vs, q1, q2, q3⟩ := r.cell n xs hx
      rw [e1] at q1
      cases q1
      exact .inr ⟨a, vs, xs, rfl, rfl, q2, q3⟩
    · cases e
  | fn g => cases e
  | clo a b => cases e
  | fd a b => cases e
/-! ### types -/
def tyN : Ty → String
  | .int => "int"
  | .bool => "bool"
  | .str => "str"
  | .tuple => "tuple"
  | .list => "list"
def dTy : D → String
  | .none => "NoneType"
  | .bool _ => "bool"
  | .int _ => "int"
  | .str _ => "str"
  | .list _ => "list"
  | .tuple _ => "tuple"
  | .dict _ => "dict"
theorem FD.ty {K : PySem.W.Frag} {M : Addr → Prop} {H : Hp} {v : V} {d : D} (q : FD K M H v d) : TyX K H v (.type (dTy d)) := by
  cases q with
  | non => exact .base .non
  | bl b => exact .base (.bl b)
  | int i => exact .base (.int i)
  | str x => exact .base (.str x)
  | lst r n q =>
    rcases r with r | ⟨o, r⟩
    · exact .base (.lst r)
    · exact .base (.frz r)
  | klst r q =>
    obtain ⟨o, its, n, h1, h2, h3, _⟩ := r
    exact .kList h1 h2
  | tup r n q => exact .fTuple r
theorem kit_ty {K : PySem.W.Frag} {a b : String} {r : Bool} (h : kitB a b = some r) : PySem.W.kitOne K (.type a) (.type b) = some r := L2.kit_ty h
theorem kit_all (K : PySem.W.Frag) (t : Ty) (d : D) (h : isDict d = false) : PySem.W.kitOne K (.type (dTy d)) (.type (tyN t)) = some (hasTy t d) := by
  cases d <;> cases t <;> first | exact kit_ty (by kernel_rfl) | (cases h; done)
def rIs (K : PySem.W.Frag) (t : Ty) : List V → Hp → VK → Prop := fun vs H Q => ∃ M v d, vs = [v, .ty (tyN t)] ∧ FD K M H v d ∧ isDict d = false ∧ Q (.bl (hasTy t d)) H
theorem bi_isI (t : Ty) : CallR X (.builtin "isinstance") (rIs X.K t) := by
  intro pins s σ H vs us Q I r h
  obtain ⟨M, v, d, rfl, f, hd, q⟩ := h
  exact call_isi pins s σ H _ us Q I r ⟨v, _, _, _, _, rfl, .ty _, f.ty, kit_all X.K t d hd, q⟩
end
end RR

-- RR7
set_option maxHeartbeats 2000000
/-! Expressions: what the machine does is what the interpreter says. -/
namespace RR
open PySem PySem.Spec L2

/-- a def's promise: what the interpreter says of it -/
def spF (c : Cs) (f : List Val → IH → Res Val) : Sp := fun vs H Q E => ∃ α h as, HR c α h H ∧ RVs c (liv α h) α H as vs ∧ Post c (RV c) α h H (f as h) Q E
structure Text where
  defs : List DefT
  consts : List (Str × Int)
  free : List Str
  kws : List (Nat × List Str × List Nat)
  lams : List LDef
/-- where a lambda of the def may be made -/
structure LamAt (c : Cs) (X : Cx) (q : Str) : Prop where
  qual : X.env.qual ++ "<lambda>" = q
  ex : ∃ cd P : Addr, LamX.TabB X.base X.mg cd P ∧ X.env.code = .ref cd ∧ (P, q) ∈ c.T ∧ ∀ p ∈ c.T, p.1 = P → p.2 = q
/-- what a lambda handed over does -/
def LamG (c : Cs) (P : Program) (w : World) (mg : Str → Option Value) (base : Heap) (k : Nat) (l : Nat) (fl : List D → List D → IH → Res Val) : Prop :=
  ∀ (A : Around) (outer : List PySem.Env) (s : Shared) (H : Hp) (f : Addr) (us : List Value) (vs : List V) (Q : VK) (E : XK) (caps ds : List D) (α : List Addr) (h : IH), A.guards = some [] → Room k A → Env0 P w c.K mg base A outer s H → CloH c (liv α h) H f l caps → HR c α h H → FDs c.K (liv α h) H vs ds → Vals vs us →
    Post c (RV c) α h H (fl caps ds h) Q E → codeAny (model P w) A (.call (.ref f) ⟨us, []⟩) (CR (L2.CX P w) outer P w H s Q E) s
/-- where a text stands: the slots' names, the scope, whose names may be stored in cells -/
structure SC where
  N : List Str
  sc : Scope
  fs : Scope
  q : Option Str
structure GX (c : Cs) (tx : Text) (C : Sem) (k : Nat) (S : SC) (X : Cx) (W : WX) : Prop where
  K : X.K = c.K
  N : X.N = S.N
  sc : X.env.scope = S.sc
  fs : ∀ x, S.fs.names.lookup x = some .cell → X.fn x = true
  kind : S.sc.kind = .function
  calm : X.calm = true
  nd : X.N.Nodup
  grd : X.A.guards = some []
  room : Room k X.A
  tk : Takes X W
  lam : ∀ l, LamG c X.prog X.w X.mg X.base k l (C.lam l)
  lamAt : ∀ q, S.q = some q → LamAt c X q
  free : ∀ x ∈ tx.free, X.mg x = none
  cst : ∀ p ∈ tx.consts, ∃ t, X.mg p.1 = some (.int p.2 t)
  fn : ∀ g d, tx.defs[g]? = some d → X.mg d.name = some (.ref (c.adr g)) ∧ PySem.W.keepIn X.K (.ref (c.adr g)) = true ∧ ∃ fd, FnG X.prog X.w X.K X.mg X.base k (c.adr g) fd d.ps (spF c (C.call g)) ∧ Binds X.K fd d.ps [] ∧
    (∀ ks perm, (g, ks, perm) ∈ tx.kws → ∀ (s : Shared) (ws us : List Value), X.K.In s.heap → ws.length = ks.length → permV perm ws = some us → BindsTo s fd ⟨[], ks.zip ws⟩ (d.ps.zip us)) ∧
    ∀ j, j ≤ d.dfl.length → ∃ ds, Vals ((d.dfl.drop j).map V.int) ds ∧ Binds X.K fd d.ps ds
def RB : (Addr → Prop) → List Addr → Hp → Bool → Bool → Prop := fun _ _ _ b b' => b = b'
def RO : (Addr → Prop) → List Addr → Hp → Option Int → Option Int → Prop := fun _ _ _ b b' => b = b'
section
variable (c : Cs) (C : Sem) (X : Cx) (W : WX)
def SE (e : Expr) (ie : IE) : Prop := ∃ t : TE, PE X e t ∧ ∀ α (env : Env) h σ H Q, HR c α h H → SR c (liv α h) α H env σ → Post c (RV c) α h H (ev C env ie h) Q (WE W σ) → t σ H Q
def tst (env : Env) (ie : IE) (h : IH) : Res Bool := (ev C env ie h).bind fun x h1 => ofO (truth x h1) h1
def ST (e : Expr) (ie : IE) : Prop := ∃ t : TT, PT X e t ∧ ∀ α (env : Env) h σ H Q, HR c α h H → SR c (liv α h) α H env σ → Post c RB α h H (tst C env ie h) Q (WE W σ) → t σ H Q
/-- .. whatever its whole is -/
def SW (e : Expr) (ie : IE) : Prop := ∃ t : TT, PW X e t ∧ ∀ α (env : Env) h σ H Q, HR c α h H → SR c (liv α h) α H env σ → Post c RB α h H (tst C env ie h) Q (WE W σ) → t σ H Q
def SA (es : List Expr) (ies : List IE) : Prop := ∃ t : TA, PA X es t ∧ ∀ α (env : Env) h σ H Q, HR c α h H → SR c (liv α h) α H env σ → Post c (RVs c) α h H (evs C env ies h) Q (WE W σ) → t σ H Q
def part (env : Env) (ie : IE) (h : IH) : Res (Option Int) := if ie.isNop then .ok none h else (ev C env ie h).bind fun v h3 => ofO (partOf v) h3
def SO (e : Option Expr) (ie : IE) : Prop := ∃ t : TO, PO X e t ∧ ∀ α (env : Env) h σ H Q, HR c α h H → SR c (liv α h) α H env σ → Post c RO α h H (part C env ie h) Q (WE W σ) → t σ H Q
end
section
variable {c : Cs} {tx : Text} {C : Sem} {k : Nat} {S : SC} {X : Cx} {W : WX}
theorem res_bind_assoc {α β γ : Type} (r : Res α) (k : α → IH → Res β) (j : β → IH → Res γ) : (r.bind k).bind j = r.bind fun a h => (k a h).bind j := by
  cases r <;> rfl
theorem GX.gl (G : GX c tx C k S X W) {x : Str} (h : S.sc.names.lookup x = some .globalImplicit) : Gl X x := by
  show X.env.scope.names.lookup x = _
  rw [G.sc]
  exact h
theorem GX.un (G : GX c tx C k S X W) : X.A.units + 64 < cLine := G.room.units
/-! ### leaves -/
theorem SE.of_data {e : Expr} {v : V} {x : D} (p : PE X e (tC v)) (f : ∀ M H, FD c.K M H v x) : SE c C X W e (.c x) :=
  ⟨_, p, fun α env h σ H Q r _ p => Post.here (R := RV c) (v' := v) p r (f _ _)⟩
theorem SE.int {i : Int} {j pos} : SE c C X W (.Constant (.int i) j pos) (.c (.int i)) := .of_data pe_int fun _ _ => .int i
theorem SE.bool {i : Bool} {j pos} : SE c C X W (.Constant (.bool i) j pos) (.c (.bool i)) := .of_data pe_bl fun _ _ => .bl i
theorem SE.none {j pos} : SE c C X W (.Constant .none j pos) (.c .none) := .of_data pe_non fun _ _ => .non
theorem SE.str {i : Str} {j pos} : SE c C X W (.Constant (.str i) j pos) (.c (.str i)) := .of_data pe_str fun _ _ => .str i
theorem SE.gint (G : GX c tx C k S X W) {x : Str} {i : Int} {pos} (hc : (x, i) ∈ tx.consts) (hg : S.sc.names.lookup x = some .globalImplicit) (hd : (x == ("__debug__" : Str)) = false) : SE c C X W (.Name x pos) (.c (.int i)) := by
  obtain ⟨t, e⟩ := G.cst _ hc
  exact .of_data (pe_glob (G.gl hg) e (show RelV (V.int i) (Value.int i t) from ⟨t, rfl⟩) hd) fun _ _ => .int i
theorem getS_some {env : Env} {i : Nat} {x : Val} (e : getS env i = some x) : env[i]? = some (some x) := by
  unfold getS at e
  split at e
  · rename_i v hv
    cases e
    exact hv
  · cases e
theorem SE.var (G : GX c tx C k S X W) {i : Nat} {x : Str} {pos} (hN : S.N[i]? = some x) (hv : Vis S.sc x) (hd : (x == ("__debug__" : Str)) = false) (hcd : (x == ("__classdict__" : Str)) = false) : SE c C X W (.Name x pos) (.v i) := by
  refine ⟨_, pe_var (by rw [G.N]; exact hN) (by rw [G.sc]; exact hv) hd hcd, fun α env h σ H Q r s p => ?_⟩
  simp only [ev] at p
  cases e : getS env i with
  | none => rw [e] at p; exact p.elim
  | some y =>
    rw [e] at p
    obtain ⟨v, e1, e2⟩ := s.2 i y (getS_some e)
    exact ⟨v, e1, Post.here (R := RV c) p r e2⟩
theorem SE.fn (G : GX c tx C k S X W) {g : Nat} {d : DefT} {pos} (hg : tx.defs[g]? = some d) (hgl : S.sc.names.lookup d.name = some .globalImplicit) (hd : (d.name == ("__debug__" : Str)) = false) : SE c C X W (.Name d.name pos) (.fn g) := by
  obtain ⟨e, _⟩ := G.fn g d hg
  exact ⟨_, pe_glob (G.gl hgl) e (show RelV (V.ref (c.adr g)) _ from rfl) hd, fun α env h σ H Q r _ p => Post.here (R := RV c) (v' := V.ref (c.adr g)) p r rfl⟩
/-! ### two things, then an operation -/
theorem Post.ofO_bl {α : List Addr} {h : IH} {H : Hp} {o : Option Bool} {Q : VK} {E : XK} (r : HR c α h H) (p : Post c (RV c) α h H (ofO (o.map fun b => Val.d (.bool b)) h) Q E) : ∃ b, o = some b ∧ Q (.bl b) H := by
  cases o with
  | none => exact p.elim
  | some b => exact ⟨b, rfl, Post.here (R := RV c) (v' := V.bl b) p r (.bl b)⟩
theorem Post.fin {α : List Addr} {h : IH} {H : Hp} {d : D} {Q : VK} {E : XK} (r : HR c α h H) (p : Post c (RV c) α h H (.ok (.d d) h) Q E) : Fin c.K (liv α h) H d Q := fun v H' e f =>
  Post.at_ (R := RV c) (v' := v) p (r.ext e) (Stp.ext e) f
theorem Post.ofO_d {α : List Addr} {h : IH} {H : Hp} {o : Option D} {Q : VK} {E : XK} (r : HR c α h H) (p : Post c (RV c) α h H (ofO (o.map .d) h) Q E) : ∃ d, o = some d ∧ Fin c.K (liv α h) H d Q := by
  cases o with
  | none => exact p.elim
  | some d => exact ⟨d, rfl, Post.fin r p⟩
theorem SE.bin (G : GX c tx C k S X W) {op : Operator} {a b : Expr} {ia ib : IE} {pos : Pos} (ha : SE c C X W a ia) (hb : SE c C X W b ib) (ho : okBin op = true) : SE c C X W (.BinOp a op b pos) (.bin op ia ib) := by
  obtain ⟨ta, pa, qa⟩ := ha
  obtain ⟨tb, pb, qb⟩ := hb
  refine ⟨_, pe_op (bin_ok ho) pa pb, fun α env h σ H Q r s p => ?_⟩
  simp only [ev] at p
  refine qa α env h σ H _ r s (Post.mono (Post.bind (R := RV c) p) fun v1 H1 ⟨x, h1, α1, r1, s1, z1, p1⟩ => ?_)
  refine qb α1 env h1 σ H1 _ r1 (s.mono r s1) (Post.mono (Post.bind (R := RV c) p1) fun v2 H2 ⟨y, h2, α2, r2, s2, z2, p2⟩ => ?_)
  have z1' := z1.mono r1 s2
  cases x with
  | d x =>
    cases y with
    | d y =>
      obtain ⟨d, e, q⟩ := Post.ofO_d r2 p2
      rw [G.K]
      exact ⟨liv α2 h2, x, y, d, r2.lst, .inl z1', .inl z2, e, q⟩
    | _ => exact p2.elim
  | _ => cases y <;> exact p2.elim
theorem SE.cmp (G : GX c tx C k S X W) {op : CmpOp} {a b : Expr} {ia ib : IE} {pos : Pos} (ha : SE c C X W a ia) (hb : SE c C X W b ib) (ho : okCmp op = true) (hm : behindInMarks op b = false) : SE c C X W (.Compare a [op] [b] pos) (.cmp op ia ib) := by
  obtain ⟨ta, pa, qa⟩ := ha
  obtain ⟨tb, pb, qb⟩ := hb
  refine ⟨_, pe_cmpR (cmp_ok G.un ho) pa pb hm, fun α env h σ H Q r s p => ?_⟩
  simp only [ev] at p
  refine qa α env h σ H _ r s (Post.mono (Post.bind (R := RV c) p) fun v1 H1 ⟨x, h1, α1, r1, s1, z1, p1⟩ => ?_)
  refine qb α1 env h1 σ H1 _ r1 (s.mono r s1) (Post.mono (Post.bind (R := RV c) p1) fun v2 H2 ⟨y, h2, α2, r2, s2, z2, p2⟩ => ?_)
  have z1' := z1.mono r1 s2
  cases e1 : dat x h2 with
  | none => simp only [e1] at p2; exact p2.elim
  | some dx =>
    cases e2 : dat y h2 with
    | none => simp only [e1, e2] at p2; exact p2.elim
    | some dy =>
      simp only [e1, e2] at p2
      obtain ⟨b, eb, q⟩ := Post.ofO_bl r2 p2
      rw [G.K]
      exact ⟨liv α2 h2, dx, dy, b, r2.lst, dat_v r2 z1' e1, dat_v r2 z2 e2, eb, q⟩
theorem ST.cmp (G : GX c tx C k S X W) {op : CmpOp} {a b : Expr} {ia ib : IE} {pos : Pos} (ha : SE c C X W a ia) (hb : SE c C X W b ib) (ho : okCmp op = true) (hm : behindInMarks op b = false) : ST c C X W (.Compare a [op] [b] pos) (.cmp op ia ib) := by
  obtain ⟨ta, pa, qa⟩ := ha
  obtain ⟨tb, pb, qb⟩ := hb
  refine ⟨_, pt_cmpR (cmp_ok G.un ho) pa pb hm, fun α env h σ H Q r s p => ?_⟩
  simp only [tst, ev, res_bind_assoc] at p
  refine qa α env h σ H _ r s (Post.mono (Post.bind (R := RV c) p) fun v1 H1 ⟨x, h1, α1, r1, s1, z1, p1⟩ => ?_)
  refine qb α1 env h1 σ H1 _ r1 (s.mono r s1) (Post.mono (Post.bind (R := RV c) p1) fun v2 H2 ⟨y, h2, α2, r2, s2, z2, p2⟩ => ?_)
  have z1' := z1.mono r1 s2
  cases e1 : dat x h2 with
  | none => simp only [e1] at p2; exact p2.elim
  | some dx =>
    cases e2 : dat y h2 with
    | none => simp only [e1, e2] at p2; exact p2.elim
    | some dy =>
      simp only [e1, e2] at p2
      cases eb : cmpD op dx dy with
      | none => simp only [eb] at p2; exact p2.elim
      | some b =>
        simp only [eb] at p2
        rw [G.K]
        exact ⟨liv α2 h2, dx, dy, b, r2.lst, dat_v r2 z1' e1, dat_v r2 z2 e2, eb, b, rfl, Post.here (R := RB) (v' := b) p2 r2 rfl⟩
theorem SE.chain (G : GX c tx C k S X W) {op op2 : CmpOp} {a b e : Expr} {ia ib ie : IE} {pos : Pos} (ha : SE c C X W a ia) (hb : SE c C X W b ib) (he : SE c C X W e ie) (ho : okCmp op = true) (ho2 : okCmp op2 = true) (hm : lastMarks [op, op2] [b, e] = false) : SE c C X W (.Compare a [op, op2] [b, e] pos) (.chain op op2 ia ib ie) := by
  obtain ⟨ta, pa, qa⟩ := ha
  obtain ⟨tb, pb, qb⟩ := hb
  obtain ⟨te, pe, qe⟩ := he
  refine ⟨_, pe_chain (cmp_ok G.un ho) (cmp_ok G.un ho2) pa pb pe hm, fun α env h σ H Q r s p => ?_⟩
  simp only [ev] at p
  refine qa α env h σ H _ r s (Post.mono (Post.bind (R := RV c) p) fun v1 H1 ⟨x, h1, α1, r1, s1, z1, p1⟩ => ?_)
  refine qb α1 env h1 σ H1 _ r1 (s.mono r s1) (Post.mono (Post.bind (R := RV c) p1) fun v2 H2 ⟨y, h2, α2, r2, s2, z2, p2⟩ => ?_)
  have z1' := z1.mono r1 s2
  cases x with
  | d x =>
    cases y with
    | d y =>
      simp only at p2
      cases eb : cmpD op x y with
      | none => simp only [eb] at p2; exact p2.elim
      | some b =>
        simp only [eb] at p2
        rw [G.K]
        refine ⟨liv α2 h2, x, y, b, r2.lst, .inl z1', .inl z2, eb, b, rfl, ?_⟩
        cases b with
        | false => exact Post.here (R := RV c) (v' := V.bl false) p2 r2 (.bl false)
        | true =>
          refine qe α2 env h2 σ H2 _ r2 ((s.mono r s1).mono r1 s2) (Post.mono (Post.bind (R := RV c) p2) fun v3 H3 ⟨z, h3, α3, r3, s3, z3, p3⟩ => ?_)
          have z2' := z2.mono r2 s3
          cases z with
          | d z =>
            obtain ⟨b, eb, q⟩ := Post.ofO_bl r3 p3
            exact ⟨liv α3 h3, y, z, b, r3.lst, .inl z2', .inl z3, eb, q⟩
          | _ => exact p3.elim
    | _ => exact p2.elim
  | _ => cases y <;> exact p2.elim
theorem ST.chain (G : GX c tx C k S X W) {op op2 : CmpOp} {a b e : Expr} {ia ib ie : IE} {pos : Pos} (ha : SE c C X W a ia) (hb : SE c C X W b ib) (he : SE c C X W e ie) (ho : okCmp op = true) (ho2 : okCmp op2 = true) (hm : lastMarks [op, op2] [b, e] = false) : ST c C X W (.Compare a [op, op2] [b, e] pos) (.chain op op2 ia ib ie) := by
  obtain ⟨ta, pa, qa⟩ := ha
  obtain ⟨tb, pb, qb⟩ := hb
  obtain ⟨te, pe, qe⟩ := he
  refine ⟨_, pt_chain (cmp_ok G.un ho) (cmp_ok G.un ho2) pa pb pe hm, fun α env h σ H Q r s p => ?_⟩
  simp only [tst, ev, res_bind_assoc] at p
  refine qa α env h σ H _ r s (Post.mono (Post.bind (R := RV c) p) fun v1 H1 ⟨x, h1, α1, r1, s1, z1, p1⟩ => ?_)
  refine qb α1 env h1 σ H1 _ r1 (s.mono r s1) (Post.mono (Post.bind (R := RV c) p1) fun v2 H2 ⟨y, h2, α2, r2, s2, z2, p2⟩ => ?_)
  have z1' := z1.mono r1 s2
  cases x with
  | d x =>
    cases y with
    | d y =>
      simp only at p2
      cases eb : cmpD op x y with
      | none => simp only [eb] at p2; exact p2.elim
      | some b =>
        simp only [eb] at p2
        rw [G.K]
        refine ⟨liv α2 h2, x, y, b, r2.lst, .inl z1', .inl z2, eb, b, rfl, ?_⟩
        cases b with
        | false => exact ⟨false, rfl, Post.here (R := RB) (v' := false) p2 r2 rfl⟩
        | true =>
          simp only [res_bind_assoc] at p2
          refine qe α2 env h2 σ H2 _ r2 ((s.mono r s1).mono r1 s2) (Post.mono (Post.bind (R := RV c) p2) fun v3 H3 ⟨z, h3, α3, r3, s3, z3, p3⟩ => ?_)
          have z2' := z2.mono r2 s3
          cases z with
          | d z =>
            simp only at p3
            cases eb2 : cmpD op2 y z with
            | none => simp only [eb2] at p3; exact p3.elim
            | some b =>
              simp only [eb2] at p3
              exact ⟨liv α3 h3, y, z, b, r3.lst, .inl z2', .inl z3, eb2, b, rfl, Post.here (R := RB) (v' := b) p3 r3 rfl⟩
          | _ => exact p3.elim
    | _ => exact p2.elim
  | _ => cases y <;> exact p2.elim
/-! ### is None, not, neg -/
theorem none_v {M : Addr → Prop} {α : List Addr} {H : Hp} {x : Val} {v : V} (q : RV c M α H x v) : decide (v = V.non) = isNone x := by
  cases x with
  | d x => cases q <;> rfl
  | ref n => obtain ⟨a, _, rfl⟩ := q; rfl
  | fn g => cases q; rfl
  | clo l cs => obtain ⟨f, rfl, _⟩ := q; rfl
  | fd l cs => obtain ⟨f, rfl, _⟩ := q; rfl
end
end RR

-- RRS
set_option maxHeartbeats 4000000
/-! sorted(rows): the rows of a list or of a tuple. -/
namespace RR
open PySem PySem.Spec PyProof.Rows L2
section
variable {P : Program} {w : World} {A : Around} {E : Value → Shared → Prop} {s : Shared}
/-- sorted(xs) of a list or of a tuple of tuples of ints -/
theorem sorted_seq {l : Addr} {o : Obj} {T : String} {vs : List Value} {m d : Nat} {B : Int} {Q : Value → Shared → Prop} (hT : T = "list" ∨ T = "tuple") (ho : s.heap.get? l = some o) (hc : o.cls = .type T) (hd : o.data = .seq vs.toArray m) (few : vs.length < 64) (d1 : 1 ≤ d) (x : TS.TupsOk s.heap d B vs)
    (q : ∀ (g : Heap) (p c : Nat) (out : Array Value), (∀ b u, s.heap.get? b = some u → g.get? b = some u) → s.heap.get? p = none → (∀ H : Hp, HOk P w H s.heap → H p = none) → g.get? p = some (seqObj "list" out c) → out.toList.Perm vs → out.toList.Pairwise (fun u v => TS.code B (TS.intsOf s.heap u) ≤ TS.code B (TS.intsOf s.heap v)) → Q (.ref p) { s with heap := g }) :
    wpAny (model P w) A (call (.builtin "sorted") [.ref l]) Q E s := by
  have sl := sizeLine_eq
  refine Calls.call_function_entry kind_sorted plain_sorted entry_sorted (args_sorted1 _) ?_
  unfold Builtin.«sorted»
  refine wpAny_bind (m := checkCount "sorted" 1 1 _) (wpAny_pure ?_)
  refine wpAny_bind (wpAny_collect_seq l hT ho hc hd (fun g k => ?_) (by rw [List.size_toArray]; omega))
  rw [List.toList_toArray]
  refine wpAny_bind (wpAny_newList ?_ (by omega))
  have new : (g.push (seqObj "list" vs.toArray 0)).get? g.objs.size = some (seqObj "list" vs.toArray 0) := Heap.get?_push_size _ rfl
  have stay : ∀ b u, s.heap.get? b = some u → u.cls = .type "tuple" → (g.push (seqObj "list" vs.toArray 0)).get? b = some u := fun b u e _ => Heap.get?_push_of_some _ (k b u e)
  refine wpAny_bind (wpAny_holding (TS.call_sort_tups (s := { s with heap := g.push (seqObj "list" vs.toArray 0) }) new few d1 (x.keeps stay) fun out pm pw => ?_))
  obtain ⟨c, at'⟩ := sortedHeap_at (vs := vs) (out := out) new
  have b1 : s.heap.get? g.objs.size = none := by
    cases z : s.heap.get? g.objs.size with
    | none => rfl
    | some u => exact absurd (Heap.lt_size (k _ u z)) (Nat.lt_irrefl _)
  have b2 : ∀ H : Hp, HOk P w H s.heap → H g.objs.size = none := fun H z => (z.kept k).fresh (Nat.le_refl _)
  refine wpAny_pure ⟨_, rfl, q _ g.objs.size c out (fun b u e => ?_) b1 b2 at' pm ?_⟩
  · have e2 := k b u e
    have lt := Heap.lt_size e2
    show (sortedHeap (g.push (seqObj "list" vs.toArray 0)) g.objs.size vs out).get? b = some u
    rw [sortedHeap_old (Nat.ne_of_lt lt) (by rw [size_push']; exact Nat.lt_succ_of_lt lt)]
    exact Heap.get?_push_of_some _ e2
  · refine List.Pairwise.imp_of_mem (fun {u v} hu hv le => ?_) pw
    obtain ⟨n1, t1, _⟩ := x u (pm.mem_iff.mp hu)
    obtain ⟨n2, t2, _⟩ := x v (pm.mem_iff.mp hv)
    rw [t1.ints, t2.ints]
    have e1 := (t1.keeps stay).ints
    have e2 := (t2.keeps stay).ints
    rw [← e1, ← e2]
    exact le
end
/-! ### rows of data -/
theorem perm_of_map {α β : Type} {f : α → β} {l m : List β} (p : l.Perm m) : ∀ ks : List α, m = ks.map f → ∃ k2 : List α, k2.Perm ks ∧ l = k2.map f := by
  induction p with
  | nil => exact fun ks e => ⟨[], by rw [List.map_eq_nil_iff.mp e.symm], rfl⟩
  | cons x p ih =>
    intro ks e
    cases ks with
    | nil => cases e
    | cons k t =>
      simp only [List.map_cons, List.cons.injEq] at e
      obtain ⟨k2, p2, e2⟩ := ih t e.2
      exact ⟨k :: k2, p2.cons k, by rw [List.map_cons, e.1, e2]⟩
  | swap x y l =>
    intro ks e
    match ks, e with
    | a :: b :: t, e =>
      simp only [List.map_cons, List.cons.injEq] at e
      exact ⟨b :: a :: t, List.Perm.swap a b t, by rw [List.map_cons, List.map_cons, e.1, e.2.1, e.2.2]⟩
  | trans p q ih1 ih2 =>
    intro ks e
    obtain ⟨k2, p2, e2⟩ := ih2 ks e
    obtain ⟨k3, p3, e3⟩ := ih1 k2 e2
    exact ⟨k3, p3.trans p2, e3⟩
section
variable {K : PySem.W.Frag} {M : Addr → Prop} {H : Hp}
theorem rows_fd : ∀ {ds : List D} {vs : List V} {rs : List (List Int)}, FDs K M H vs ds → rowsOf ds = some rs → ∃ ks : List (Addr × List Int), vs = (ks.map fun p => V.ref p.1) ∧ ks.map (·.2) = rs ∧ ∀ p ∈ ks, SqT K H p.1 (p.2.map V.int) ∧ FD K M H (.ref p.1) (rowD p.2)
  | [], _, _, h, e => by
    cases h
    cases e
    exact ⟨[], rfl, rfl, fun _ z => (by cases z)⟩
  | d :: ds, _, _, h, e => by
    cases h with
    | cons a b =>
      cases d with
      | tuple xs =>
        simp only [rowsOf] at e
        split at e
        · rename_i ns rs h1 h2
          cases e
          obtain ⟨ks, e1, e2, e3⟩ := rows_fd b h2
          have a0 := a
          have ex := intsOf_eq h1
          cases a with
          | tup r n q =>
            have ei := FDs.ints q h1
            subst ei
            refine ⟨(_, ns) :: ks, by rw [e1]; rfl, by rw [← e2]; rfl, fun p hp => ?_⟩
            rcases List.mem_cons.mp hp with z | z
            · rw [z]
              exact ⟨.inl (.inr ⟨_, r⟩), by rw [ex] at a0; exact a0⟩
            · exact e3 p z
        · cases e
      | _ => cases e
theorem rows_back (ks : List (Addr × List Int)) (h : ∀ p ∈ ks, FD K M H (.ref p.1) (rowD p.2)) : FDs K M H (ks.map fun p => V.ref p.1) ((ks.map (·.2)).map rowD) := by
  induction ks with
  | nil => exact .nil
  | cons p t ih => exact .cons (h p List.mem_cons_self) (ih fun q hq => h q (List.mem_cons_of_mem _ hq))
end
theorem code_R : ∀ ns : List Int, TS.code 1000 ns = codeR ns
  | [] => rfl
  | d :: r => by
    rw [TS.code, codeR, code_R r]
theorem code_one : ∀ {a b : List Int}, a.length = b.length → TS.Bd 1000 a → TS.Bd 1000 b → TS.code 1000 a = TS.code 1000 b → a = b
  | [], [], _, _, _, _ => rfl
  | x :: a, y :: b, hl, ha, hb, e => by
    have hl' : a.length = b.length := by simpa using hl
    rcases Int.lt_trichotomy x y with z | z | z
    · have := TS.code_lt hl' ha.tail hb.tail z
      omega
    · subst z
      have e2 : TS.code 1000 a = TS.code 1000 b := by
        rw [TS.code, TS.code, hl'] at e
        omega
      rw [code_one hl' ha.tail hb.tail e2]
    · have := TS.code_lt hl'.symm hb.tail ha.tail z
      omega
/-- what the test says -/
theorem sortable_ok {rs : List (List Int)} (h : sortable rs = true) : rs.length < 60 ∧ ∃ d, 1 ≤ d ∧ ∀ r ∈ rs, r.length = d ∧ TS.Bd 1000 r := by
  simp only [sortable, Bool.and_eq_true, decide_eq_true_eq] at h
  obtain ⟨⟨h1, h2⟩, h3⟩ := h
  have bd : ∀ r ∈ rs, TS.Bd 1000 r := fun r hr m hm => by
    have z := List.all_eq_true.mp (List.all_eq_true.mp h2 r hr) m hm
    simpa using z
  refine ⟨h1, ?_⟩
  cases rs with
  | nil => exact ⟨1, Nat.le_refl _, fun r hr => by cases hr⟩
  | cons r t =>
    simp only [evenR, Bool.and_eq_true, decide_eq_true_eq, List.all_eq_true] at h3
    refine ⟨r.length, h3.1, fun q hq => ⟨?_, bd q hq⟩⟩
    rcases List.mem_cons.mp hq with z | z
    · rw [z]
    · exact h3.2 q z
/-- there is one way to sort -/
theorem sort_one {rs out : List (List Int)} {d : Nat} (h : ∀ r ∈ rs, r.length = d ∧ TS.Bd 1000 r) (pm : out.Perm rs) (pw : out.Pairwise fun a b => TS.code 1000 a ≤ TS.code 1000 b) : out = sortR rs := by
  have s2 : (sortR rs).Perm rs := List.mergeSort_perm ..
  have s1 : (sortR rs).Pairwise fun a b => TS.code 1000 a ≤ TS.code 1000 b := by
    have z := List.pairwise_mergeSort (le := fun a b => decide (codeR a ≤ codeR b)) (fun a b c h1 h2 => by
      simp only [decide_eq_true_eq] at *
      omega) (fun a b => by
      simp only [Bool.or_eq_true, decide_eq_true_eq]
      omega) rs
    refine List.Pairwise.imp (fun {a b} hab => ?_) z
    rw [code_R, code_R]
    exact of_decide_eq_true hab
  refine List.Perm.eq_of_pairwise (le := fun a b => TS.code 1000 a ≤ TS.code 1000 b) (fun a b ha hb h1 h2 => ?_) pw s1 (pm.trans s2.symm)
  have a1 := h a (pm.mem_iff.mp ha)
  have b1 := h b (s2.mem_iff.mp hb)
  exact code_one (a1.1.trans b1.1.symm) a1.2 b1.2 (Int.le_antisymm h1 h2)
section
variable {X : Cx}
theorem bi_sorted : CallR X (.builtin "sorted") (rB X.K .sorted) := by
  intro pins s σ H vs us Q I r h
  obtain ⟨M, ds, d, l, p, e, q⟩ := h
  obtain ⟨x, rfl⟩ : ∃ x, ds = [x] := by
    unfold biD at e
    split at e <;> try (cases e; done)
    all_goals (rename_i hb; try (cases hb; done))
    exact ⟨_, rfl⟩
  have e' : sortD x = some d := e
  obtain ⟨v, rfl, f⟩ := pair1 p
  obtain ⟨u, rfl, ru⟩ := vals1 r
  unfold sortD at e'
  split at e'
  · rename_i xs hx
    split at e'
    · rename_i rs hr
      split at e'
      · rename_i hs
        cases e'
        obtain ⟨few, dd, d1, hrow⟩ := sortable_ok hs
        -- the object
        obtain ⟨a, ws, its, o, m, T, rfl, rv, hT, ho, hc, hd, q1⟩ : ∃ (a : Addr) (ws : List V) (its : List Value) (o : Obj) (m : Nat) (T : String), v = .ref a ∧ Vals ws its ∧ (T = "list" ∨ T = "tuple") ∧ s.heap.get? a = some o ∧ o.cls = .type T ∧ o.data = .seq its.toArray m ∧ FDs X.K M H ws xs := by
          cases x with
          | list ys =>
            cases hx
            obtain ⟨a, ws, rfl, s1, q1⟩ := f.list
            obtain ⟨its, rv, ⟨o, m, ho, hc, _, hd⟩, _⟩ := I.list s1
            exact ⟨a, ws, its, o, m, "list", rfl, rv, .inl rfl, ho, hc, hd, q1⟩
          | tuple ys =>
            cases hx
            obtain ⟨a, ws, rfl, s1, q1⟩ := f.tuple
            obtain ⟨its, rv, ⟨o, ho, hc, m, hd⟩, _⟩ := I.tuple s1
            exact ⟨a, ws, its, o, m, "tuple", rfl, rv, .inr rfl, ho, hc, hd, q1⟩
          | _ => cases hx
        cases ru
        obtain ⟨ks, rfl, rfl, sk⟩ := rows_fd q1 hr
        have ei : its = ks.map fun p => Value.ref p.1 := refs_of_vals rv
        subst ei
        rw [List.length_map] at few
        have tups : TS.TupsOk s.heap dd 1000 (ks.map fun p => Value.ref p.1) := fun v hv => by
          obtain ⟨p, hp, rfl⟩ := List.mem_map.mp hv
          have z := hrow p.2 (List.mem_map.mpr ⟨p, hp, rfl⟩)
          exact ⟨p.2, tupI_raw I (sk p hp).1, z.1, z.2⟩
        refine sorted_seq hT ho hc hd (by rw [List.length_map]; omega) d1 tups fun g b c out kp hb hn hg pm pw => ?_
        obtain ⟨k2, pk, eo⟩ := perm_of_map pm ks rfl
        have hin : ∀ p ∈ k2, p ∈ ks := fun p hp => pk.mem_iff.mp hp
        have es : k2.map (·.2) = sortR (ks.map (·.2)) := by
          refine sort_one hrow (pk.map _) ?_
          rw [eo] at pw
          refine List.pairwise_map.mpr (List.Pairwise.imp_of_mem (fun {p r} hp hr le => ?_) (List.pairwise_map.mp pw))
          rw [(tupI_raw I (sk p (hin p hp)).1).ints, (tupI_raw I (sk r (hin r hr)).1).ints] at le
          exact le
        have hv : Vals (k2.map fun p => V.ref p.1) out.toList := by
          rw [eo]
          exact vals_of_refs k2
        have hl : (k2.map fun p => V.ref p.1).length ≤ sizeLine := by
          rw [List.length_map, pk.length_eq, sizeLine_eq]
          omega
        refine ⟨.ref b, upd H b (.lst (k2.map fun p => V.ref p.1)), I.laidN (t' := s.toks) kp hb (hn H I.hok) ⟨hl, out.toList, c, hv, hg⟩, rfl, ?_⟩
        have fd := rows_back k2 fun p hp => (sk p (hin p hp)).2
        rw [es] at fd
        exact q.lst l fd b (hn H I.hok)
      · cases e'
    · cases e'
  · cases e'
end
end RR

-- RR8
set_option maxHeartbeats 2000000
/-! Expressions: truth, displays, subscripts, calls. -/
namespace RR
open PySem PySem.Spec L2
section
variable {c : Cs} {tx : Text} {C : Sem} {k : Nat} {S : SC} {X : Cx} {W : WX}
theorem SE.isN {a : Expr} {ia : IE} {j pos' pos} (ha : SE c C X W a ia) : SE c C X W (.Compare a [.Is] [.Constant .none j pos'] pos) (.isN true ia) := by
  obtain ⟨ta, pa, qa⟩ := ha
  refine ⟨_, pe_cmp (pc_isN pa) rfl, fun α env h σ H Q r s p => ?_⟩
  simp only [ev] at p
  refine qa α env h σ H _ r s (Post.mono (Post.bind (R := RV c) p) fun v1 H1 ⟨x, h1, α1, r1, s1, z1, p1⟩ => ?_)
  have e : decide (v1 = V.non) = (isNone x == true) := by rw [none_v z1, beq_true]
  exact Post.here (R := RV c) (v' := V.bl (decide (v1 = V.non))) p1 r1 (by rw [e]; exact .bl _)
theorem SE.notN {a : Expr} {ia : IE} {j pos' pos} (ha : SE c C X W a ia) : SE c C X W (.Compare a [.IsNot] [.Constant .none j pos'] pos) (.isN false ia) := by
  obtain ⟨ta, pa, qa⟩ := ha
  refine ⟨_, pe_cmp (pc_notN pa) rfl, fun α env h σ H Q r s p => ?_⟩
  simp only [ev] at p
  refine qa α env h σ H _ r s (Post.mono (Post.bind (R := RV c) p) fun v1 H1 ⟨x, h1, α1, r1, s1, z1, p1⟩ => ?_)
  have e : (!decide (v1 = V.non)) = (isNone x == false) := by rw [none_v z1, beq_false]
  exact Post.here (R := RV c) (v' := V.bl (!decide (v1 = V.non))) p1 r1 (by rw [e]; exact .bl _)
theorem ST.isN {a : Expr} {ia : IE} {j pos' pos} (ha : SE c C X W a ia) : ST c C X W (.Compare a [.Is] [.Constant .none j pos'] pos) (.isN true ia) := by
  obtain ⟨ta, pa, qa⟩ := ha
  refine ⟨_, pt_cmp (pc_isN pa) rfl, fun α env h σ H Q r s p => ?_⟩
  simp only [tst, ev, res_bind_assoc] at p
  refine qa α env h σ H _ r s (Post.mono (Post.bind (R := RV c) p) fun v1 H1 ⟨x, h1, α1, r1, s1, z1, p1⟩ => ?_)
  have e : decide (v1 = V.non) = (isNone x == true) := by rw [none_v z1, beq_true]
  exact ⟨_, rfl, Post.here (R := RB) (v' := decide (v1 = V.non)) p1 r1 e.symm⟩
theorem ST.notN {a : Expr} {ia : IE} {j pos' pos} (ha : SE c C X W a ia) : ST c C X W (.Compare a [.IsNot] [.Constant .none j pos'] pos) (.isN false ia) := by
  obtain ⟨ta, pa, qa⟩ := ha
  refine ⟨_, pt_cmp (pc_notN pa) rfl, fun α env h σ H Q r s p => ?_⟩
  simp only [tst, ev, res_bind_assoc] at p
  refine qa α env h σ H _ r s (Post.mono (Post.bind (R := RV c) p) fun v1 H1 ⟨x, h1, α1, r1, s1, z1, p1⟩ => ?_)
  have e : (!decide (v1 = V.non)) = (isNone x == false) := by rw [none_v z1, beq_false]
  exact ⟨_, rfl, Post.here (R := RB) (v' := !decide (v1 = V.non)) p1 r1 e.symm⟩
theorem SE.neg {a : Expr} {ia : IE} {pos} (ha : SE c C X W a ia) : SE c C X W (.UnaryOp .USub a pos) (.neg ia) := by
  obtain ⟨ta, pa, qa⟩ := ha
  refine ⟨_, pe_un un_neg pa, fun α env h σ H Q r s p => ?_⟩
  simp only [ev] at p
  refine qa α env h σ H _ r s (Post.mono (Post.bind (R := RV c) p) fun v1 H1 ⟨x, h1, α1, r1, s1, z1, p1⟩ => ?_)
  cases x with
  | d x =>
    cases x with
    | int i =>
      cases z1
      exact ⟨i, rfl, Post.here (R := RV c) (v' := V.int (-i)) p1 r1 (.int _)⟩
    | _ => exact p1.elim
  | _ => exact p1.elim
/-! ### truth -/
theorem tru_at (G : GX c tx C k S X W) {α : List Addr} {h : IH} {H : Hp} {x : Val} {v : V} {b : Bool} {pins : List (Addr × Obj)} {s : Shared} {σ : St} {u : Value} (r : HR c α h H) (q : RV c (liv α h) α H x v) (e : truth x h = some b) (I : Inv X pins σ H s) (ru : RelV v u)
    {Q : Bool → Shared → Prop} {E : Value → Shared → Prop} (hE : E = X.xe) (hq : ∀ s', Inv X pins σ H s' → Q b s') : wpAny (model X.prog X.w) X.A (truthy u) Q E s := by
  subst hE
  refine thn (tru_ok pins s σ H v u (fun b' H' => b' = b ∧ H' = H) I ru ⟨b, by rw [G.K]; exact truth_v r q e, rfl, rfl⟩) fun b' s' ⟨H', I', e1, e2⟩ => ?_
  subst e1 e2
  exact hq s' I'
def tAndG (K : PySem.W.Frag) (ta tb : TE) : TE := fun σ H Q => ta σ H fun x H1 => ∃ b, TruV K x H1 b ∧ if b = true then tb σ H1 Q else Q x H1
def tOrG (K : PySem.W.Frag) (ta tb : TE) : TE := fun σ H Q => ta σ H fun x H1 => ∃ b, TruV K x H1 b ∧ if b = true then Q x H1 else tb σ H1 Q
section
variable {a b : Expr} {rest : List Expr} {ta tb : TE} {pos : Pos}
theorem pe_andG (ha : PE X a ta) (hb : PE X (.BoolOp .And (b :: rest) pos) tb) : PE X (.BoolOp .And (a :: b :: rest) pos) (tAndG X.K ta tb) := by
  refine ⟨fun pins s σ H Q I h => ?_⟩
  refine PyProof.Rows.BoolOp_and (thn (ha.run pins s σ H _ I h) fun v s1 ⟨x, H1, I1, r1, bb, tv, q1⟩ => ?_)
  refine thn (tru_ok pins s1 σ H1 x v (fun b' H' => b' = bb ∧ H' = H1) I1 r1 ⟨bb, tv, rfl, rfl⟩) fun b' s' ⟨H', I', e1, e2⟩ => ?_
  subst e1 e2
  cases b' with
  | true => exact hb.run pins s' σ H' Q I' q1
  | false => exact ⟨x, H', I', r1, q1⟩
theorem pe_orG (ha : PE X a ta) (hb : PE X (.BoolOp .Or (b :: rest) pos) tb) : PE X (.BoolOp .Or (a :: b :: rest) pos) (tOrG X.K ta tb) := by
  refine ⟨fun pins s σ H Q I h => ?_⟩
  refine PyProof.Rows.BoolOp_or (thn (ha.run pins s σ H _ I h) fun v s1 ⟨x, H1, I1, r1, bb, tv, q1⟩ => ?_)
  refine thn (tru_ok pins s1 σ H1 x v (fun b' H' => b' = bb ∧ H' = H1) I1 r1 ⟨bb, tv, rfl, rfl⟩) fun b' s' ⟨H', I', e1, e2⟩ => ?_
  subst e1 e2
  cases b' with
  | false => exact hb.run pins s' σ H' Q I' q1
  | true => exact ⟨x, H', I', r1, q1⟩
end
theorem SE.one {op} {a : Expr} {ia : IE} {pos} (ha : SE c C X W a ia) : SE c C X W (.BoolOp op [a] pos) ia := by
  obtain ⟨ta, pa, qa⟩ := ha
  exact ⟨_, pe_one pa, qa⟩
theorem SE.and_ (G : GX c tx C k S X W) {a b : Expr} {rest : List Expr} {ia ib : IE} {pos : Pos} (ha : SE c C X W a ia) (hb : SE c C X W (.BoolOp .And (b :: rest) pos) ib) : SE c C X W (.BoolOp .And (a :: b :: rest) pos) (.and_ ia ib) := by
  obtain ⟨ta, pa, qa⟩ := ha
  obtain ⟨tb, pb, qb⟩ := hb
  refine ⟨_, pe_andG pa pb, fun α env h σ H Q r s p => ?_⟩
  simp only [ev] at p
  refine qa α env h σ H _ r s (Post.mono (Post.bind (R := RV c) p) fun v1 H1 ⟨x, h1, α1, r1, s1, z1, p1⟩ => ?_)
  cases e : truth x h1 with
  | none => simp only [e] at p1; exact p1.elim
  | some t =>
    simp only [e] at p1
    refine ⟨t, by rw [G.K]; exact truth_v r1 z1 e, ?_⟩
    cases t with
    | true => exact qb α1 env h1 σ H1 _ r1 (s.mono r s1) p1
    | false => exact Post.here (R := RV c) p1 r1 z1
theorem SE.or_ (G : GX c tx C k S X W) {a b : Expr} {rest : List Expr} {ia ib : IE} {pos : Pos} (ha : SE c C X W a ia) (hb : SE c C X W (.BoolOp .Or (b :: rest) pos) ib) : SE c C X W (.BoolOp .Or (a :: b :: rest) pos) (.or_ ia ib) := by
  obtain ⟨ta, pa, qa⟩ := ha
  obtain ⟨tb, pb, qb⟩ := hb
  refine ⟨_, pe_orG pa pb, fun α env h σ H Q r s p => ?_⟩
  simp only [ev] at p
  refine qa α env h σ H _ r s (Post.mono (Post.bind (R := RV c) p) fun v1 H1 ⟨x, h1, α1, r1, s1, z1, p1⟩ => ?_)
  cases e : truth x h1 with
  | none => simp only [e] at p1; exact p1.elim
  | some t =>
    simp only [e] at p1
    refine ⟨t, by rw [G.K]; exact truth_v r1 z1 e, ?_⟩
    cases t with
    | false => exact qb α1 env h1 σ H1 _ r1 (s.mono r s1) p1
    | true => exact Post.here (R := RV c) p1 r1 z1
def plainT : Expr → Bool
  | .UnaryOp .Not _ _ => false
  | .BoolOp .. => false
  | .IfExp .. => false
  | .Compare .. => false
  | _ => true
theorem plain_ok {e : Expr} (h : plainT e = true) (env : PySem.Env) (whole : PySem.Sem Value) : isTrue e env whole = (do let v ← whole; standAt e.pos; holding [v] (truthy v)) := by
  cases e <;> first | (cases h; done) | rfl | (rename_i op a b; cases op <;> first | (cases h; done) | rfl)
theorem ST.plain (G : GX c tx C k S X W) {a : Expr} {ia : IE} (ha : SE c C X W a ia) (hp : plainT a = true) : ST c C X W a ia := by
  obtain ⟨ta, pa, qa⟩ := ha
  refine ⟨_, pt_truth pa (plain_ok hp X.env), fun α env h σ H Q r s p => ?_⟩
  refine qa α env h σ H _ r s (Post.mono (Post.bind (R := RV c) p) fun v1 H1 ⟨x, h1, α1, r1, s1, z1, p1⟩ => ?_)
  cases e : truth x h1 with
  | none => simp only [e] at p1; exact p1.elim
  | some t =>
    simp only [e] at p1
    exact ⟨t, by rw [G.K]; exact truth_v r1 z1 e, Post.here (R := RB) (v' := t) p1 r1 rfl⟩
theorem SW.st {e : Expr} {ie : IE} (h : SW c C X W e ie) : ST c C X W e ie := by
  obtain ⟨t, p, q⟩ := h
  exact ⟨t, p.pt, q⟩
theorem SW.and1 {a : Expr} {ia : IE} {pos} (ha : ST c C X W a ia) : SW c C X W (.BoolOp .And [a] pos) ia := by
  obtain ⟨t, p, q⟩ := ha
  exact ⟨t, pw_and1 p, q⟩
theorem SW.or1 {a : Expr} {ia : IE} {pos} (ha : ST c C X W a ia) : SW c C X W (.BoolOp .Or [a] pos) ia := by
  obtain ⟨t, p, q⟩ := ha
  exact ⟨t, pw_or1 p, q⟩
theorem tst_bind {α : Type} (env : Env) (ie : IE) (h : IH) (f : Bool → IH → Res α) : (tst C env ie h).bind f = (ev C env ie h).bind fun x h1 => match truth x h1 with
    | some b => f b h1
    | none => .stuck := by
  unfold tst
  rw [res_bind_assoc]
  congr 1
  funext x h1
  cases truth x h1 <;> rfl
theorem tst_and (env : Env) (ia ib : IE) (h : IH) : tst C env (.and_ ia ib) h = (tst C env ia h).bind fun b h1 => if b = true then tst C env ib h1 else .ok false h1 := by
  rw [tst_bind]
  simp only [tst, ev, res_bind_assoc]
  congr 1
  funext x h1
  cases e : truth x h1 with
  | none => rfl
  | some t => cases t <;> simp [e, ofO]
theorem tst_or (env : Env) (ia ib : IE) (h : IH) : tst C env (.or_ ia ib) h = (tst C env ia h).bind fun b h1 => if b = true then .ok true h1 else tst C env ib h1 := by
  rw [tst_bind]
  simp only [tst, ev, res_bind_assoc]
  congr 1
  funext x h1
  cases e : truth x h1 with
  | none => rfl
  | some t => cases t <;> simp [e, ofO]
theorem SW.and_ {a b : Expr} {rest : List Expr} {ia ib : IE} {pos : Pos} (ha : ST c C X W a ia) (hb : SW c C X W (.BoolOp .And (b :: rest) pos) ib) : SW c C X W (.BoolOp .And (a :: b :: rest) pos) (.and_ ia ib) := by
  obtain ⟨ta, pa, qa⟩ := ha
  obtain ⟨tb, pb, qb⟩ := hb
  refine ⟨_, pw_and pa pb, fun α env h σ H Q r s p => ?_⟩
  rw [tst_and] at p
  refine qa α env h σ H _ r s (Post.mono (Post.bind (R := RB) p) fun v1 H1 ⟨x, h1, α1, r1, s1, z1, p1⟩ => ?_)
  cases z1
  cases v1 with
  | true => exact qb α1 env h1 σ H1 _ r1 (s.mono r s1) p1
  | false => exact Post.here (R := RB) (v' := false) p1 r1 rfl
theorem SW.or_ {a b : Expr} {rest : List Expr} {ia ib : IE} {pos : Pos} (ha : ST c C X W a ia) (hb : SW c C X W (.BoolOp .Or (b :: rest) pos) ib) : SW c C X W (.BoolOp .Or (a :: b :: rest) pos) (.or_ ia ib) := by
  obtain ⟨ta, pa, qa⟩ := ha
  obtain ⟨tb, pb, qb⟩ := hb
  refine ⟨_, pw_or pa pb, fun α env h σ H Q r s p => ?_⟩
  rw [tst_or] at p
  refine qa α env h σ H _ r s (Post.mono (Post.bind (R := RB) p) fun v1 H1 ⟨x, h1, α1, r1, s1, z1, p1⟩ => ?_)
  cases z1
  cases v1 with
  | true => exact Post.here (R := RB) (v' := true) p1 r1 rfl
  | false => exact qb α1 env h1 σ H1 _ r1 (s.mono r s1) p1
def tNotG (K : PySem.W.Frag) (ta : TE) : TE := fun σ H Q => ta σ H fun x H1 => ∃ b, TruV K x H1 b ∧ Q (.bl (!b)) H1
theorem pe_notG {a : Expr} {ta : TE} {pos : Pos} (ha : PE X a ta) : PE X (.UnaryOp .Not a pos) (tNotG X.K ta) := by
  refine ⟨fun pins s σ H Q I h => ?_⟩
  refine PyProof.Rows.UnaryOp_ (thn (ha.run pins s σ H _ I h) fun v s1 ⟨x, H1, I1, r1, bb, tv, q1⟩ => ?_)
  refine PyProof.Rows.not_of (thn (tru_ok pins s1 σ H1 x v (fun b' H' => b' = bb ∧ H' = H1) I1 r1 ⟨bb, tv, rfl, rfl⟩) fun b' s' ⟨H', I', e1, e2⟩ => ?_)
  subst e1 e2
  exact ⟨.bl (!b'), H', I', rfl, q1⟩
theorem SE.nt (G : GX c tx C k S X W) {a : Expr} {ia : IE} {pos} (ha : SE c C X W a ia) : SE c C X W (.UnaryOp .Not a pos) (.nt ia) := by
  obtain ⟨ta, pa, qa⟩ := ha
  refine ⟨_, pe_notG pa, fun α env h σ H Q r s p => ?_⟩
  simp only [ev] at p
  refine qa α env h σ H _ r s (Post.mono (Post.bind (R := RV c) p) fun v1 H1 ⟨x, h1, α1, r1, s1, z1, p1⟩ => ?_)
  cases e : truth x h1 with
  | none => simp only [e] at p1; exact p1.elim
  | some t =>
    simp only [e] at p1
    exact ⟨t, by rw [G.K]; exact truth_v r1 z1 e, Post.here (R := RV c) (v' := V.bl (!t)) p1 r1 (.bl _)⟩
theorem tst_nt (env : Env) (ia : IE) (h : IH) : tst C env (.nt ia) h = (tst C env ia h).bind fun b h1 => .ok (!b) h1 := by
  rw [tst_bind]
  simp only [tst, ev, res_bind_assoc]
  congr 1
  funext x h1
  cases e : truth x h1 with
  | none => rfl
  | some t => rfl
theorem ST.nt {a : Expr} {ia : IE} {pos} (ha : ST c C X W a ia) : ST c C X W (.UnaryOp .Not a pos) (.nt ia) := by
  obtain ⟨ta, pa, qa⟩ := ha
  refine ⟨_, pt_not pa, fun α env h σ H Q r s p => ?_⟩
  rw [tst_nt] at p
  refine qa α env h σ H _ r s (Post.mono (Post.bind (R := RB) p) fun v1 H1 ⟨x, h1, α1, r1, s1, z1, p1⟩ => ?_)
  cases z1
  exact Post.here (R := RB) (v' := !v1) p1 r1 rfl
/-! ### a if t else b -/
theorem SE.ifx {t a b : Expr} {it ia ib : IE} {pos} (ht : ST c C X W t it) (ha : SE c C X W a ia) (hb : SE c C X W b ib) : SE c C X W (.IfExp t a b pos) (.ifx it ia ib) := by
  obtain ⟨tt, pt, qt⟩ := ht
  obtain ⟨ta, pa, qa⟩ := ha
  obtain ⟨tb, pb, qb⟩ := hb
  refine ⟨_, pe_ifExp pt pa pb, fun α env h σ H Q r s p => ?_⟩
  have e : ev C env (.ifx it ia ib) h = (tst C env it h).bind fun b h1 => if b = true then ev C env ia h1 else ev C env ib h1 := by
    rw [tst_bind]
    simp only [ev]
    congr 1
    funext x h1
    cases truth x h1 with
    | none => rfl
    | some t => cases t <;> rfl
  rw [e] at p
  refine qt α env h σ H _ r s (Post.mono (Post.bind (R := RB) p) fun v1 H1 ⟨x, h1, α1, r1, s1, z1, p1⟩ => ?_)
  cases z1
  cases v1 with
  | true => exact qa α1 env h1 σ H1 _ r1 (s.mono r s1) p1
  | false => exact qb α1 env h1 σ H1 _ r1 (s.mono r s1) p1
theorem pt_ifExp {t a b : Expr} {tt ta tb : TT} {pos} (pt : PT X t tt) (pa : PT X a ta) (pb : PT X b tb) : PT X (.IfExp t a b pos) (fun σ H Q => tt σ H fun c H1 => if c = true then ta σ H1 Q else tb σ H1 Q) := by
  refine ⟨fun pins s σ H Q I h => ?_⟩
  refine PyProof.Rows.isTrue_IfExp (thn (pt.run pins s σ H _ I h) fun d s1 ⟨H1, I1, q1⟩ => ?_)
  cases d with
  | true => exact pa.run pins s1 σ H1 Q I1 q1
  | false => exact pb.run pins s1 σ H1 Q I1 q1
theorem ST.ifx {t a b : Expr} {it ia ib : IE} {pos} (ht : ST c C X W t it) (ha : ST c C X W a ia) (hb : ST c C X W b ib) : ST c C X W (.IfExp t a b pos) (.ifx it ia ib) := by
  obtain ⟨tt, pt, qt⟩ := ht
  obtain ⟨ta, pa, qa⟩ := ha
  obtain ⟨tb, pb, qb⟩ := hb
  refine ⟨_, pt_ifExp pt pa pb, fun α env h σ H Q r s p => ?_⟩
  have e : tst C env (.ifx it ia ib) h = (tst C env it h).bind fun b h1 => if b = true then tst C env ia h1 else tst C env ib h1 := by
    rw [tst_bind]
    simp only [tst, ev, res_bind_assoc]
    congr 1
    funext x h1
    cases truth x h1 with
    | none => rfl
    | some t => cases t <;> rfl
  rw [e] at p
  refine qt α env h σ H _ r s (Post.mono (Post.bind (R := RB) p) fun v1 H1 ⟨x, h1, α1, r1, s1, z1, p1⟩ => ?_)
  cases z1
  cases v1 with
  | true => exact qa α1 env h1 σ H1 _ r1 (s.mono r s1) p1
  | false => exact qb α1 env h1 σ H1 _ r1 (s.mono r s1) p1
/-! ### lists of expressions -/
theorem SA.nil : SA c C X W [] [] := ⟨_, pa_nil, fun α env h σ H Q r s p => Post.here (R := RVs c) (v' := []) p r .nil⟩
def isStar : Expr → Bool
  | .Starred .. => true
  | _ => false
theorem star_cons {e : Expr} (h : isStar e = false) (es : List Expr) (env : PySem.Env) : starEach (e :: es) env = (false, eval e env) :: starEach es env := by
  cases e <;> first | (cases h; done) | rfl
theorem SA.cons {e : Expr} {es : List Expr} {ie : IE} {ies : List IE} (ha : SE c C X W e ie) (hs : SA c C X W es ies) (hn : isStar e = false) : SA c C X W (e :: es) (ie :: ies) := by
  obtain ⟨ta, pa, qa⟩ := ha
  obtain ⟨tb, pb, qb⟩ := hs
  refine ⟨_, pa_cons pa pb (star_cons hn es X.env), fun α env h σ H Q r s p => ?_⟩
  simp only [evs] at p
  refine qa α env h σ H _ r s (Post.mono (Post.bind (R := RV c) p) fun v1 H1 ⟨x, h1, α1, r1, s1, z1, p1⟩ => ?_)
  refine qb α1 env h1 σ H1 _ r1 (s.mono r s1) (Post.mono (Post.bind (R := RVs c) p1) fun v2 H2 ⟨y, h2, α2, r2, s2, z2, p2⟩ => ?_)
  exact Post.here (R := RVs c) (v' := v1 :: v2) p2 r2 (.cons (z1.mono r1 s2) z2)
theorem SE.tup {es : List Expr} {ies : List IE} {j pos} (h : SA c C X W es ies) : SE c C X W (.Tuple es j pos) (.tup ies) := by
  obtain ⟨t, p, q⟩ := h
  refine ⟨_, pe_tupN p, fun α env h σ H Q r s p => ?_⟩
  simp only [ev] at p
  refine q α env h σ H _ r s (Post.mono (Post.bind (R := RVs c) p) fun v1 H1 ⟨x, h1, α1, r1, s1, z1, p1⟩ => ?_)
  cases e : dats x h1 with
  | none => simp only [e] at p1; exact p1.elim
  | some ds =>
    simp only [e] at p1
    have f := z1.dats e
    split at p1
    · rename_i hl
      exact ⟨by rw [f.length, ← lim_eq]; exact hl, (Post.fin r1 p1).tup r1.lst f⟩
    · exact p1.elim
theorem SE.lst {es : List Expr} {ies : List IE} {pos} (h : SA c C X W es ies) : SE c C X W (.List es pos) (.lst ies) := by
  obtain ⟨t, p, q⟩ := h
  refine ⟨_, pe_lst p, fun α env h σ H Q r s p => ?_⟩
  simp only [ev] at p
  refine q α env h σ H _ r s (Post.mono (Post.bind (R := RVs c) p) fun v1 H1 ⟨x, h1, α1, r1, s1, z1, p1⟩ => ?_)
  cases e : dats x h1 with
  | none => simp only [e] at p1; exact p1.elim
  | some ds =>
    simp only [e] at p1
    have f := z1.dats e
    split at p1
    · rename_i hl
      exact ⟨by rw [f.length, ← lim_eq]; exact hl, (Post.fin r1 p1).lst r1.lst f⟩
    · exact p1.elim
/-! ### subscripts -/
def isSlice : Expr → Bool
  | .Slice .. => true
  | _ => false
theorem plainIx {b : Expr} (h : isSlice b = false) : PlainIx b := fun o i => by
  cases b <;> first | (cases h; done) | rfl
theorem SE.ix (G : GX c tx C k S X W) {a b : Expr} {ia ib : IE} {pos} (ha : SE c C X W a ia) (hb : SE c C X W b ib) (hs : isSlice b = false) : SE c C X W (.Subscript a b pos) (.ix ia ib) := by
  obtain ⟨ta, pa, qa⟩ := ha
  obtain ⟨tb, pb, qb⟩ := hb
  refine ⟨_, pe_ix ix_data pa pb (plainIx hs), fun α env h σ H Q r s p => ?_⟩
  simp only [ev] at p
  refine qa α env h σ H _ r s (Post.mono (Post.bind (R := RV c) p) fun v1 H1 ⟨x, h1, α1, r1, s1, z1, p1⟩ => ?_)
  refine qb α1 env h1 σ H1 _ r1 (s.mono r s1) (Post.mono (Post.bind (R := RV c) p1) fun v2 H2 ⟨y, h2, α2, r2, s2, z2, p2⟩ => ?_)
  have z1' := z1.mono r1 s2
  cases e : dat x h2 with
  | none => simp only [e] at p2; exact p2.elim
  | some dx =>
    cases y with
    | d y =>
      simp only [e] at p2
      obtain ⟨d, e2, q⟩ := Post.ofO_d r2 p2
      rw [G.K]
      exact ⟨liv α2 h2, dx, y, d, r2.lst, dat_v r2 z1' e, .inl z2, e2, q⟩
    | _ => simp only [e] at p2; exact p2.elim
theorem SO.none : SO c C X W none .nop := ⟨_, po_none, fun α env h σ H Q r s p => Post.here (R := RO) (v' := Option.none) p r rfl⟩
theorem SO.some {e : Expr} {ie : IE} (h : SE c C X W e ie) (hn : ie.isNop = false) : SO c C X W (some e) ie := by
  obtain ⟨t, p, q⟩ := h
  refine ⟨_, po_some p, fun α env h σ H Q r s p => ?_⟩
  unfold part at p
  rw [hn] at p
  refine q α env h σ H _ r s (Post.mono (Post.bind (R := RV c) p) fun v1 H1 ⟨x, h1, α1, r1, s1, z1, p1⟩ => ?_)
  cases x with
  | d x =>
    cases x with
    | int i =>
      cases z1
      exact ⟨i, rfl, Post.here (R := RO) (v' := Option.some i) p1 r1 rfl⟩
    | _ => exact p1.elim
  | _ => exact p1.elim
theorem SE.sl (G : GX c tx C k S X W) {a : Expr} {lo hi : Option Expr} {ia il iu : IE} {p2 pos} (ha : SE c C X W a ia) (hl : SO c C X W lo il) (hu : SO c C X W hi iu) : SE c C X W (.Subscript a (.Slice lo hi Option.none p2) pos) (.sl ia il iu) := by
  obtain ⟨ta, pa, qa⟩ := ha
  obtain ⟨tl, pl, ql⟩ := hl
  obtain ⟨tu, pu, qu⟩ := hu
  refine ⟨_, pe_slice sl_data pa pl pu, fun α env h σ H Q r s p => ?_⟩
  simp only [ev] at p
  refine qa α env h σ H _ r s (Post.mono (Post.bind (R := RV c) p) fun v1 H1 ⟨x, h1, α1, r1, s1, z1, p1⟩ => ?_)
  refine ql α1 env h1 σ H1 _ r1 (s.mono r s1) (Post.mono (Post.bind (R := RO) p1) fun v2 H2 ⟨y, h2, α2, r2, s2, z2, p2⟩ => ?_)
  refine qu α2 env h2 σ H2 _ r2 ((s.mono r s1).mono r1 s2) (Post.mono (Post.bind (R := RO) p2) fun v3 H3 ⟨z, h3, α3, r3, s3, z3, p3⟩ => ?_)
  cases z2; cases z3
  have z1' := (z1.mono r1 s2).mono r2 s3
  cases e : dat x h3 with
  | none => simp only [e] at p3; exact p3.elim
  | some dx =>
    simp only [e] at p3
    obtain ⟨d, e2, q⟩ := Post.ofO_d r3 p3
    rw [G.K]
    exact ⟨liv α3 h3, dx, d, r3.lst, dat_v r3 z1' e, e2, q⟩
/-! ### calls of defs -/
theorem SE.call (G : GX c tx C k S X W) {g : Nat} {d : DefT} {e : Expr} {es : List Expr} {ies : List IE} {p pos} (hd : tx.defs[g]? = some d) (hgl : S.sc.names.lookup d.name = some .globalImplicit) (hdb : (d.name == ("__debug__" : Str)) = false) (hs : noSt (e :: es) = true) (ha : SA c C X W (e :: es) ies) : SE c C X W (.Call (.Name d.name p) (e :: es) [] pos) (.call g ies) := by
  obtain ⟨ta, pa, qa⟩ := ha
  obtain ⟨hm, hk, fd, F, hb, _⟩ := G.fn g d hd
  refine ⟨_, pe_callG F G.grd G.room G.tk (G.gl hgl) hm hk hb pa (fun z => nomatch z) hs hdb, fun α env h σ H Q r s p => ?_⟩
  simp only [ev] at p
  exact qa α env h σ H _ r s (Post.mono (Post.bind (R := RVs c) p) fun v1 H1 ⟨x, h1, α1, r1, s1, z1, p1⟩ => ⟨α1, h1, x, r1, z1, p1⟩)
theorem SE.callD (G : GX c tx C k S X W) {g : Nat} {d : DefT} {e : Expr} {es : List Expr} {ies : List IE} {j : Nat} {p pos} (hd : tx.defs[g]? = some d) (hj : j ≤ d.dfl.length) (hgl : S.sc.names.lookup d.name = some .globalImplicit) (hdb : (d.name == ("__debug__" : Str)) = false) (hs : noSt (e :: es) = true) (ha : SA c C X W (e :: es) ies) : SE c C X W (.Call (.Name d.name p) (e :: es) [] pos) (.callD g ies (d.dfl.drop j)) := by
  obtain ⟨ta, pa, qa⟩ := ha
  obtain ⟨hm, hk, fd, F, _, _, hb⟩ := G.fn g d hd
  obtain ⟨ds, rd, hb⟩ := hb j hj
  refine ⟨_, pe_callGD rd F G.grd G.room G.tk (G.gl hgl) hm hk hb pa (fun z => nomatch z) hs hdb, fun α env h σ H Q r s p => ?_⟩
  simp only [ev] at p
  have fz : ∀ {α : List Addr} {h : IH} {H : Hp} (ns : List Int), RVs c (liv α h) α H (ns.map fun i => Val.d (.int i)) (ns.map V.int) := fun {α h H} ns => by
    induction ns with
    | nil => exact .nil
    | cons n ns ih => exact .cons (FD.int n) ih
  have ap : ∀ {α : List Addr} {h : IH} {H : Hp} {xs ys : List Val} {vs ws : List V}, RVs c (liv α h) α H xs vs → RVs c (liv α h) α H ys ws → RVs c (liv α h) α H (xs ++ ys) (vs ++ ws) := fun {α h H xs ys vs ws} a b => by
    induction a with
    | nil => exact b
    | cons x _ ih => exact .cons x ih
  exact qa α env h σ H _ r s (Post.mono (Post.bind (R := RVs c) p) fun v1 H1 ⟨x, h1, α1, r1, s1, z1, p1⟩ => ⟨α1, h1, _, r1, ap z1 (fz _), p1⟩)
theorem SE.call0 (G : GX c tx C k S X W) {g : Nat} {d : DefT} {p pos} (hd : tx.defs[g]? = some d) (hgl : S.sc.names.lookup d.name = some .globalImplicit) (hdb : (d.name == ("__debug__" : Str)) = false) : SE c C X W (.Call (.Name d.name p) [] [] pos) (.call g []) := by
  obtain ⟨hm, hk, fd, F, hb, _⟩ := G.fn g d hd
  refine ⟨_, pe_callG0 F G.grd G.room G.tk (G.gl hgl) hm hk hb hdb, fun α env h σ H Q r s p => ?_⟩
  simp only [ev, evs, bind_ok] at p
  exact ⟨α, h, [], r, .nil, p⟩
/-! ### built-ins -/
theorem vals_ft {α : List Addr} {h : IH} {H : Hp} {x : Val} {v : V} {d : D} (r : HR c α h H) (z : RV c (liv α h) α H x v) (e : dat x h = some d) : Paired (FT c.K (liv α h) H) [v] [d] := .cons (dat_v r z e) .nil
theorem FDs.ft {K : PySem.W.Frag} {M : Addr → Prop} {H : Hp} : ∀ {vs : List V} {ds : List D}, FDs K M H vs ds → Paired (FT K M H) vs ds
  | _, _, .nil => .nil
  | _, _, .cons a b => .cons (.inl a) b.ft
/-- the arguments' data, as a built-in sees them -/
def biA (xs : List Val) (h : IH) : Option (List D) := match xs with
  | [x] => match dat x h with
    | some d => some [d]
    | none => none
  | _ => dats xs h
theorem ev_bi (env : Env) (b : Bi) (es : List IE) (h : IH) : ev C env (.bi b es) h = (evs C env es h).bind fun xs h1 => match biA xs h1 with
    | some ds => ofO ((biD b ds).map .d) h1
    | none => .stuck := by
  simp only [ev]
  congr 1
  funext xs h1
  cases xs with
  | nil => rfl
  | cons x r => cases r with
    | nil =>
      simp only [biA]
      generalize dat x h1 = o
      cases o <;> rfl
    | cons y r => rfl
theorem biA_ft {α : List Addr} {h : IH} {H : Hp} {xs : List Val} {vs : List V} {ds : List D} (r : HR c α h H) (z : RVs c (liv α h) α H xs vs) (e : biA xs h = some ds) : Paired (FT c.K (liv α h) H) vs ds := by
  unfold biA at e
  split at e
  · rename_i x
    cases z with
    | cons a b =>
      cases b
      cases e1 : dat x h with
      | none => rw [e1] at e; cases e
      | some d =>
        rw [e1] at e
        cases e
        exact vals_ft r a e1
  · exact (z.dats e).ft
theorem SE.biOf (G : GX c tx C k S X W) {b : Bi} {e : Expr} {es : List Expr} {ies : List IE} {x : Expr} {t : TA} (p : PE X x (tCB (rB X.K b) t)) (q : ∀ α (env : Env) h σ H Q, HR c α h H → SR c (liv α h) α H env σ → Post c (RVs c) α h H (evs C env ies h) Q (WE W σ) → t σ H Q) : SE c C X W x (.bi b ies) := by
  refine ⟨_, p, fun α env h σ H Q r s p => ?_⟩
  rw [ev_bi] at p
  refine q α env h σ H _ r s (Post.mono (Post.bind (R := RVs c) p) fun v1 H1 ⟨x, h1, α1, r1, s1, z1, p1⟩ => ?_)
  cases e : biA x h1 with
  | none => simp only [e] at p1; exact p1.elim
  | some ds =>
    simp only [e] at p1
    obtain ⟨d, e2, q⟩ := Post.ofO_d r1 p1
    rw [G.K]
    exact ⟨liv α1 h1, ds, d, r1.lst, biA_ft r1 z1 e, e2, q⟩
theorem hpl_of {es : List Expr} (h : noSt es = true) (env : PySem.Env) (pos : Pos) : (backTo pos (starEach es env)).any (·.1) = false := plain_star h
theorem noSt_tail {e : Expr} {es : List Expr} (h : noSt (e :: es) = true) : isStar e = false ∧ noSt es = true := by
  simp only [noSt, List.all_cons, Bool.and_eq_true] at h
  exact ⟨by cases e <;> first | rfl | (exact absurd h.1 (by simp)), h.2⟩
theorem SE.biB (G : GX c tx C k S X W) {b : Bi} {id : String} {x : Str} {e : Expr} {es : List Expr} {ies : List IE} {p pos} (hc : CallR X (.builtin id) (rB X.K b)) (hv : bootBuiltins x = some (.builtin id)) (hn : x ≠ "__name__") (hdb : (x == ("__debug__" : Str)) = false) (hx : x ∈ tx.free) (hgl : S.sc.names.lookup x = some .globalImplicit)
    (hs : noSt (e :: es) = true) (ha : SA c C X W (e :: es) ies) : SE c C X W (.Call (.Name x p) (e :: es) [] pos) (.bi b ies) := by
  obtain ⟨t, pa, q⟩ := ha
  exact SE.biOf G (e := e) (es := es) (pe_callB hc (G.gl hgl) (G.free x hx) hv pa hn hdb (star_cons (noSt_tail hs).1 es X.env) (hpl_of (noSt_tail hs).2 X.env pos)) q
theorem SE.biT (G : GX c tx C k S X W) {b : Bi} {id : String} {x : Str} {e : Expr} {es : List Expr} {ies : List IE} {p pos} (hc : CallR X (.type id) (rB X.K b)) (hv : bootBuiltins x = some (.type id)) (hn : x ≠ "__name__") (hdb : (x == ("__debug__" : Str)) = false) (hx : x ∈ tx.free) (hgl : S.sc.names.lookup x = some .globalImplicit)
    (hs : noSt (e :: es) = true) (ha : SA c C X W (e :: es) ies) : SE c C X W (.Call (.Name x p) (e :: es) [] pos) (.bi b ies) := by
  obtain ⟨t, pa, q⟩ := ha
  exact SE.biOf G (e := e) (es := es) (pe_callTy hc (G.gl hgl) (G.free x hx) hv pa hn hdb (star_cons (noSt_tail hs).1 es X.env) (hpl_of (noSt_tail hs).2 X.env pos)) q
theorem boot_all' : bootBuiltins "all" = some (.builtin "all") := by decide +kernel
theorem boot_any' : bootBuiltins "any" = some (.builtin "any") := by decide +kernel
theorem boot_sum' : bootBuiltins "sum" = some (.builtin "sum") := by decide +kernel
theorem boot_min' : bootBuiltins "min" = some (.builtin "min") := by decide +kernel
theorem boot_max' : bootBuiltins "max" = some (.builtin "max") := by decide +kernel
theorem boot_abs' : bootBuiltins "abs" = some (.builtin "abs") := by decide +kernel
theorem boot_divmod' : bootBuiltins "divmod" = some (.builtin "divmod") := by decide +kernel
theorem boot_repr' : bootBuiltins "repr" = some (.builtin "repr") := by decide +kernel
theorem boot_len' : bootBuiltins "len" = some (.builtin "len") := by decide +kernel
theorem boot_sorted' : bootBuiltins "sorted" = some (.builtin "sorted") := by decide +kernel
theorem boot_isi' : bootBuiltins "isinstance" = some (.builtin "isinstance") := by decide +kernel
theorem boot_tuple' : bootBuiltins "tuple" = some (.type "tuple") := by decide +kernel
theorem boot_list' : bootBuiltins "list" = some (.type "list") := by decide +kernel
theorem boot_int' : bootBuiltins "int" = some (.type "int") := by decide +kernel
theorem boot_bool' : bootBuiltins "bool" = some (.type "bool") := by decide +kernel
theorem boot_str' : bootBuiltins "str" = some (.type "str") := by decide +kernel
/-- a built-in's name -/
def biName : Bi → Option Str
  | .len => some "len"
  | .tuple => some "tuple"
  | .list => some "list"
  | .int => some "int"
  | .all => some "all"
  | .any => some "any"
  | .sum => some "sum"
  | .min => some "min"
  | .max => some "max"
  | .abs => some "abs"
  | .divmod => some "divmod"
  | .repr => some "repr"
  | .sorted => some "sorted"
  | _ => none
theorem SE.bi (G : GX c tx C k S X W) {b : Bi} {x : Str} {e : Expr} {es : List Expr} {ies : List IE} {p pos} (hb : biName b = some x) (hx : x ∈ tx.free) (hgl : S.sc.names.lookup x = some .globalImplicit)
    (hs : noSt (e :: es) = true) (ha : SA c C X W (e :: es) ies) : SE c C X W (.Call (.Name x p) (e :: es) [] pos) (.bi b ies) := by
  cases b <;> simp only [biName, Option.some.injEq] at hb <;> (try (cases hb; done)) <;> subst hb
  · exact SE.biB G bi_len boot_len' (by decide) (by decide) hx hgl hs ha
  · exact SE.biT G bi_tuple boot_tuple' (by decide) (by decide) hx hgl hs ha
  · exact SE.biT G bi_list boot_list' (by decide) (by decide) hx hgl hs ha
  · exact SE.biB G (bi_all G.calm) boot_all' (by decide) (by decide) hx hgl hs ha
  · exact SE.biB G (bi_any G.calm) boot_any' (by decide) (by decide) hx hgl hs ha
  · exact SE.biB G (bi_min G.calm G.un) boot_min' (by decide) (by decide) hx hgl hs ha
  · exact SE.biB G (bi_max G.calm) boot_max' (by decide) (by decide) hx hgl hs ha
  · exact SE.biB G (bi_sum G.calm) boot_sum' (by decide) (by decide) hx hgl hs ha
  · exact SE.biB G bi_abs boot_abs' (by decide) (by decide) hx hgl hs ha
  · exact SE.biB G (bi_repr G.grd G.un) boot_repr' (by decide) (by decide) hx hgl hs ha
  · exact SE.biB G bi_divmod boot_divmod' (by decide) (by decide) hx hgl hs ha
  · exact SE.biB G bi_sorted boot_sorted' (by decide) (by decide) hx hgl hs ha
  · exact SE.biT G bi_int boot_int' (by decide) (by decide) hx hgl hs ha
/-! ### isinstance -/
theorem boot_ty (t : Ty) : bootBuiltins (tyN t : String) = some (.type (tyN t)) := by
  cases t
  · exact boot_int'
  · exact boot_bool'
  · exact boot_str'
  · exact boot_tuple'
  · exact boot_list'
theorem SE.isI (G : GX c tx C k S X W) {t : Ty} {e : Expr} {ie : IE} {p p2 pos} (hx : ("isinstance" : Str) ∈ tx.free) (hgl : S.sc.names.lookup ("isinstance" : Str) = some .globalImplicit) (hx2 : (Str.ofString (tyN t)) ∈ tx.free) (hgl2 : S.sc.names.lookup (Str.ofString (tyN t)) = some .globalImplicit)
    (hs : isStar e = false) (ha : SE c C X W e ie) : SE c C X W (.Call (.Name "isinstance" p) [e, .Name (Str.ofString (tyN t)) p2] [] pos) (.isI t ie) := by
  obtain ⟨te, pe, q⟩ := ha
  have pt : PE X (.Name (Str.ofString (tyN t)) p2) (tC (.ty (tyN t))) := pe_bltn (G.gl hgl2) (G.free _ hx2) (boot_ty t) (show RelV (V.ty (tyN t)) (Value.type (tyN t)) from rfl) (by cases t <;> decide) (by cases t <;> decide)
  refine ⟨_, pe_callB (bi_isI t) (G.gl hgl) (G.free _ hx) boot_isi' (pa_cons pe (pa_cons pt pa_nil) (star_cons hs _ X.env)) (by decide) (by decide) (star_cons hs _ X.env) rfl, fun α env h σ H Q r s p => ?_⟩
  simp only [ev] at p
  refine q α env h σ H _ r s (Post.mono (Post.bind (R := RV c) p) fun v1 H1 ⟨x, h1, α1, r1, s1, z1, p1⟩ => ?_)
  cases x with
  | d x =>
    simp only at p1
    cases hd : isDict x with
    | true => rw [hd] at p1; exact p1.elim
    | false =>
      rw [hd] at p1
      refine ⟨liv α1 h1, v1, x, rfl, ?_, hd, Post.here (R := RV c) (v' := V.bl (hasTy t x)) p1 r1 (.bl _)⟩
      rw [G.K]
      exact z1
  | _ => exact p1.elim
/-! ### calls with names -/
def SK (c : Cs) (C : Sem) (X : Cx) (W : WX) (kws : List Keyword) (ies : List IE) : Prop := ∃ t : TA, PK X kws t ∧ ∀ α (env : Env) h σ H Q, HR c α h H → SR c (liv α h) α H env σ → Post c (RVs c) α h H (evs C env ies h) Q (WE W σ) → t σ H Q
theorem SK.nil : SK c C X W [] [] := ⟨_, pk_nil, fun α env h σ H Q r s p => Post.here (R := RVs c) (v' := []) p r .nil⟩
theorem SK.cons {nm kpos} {e : Expr} {kws : List Keyword} {ie : IE} {ies : List IE} (ha : SE c C X W e ie) (hs : SK c C X W kws ies) : SK c C X W (⟨nm, e, kpos⟩ :: kws) (ie :: ies) := by
  obtain ⟨ta, pa, qa⟩ := ha
  obtain ⟨tb, pb, qb⟩ := hs
  refine ⟨_, pk_cons pa pb, fun α env h σ H Q r s p => ?_⟩
  simp only [evs] at p
  refine qa α env h σ H _ r s (Post.mono (Post.bind (R := RV c) p) fun v1 H1 ⟨x, h1, α1, r1, s1, z1, p1⟩ => ?_)
  refine qb α1 env h1 σ H1 _ r1 (s.mono r s1) (Post.mono (Post.bind (R := RVs c) p1) fun v2 H2 ⟨y, h2, α2, r2, s2, z2, p2⟩ => ?_)
  exact Post.here (R := RVs c) (v' := v1 :: v2) p2 r2 (.cons (z1.mono r1 s2) z2)
def kwNames : List Keyword → Option (List Str)
  | [] => some []
  | ⟨some n, _, _⟩ :: r => match kwNames r with
    | some ns => some (n :: ns)
    | none => none
  | ⟨none, _, _⟩ :: _ => none
theorem kw_all {env : PySem.Env} {pos : Pos} : ∀ {kws : List Keyword} {ks : List Str}, kwNames kws = some ks → (backToKw pos (keywordEach kws env)).all (·.1.isSome) = true ∧ (backToKw pos (keywordEach kws env)).any (·.1.isNone) = false ∧ (backToKw pos (keywordEach kws env)).filterMap (·.1) = ks ∧ (keywordEach kws env).length = ks.length
  | [], ks, h => by
    cases h
    exact ⟨rfl, rfl, rfl, rfl⟩
  | ⟨some n, v, p⟩ :: r, ks, h => by
    simp only [kwNames] at h
    cases z : kwNames r with
    | none => rw [z] at h; cases h
    | some ns =>
      rw [z] at h
      cases h
      obtain ⟨h1, h2, h3, h4⟩ := kw_all (env := env) (pos := pos) z
      refine ⟨?_, ?_, ?_, ?_⟩
      · exact h1
      · exact h2
      · exact congrArg (n :: ·) h3
      · exact congrArg (· + 1) h4
  | ⟨none, _, _⟩ :: _, _, h => by cases h
theorem vals_perm {vs : List V} {us : List Value} (r : Vals vs us) : ∀ {is : List Nat} {ws : List V}, permV is vs = some ws → ∃ zs, permV is us = some zs ∧ Vals ws zs
  | [], _, h => by cases h; exact ⟨[], rfl, .nil⟩
  | i :: is, ws, h => by
    simp only [permV] at h
    cases e1 : vs[i]? with
    | none => rw [e1] at h; cases h
    | some x =>
      cases e2 : permV is vs with
      | none => rw [e1, e2] at h; cases h
      | some ys =>
        rw [e1, e2] at h
        cases h
        obtain ⟨u, hu, ru⟩ := r.get e1
        obtain ⟨zs, hz, rz⟩ := vals_perm r e2
        exact ⟨u :: zs, by simp only [permV, hu, hz], .cons ru rz⟩
theorem rvs_perm {M : Addr → Prop} {α : List Addr} {H : Hp} : ∀ {is : List Nat} {xs : List Val} {vs : List V} {ys : List Val}, RVs c M α H xs vs → permV is xs = some ys → ∃ ws, permV is vs = some ws ∧ RVs c M α H ys ws
  | [], _, _, _, _, h => by cases h; exact ⟨[], rfl, .nil⟩
  | i :: is, xs, vs, ys, r, h => by
    simp only [permV] at h
    cases e1 : xs[i]? with
    | none => rw [e1] at h; cases h
    | some x =>
      cases e2 : permV is xs with
      | none => rw [e1, e2] at h; cases h
      | some zs =>
        rw [e1, e2] at h
        cases h
        obtain ⟨v, hv, rv⟩ : ∃ v, vs[i]? = some v ∧ RV c M α H x v := by
          clear e2
          induction r generalizing i with
          | nil => cases e1
          | cons a b ih => cases i with
            | zero => cases e1; exact ⟨_, rfl, a⟩
            | succ i => exact ih i (by simpa using e1)
        obtain ⟨ws, hw, rw'⟩ := rvs_perm r e2
        exact ⟨v :: ws, by simp only [permV, hv, hw], .cons rv rw'⟩
def tCallGK (W : WX) (sp : Sp) (perm : List Nat) (t : TA) : TE := fun σ H Q => t σ H fun vs H1 => ∃ ws, vs.length = perm.length ∧ permV perm vs = some ws ∧ sp ws H1 Q (WE W σ)
theorem pe_callGK {f : Addr} {fd : FuncData} {ps ks : List Str} {sp : Sp} {perm : List Nat} {x : Str} {p pos : Pos} {kws : List Keyword} {t : TA} (F : FnG X.prog X.w X.K X.mg X.base k f fd ps sp) (hg : X.A.guards = some []) (hr : Room k X.A) (tk : Takes X W) (hgl : Gl X x) (hm : X.mg x = some (.ref f)) (hk : PySem.W.keepIn X.K (.ref f) = true)
    (hb : ∀ (s : Shared) (ws us : List Value), X.K.In s.heap → ws.length = ks.length → permV perm ws = some us → BindsTo s fd ⟨[], ks.zip ws⟩ (ps.zip us)) (hks : kwNames kws = some ks) (ha : PK X kws t) (hlen : perm.length = ks.length) (hdb : (x == ("__debug__" : Str)) = false) :
    PE X (.Call (.Name x p) [] kws pos) (tCallGK W sp perm t) := by
  refine ⟨fun pins s σ H Q I h => ?_⟩
  refine wpAny_Call_Name_kw (ld_glob I hgl hm ?_ hdb)
  obtain ⟨h1, h2, h3, h4⟩ := kw_all (env := X.env) (pos := pos) hks
  refine PySem.W.callWith_KW0 (h₀ := X.base) I.ok.mod.kin hk h1 (thn (ha.run pos pins s σ H _ I h) fun us s1 ⟨vs, H1, I1, r1, ws, hl, hw, q⟩ => ⟨I1.kIn, ?_⟩) (by rw [h2]; rfl)
  rw [h3]
  obtain ⟨zs, hz, rz⟩ := vals_perm r1 hw
  exact run_g (args := ⟨[], ks.zip us⟩) F hg hr tk I1 (hb s1 us zs I1.kIn (by rw [← r1.length, hl, hlen]) hz) rz q
theorem SE.callK (G : GX c tx C k S X W) {g : Nat} {d : DefT} {ks : List Str} {perm : List Nat} {kws : List Keyword} {ies : List IE} {p pos} (hd : tx.defs[g]? = some d) (hkw : (g, ks, perm) ∈ tx.kws) (hks : kwNames kws = some ks) (hlen : perm.length = ks.length) (hgl : S.sc.names.lookup d.name = some .globalImplicit) (hdb : (d.name == ("__debug__" : Str)) = false)
    (ha : SK c C X W kws ies) : SE c C X W (.Call (.Name d.name p) [] kws pos) (.callK g perm ies) := by
  obtain ⟨ta, pa, qa⟩ := ha
  obtain ⟨hm, hk, fd, F, _, hb, _⟩ := G.fn g d hd
  refine ⟨_, pe_callGK F G.grd G.room G.tk (G.gl hgl) hm hk (hb ks perm hkw) hks pa hlen hdb, fun α env h σ H Q r s p => ?_⟩
  simp only [ev] at p
  refine qa α env h σ H _ r s (Post.mono (Post.bind (R := RVs c) p) fun v1 H1 ⟨x, h1, α1, r1, s1, z1, p1⟩ => ?_)
  split at p1
  · rename_i hl
    cases e : permV perm x with
    | none => simp only [e] at p1; exact p1.elim
    | some ys =>
      simp only [e] at p1
      obtain ⟨ws, hw, rw'⟩ := rvs_perm z1 e
      exact ⟨ws, by rw [← hl]; exact (Paired.length z1).symm, hw, α1, h1, ys, r1, rw', p1⟩
  · exact p1.elim
/-! ### min(.., default=None) -/
theorem least_fold (ns : List Int) : ∀ n : Int, least n ns = ns.foldl min n := by
  induction ns with
  | nil => exact fun n => rfl
  | cons m r ih =>
    intro n
    show least (if m < n then m else n) r = List.foldl min (min n m) r
    rw [ih]
    congr 1
    show (if m < n then m else n) = if n ≤ m then n else m
    by_cases h : m < n
    · rw [if_pos h, if_neg (by omega)]
    · rw [if_neg h, if_pos (by omega)]
theorem intsOf_map : ∀ {ds : List D} {ns : List Int}, intsOf ds = some ns → ds = ns.map PyData.int
  | [], _, h => by cases h; rfl
  | .int i :: r, _, h => by
    simp only [intsOf] at h
    cases z : intsOf r with
    | none => rw [z] at h; cases h
    | some ms =>
      rw [z] at h
      cases h
      rw [intsOf_map z]
      rfl
  | .none :: _, _, h => by cases h
  | .bool _ :: _, _, h => by cases h
  | .str _ :: _, _, h => by cases h
  | .list _ :: _, _, h => by cases h
  | .tuple _ :: _, _, h => by cases h
  | .dict _ :: _, _, h => by cases h
theorem depth_ints : ∀ ns : List Int, PyData.depthAll (ns.map PyData.int) = 0
  | [] => rfl
  | n :: r => by
    show max 0 (PyData.depthAll (r.map PyData.int)) = 0
    rw [depth_ints r]
    rfl
theorem alike_ints (ns : List Int) : PySem.W.AlikeAll (ns.map PyData.int) := by
  refine ⟨fun x hx y hy => ?_, fun x hx => ?_⟩
  · obtain ⟨i, _, rfl⟩ := List.mem_map.mp hx
    obtain ⟨j, _, rfl⟩ := List.mem_map.mp hy
    rfl
  · obtain ⟨i, _, rfl⟩ := List.mem_map.mp hx
    exact fun z => nomatch z
def rMinDf (K : PySem.W.Frag) : List V → List V → Hp → VK → Prop := fun vs zs H Q => ∃ M ds d, zs = [.non] ∧ Lv M H ∧ Paired (FT K M H) vs ds ∧ biD .minD ds = some d ∧ Fin K M H d Q
theorem bi_minDf (hc : X.calm = true) (hu : X.A.units + 64 < cLine) : CallRK X (.builtin "min") [Str.ofString "default"] (rMinDf X.K) := by
  intro pins s σ H vs zs us ws Q I r rz h
  obtain ⟨M, ds, d, rfl, l, p, e, q⟩ := h
  obtain ⟨w', rfl, rw'⟩ := vals1 rz
  cases rw'
  unfold biD at e
  split at e <;> try (cases e; done)
  all_goals (rename_i hb; try (cases hb; done))
  rename_i xs
  obtain ⟨v, rfl, f⟩ := pair1 p
  obtain ⟨u, rfl, ru⟩ := vals1 r
  obtain ⟨a, vs', rfl, s1, q1⟩ := f.list
  cases ru
  obtain ⟨its, rv, pl, _⟩ := I.list s1
  obtain ⟨as, rd⟩ := Dp.readsAll I xs vs' its (FDs.dp q1) rv
  split at e
  · rename_i n ns hz
    have ez := intsOf_map hz
    cases e
    refine PySem.W.min_list_default (I.ok.hd hc) pl.isList rd (by rw [ez]; exact alike_ints (n :: ns)) (by rw [ez, depth_ints (n :: ns)]; omega) (fun z => by rw [ez] at z; cases z) (fun y ys i v h' tk bs exs _ rr hk => ?_)
    rw [ez] at exs
    obtain ⟨rfl, rfl⟩ := List.cons.inj exs
    rw [PySem.W.minD_ints, ← least_fold] at rr
    obtain ⟨t, rfl⟩ : ∃ t, v = Value.int (least n ns) t := by cases rr; exact ⟨_, rfl⟩
    exact ⟨.int _, H, I.kept hk, ⟨_, rfl⟩, q.here (.int _)⟩
  · rename_i hz
    have ez := intsOf_map hz
    cases e
    refine PySem.W.min_list_default (I.ok.hd hc) pl.isList rd (by rw [ez]; exact alike_ints []) (by rw [ez, depth_ints []]; omega) (fun _ h' tk hk => ⟨.non, H, I.kept hk, rfl, q.here .non⟩) (fun y ys i v h' tk bs exs _ rr hk => by rw [ez] at exs; cases exs)
  · cases e
theorem SE.minD (G : GX c tx C k S X W) {e : Expr} {ie : IE} {p p1 p2 j pos} (hx : ("min" : Str) ∈ tx.free) (hgl : S.sc.names.lookup ("min" : Str) = some .globalImplicit) (hs : isStar e = false) (ha : SE c C X W e ie) : SE c C X W (.Call (.Name "min" p) [e] [⟨some "default", .Constant .none j p1, p2⟩] pos) (.bi .minD [ie]) := by
  obtain ⟨t, pa, q⟩ := SA.cons ha (SA.nil (c := c) (C := C) (X := X) (W := W)) hs
  refine ⟨_, pe_callBK (bi_minDf G.calm G.un) (G.gl hgl) (G.free _ hx) boot_min' pa (pk_cons pe_non pk_nil) (by decide) (by decide) (by rw [star_cons hs]; rfl) (by rw [star_cons hs]; rfl) rfl rfl rfl, fun α env h σ H Q r s p => ?_⟩
  rw [ev_bi] at p
  refine q α env h σ H _ r s (Post.mono (Post.bind (R := RVs c) p) fun v1 H1 ⟨x, h1, α1, r1, s1, z1, p1⟩ => ?_)
  cases e : biA x h1 with
  | none => simp only [e] at p1; exact p1.elim
  | some ds =>
    simp only [e] at p1
    obtain ⟨d, e2, q⟩ := Post.ofO_d r1 p1
    refine ⟨liv α1 h1, ds, d, rfl, r1.lst, ?_, e2, ?_⟩
    · rw [G.K]; exact biA_ft r1 z1 e
    · rw [G.K]; exact q
end
end RR

-- RR9
set_option maxHeartbeats 2000000
/-! What is walked; targets; comprehensions. -/
namespace RR
open PySem PySem.Spec L2
section
variable {c : Cs} {tx : Text} {C : Sem} {k : Nat} {S : SC} {X : Cx} {W : WX}
/-! ### slots wiped -/
theorem wipeE_length (env : Env) : ∀ vs : List Nat, (wipeE env vs).length = env.length
  | [] => rfl
  | v :: vs => by unfold wipeE; rw [List.length_set, wipeE_length env vs]
theorem wipeE_some {env : Env} {i : Nat} {x : Val} : ∀ {vs : List Nat}, (wipeE env vs)[i]? = some (some x) → env[i]? = some (some x) ∧ i ∉ vs
  | [], h => ⟨h, by simp⟩
  | v :: vs, h => by
    unfold wipeE at h
    by_cases e : v = i
    · subst e
      by_cases hl : v < (wipeE env vs).length
      · rw [List.getElem?_set_self hl] at h; cases h
      · rw [List.getElem?_eq_none (by rw [List.length_set]; omega)] at h; cases h
    · rw [List.getElem?_set_ne e] at h
      obtain ⟨h1, h2⟩ := wipeE_some h
      exact ⟨h1, by simp only [List.mem_cons, not_or]; exact ⟨fun z => e z.symm, h2⟩⟩
theorem SR.wipeE {M : Addr → Prop} {α : List Addr} {H : Hp} {env : Env} {σ : St} (q : SR c M α H env σ) (vs : List Nat) : SR c M α H (RR.wipeE env vs) (L2.wipe σ vs) :=
  q.wipe (wipeE_length env vs) fun i x e => wipeE_some e
theorem wipe_get (σ : St) (i : Nat) : ∀ vs : List Nat, (L2.wipe σ vs)[i]? = if i ∈ vs then (σ[i]?).map (fun _ => none) else σ[i]?
  | [] => by simp [L2.wipe]
  | v :: vs => by
    show ((L2.wipe σ vs).set v none)[i]? = _
    by_cases e : v = i
    · subst e
      rw [if_pos List.mem_cons_self]
      by_cases hl : v < σ.length
      · rw [List.getElem?_set_self (by rw [wipe_length]; exact hl), List.getElem?_eq_getElem hl]; rfl
      · rw [List.getElem?_eq_none (by rw [List.length_set, wipe_length]; omega), List.getElem?_eq_none (by omega)]; rfl
    · rw [List.getElem?_set_ne e, wipe_get σ i vs]
      by_cases hm : i ∈ vs
      · rw [if_pos hm, if_pos (List.mem_cons_of_mem _ hm)]
      · rw [if_neg hm, if_neg (fun z => hm ((List.mem_cons.mp z).resolve_left fun z => e z.symm))]
theorem wipe_eq {σ τ : St} {vs : List Nat} (h : ∀ i, i ∉ vs → σ[i]? = τ[i]?) (hl : σ.length = τ.length) : L2.wipe σ vs = L2.wipe τ vs := by
  apply List.ext_getElem?
  intro i
  rw [wipe_get, wipe_get]
  by_cases hm : i ∈ vs
  · rw [if_pos hm, if_pos hm]
    by_cases hi : i < σ.length
    · rw [List.getElem?_eq_getElem hi, List.getElem?_eq_getElem (by omega)]; rfl
    · rw [List.getElem?_eq_none (by omega), List.getElem?_eq_none (by omega)]
  · rw [if_neg hm, if_neg hm]; exact h i hm
/-- but at vs, one -/
def SameBut (vs : List Nat) (σ τ : St) : Prop := (∀ i, i ∉ vs → σ[i]? = τ[i]?) ∧ σ.length = τ.length
theorem SameBut.refl (vs : List Nat) (σ : St) : SameBut vs σ σ := ⟨fun _ _ => rfl, rfl⟩
theorem SameBut.trans {vs : List Nat} {σ τ υ : St} (a : SameBut vs σ τ) (b : SameBut vs τ υ) : SameBut vs σ υ := ⟨fun i h => (a.1 i h).trans (b.1 i h), a.2.trans b.2⟩
theorem SameBut.set {vs : List Nat} {σ : St} {i : Nat} {x : Option V} (h : i ∈ vs) : SameBut vs (σ.set i x) σ := ⟨fun j hj => List.getElem?_set_ne (fun z : i = j => hj (by rw [← z]; exact h)), List.length_set ..⟩
theorem SameBut.wipe (vs : List Nat) (σ : St) : SameBut vs (L2.wipe σ vs) σ := ⟨fun i h => by rw [wipe_get, if_neg h], wipe_length _ _⟩
theorem SameBut.mono {vs ws : List Nat} {σ τ : St} (a : SameBut vs σ τ) (h : ∀ i ∈ vs, i ∈ ws) : SameBut ws σ τ := ⟨fun i hi => a.1 i fun z => hi (h i z), a.2⟩
def isTupE : Expr → Bool
  | .Tuple .. => true
  | _ => false
/-- what is stored at a target: a tuple that is taken apart at once may be any tuple -/
def FDb (b : Bool) (K : PySem.W.Frag) (M : Addr → Prop) (H : Hp) (v : V) (d : D) : Prop := FD K M H v d ∨ (b = true ∧ ∃ a vs ds, v = .ref a ∧ d = .tuple ds ∧ SqT K H a vs ∧ FDs K M H vs ds)
theorem FDb.fd {K : PySem.W.Frag} {M : Addr → Prop} {H : Hp} {v : V} {d : D} (h : FDb false K M H v d) : FD K M H v d := h.elim id fun z => by cases z.1
theorem FDb.tuple {b : Bool} {K : PySem.W.Frag} {M : Addr → Prop} {H : Hp} {v : V} {ds : List D} (h : FDb b K M H v (.tuple ds)) : ∃ a vs, v = .ref a ∧ SqT K H a vs ∧ FDs K M H vs ds := by
  rcases h with h | ⟨_, a, vs, ds', e1, e2, e3, e4⟩
  · exact FT.tuple (.inl h)
  · cases e2
    exact ⟨a, vs, e1, e3, e4⟩
/-! ### targets -/
def STg (c : Cs) (X : Cx) (tg : Expr) (it : Tg) : Prop := ∃ g : TG, PG X tg g ∧ ∀ {α : List Addr} {h : IH} {env env1 : Env} {σ : St} {H : Hp} {v : V} {d : D} {Q : St → Hp → Prop}, HR c α h H → SR c (liv α h) α H env σ → FDb (isTupE tg) c.K (liv α h) H v d → bindT it d env = some env1 →
  (∀ σ1, SR c (liv α h) α H env1 σ1 → SameBut (tgs it) σ1 σ → Q σ1 H) → g v σ H Q
def STgs (c : Cs) (X : Cx) (tg : List Expr) (is : List Nat) : Prop := ∃ g : TGs, PGs X tg g ∧ ∀ {α : List Addr} {h : IH} {env env1 : Env} {σ : St} {H : Hp} {vs : List V} {ds : List D} {Q : St → Hp → Prop}, HR c α h H → SR c (liv α h) α H env σ → FDs c.K (liv α h) H vs ds → setAll env is ds = some env1 →
  (∀ σ1, SR c (liv α h) α H env1 σ1 → SameBut is σ1 σ → Q σ1 H) → g vs σ H Q
/-- where x may be stored -/
def locB (S : SC) (x : Str) : Bool := S.sc.names.lookup x == some .local || (S.sc.names.lookup x == some .cell && S.fs.names.lookup x == some .cell)
theorem GX.loc (G : GX c tx C k S X W) {x : Str} (h : locB S x = true) : Loc X.env.scope x ∧ (X.fn x = true ∨ X.env.scope.names.lookup x = some .local) := by
  unfold locB at h
  simp only [Bool.or_eq_true, Bool.and_eq_true, beq_iff_eq] at h
  rw [G.sc]
  rcases h with h | ⟨h1, h2⟩
  · exact ⟨.inl h, .inr h⟩
  · exact ⟨.inr h1, .inl (G.fs x h2)⟩
theorem STg.one (G : GX c tx C k S X W) {i : Nat} {x : Str} {pos} (hi : S.N[i]? = some x) (hl : locB S x = true) : STg c X (.Name x pos) (.one i) := by
  obtain ⟨l1, l2⟩ := G.loc hl
  refine ⟨_, pg_name G.nd (by rw [G.N]; exact hi) l1 l2, fun {α h env env1 σ H v d Q} r s f e q => ?_⟩
  cases e
  exact q _ (SR.set (x := .d d) s (FDb.fd f)) (SameBut.set (List.mem_singleton.mpr rfl))
theorem STgs.nil : STgs c X [] [] := by
  refine ⟨_, pgs_nil, fun {α h env env1 σ H vs ds Q} r s f e q => ?_⟩
  cases ds with
  | cons => cases e
  | nil =>
    cases f
    cases e
    exact ⟨rfl, q σ s (SameBut.refl _ _)⟩
theorem assign_cons {e : Expr} {es : List Expr} {env : PySem.Env} (h : isStar e = false) : assignEach (e :: es) env = (false, assign e env) :: assignEach es env := by
  cases e <;> first | (cases h; done) | rfl
theorem STgs.cons (G : GX c tx C k S X W) {i : Nat} {x : Str} {pos} {es : List Expr} {is : List Nat} (hi : S.N[i]? = some x) (hl : locB S x = true) (hs : STgs c X es is) : STgs c X (.Name x pos :: es) (i :: is) := by
  obtain ⟨l1, l2⟩ := G.loc hl
  obtain ⟨g, pg, qg⟩ := hs
  refine ⟨_, pgs_cons (pg_name G.nd (by rw [G.N]; exact hi) l1 l2) pg, fun {α h env env1 σ H vs ds Q} r s f e q => ?_⟩
  cases f with
  | nil => cases e
  | @cons v vs' d ds' f1 f2 =>
    refine ⟨v, vs', rfl, ?_⟩
    exact qg r (SR.set (x := .d d) s f1) f2 e fun σ1 s1 b => q σ1 s1 ((b.mono fun _ z => List.mem_cons_of_mem _ z).trans (SameBut.set List.mem_cons_self))
theorem each_length (es : List Expr) (env : PySem.Env) : noSt es = true → (assignEach es env).length = es.length ∧ (assignEach es env).findIdx? (·.1) = none := by
  induction es with
  | nil => exact fun _ => ⟨rfl, rfl⟩
  | cons e es ih =>
    intro h
    obtain ⟨h1, h2⟩ := noSt_tail h
    obtain ⟨i1, i2⟩ := ih h2
    rw [assign_cons h1]
    refine ⟨by simp [i1], ?_⟩
    simp [List.findIdx?_cons, i2]
theorem setAll_len : ∀ {is : List Nat} {ds : List D} {env env1 : Env}, setAll env is ds = some env1 → ds.length = is.length
  | [], [], _, _, _ => rfl
  | [], _ :: _, _, _, h => by cases h
  | _ :: _, [], _, _, h => by cases h
  | i :: is, d :: ds, _, _, h => by
    show ds.length + 1 = is.length + 1
    rw [setAll_len (is := is) h]
theorem STg.tup (G : GX c tx C k S X W) {es : List Expr} {is : List Nat} {j pos} (hs : STgs c X es is) (hn : noSt es = true) (hl : is.length = es.length) : STg c X (.Tuple es j pos) (.tup is) := by
  obtain ⟨g, pg, qg⟩ := hs
  obtain ⟨l1, l2⟩ := each_length es X.env hn
  refine ⟨_, pg_tup G.calm pg l1 l2, fun {α h env env1 σ H v d Q} r s f e q => ?_⟩
  cases d with
  | tuple ds =>
    obtain ⟨a, ws, rfl, hq, fs⟩ := FDb.tuple f
    have e' : setAll env is ds = some env1 := e
    refine ⟨a, ws, rfl, by rw [G.K]; exact hq, ?_, qg r s fs e' q⟩
    rw [fs.length, setAll_len e', hl]
  | _ => cases e
/-! ### what is walked -/
def IO (c : Cs) (b : Bool) (α : List Addr) (h : IH) (H : Hp) (J : It) (items : List D) : Prop := ∀ α' h' H', HR c α' h' H' → Stp α h H α' h' H' → ∀ i : Nat,
  (∀ d, items[i]? = some d → J.go i H' ∧ ∀ x H'', J.yld i H' x H'' → (∀ b o, H' b = some o → H'' b = some o) ∧ FDb b c.K (liv α' h') H'' x d) ∧ (items.length ≤ i → J.stop i H')
def RI (c : Cs) (b : Bool) : (Addr → Prop) → List Addr → Hp → List D → It → Prop := fun M α H items J => ∀ h, M = liv α h → HR c α h H → IO c b α h H J items
def SI (c : Cs) (C : Sem) (X : Cx) (W : WX) (tg iter : Expr) (k : Ik) (its : List IE) : Prop := ∃ wi : TI, PI X tg iter wi ∧ ∀ α (env : Env) h σ H R, HR c α h H → SR c (liv α h) α H env σ → Post c (RI c (isTupE tg)) α h H (itr k (evs C env its h)) R (WE W σ) → wi σ H R
theorem io_list {b : Bool} {α : List Addr} {h : IH} {H : Hp} {a : Addr} {ds : List D} (r : HR c α h H) (f : FD c.K (liv α h) H (.ref a) (.list ds)) : IO c b α h H (Itl c.K a) ds := fun α' h' H' r' s' i => by
  have f' := FD.mono (s'.kp r) f
  obtain ⟨a', ws, e, hq, fs⟩ := FT.list (.inl f')
  cases e
  refine ⟨fun d hd => ?_, fun hl => ⟨ws, hq, by rw [fs.length]; exact hl⟩⟩
  obtain ⟨v, hv, fv⟩ := fs.get hd
  refine ⟨⟨ws, v, hq, hv⟩, fun x H'' y => ?_⟩
  obtain ⟨rfl, y⟩ := y
  have z := y ws hq
  rw [hv] at z
  cases z
  exact ⟨fun _ _ z => z, .inl fv⟩
theorem io_tup {b : Bool} {α : List Addr} {h : IH} {H : Hp} {a : Addr} {ds : List D} (r : HR c α h H) (f : FD c.K (liv α h) H (.ref a) (.tuple ds)) : IO c b α h H (Itt c.K a) ds := fun α' h' H' r' s' i => by
  have f' := FD.mono (s'.kp r) f
  obtain ⟨a', ws, e, hq, fs⟩ := FT.tuple (.inl f')
  cases e
  refine ⟨fun d hd => ?_, fun hl => ⟨ws, hq, by rw [fs.length]; exact hl⟩⟩
  obtain ⟨v, hv, fv⟩ := fs.get hd
  refine ⟨⟨ws, v, hq, hv⟩, fun x H'' y => ?_⟩
  obtain ⟨rfl, y⟩ := y
  have z := y ws hq
  rw [hv] at z
  cases z
  exact ⟨fun _ _ z => z, .inl fv⟩
theorem rangeD_get {lo hi : Int} {i : Nat} {d : D} (h : (rangeD lo hi)[i]? = some d) : i < (hi - lo).toNat ∧ d = .int (lo + (i : Int)) := by
  unfold rangeD at h
  rw [List.getElem?_map] at h
  by_cases hi' : i < (hi - lo).toNat
  · rw [List.getElem?_range hi'] at h
    cases h
    exact ⟨hi', rfl⟩
  · rw [List.getElem?_eq_none (by rw [List.length_range]; omega)] at h
    cases h
theorem io_range {b : Bool} {α : List Addr} {h : IH} {H : Hp} (lo hi : Int) : IO c b α h H (Itr lo (hi - lo).toNat) (rangeD lo hi) := fun α' h' H' r' s' i => by
  refine ⟨fun d hd => ?_, fun hl => ?_⟩
  · obtain ⟨h1, rfl⟩ := rangeD_get hd
    refine ⟨h1, fun x H'' y => ?_⟩
    obtain ⟨rfl, rfl⟩ := y
    exact ⟨fun _ _ z => z, .inl (.int _)⟩
  · unfold rangeD at hl
    rw [List.length_map, List.length_range] at hl
    exact hl
theorem Post.itr {b : Bool} {α : List Addr} {h : IH} {H : Hp} {k : Ik} {r : Res (List Val)} {R : It → Hp → Prop} {E : XK} (p : Post c (RI c b) α h H (itr k r) R E) (hk : k ≠ .dkeys := by intro z; cases z) : Post c (RVs c) α h H r (fun vs H1 => ∃ xs h1 α1 ds items, HR c α1 h1 H1 ∧ FDs c.K (liv α1 h1) H1 vs ds ∧ dats xs h1 = some ds ∧ itemsD k ds = some items ∧ ∀ J, IO c b α1 h1 H1 J items → R J H1) E := by
  unfold RR.itr at p
  refine Post.mono (Post.bind (R := RVs c) p) fun vs H1 ⟨x, h1, α1, r1, s1, z1, p1⟩ => ?_
  cases e : dats x h1 with
  | none => simp only [e] at p1; cases k <;> first | exact absurd rfl hk | exact p1.elim
  | some ds =>
    simp only [e] at p1
    cases e2 : itemsD k ds with
    | none => rw [e2] at p1; exact p1.elim
    | some items =>
      rw [e2] at p1
      refine ⟨x, h1, α1, ds, items, r1, z1.dats e, e, e2, fun J io => ?_⟩
      refine Post.here (R := RI c b) (v' := J) p1 r1 fun h' eh r' => ?_
      intro α' h2 H' r2 s2
      refine io α' h2 H' r2 ⟨s2.pre, fun a o e n t => s2.keep a o e (fun z => n (by rw [eh]; exact z)) t, s2.tbl, fun a m => by rw [eh]; exact s2.mem a m⟩
end
end RR

-- RR10
set_option maxHeartbeats 2000000
/-! What a for and a comprehension walk. -/
namespace RR
open PySem PySem.Spec L2
section
open AutoSeq1 (wpAny_loadPart')
theorem meets_enumT (l : Addr) (items : Array Value) (n : Nat) (dct : Option Addr) (sl : Array (Option Value)) :
    Meets (Builtin.«enumerate.__new__» ⟨[.type "enumerate", .ref l], []⟩) (fun _ R s => s.heap.get? l = some { cls := .type "tuple", dict := dct, data := .seq items n, slots := sl } ∧
      R (.ok (.ret (.ref (s.heap.push { cls := .type "tuple_iterator", data := .fields #[.ref l, .int 0 0] }).objs.size)))
        { s with heap := (s.heap.push { cls := .type "tuple_iterator", data := .fields #[.ref l, .int 0 0] }).push { cls := .type "enumerate", data := .fields #[.none, .bool false, .ref s.heap.objs.size, rawInt 0, .none, .none] } }) :=
  .of_wp fun prog w A R s h => by
    obtain ⟨hp, g, d, tk, os⟩ := s; obtain ⟨hl, h⟩ := h
    have hsub := sub_enumerate
    have hL : Heap.IsTuple (Shared.heap ⟨hp, g, d, tk, os⟩) l items := ⟨_, hl, rfl, n, rfl⟩
    wp_walk using wpAny_loadPart' hl
    refine wpAny_stack_any fun st => wpAny_pure ?_
    split
    · rename_i c _ _ _ _ _
      cases (c == Value.type "enumerate")
      · wp_walk using wpAny_loadPart' hl, wpAny_pyIter_tuple hL
        exact ⟨_, rfl, h⟩
      · wp_walk using wpAny_loadPart' hl, wpAny_pyIter_tuple hL
        exact ⟨_, rfl, h⟩
    · wp_walk using wpAny_loadPart' hl, wpAny_pyIter_tuple hL
      exact ⟨_, rfl, h⟩
theorem call_enumT {prog : Program} {w : World} {A : Around} {E : Value → Shared → Prop} {s : Shared} {l : Addr} {items : Array Value} {Q : Value → Shared → Prop} (hL : s.heap.IsTuple l items)
    (h : ∀ h', IsEnum h' (s.heap.objs.size + 1) s.heap.objs.size 0 .none → h'.IsTupleIter s.heap.objs.size l 0 → h'.objs.size = s.heap.objs.size + 2 →
      (∀ b o, s.heap.get? b = some o → h'.get? b = some o) → Q (.ref (s.heap.objs.size + 1)) { s with heap := h' }) :
    wpAny (model prog w) A (call (.type "enumerate") [.ref l]) Q E s := by
  obtain ⟨⟨c, dct, dt, sl⟩, hl, hc, n, hd⟩ := hL
  replace hc : c = .type "tuple" := hc
  replace hd : dt = .seq items n := hd
  subst hc hd
  refine callType_new F.called_enumerate (by decide) (F.typeCall_enumerate_1 _) (F.newCall_enumerate_1 _) (fun obj => F.args_object_init_2 obj _) F.entry_enumerate_new
    (meets_enumT l items n dct sl) ⟨hl, ?_⟩
  have hz : (s.heap.push { cls := .type "tuple_iterator", data := .fields #[.ref l, .int 0 0] }).objs.size = s.heap.objs.size + 1 := Heap.size_push ..
  show _ ∧ _
  rw [hz]
  have he : IsEnum ((s.heap.push { cls := .type "tuple_iterator", data := .fields #[.ref l, .int 0 0] }).push
      { cls := .type "enumerate", data := .fields #[.none, .bool false, .ref s.heap.objs.size, rawInt 0, .none, .none] }) (s.heap.objs.size + 1) s.heap.objs.size 0 .none := by
    have := Heap.get?_push_size (s.heap.push { cls := .type "tuple_iterator", data := .fields #[.ref l, .int 0 0] })
      (o := { cls := .type "enumerate", data := .fields #[.none, .bool false, .ref s.heap.objs.size, rawInt 0, .none, .none] }) rfl
    rw [hz] at this; exact this
  refine ⟨⟨_, he, rfl⟩, h _ he ⟨_, Heap.get?_push_of_some _ (Heap.get?_push_size _ rfl), rfl, rfl⟩ (by rw [Heap.size_push, hz]) fun b o x => Heap.get?_push_of_some _ (Heap.get?_push_of_some _ x)⟩
end
/-- the tuple at a, each item in a new pair -/
def IteT (K : PySem.W.Frag) (a : Addr) : It :=
  ⟨fun i H => ∃ (xs : List V) (x : V), SqT K H a xs ∧ xs[i]? = some x, fun i H v H' => ∃ T x, v = .ref T ∧ H T = none ∧ H' = upd H T (.tup [.int (i : Nat), x]) ∧ ∀ xs, SqT K H a xs → xs[i]? = some x, fun i H => ∃ xs : List V, SqT K H a xs ∧ xs.length ≤ i⟩
theorem turn_enumT {P : Program} {w : World} {K : PySem.W.Frag} {elts : List Expr} {kk : Nat} {tpos : Pos} (a e it : Addr) :
    Turn P w K (.Tuple elts kk tpos) (IteT K a) [e, it] e (fun i h => (∃ old, IsEnum h e it ((i : Nat) : Int) old) ∧ h.IsTupleIter it a i ∧ e ≠ it ∧ a ≠ it ∧ a ≠ e) where
  mem := by simp
  obj := fun i h st b hb => by
    obtain ⟨⟨old, he⟩, ⟨o, ho, hc, hd⟩, _⟩ := st
    have e' : b = e ∨ b = it := by simpa using hb
    rcases e' with z | z
    · rw [z]; exact ⟨_, he, fun v q => nomatch q⟩
    · rw [z]; exact ⟨o, ho, fun v q => by rw [hd] at q; cases q⟩
  keep := fun i h h' st k => let ⟨⟨old, he⟩, hi, hne⟩ := st; ⟨⟨old, k e (by simp) _ he⟩, hi.at fun o q => k it (by simp) o q, hne⟩
  item := by
    intro X hP hw hK hc i pins s σ H E I hf st hg
    subst hP hw hK
    obtain ⟨⟨old, he⟩, hit, hne, hai, hae⟩ := st
    obtain ⟨xs, x, hq, hx⟩ := hg
    obtain ⟨its, rv, p, hz⟩ := I.tuple hq
    obtain ⟨u, hu, ru⟩ := rv.get hx
    have p' : s.heap.IsTuple a its.toArray := p
    have hel : e < s.heap.objs.size := Heap.lt_size he
    have hil : it < s.heap.objs.size := by obtain ⟨_, q, _⟩ := hit; exact Heap.lt_size q
    have hlt : i < its.toArray.size := by
      have := (List.getElem?_eq_some_iff.mp hu).1
      simpa using this
    refine wpAny_pyNext_enum_itemC (Draws.tuple (prog := X.prog) (w := X.w) (A := X.A.in1) (I.ok.hd hc) it a hai its.toArray) he ⟨hit, p'⟩ hlt hne (by simp only [List.mem_cons, List.not_mem_nil, or_false, not_or]; exact ⟨hne, Ne.symm hae⟩) fun y h' tk hP ho st' hT hsz hk => ?_
    obtain rfl : y = u := by
      have z : its[i]? = some y := by simpa using hP
      rw [hu] at z
      exact (Option.some.inj z).symm
    refine ⟨_, rfl, wpAny_letOwnedTupleGo_enum (s := { s with heap := h', toks := tk + 1 }) ho fun h'' he' sb => ?_⟩
    have hT2 : h''.get? s.heap.objs.size = some { cls := .type "tuple", data := .seq #[.int i tk, y] } := (sb.2 _ (Nat.ne_of_gt hel)).trans hT
    have new : ObjOk X.prog X.w (upd H s.heap.objs.size (.tup [.int (i : Nat), x])) h'' s.heap.objs.size (.tup [.int (i : Nat), x]) :=
      ⟨by show 2 ≤ sizeLine; decide, [.int i tk, y], .cons ⟨_, rfl⟩ (.cons ru .nil), ⟨_, hT2, rfl, _, rfl⟩⟩
    have I1 : Inv X pins σ (upd H s.heap.objs.size (.tup [.int (i : Nat), x])) { s with heap := h'', toks := tk + 1 } :=
      I.turnedNew (ch := [e, it]) (fun b ob hb q => (sb.2 b (fun z => hb (by simp [z]))).trans (hk b ob (fun z => hb (by simp [z])) (fun z => hb (by simp [z])) q)) hf (Nat.le_refl _) new
    refine ⟨.ref s.heap.objs.size, _, I1, rfl, ⟨_, x, rfl, I.hok.fresh (Nat.le_refl _), rfl, fun ys hy => by rw [I.tuple_inj hy hq]; exact hx⟩, ⟨⟨y, ?_⟩, st'.1.at fun o q => (sb.2 it (Ne.symm hne)).trans q, hne, hai, hae⟩, fun b hb => ?_⟩
    · have e1 : ((i + 1 : Nat) : Int) = (i : Int) + 1 := by omega
      rw [e1]; exact he'
    · have hb' : b < s.heap.objs.size := by
        have e' : b = e ∨ b = it := by simpa using hb
        rcases e' with z | z
        · rw [z]; exact hel
        · rw [z]; exact hil
      rw [upd_ne (Nat.ne_of_lt hb')]
      exact (hf b hb).1
  done := by
    intro X hP hw hK hc i pins s σ H E I hf st hg
    subst hP hw hK
    obtain ⟨⟨old, he⟩, hit, hne, hai, hae⟩ := st
    obtain ⟨xs, hq, hx⟩ := hg
    obtain ⟨its, rv, p, hz⟩ := I.tuple hq
    obtain ⟨f0, f1, f2, f3, f4, f5⟩ := hf it (by simp)
    have hl := rv.length
    have hT : s.TypeIs (.ref e) "enumerate" := ⟨_, he, rfl⟩
    unfold pyNext
    refine wpAny_bind (wpAny_attempt (wpAny_callSpecial?_slot (name := Str.ofString "__next__") hT F.slot_enumerate_next
      (wpAny_call_entry F.slot_enumerate_next hT F.entry_enumerate_next ?_ (F.args_enumerate_next_1 _))))
    show wpAny _ _ (field (.ref e) 2 >>= _) _ _ _
    refine wpAny_bind (wpAny_field he rfl (x := .ref it) rfl ?_)
    refine wpAny_bind (wpAny_nextOf_tuple_end (show X.A.in1.handled = none from I.ok.hd hc) hit (show s.heap.IsTuple a its.toArray from p) (by simp; omega) fun h' x he' hx' => ?_)
    obtain ⟨o, ho, hc'⟩ := hx'
    refine wpAny_bind (wpAny_isInstance (T := "StopIteration") (b := true) ⟨o, ho, hc'⟩ isSubtype_stop ?_)
    exact wpAny_pure ⟨rfl, I.turned (t' := s.toks) (fun b o hb q => he' b o hb q) f0 f1 f3 f4 f5⟩
  self := fun A i s Q E st h => let ⟨⟨_, he⟩, _⟩ := st; wpAny_pyIter_enum he h
section
variable {X : Cx} {tg : Expr}
def iEnumA (K : PySem.W.Frag) (ta : TA) : TI := fun σ H R => ta σ H fun vs H1 => ∃ a xs, vs = [.ref a] ∧ ((SqL K H1 a xs ∧ R (Ite K a) H1) ∨ (SqT K H1 a xs ∧ R (IteT K a) H1))
theorem pi_enumA {e : Expr} {ta : TA} {p pos tpos : Pos} {elts : List Expr} {kk : Nat} (hg : Gl X "enumerate") (hm : X.mg "enumerate" = none) (ha : PA X [e] ta) (hs : starEach [e] X.env = [(false, eval e X.env)]) :
    PI X (.Tuple elts kk tpos) (.Call (.Name "enumerate" p) [e] [] pos) (iEnumA X.K ta) := by
  refine ⟨fun pins s σ H R I h => ?_⟩
  refine PyProof.Rows.Call_ (ld_blt I hg hm PyProof.Rows.boot_enumerate (PyProof.Rows.callWith_type1 (thn (ha.run pos pins s σ H _ I h) fun us s1 ⟨vs, H1, I1, r1, q1⟩ => ?_) hs rfl))
  obtain ⟨a, xs, ex, q⟩ := q1
  subst ex
  cases r1 with
  | cons r rr =>
    cases rr
    cases r
    have fr : ∀ b ∈ [s1.heap.objs.size + 1, s1.heap.objs.size], FpOk X pins H1 b := fun b hb => by
      have e' : b = s1.heap.objs.size + 1 ∨ b = s1.heap.objs.size := by simpa using hb
      have hle : s1.heap.objs.size ≤ b := by
        rcases e' with z | z
        · rw [z]; exact Nat.le_add_right _ _
        · rw [z]; exact Nat.le_refl _
      exact I1.fpOk hle (I1.hok.fresh hle)
    rcases q with ⟨hq, q⟩ | ⟨hq, q⟩
    · obtain ⟨its, rv, p', hz⟩ := I1.list hq
      refine call_enumerate_list p'.isList fun h' he hit hsz hk => wpAny_pyIter_enum he ?_
      have I2 : Inv X pins σ H1 { s1 with heap := h' } := I1.kept (t' := s1.toks) hk
      exact ⟨s1.heap.objs.size + 1, [s1.heap.objs.size + 1, s1.heap.objs.size], _, _, H1, rfl, I2, turn_enum a (s1.heap.objs.size + 1) s1.heap.objs.size, ⟨⟨.none, he⟩, hit, Nat.succ_ne_self _⟩, fr, q⟩
    · obtain ⟨its, rv, p', hz⟩ := I1.tuple hq
      have hlt : a < s1.heap.objs.size := by obtain ⟨o, ho, _⟩ := id p'; exact Heap.lt_size ho
      refine call_enumT (show s1.heap.IsTuple a its.toArray from p') fun h' he hit hsz hk => wpAny_pyIter_enum he ?_
      have I2 : Inv X pins σ H1 { s1 with heap := h' } := I1.kept (t' := s1.toks) hk
      exact ⟨s1.heap.objs.size + 1, [s1.heap.objs.size + 1, s1.heap.objs.size], _, _, H1, rfl, I2, turn_enumT a (s1.heap.objs.size + 1) s1.heap.objs.size, ⟨⟨.none, he⟩, hit, Nat.succ_ne_self _, Nat.ne_of_lt hlt, Nat.ne_of_lt (Nat.lt_succ_of_lt hlt)⟩, fr, q⟩
def iSeqA (K : PySem.W.Frag) (tl : TE) : TI := fun σ H R => tl σ H fun x H1 => ∃ a xs, x = .ref a ∧ ((SqL K H1 a xs ∧ R (Itl K a) H1) ∨ (SqT K H1 a xs ∧ R (Itt K a) H1))
theorem pi_seqA {l : Expr} {tl : TE} (hl : PE X l tl) : PI X tg l (iSeqA X.K tl) := by
  refine ⟨fun pins s σ H R I h => ?_⟩
  refine thn (hl.run pins s σ H _ I h) fun v s1 ⟨x, H1, I1, r1, q1⟩ => ?_
  obtain ⟨a, xs, e, q⟩ := q1
  subst e
  cases r1
  have fr : ∀ b ∈ [s1.heap.objs.size], FpOk X pins H1 b := fun b hb => by
    have e : b = s1.heap.objs.size := by simpa using hb
    subst e
    exact I1.fpOk (Nat.le_refl _) (I1.hok.fresh (Nat.le_refl _))
  rcases q with ⟨hq, q⟩ | ⟨hq, q⟩
  · obtain ⟨its, rv, p, hz⟩ := I1.list hq
    refine wpAny_pyIter_list p.isList ?_
    exact ⟨s1.heap.objs.size, [s1.heap.objs.size], _, _, H1, rfl, I1.kept (t' := s1.toks) fun b o e => Heap.get?_push_of_some _ e, turn_list a _, ⟨_, Heap.get?_push_size _ rfl, rfl, rfl⟩, fr, q⟩
  · obtain ⟨its, rv, p, hz⟩ := I1.tuple hq
    refine wpAny_pyIter_tuple (show s1.heap.IsTuple a its.toArray from p) ?_
    exact ⟨s1.heap.objs.size, [s1.heap.objs.size], _, _, H1, rfl, I1.kept (t' := s1.toks) fun b o e => Heap.get?_push_of_some _ e, turn_tuple a _, ⟨_, Heap.get?_push_size _ rfl, rfl, rfl⟩, fr, q⟩
end
section
variable {c : Cs} {tx : Text} {C : Sem} {k : Nat} {S : SC} {X : Cx} {W : WX}
theorem SI.val (G : GX c tx C k S X W) {tg e : Expr} {ie : IE} (h : SE c C X W e ie) : SI c C X W tg e .val [ie] := by
  obtain ⟨t, p, q⟩ := h
  refine ⟨_, pi_seqA p, fun α env h σ H R r s p => ?_⟩
  have p := Post.itr p
  simp only [evs, bind_ok, res_bind_assoc] at p
  refine q α env h σ H _ r s (Post.mono (Post.bind (R := RV c) p) fun v1 H1 ⟨x, h1, α1, r1, s1, z1, p1⟩ => ?_)
  obtain ⟨xs, h2, α2, ds, items, r2, fs, ed, ei, io⟩ := Post.here (R := RVs c) (v' := [v1]) p1 r1 (.cons z1 .nil)
  cases fs with
  | @cons v vs' d ds' f fs =>
    cases fs
    rw [G.K]
    cases d with
    | list xs =>
      cases ei
      obtain ⟨a, ws, rfl, hq, _⟩ := FT.list (.inl f)
      exact ⟨a, ws, rfl, .inl ⟨hq, io _ (io_list r2 f)⟩⟩
    | tuple xs =>
      cases ei
      obtain ⟨a, ws, rfl, hq, _⟩ := FT.tuple (.inl f)
      exact ⟨a, ws, rfl, .inr ⟨hq, io _ (io_tup r2 f)⟩⟩
    | _ => cases ei
theorem SI.range1 (G : GX c tx C k S X W) {tg e : Expr} {ies : List IE} {p pos} (hx : ("range" : Str) ∈ tx.free) (hgl : S.sc.names.lookup ("range" : Str) = some .globalImplicit) (hs : isStar e = false) (h : SA c C X W [e] ies) : SI c C X W tg (.Call (.Name "range" p) [e] [] pos) .range1 ies := by
  obtain ⟨t, pa, q⟩ := h
  refine ⟨_, pi_range1 (G.gl hgl) (G.free _ hx) pa (star_cons hs [] X.env), fun α env h σ H R r s p => ?_⟩
  refine q α env h σ H _ r s (Post.mono (Post.itr p) fun vs H1 ⟨xs, h2, α2, ds, items, r2, fs, ed, ei, io⟩ => ?_)
  unfold itemsD at ei
  split at ei <;> try (cases ei; done)
  all_goals (rename_i hz; try (cases hz; done))
  split at ei
  · rename_i hz
    cases ei
    cases fs with
    | cons f fs =>
      cases fs
      cases f
      simp only [sml, Bool.and_eq_true, decide_eq_true_eq] at hz
      refine ⟨_, rfl, hz.1, hz.2, io _ ?_⟩
      have := io_range (c := c) (b := isTupE tg) (α := α2) (h := h2) (H := H1) 0
      simpa using this _
  · cases ei
theorem SI.range2 (G : GX c tx C k S X W) {tg e e2 : Expr} {ies : List IE} {p pos} (hx : ("range" : Str) ∈ tx.free) (hgl : S.sc.names.lookup ("range" : Str) = some .globalImplicit) (hs : isStar e = false) (hs2 : isStar e2 = false) (h : SA c C X W [e, e2] ies) : SI c C X W tg (.Call (.Name "range" p) [e, e2] [] pos) .range2 ies := by
  obtain ⟨t, pa, q⟩ := h
  refine ⟨_, pi_range2 (G.gl hgl) (G.free _ hx) pa (by rw [star_cons hs, star_cons hs2]; rfl) (star_cons hs2 [] X.env), fun α env h σ H R r s p => ?_⟩
  refine q α env h σ H _ r s (Post.mono (Post.itr p) fun vs H1 ⟨xs, h2, α2, ds, items, r2, fs, ed, ei, io⟩ => ?_)
  unfold itemsD at ei
  split at ei <;> try (cases ei; done)
  all_goals (rename_i hz; try (cases hz; done))
  split at ei
  · rename_i hz
    cases ei
    cases fs with
    | cons f fs =>
      cases fs with
      | cons f2 fs =>
        cases fs
        cases f
        cases f2
        simp only [sml, Bool.and_eq_true, decide_eq_true_eq] at hz
        exact ⟨_, _, rfl, ⟨hz.1.1, hz.1.2, hz.2.1, hz.2.2⟩, io _ (io_range _ _)⟩
  · cases ei
theorem enumD_get {xs : List D} {i : Nat} {d : D} (h : (enumD xs)[i]? = some d) : ∃ x, xs[i]? = some x ∧ d = .tuple [.int (i : Int), x] := by
  unfold enumD at h
  rw [List.getElem?_mapIdx] at h
  cases hx : xs[i]? with
  | none => rw [hx] at h; cases h
  | some x => rw [hx] at h; cases h; exact ⟨x, rfl, rfl⟩
theorem enumD_length (xs : List D) : (enumD xs).length = xs.length := List.length_mapIdx ..
theorem pair_fd {α : List Addr} {h : IH} {H : Hp} {T : Addr} {v w : V} {x y : D} (r : HR c α h H) (n : H T = none) (f : FD c.K (liv α h) H v x) (g : FD c.K (liv α h) H w y) :
    (∀ b o, H b = some o → upd H T (.tup [v, w]) b = some o) ∧ FDb true c.K (liv α h) (upd H T (.tup [v, w])) (.ref T) (.tuple [x, y]) :=
  ⟨ext_new n, .inr ⟨rfl, T, _, _, rfl, rfl, .inl (.inl upd_same), (FDs.cons f (.cons g .nil)).up r.lst n⟩⟩
theorem io_enumL {α : List Addr} {h : IH} {H : Hp} {a : Addr} {ds : List D} (r : HR c α h H) (f : FD c.K (liv α h) H (.ref a) (.list ds)) : IO c true α h H (Ite c.K a) (enumD ds) := fun α' h' H' r' s' i => by
  have f' := FD.mono (s'.kp r) f
  obtain ⟨a', ws, e, hq, fs⟩ := FT.list (.inl f')
  cases e
  refine ⟨fun d hd => ?_, fun hl => ⟨ws, hq, by rw [fs.length, ← enumD_length]; exact hl⟩⟩
  obtain ⟨y, hy, rfl⟩ := enumD_get hd
  obtain ⟨v, hv, fv⟩ := fs.get hy
  refine ⟨⟨ws, v, hq, hv⟩, fun x H'' y => ?_⟩
  obtain ⟨T, x', rfl, hn, rfl, y⟩ := y
  have z := y ws hq
  rw [hv] at z
  cases z
  exact pair_fd r' hn (.int _) fv
theorem io_enumT {α : List Addr} {h : IH} {H : Hp} {a : Addr} {ds : List D} (r : HR c α h H) (f : FD c.K (liv α h) H (.ref a) (.tuple ds)) : IO c true α h H (IteT c.K a) (enumD ds) := fun α' h' H' r' s' i => by
  have f' := FD.mono (s'.kp r) f
  obtain ⟨a', ws, e, hq, fs⟩ := FT.tuple (.inl f')
  cases e
  refine ⟨fun d hd => ?_, fun hl => ⟨ws, hq, by rw [fs.length, ← enumD_length]; exact hl⟩⟩
  obtain ⟨y, hy, rfl⟩ := enumD_get hd
  obtain ⟨v, hv, fv⟩ := fs.get hy
  refine ⟨⟨ws, v, hq, hv⟩, fun x H'' y => ?_⟩
  obtain ⟨T, x', rfl, hn, rfl, y⟩ := y
  have z := y ws hq
  rw [hv] at z
  cases z
  exact pair_fd r' hn (.int _) fv
theorem SI.enum (G : GX c tx C k S X W) {e : Expr} {ies : List IE} {elts : List Expr} {kk : Nat} {p pos tpos} (hx : ("enumerate" : Str) ∈ tx.free) (hgl : S.sc.names.lookup ("enumerate" : Str) = some .globalImplicit) (hs : isStar e = false) (h : SA c C X W [e] ies) : SI c C X W (.Tuple elts kk tpos) (.Call (.Name "enumerate" p) [e] [] pos) .enum ies := by
  obtain ⟨t, pa, q⟩ := h
  refine ⟨_, pi_enumA (G.gl hgl) (G.free _ hx) pa (star_cons hs [] X.env), fun α env h σ H R r s p => ?_⟩
  refine q α env h σ H _ r s (Post.mono (Post.itr p) fun vs H1 ⟨xs, h2, α2, ds, items, r2, fs, ed, ei, io⟩ => ?_)
  unfold itemsD at ei
  split at ei <;> try (cases ei; done)
  all_goals (rename_i hz; try (cases hz; done))
  all_goals
    cases ei
    cases fs with
    | cons f fs =>
      cases fs
      rw [G.K]
      first
        | (obtain ⟨a, ws, rfl, hq, _⟩ := FT.list (.inl f)
           exact ⟨a, ws, rfl, .inl ⟨hq, io _ (io_enumL r2 f)⟩⟩)
        | (obtain ⟨a, ws, rfl, hq, _⟩ := FT.tuple (.inl f)
           exact ⟨a, ws, rfl, .inr ⟨hq, io _ (io_enumT r2 f)⟩⟩)
theorem zipD_get {xs ys : List D} {i : Nat} {d : D} (h : (zipD xs ys)[i]? = some d) : ∃ x y, xs[i]? = some x ∧ ys[i]? = some y ∧ d = .tuple [x, y] := by
  unfold zipD at h
  rw [List.getElem?_zipWith] at h
  cases hx : xs[i]? with
  | none => rw [hx] at h; cases h
  | some x =>
    cases hy : ys[i]? with
    | none => rw [hx, hy] at h; cases h
    | some y =>
      rw [hx, hy] at h
      cases h
      exact ⟨x, y, rfl, rfl, rfl⟩
theorem zipD_length (xs ys : List D) : (zipD xs ys).length = min xs.length ys.length := List.length_zipWith ..
theorem io_zipL {α : List Addr} {h : IH} {H : Hp} {a b : Addr} {ds es : List D} (r : HR c α h H) (f : FD c.K (liv α h) H (.ref a) (.list ds)) (g : FD c.K (liv α h) H (.ref b) (.list es)) : IO c true α h H (Itz c.K a b) (zipD ds es) := fun α' h' H' r' s' i => by
  obtain ⟨a', ws, e, hq, fs⟩ := FT.list (.inl (FD.mono (s'.kp r) f))
  cases e
  obtain ⟨b', us, e, hq2, gs⟩ := FT.list (.inl (FD.mono (s'.kp r) g))
  cases e
  refine ⟨fun d hd => ?_, fun hl => ⟨ws, us, hq, hq2, by rw [fs.length, gs.length]; rw [zipD_length] at hl; omega⟩⟩
  obtain ⟨x0, y0, hx, hy, rfl⟩ := zipD_get hd
  obtain ⟨v, hv, fv⟩ := fs.get hx
  obtain ⟨u, hu, gu⟩ := gs.get hy
  refine ⟨⟨ws, us, v, u, hq, hq2, hv, hu⟩, fun x H'' y => ?_⟩
  obtain ⟨T, x', y', rfl, hn, rfl, y1, y2⟩ := y
  have z := y1 ws hq
  rw [hv] at z
  cases z
  have z := y2 us hq2
  rw [hu] at z
  cases z
  exact pair_fd r' hn fv gu
theorem io_zipT {α : List Addr} {h : IH} {H : Hp} {a b : Addr} {ds es : List D} (r : HR c α h H) (f : FD c.K (liv α h) H (.ref a) (.tuple ds)) (g : FD c.K (liv α h) H (.ref b) (.tuple es)) : IO c true α h H (RZ.ItzT c.K a b) (zipD ds es) := fun α' h' H' r' s' i => by
  obtain ⟨a', ws, e, hq, fs⟩ := FT.tuple (.inl (FD.mono (s'.kp r) f))
  cases e
  obtain ⟨b', us, e, hq2, gs⟩ := FT.tuple (.inl (FD.mono (s'.kp r) g))
  cases e
  refine ⟨fun d hd => ?_, fun hl => ⟨ws, us, hq, hq2, by rw [fs.length, gs.length]; rw [zipD_length] at hl; omega⟩⟩
  obtain ⟨x0, y0, hx, hy, rfl⟩ := zipD_get hd
  obtain ⟨v, hv, fv⟩ := fs.get hx
  obtain ⟨u, hu, gu⟩ := gs.get hy
  refine ⟨⟨ws, us, v, u, hq, hq2, hv, hu⟩, fun x H'' y => ?_⟩
  obtain ⟨T, x', y', rfl, hn, rfl, y1, y2⟩ := y
  have z := y1 ws hq
  rw [hv] at z
  cases z
  have z := y2 us hq2
  rw [hu] at z
  cases z
  exact pair_fd r' hn fv gu
theorem SI.zip (G : GX c tx C k S X W) {e e2 : Expr} {ies : List IE} {elts : List Expr} {kk : Nat} {p pos tpos} (hx : ("zip" : Str) ∈ tx.free) (hgl : S.sc.names.lookup ("zip" : Str) = some .globalImplicit) (hs : isStar e = false) (hs2 : isStar e2 = false) (h : SA c C X W [e, e2] ies) : SI c C X W (.Tuple elts kk tpos) (.Call (.Name "zip" p) [e, e2] [] pos) .zip ies := by
  obtain ⟨t, pa, q⟩ := h
  refine ⟨_, RZ.pi_zipA (G.gl hgl) (G.free _ hx) pa (star_cons hs _ X.env) (by rw [star_cons hs2]; rfl), fun α env h σ H R r s p => ?_⟩
  refine q α env h σ H _ r s (Post.mono (Post.itr p) fun vs H1 ⟨xs, h2, α2, ds, items, r2, fs, ed, ei, io⟩ => ?_)
  unfold itemsD at ei
  split at ei <;> try (cases ei; done)
  all_goals (rename_i hz; try (cases hz; done))
  all_goals
    cases ei
    cases fs with
    | cons f fs =>
      cases fs with
      | cons g fs =>
      cases fs
      rw [G.K]
      first
        | (obtain ⟨a, ws, rfl, hq, _⟩ := FT.list (.inl f)
           obtain ⟨b, us, rfl, hq2, _⟩ := FT.list (.inl g)
           exact ⟨a, b, ws, us, rfl, .inl ⟨hq, hq2, io _ (io_zipL r2 f g)⟩⟩)
        | (obtain ⟨a, ws, rfl, hq, _⟩ := FT.tuple (.inl f)
           obtain ⟨b, us, rfl, hq2, _⟩ := FT.tuple (.inl g)
           exact ⟨a, b, ws, us, rfl, .inr ⟨hq, hq2, io _ (io_zipT r2 f g)⟩⟩)
end
end RR

-- RR11
set_option maxHeartbeats 2000000
/-! Comprehensions. -/
namespace RR
open PySem PySem.Spec L2
section
variable {c : Cs} {tx : Text} {C : Sem} {k : Nat} {S : SC} {X : Cx} {W : WX}
theorem calm_bind {α β : Type} (r : Res α) (f : α → IH → Res β) : (r.bind f).calm = r.calm.bind fun a h => (f a h).calm := by
  cases r <;> rfl
theorem bind_assoc' {α β γ : Type} (r : Res α) (f : α → IH → Res β) (g : β → IH → Res γ) : (r.bind f).bind g = r.bind fun a h => (f a h).bind g := by
  cases r <;> rfl
/-! ### the block's context -/
def W0 : WX := fun _ _ _ _ => False
def SC.blk (S : SC) (scope : Scope) : SC := ⟨S.N, relS scope S.sc, scope, S.q⟩
abbrev Blk (X : Cx) (scope : Scope) (s : Shared) (H : Hp) (C : Addr) (cl : List (Str × Addr)) (fp : List Addr) : Cx := X.blk s H scope (compEnvC scope cl C X.env) fp
theorem GX.blk (G : GX c tx C k S X W) {scope : Scope} (hk : scope.kind = .function) (s : Shared) (H : Hp) (C' : Addr) (cl : List (Str × Addr)) (fp : List Addr) : GX c tx C k (S.blk scope) (Blk X scope s H C' cl fp) W0 where
  K := G.K
  N := G.N
  sc := by
    show relabel scope X.env = relS scope S.sc
    rw [← G.sc]
    rfl
  fs := fun x h => by
    show (scope.names.lookup x == some .cell) = true
    have h' : scope.names.lookup x = some .cell := h
    rw [h']; rfl
  kind := hk
  calm := G.calm
  nd := G.nd
  grd := G.grd
  room := G.room
  tk := fun u s' ⟨a, B, sI, pins, σ, H, cls, d, e, I, nb, up, sky, na, os, ag, w⟩ => w.elim
  lam := G.lam
  lamAt := fun q e => ⟨(G.lamAt q e).qual, (G.lamAt q e).ex⟩
  free := G.free
  cst := G.cst
  fn := G.fn
/-! ### one clause -/
def condR (C : Sem) (env : Env) (cond : IE) (h : IH) : Res Bool := if cond.isNop then .ok true h else tst C env cond h
def lcTurn (C : Sem) (env0 : Env) (tg : Tg) (cond elt : IE) (x : D) (h : IH) : Res (Option D) := match bindT tg x env0 with
  | some env1 => (condR C env1 cond h).bind fun b h2 => if b then (ev C env1 elt h2).bind fun y h3 => (asD y h3).bind fun y h4 => .ok (some y) h4 else .ok none h2
  | none => .stuck
theorem ev_lc (env : Env) (k : Ik) (its : List IE) (tg : Tg) (cond elt : IE) (h : IH) : ev C env (.lc k its tg cond elt) h = (itr k (evs C env its h)).bind fun items h1 => (lcLoop h1.length (lcTurn C (wipeE env (tgs tg)) tg cond elt) items (h1 ++ [.lst []])).calm.bind fun _ h2 => lcEnd h1.length h2 := by
  simp only [ev]
  rfl
/-- a clause's tests -/
def STs (c : Cs) (C : Sem) (X : Cx) (W : WX) (ifs : List Expr) (cond : IE) : Prop := ∃ t : TT, PTs X ifs t ∧ ∀ α (env : Env) h σ H Q, HR c α h H → SR c (liv α h) α H env σ → Post c RB α h H (condR C env cond h) Q (WE W σ) → t σ H Q
theorem STs.nil : STs c C X W [] .nop := ⟨_, pts_nil, fun α env h σ H Q r s p => Post.here (R := RB) (v' := true) p r rfl⟩
theorem STs.one {e : Expr} {ie : IE} (h : ST c C X W e ie) (hn : ie.isNop = false) : STs c C X W [e] ie := by
  obtain ⟨t, p, q⟩ := h
  refine ⟨_, pts_one p, fun α env h σ H Q r s p => ?_⟩
  unfold condR at p
  rw [hn] at p
  exact q α env h σ H Q r s p
theorem lc_end {α1 α' : List Addr} {h1 h' : IH} {H1 H : Hp} {D : Addr} {Q : VK} {E : XK} (r1 : HR c α1 h1 H1) (r' : HR c α' h' H) (s' : Stp α1 h1 H1 α' h' H) (hD : α'[h1.length]? = some D) (p : Post c (RV c) α1 h1 H1 (lcEnd h1.length h') Q E) : Q (.ref D) H := by
  unfold lcEnd at p
  cases e : h'[h1.length]? with
  | none => simp only [e] at p; exact p.elim
  | some z =>
    cases z with
    | dead => simp only [e] at p; exact p.elim
    | vls _ => simp only [e] at p; exact p.elim
    | dct _ _ => simp only [e] at p; exact p.elim
    | lst ys =>
      simp only [e] at p
      obtain ⟨rc, sc⟩ := r1.cut r' s'
      obtain ⟨a, vs, q1, q2, q3⟩ := r'.cell _ ys e
      rw [hD] at q1
      cases q1
      refine p (.ref D) α1 H rc sc ?_
      have notl : ¬ liv α1 (h'.take h1.length) D := fun ⟨n, xs, z1, z2, zl⟩ => by
        obtain ⟨hn, z3⟩ := getElem?_take_lt z2
        obtain ⟨β, eβ⟩ := s'.pre
        have z4 : α'[n]? = some D := s'.get z1
        have := r'.ij n h1.length D xs _ z4 hD z3 zl e trivial
        omega
      refine .lst (.inl q2) notl (FDs.mono ⟨fun a m => r'.lst a m, fun a o z _ _ => z, fun a m => ?_⟩ q3)
      obtain ⟨n, xs, z1, z2, zl⟩ := m
      obtain ⟨hn, z3⟩ := getElem?_take_lt z2
      exact .inl ⟨n, xs, s'.get z1, z3, zl⟩
theorem pushC_some {n : Nat} {y : D} {h h2 : IH} (e : pushC n y h = some h2) : ∃ xs, h[n]? = some (.lst xs) ∧ xs.length < lim ∧ h2 = h.set n (.lst (xs ++ [y])) := by
  unfold pushC at e
  cases z : h[n]? with
  | none => simp only [z] at e; cases e
  | some cell =>
    cases cell with
    | dead => simp only [z] at e; cases e
    | vls _ => simp only [z] at e; cases e
    | dct _ _ => simp only [z] at e; cases e
    | lst xs =>
      simp only [z] at e
      split at e
      · rename_i hl
        cases e
        exact ⟨xs, rfl, hl, rfl⟩
      · cases e
/-- an item put at the comprehension's list -/
theorem push_ok {n : Nat} {y : D} {v : V} {α : List Addr} {h h2 : IH} {H : Hp} {D : Addr} (r : HR c α h H) (hD : α[n]? = some D) (f : FD c.K (liv α h) H v y) (e : pushC n y h = some h2) :
    ∃ acc, H D = some (.lst acc) ∧ acc.length < sizeLine ∧ HR c α h2 (upd H D (.lst (acc ++ [v]))) ∧ Stp α h H α h2 (upd H D (.lst (acc ++ [v]))) := by
  obtain ⟨xs, z, hl, rfl⟩ := pushC_some e
  obtain ⟨a, vs, q1, q2, q3⟩ := r.cell n xs z
  rw [hD] at q1
  cases q1
  obtain ⟨w1, w2⟩ := r.wr z hD (q3.append (.cons f .nil))
  exact ⟨vs, q2, by rw [q3.length, ← lim_eq]; exact hl, w1, w2⟩
theorem drop_cons {β : Type} {l : List β} {i : Nat} (h : i < l.length) : l.drop i = l[i] :: l.drop (i + 1) := List.drop_eq_getElem_cons h
theorem turn_eq {n : Nat} {env0 env1 : Env} {tg : Tg} {cond elt : IE} {x : D} {r : List D} {h : IH} {β : Type} {f : Unit → IH → Res β} (e : bindT tg x env0 = some env1) :
    (lcLoop n (lcTurn C env0 tg cond elt) (x :: r) h).calm.bind f = (condR C env1 cond h).calm.bind fun b h2 => if b = true then (ev C env1 elt h2).calm.bind fun y h3 => match y with
      | .d d => match pushC n d h3 with
        | some h4 => (lcLoop n (lcTurn C env0 tg cond elt) r h4).calm.bind f
        | none => .stuck
      | _ => .stuck
    else (lcLoop n (lcTurn C env0 tg cond elt) r h2).calm.bind f := by
  simp only [lcLoop, lcTurn, e]
  cases condR C env1 cond h with
  | ok b h2 =>
    cases b with
    | false => rfl
    | true =>
      simp only [bind_ok, calm_ok, if_true]
      cases ev C env1 elt h2 with
      | ok y h3 =>
        cases y with
        | d d =>
          simp only [asD, bind_ok, calm_ok]
          cases pushC n d h3 <;> rfl
        | _ => rfl
      | _ => rfl
  | _ => rfl
theorem turn_none {n : Nat} {env0 : Env} {tg : Tg} {cond elt : IE} {x : D} {r : List D} {h : IH} {β : Type} {f : Unit → IH → Res β} (e : bindT tg x env0 = none) : (lcLoop n (lcTurn C env0 tg cond elt) (x :: r) h).calm.bind f = .stuck := by
  simp only [lcLoop, lcTurn, e]
  rfl
/-! ### one reading for all contexts -/
def cE (c : Cs) (C : Sem) (W : WX) (ie : IE) : TE := fun σ H Q => ∃ α env h, HR c α h H ∧ SR c (liv α h) α H env σ ∧ Post c (RV c) α h H (ev C env ie h) Q (WE W σ)
theorem SE.canon {e : Expr} {ie : IE} (h : SE c C X W e ie) : PE X e (cE c C W ie) := by
  obtain ⟨t, p, q⟩ := h
  exact ⟨fun pins s σ H Q I ⟨α, env, h, r, sr, z⟩ => p.run pins s σ H Q I (q α env h σ H Q r sr z)⟩
def cTs (c : Cs) (C : Sem) (W : WX) (cond : IE) : TT := fun σ H Q => ∃ α env h, HR c α h H ∧ SR c (liv α h) α H env σ ∧ Post c RB α h H (condR C env cond h) Q (WE W σ)
theorem STs.canon {ifs : List Expr} {ie : IE} (h : STs c C X W ifs ie) : PTs X ifs (cTs c C W ie) := by
  obtain ⟨t, p, q⟩ := h
  exact ⟨fun pins s σ H Q I ⟨α, env, h, r, sr, z⟩ => p.run pins s σ H Q I (q α env h σ H Q r sr z)⟩
def cG (c : Cs) (b : Bool) (it : Tg) : TG := fun v σ H Q => ∃ α h env env1 d, HR c α h H ∧ SR c (liv α h) α H env σ ∧ FDb b c.K (liv α h) H v d ∧ bindT it d env = some env1 ∧ ∀ σ1, SR c (liv α h) α H env1 σ1 → SameBut (tgs it) σ1 σ → Q σ1 H
theorem STg.canon {tg : Expr} {it : Tg} (h : STg c X tg it) : PG X tg (cG c (isTupE tg) it) := by
  obtain ⟨t, p, q⟩ := h
  exact ⟨fun pins s σ H v u Q I ru ⟨α, h, env, env1, d, r, sr, f, e, z⟩ => p.run pins s σ H v u Q I ru (q r sr f e z)⟩
def cI (c : Cs) (b : Bool) (C : Sem) (W : WX) (k : Ik) (its : List IE) : TI := fun σ H R => ∃ α env h, HR c α h H ∧ SR c (liv α h) α H env σ ∧ Post c (RI c b) α h H (itr k (evs C env its h)) R (WE W σ)
theorem SI.canon {tg iter : Expr} {kk : Ik} {its : List IE} (h : SI c C X W tg iter kk its) : PI X tg iter (cI c (isTupE tg) C W kk its) := by
  obtain ⟨t, p, q⟩ := h
  exact ⟨fun pins s σ H R I ⟨α, env, h, r, sr, z⟩ => p.run pins s σ H R I (q α env h σ H R r sr z)⟩
theorem len_at {α1 : List Addr} {h1 : IH} {H1 : Hp} {D : Addr} (r1 : HR c α1 h1 H1) : (α1 ++ [D])[h1.length]? = some D := by
  rw [← r1.len, List.getElem?_append_right (Nat.le_refl _), Nat.sub_self]
  rfl
theorem lc_sem {bb : Bool} {kk : Ik} {its : List IE} {tg : Tg} {cond elt ie : IE} {wi : TI} (qi : ∀ α (env : Env) h σ H R, HR c α h H → SR c (liv α h) α H env σ → Post c (RI c bb) α h H (itr kk (evs C env its h)) R (WE W σ) → wi σ H R)
    {fin : Nat → IH → Res Val} (hfin : ∀ {α1 α' : List Addr} {h1 h' : IH} {H1 H : Hp} {D : Addr} {Q : VK} {E : XK}, HR c α1 h1 H1 → HR c α' h' H → Stp α1 h1 H1 α' h' H → α'[h1.length]? = some D → Post c (RV c) α1 h1 H1 (fin h1.length h') Q E → Q (.ref D) H)
    (hev : ∀ env h, ev C env ie h = (itr kk (evs C env its h)).bind fun items h1 => (lcLoop h1.length (lcTurn C (wipeE env (tgs tg)) tg cond elt) items (h1 ++ [.lst []])).calm.bind fun _ h2 => fin h1.length h2) :
    ∀ α (env : Env) h σ H Q, HR c α h H → SR c (liv α h) α H env σ → Post c (RV c) α h H (ev C env ie h) Q (WE W σ) → tLc wi (cG c bb tg) (cTs c C W0 cond) (cE c C W0 elt) (tgs tg) σ H Q := by
  intro α env h σ H Q r s p
  rw [hev] at p
  refine qi α env h σ H _ r s (Post.mono (Post.bind (R := RI c bb) p) fun J H1 ⟨items, h1, α1, r1, s1, io, p1⟩ => ?_)
  have io := io h1 rfl r1
  intro D hD
  obtain ⟨rm, sm⟩ := r1.made (xs := []) (vs := []) hD .nil
  refine ⟨fun i m H => ∃ α' h', m = items.length - i ∧ i ≤ items.length ∧ HR c α' h' H ∧ Stp α1 h1 H1 α' h' H ∧ α'[h1.length]? = some D ∧ Post c (RV c) α1 h1 H1 ((lcLoop h1.length (lcTurn C (wipeE env (tgs tg)) tg cond elt) (items.drop i) h').calm.bind fun _ h2 => fin h1.length h2) Q (WE W σ),
    ⟨items.length, _, _, by simp, Nat.zero_le _, rm, sm, len_at r1, p1⟩, ?_⟩
  rintro i m H2 ⟨α', h', rfl, hi, r2, s2, hD2, p2⟩
  obtain ⟨io1, io2⟩ := io α' h' H2 r2 s2 i
  by_cases hlt : i < items.length
  · obtain ⟨go, yl⟩ := io1 _ (List.getElem?_eq_getElem hlt)
    rw [drop_cons hlt] at p2
    refine .inr ⟨go, fun H => ∃ α' h', HR c α' h' H ∧ Stp α1 h1 H1 α' h' H ∧ α'[h1.length]? = some D ∧ Post c (RV c) α1 h1 H1 ((lcLoop h1.length (lcTurn C (wipeE env (tgs tg)) tg cond elt) (items.drop (i + 1)) h').calm.bind fun _ h2 => fin h1.length h2) Q (WE W σ), fun H' ⟨α'', h'', q1, q2, q3, q4⟩ => ⟨items.length - (i + 1), by omega, α'', h'', rfl, hlt, q1, q2, q3, q4⟩, fun x H3 y => ?_⟩
    obtain ⟨ex, fx⟩ := yl x H3 y
    have r3 := r2.ext ex
    have s3 := s2.trans (Stp.ext (α := α') (h := h') ex)
    have sr3 : SR c (liv α' h') α' H3 (wipeE env (tgs tg)) (L2.wipe σ (tgs tg)) := ((s.mono r s1).mono r1 s3).wipeE _
    cases e : bindT tg items[i] (wipeE env (tgs tg)) with
    | none => rw [turn_none e] at p2; exact p2.elim
    | some env1 =>
      rw [turn_eq e] at p2
      refine ⟨α', h', _, env1, _, r3, sr3, fx, e, fun σ1 sr1 sb => ⟨wipe_eq (sb.trans (SameBut.wipe _ σ)).1 (sb.trans (SameBut.wipe _ σ)).2, α', env1, h', r3, sr1, ?_⟩⟩
      refine Post.mono (Post.bindCAt (R := RB) s3 p2) fun b H4 ⟨b', h4, α4, r4, s4, zb, p4⟩ => ?_
      cases zb
      have s14 := s3.trans s4
      cases b with
      | false => exact ⟨α4, h4, r4, s14, s4.get hD2, p4⟩
      | true =>
        simp only [if_true] at p4 ⊢
        refine ⟨α4, env1, h4, r4, sr1.mono r3 s4, Post.mono (Post.bindCAt (R := RV c) s14 p4) fun v H5 ⟨y, h5, α5, r5, s5, zy, p5⟩ => ?_⟩
        cases y with
        | d d =>
          simp only at p5
          cases e6 : pushC h1.length d h5 with
          | none => simp only [e6] at p5; exact p5.elim
          | some h6 =>
            simp only [e6] at p5
            have hD5 := s5.get (s4.get hD2)
            obtain ⟨acc, a1, a2, r6, s6⟩ := push_ok r5 hD5 zy e6
            exact ⟨acc, a1, a2, α5, h6, r6, (s14.trans s5).trans s6, hD5, p5⟩
        | _ => exact p5.elim
  · have ei : i = items.length := by omega
    subst ei
    refine .inl ⟨io2 (Nat.le_refl _), ?_⟩
    rw [List.drop_length] at p2
    exact hfin r1 r2 s2 hD2 p2
theorem ev_mut_lc (env : Env) (k : Ik) (its : List IE) (tg : Tg) (cond elt : IE) (h : IH) : ev C env (.mut (.lc k its tg cond elt)) h = (itr k (evs C env its h)).bind fun items h1 => (lcLoop h1.length (lcTurn C (wipeE env (tgs tg)) tg cond elt) items (h1 ++ [.lst []])).calm.bind fun _ h2 => (lcEnd h1.length h2).bind fun x h1 => match x with
    | .d (.list xs) => .ok (.ref h1.length) (h1 ++ [.lst xs])
    | _ => .stuck := by
  have e : ev C env (.mut (.lc k its tg cond elt)) h = (ev C env (.lc k its tg cond elt) h).bind fun x h1 => match x with
    | .d (.list xs) => .ok (.ref h1.length) (h1 ++ [.lst xs])
    | _ => .stuck := by
    simp only [ev] <;> rfl
  rw [e, ev_lc]
  simp only [bind_assoc']
theorem lc_endM {α1 α' : List Addr} {h1 h' : IH} {H1 H : Hp} {D : Addr} {Q : VK} {E : XK} (r1 : HR c α1 h1 H1) (r' : HR c α' h' H) (s' : Stp α1 h1 H1 α' h' H) (hD : α'[h1.length]? = some D) (p : Post c (RV c) α1 h1 H1 ((lcEnd h1.length h').bind fun x h1 => match x with
    | .d (.list xs) => .ok (.ref h1.length) (h1 ++ [.lst xs])
    | _ => .stuck) Q E) : Q (.ref D) H := by
  unfold lcEnd at p
  cases e : h'[h1.length]? with
  | none => simp only [e] at p; exact p.elim
  | some z =>
    cases z with
    | dead => simp only [e] at p; exact p.elim
    | vls _ => simp only [e] at p; exact p.elim
    | dct _ _ => simp only [e] at p; exact p.elim
    | lst ys =>
      simp only [e, bind_ok] at p
      obtain ⟨rc, sc⟩ := r1.cut1 r' s' (Nat.le_refl _) hD e
      refine p (.ref D) _ H rc sc ⟨D, ?_, rfl⟩
      have hl : (h'.take h1.length).length = h1.length := by
        have := (List.getElem?_eq_some_iff.mp e).1
        rw [List.length_take]
        omega
      rw [hl]
      exact len_at r1
/-- what a comprehension's block needs -/
def LcB (c : Cs) (C : Sem) (X : Cx) (scope : Scope) (etg eelt : Expr) (ifs : List Expr) (tg : Tg) (cond elt : IE) : Prop := ∀ s H C' cl fp, STg c (Blk X scope s H C' cl fp) etg tg ∧ STs c C (Blk X scope s H C' cl fp) W0 ifs cond ∧ SE c C (Blk X scope s H C' cl fp) W0 eelt elt
theorem SE.lc (G : GX c tx C k S X W) {kk : Ik} {its : List IE} {tg : Tg} {cond elt : IE} {etg eit eelt : Expr} {ifs : List Expr} {scope : Scope} {own : List (Str × Nat)} {pos : Pos} (ok : BlkOk X.N X.env.scope scope own) (how : own.map (·.2) = tgs tg)
    (hi : SI c C X W etg eit kk its) (hfold : ∀ x, foldedSetIterable eit X.env x = pure x) (hb : LcB c C X scope etg eelt ifs tg cond elt) :
    SE c C X W (.ListComp eelt [⟨etg, eit, ifs, 0⟩] scope pos) (.lc kk its tg cond elt) := by
  obtain ⟨wi, pi, qi⟩ := hi
  refine ⟨_, pe_lc G.calm G.nd pi ok (fun s H C' cl fp => (hb s H C' cl fp).1.canon) (fun s H C' cl fp => (hb s H C' cl fp).2.1.canon) (fun s H C' cl fp => (hb s H C' cl fp).2.2.canon) hfold, ?_⟩
  rw [how]
  exact lc_sem qi (fin := lcEnd) lc_end fun env h => ev_lc ..
theorem SE.mlc (G : GX c tx C k S X W) {kk : Ik} {its : List IE} {tg : Tg} {cond elt : IE} {etg eit eelt : Expr} {ifs : List Expr} {scope : Scope} {own : List (Str × Nat)} {pos : Pos} (ok : BlkOk X.N X.env.scope scope own) (how : own.map (·.2) = tgs tg)
    (hi : SI c C X W etg eit kk its) (hfold : ∀ x, foldedSetIterable eit X.env x = pure x) (hb : LcB c C X scope etg eelt ifs tg cond elt) :
    SE c C X W (.ListComp eelt [⟨etg, eit, ifs, 0⟩] scope pos) (.mut (.lc kk its tg cond elt)) := by
  obtain ⟨wi, pi, qi⟩ := hi
  refine ⟨_, pe_lc G.calm G.nd pi ok (fun s H C' cl fp => (hb s H C' cl fp).1.canon) (fun s H C' cl fp => (hb s H C' cl fp).2.1.canon) (fun s H C' cl fp => (hb s H C' cl fp).2.2.canon) hfold, ?_⟩
  rw [how]
  exact lc_sem qi (fin := fun n h => (lcEnd n h).bind fun x h1 => match x with
    | .d (.list xs) => .ok (.ref h1.length) (h1 ++ [.lst xs])
    | _ => .stuck) lc_endM fun env h => ev_mut_lc ..
/-! ### two clauses -/
def lcTurn2 (C : Sem) (n : Nat) (env0 : Env) (tg : Tg) (k2 : Ik) (its2 : List IE) (tg2 : Tg) (cond elt : IE) (x : D) (h : IH) : Res Unit := match bindT tg x env0 with
  | some env1 => (itr k2 (evs C env1 its2 h)).bind fun items2 h2 => lcLoop n (lcTurn C (wipeE env1 (tgs tg2)) tg2 cond elt) items2 h2
  | none => .stuck
theorem ev_lc2 (env : Env) (k : Ik) (its : List IE) (tg : Tg) (k2 : Ik) (its2 : List IE) (tg2 : Tg) (cond elt : IE) (h : IH) : ev C env (.lc2 k its tg k2 its2 tg2 cond elt) h = (itr k (evs C env its h)).bind fun items h1 => (lcLoop2 (lcTurn2 C h1.length (wipeE env (tgs tg ++ tgs tg2)) tg k2 its2 tg2 cond elt) items (h1 ++ [.lst []])).calm.bind fun _ h2 => lcEnd h1.length h2 := by
  simp only [ev]
  rfl
theorem turn2_eq {n : Nat} {env0 env1 : Env} {tg tg2 : Tg} {k2 : Ik} {its2 : List IE} {cond elt : IE} {x : D} {r : List D} {h : IH} {β : Type} {f : Unit → IH → Res β} (e : bindT tg x env0 = some env1) :
    (lcLoop2 (lcTurn2 C n env0 tg k2 its2 tg2 cond elt) (x :: r) h).calm.bind f = (itr k2 (evs C env1 its2 h)).calm.bind fun items2 h2 => (lcLoop n (lcTurn C (wipeE env1 (tgs tg2)) tg2 cond elt) items2 h2).calm.bind fun _ h3 => (lcLoop2 (lcTurn2 C n env0 tg k2 its2 tg2 cond elt) r h3).calm.bind f := by
  simp only [lcLoop2, lcTurn2, e, calm_bind, bind_assoc']
theorem turn2_none {n : Nat} {env0 : Env} {tg tg2 : Tg} {k2 : Ik} {its2 : List IE} {cond elt : IE} {x : D} {r : List D} {h : IH} {β : Type} {f : Unit → IH → Res β} (e : bindT tg x env0 = none) : (lcLoop2 (lcTurn2 C n env0 tg k2 its2 tg2 cond elt) (x :: r) h).calm.bind f = .stuck := by
  simp only [lcLoop2, lcTurn2, e]
  rfl
theorem lc2_sem {bb bb2 : Bool} {kk k2 : Ik} {its its2 : List IE} {tg tg2 : Tg} {cond elt : IE} {wi : TI} (qi : ∀ α (env : Env) h σ H R, HR c α h H → SR c (liv α h) α H env σ → Post c (RI c bb) α h H (itr kk (evs C env its h)) R (WE W σ) → wi σ H R) :
    ∀ α (env : Env) h σ H Q, HR c α h H → SR c (liv α h) α H env σ → Post c (RV c) α h H (ev C env (.lc2 kk its tg k2 its2 tg2 cond elt) h) Q (WE W σ) → tLc2 wi (cG c bb tg) tYes (cI c bb2 C W0 k2 its2) (cG c bb2 tg2) (cTs c C W0 cond) (cE c C W0 elt) (tgs tg ++ tgs tg2) (tgs tg2) σ H Q := by
  intro α env h σ H Q r s p
  rw [ev_lc2] at p
  refine qi α env h σ H _ r s (Post.mono (Post.bind (R := RI c bb) p) fun J H1 ⟨items, h1, α1, r1, s1, io, p1⟩ => ?_)
  have io := io h1 rfl r1
  intro D hD
  obtain ⟨rm, sm⟩ := r1.made (xs := []) (vs := []) hD .nil
  generalize hF : lcTurn2 C h1.length (wipeE env (tgs tg ++ tgs tg2)) tg k2 its2 tg2 cond elt = F at p1
  refine ⟨fun i m H => ∃ α' h', m = items.length - i ∧ i ≤ items.length ∧ HR c α' h' H ∧ Stp α1 h1 H1 α' h' H ∧ α'[h1.length]? = some D ∧ Post c (RV c) α1 h1 H1 ((lcLoop2 F (items.drop i) h').calm.bind fun _ h2 => lcEnd h1.length h2) Q (WE W σ),
    ⟨items.length, _, _, by simp, Nat.zero_le _, rm, sm, len_at r1, p1⟩, ?_⟩
  rintro i m H2 ⟨α', h', rfl, hi, r2, s2, hD2, p2⟩
  obtain ⟨io1, io2⟩ := io α' h' H2 r2 s2 i
  by_cases hlt : i < items.length
  · obtain ⟨go, yl⟩ := io1 _ (List.getElem?_eq_getElem hlt)
    rw [drop_cons hlt] at p2
    refine .inr ⟨go, fun H => ∃ α' h', HR c α' h' H ∧ Stp α1 h1 H1 α' h' H ∧ α'[h1.length]? = some D ∧ Post c (RV c) α1 h1 H1 ((lcLoop2 F (items.drop (i + 1)) h').calm.bind fun _ h2 => lcEnd h1.length h2) Q (WE W σ), fun H' ⟨α'', h'', q1, q2, q3, q4⟩ => ⟨items.length - (i + 1), by omega, α'', h'', rfl, hlt, q1, q2, q3, q4⟩, fun x H3 y => ?_⟩
    obtain ⟨ex, fx⟩ := yl x H3 y
    have r3 := r2.ext ex
    have s3 := s2.trans (Stp.ext (α := α') (h := h') ex)
    have sr3 : SR c (liv α' h') α' H3 (wipeE env (tgs tg ++ tgs tg2)) (L2.wipe σ (tgs tg ++ tgs tg2)) := ((s.mono r s1).mono r1 s3).wipeE _
    cases e : bindT tg items[i] (wipeE env (tgs tg ++ tgs tg2)) with
    | none => rw [← hF, turn2_none e] at p2; exact p2.elim
    | some env1 =>
      rw [← hF, turn2_eq e, hF] at p2
      refine ⟨α', h', _, env1, _, r3, sr3, fx, e, fun σ1 sr1 sb0 => ?_⟩
      have sb := sb0.mono (ws := tgs tg ++ tgs tg2) fun _ z => List.mem_append_left _ z
      refine ⟨wipe_eq (sb.trans (SameBut.wipe _ σ)).1 (sb.trans (SameBut.wipe _ σ)).2, ?_⟩
      show tYes _ _ _
      unfold tYes
      simp only [if_true]
      refine ⟨α', env1, h', r3, sr1, Post.mono (Post.bindCAt (R := RI c bb2) s3 p2) fun J1 H4 ⟨items2, h4, α4, r4, s4, io', p4⟩ => ?_⟩
      have io' := io' h4 rfl r4
      have s14 := s3.trans s4
      have hD4 := s4.get hD2
      refine ⟨fun j m H => ∃ α' h', m = items2.length - j ∧ j ≤ items2.length ∧ HR c α' h' H ∧ Stp α4 h4 H4 α' h' H ∧ α'[h1.length]? = some D ∧ Post c (RV c) α1 h1 H1 ((lcLoop h1.length (lcTurn C (wipeE env1 (tgs tg2)) tg2 cond elt) (items2.drop j) h').calm.bind fun _ h3 => (lcLoop2 F (items.drop (i + 1)) h3).calm.bind fun _ h2 => lcEnd h1.length h2) Q (WE W σ),
        ⟨items2.length, α4, h4, by simp, Nat.zero_le _, r4, Stp.refl, hD4, p4⟩, ?_⟩
      rintro j m H5 ⟨α5, h5, rfl, hj, r5, s5, hD5, p5⟩
      obtain ⟨jo1, jo2⟩ := io' α5 h5 H5 r5 s5 j
      by_cases hlt2 : j < items2.length
      · obtain ⟨go2, yl2⟩ := jo1 _ (List.getElem?_eq_getElem hlt2)
        rw [drop_cons hlt2] at p5
        refine .inr ⟨go2, fun H => ∃ α' h', HR c α' h' H ∧ Stp α4 h4 H4 α' h' H ∧ α'[h1.length]? = some D ∧ Post c (RV c) α1 h1 H1 ((lcLoop h1.length (lcTurn C (wipeE env1 (tgs tg2)) tg2 cond elt) (items2.drop (j + 1)) h').calm.bind fun _ h3 => (lcLoop2 F (items.drop (i + 1)) h3).calm.bind fun _ h2 => lcEnd h1.length h2) Q (WE W σ),
          fun H' ⟨α'', h'', q1, q2, q3, q4⟩ => ⟨items2.length - (j + 1), by omega, α'', h'', rfl, hlt2, q1, q2, q3, q4⟩, fun x H6 y => ?_⟩
        obtain ⟨ex2, fx2⟩ := yl2 x H6 y
        have r6 := r5.ext ex2
        have s6 := s5.trans (Stp.ext (α := α5) (h := h5) ex2)
        have sr6 : SR c (liv α5 h5) α5 H6 (wipeE env1 (tgs tg2)) (L2.wipe σ1 (tgs tg2)) := ((sr1.mono r3 s4).mono r4 s6).wipeE _
        cases e2 : bindT tg2 items2[j] (wipeE env1 (tgs tg2)) with
        | none => rw [turn_none e2] at p5; exact p5.elim
        | some env2 =>
          rw [turn_eq e2] at p5
          refine ⟨α5, h5, _, env2, _, r6, sr6, fx2, e2, fun σ2 sr2 sb2 => ⟨wipe_eq (sb2.trans (SameBut.wipe _ σ1)).1 (sb2.trans (SameBut.wipe _ σ1)).2, α5, env2, h5, r6, sr2, ?_⟩⟩
          have s16 := s14.trans s6
          refine Post.mono (Post.bindCAt (R := RB) s16 p5) fun b H7 ⟨b', h7, α7, r7, s7, zb, p7⟩ => ?_
          cases zb
          have s17 := s16.trans s7
          cases b with
          | false => exact ⟨α7, h7, r7, s6.trans s7, s7.get hD5, p7⟩
          | true =>
            simp only [if_true] at p7 ⊢
            refine ⟨α7, env2, h7, r7, sr2.mono r6 s7, Post.mono (Post.bindCAt (R := RV c) s17 p7) fun v H8 ⟨y, h8, α8, r8, s8, zy, p8⟩ => ?_⟩
            cases y with
            | d d =>
              simp only at p8
              cases e6 : pushC h1.length d h8 with
              | none => simp only [e6] at p8; exact p8.elim
              | some h9 =>
                simp only [e6] at p8
                have hD8 := s8.get (s7.get hD5)
                obtain ⟨acc, a1, a2, r9, s9⟩ := push_ok r8 hD8 zy e6
                exact ⟨acc, a1, a2, α8, h9, r9, ((s6.trans s7).trans s8).trans s9, hD8, p8⟩
            | _ => exact p8.elim
      · have ej : j = items2.length := by omega
        subst ej
        refine .inl ⟨jo2 (Nat.le_refl _), ?_⟩
        rw [List.drop_length] at p5
        exact ⟨α5, h5, r5, s14.trans s5, hD5, p5⟩
  · have ei : i = items.length := by omega
    subst ei
    refine .inl ⟨io2 (Nat.le_refl _), ?_⟩
    rw [List.drop_length] at p2
    exact lc_end r1 r2 s2 hD2 p2
def LcB2 (c : Cs) (C : Sem) (X : Cx) (scope : Scope) (etg etg2 eit2 eelt : Expr) (ifs : List Expr) (tg : Tg) (k2 : Ik) (its2 : List IE) (tg2 : Tg) (cond elt : IE) : Prop := ∀ s H C' cl fp, STg c (Blk X scope s H C' cl fp) etg tg ∧ SI c C (Blk X scope s H C' cl fp) W0 etg2 eit2 k2 its2 ∧ STg c (Blk X scope s H C' cl fp) etg2 tg2 ∧ STs c C (Blk X scope s H C' cl fp) W0 ifs cond ∧ SE c C (Blk X scope s H C' cl fp) W0 eelt elt
theorem SE.lc2 (G : GX c tx C k S X W) {kk k2 : Ik} {its its2 : List IE} {tg tg2 : Tg} {cond elt : IE} {etg eit etg2 eit2 eelt : Expr} {ifs : List Expr} {scope : Scope} {own : List (Str × Nat)} {pos : Pos} (ok : BlkOk X.N X.env.scope scope own) (how : own.map (·.2) = tgs tg ++ tgs tg2)
    (hi : SI c C X W etg eit kk its) (hfold : ∀ x, foldedSetIterable eit X.env x = pure x) (hfold2 : ∀ env x, foldedSetIterable eit2 env x = pure x) (hb : LcB2 c C X scope etg etg2 eit2 eelt ifs tg k2 its2 tg2 cond elt) :
    SE c C X W (.ListComp eelt [⟨etg, eit, [], 0⟩, ⟨etg2, eit2, ifs, 0⟩] scope pos) (.lc2 kk its tg k2 its2 tg2 cond elt) := by
  obtain ⟨wi, pi, qi⟩ := hi
  refine ⟨_, pe_lc2 (vs1 := tgs tg2) G.calm G.nd pi ok (fun i hi => by rw [how]; exact List.mem_append_right _ hi) (fun s H C' cl fp => (hb s H C' cl fp).1.canon) (fun s H C' cl fp => pts_nil) (fun s H C' cl fp => (hb s H C' cl fp).2.1.canon) (fun s H C' cl fp => (hb s H C' cl fp).2.2.1.canon) (fun s H C' cl fp => (hb s H C' cl fp).2.2.2.1.canon) (fun s H C' cl fp => (hb s H C' cl fp).2.2.2.2.canon) hfold hfold2, ?_⟩
  rw [how]
  exact lc2_sem qi
/-! ### a list that will change; methods -/
theorem SE.mlst {es : List Expr} {ies : List IE} {pos} (h : SA c C X W es ies) : SE c C X W (.List es pos) (.mut (.lst ies)) := by
  obtain ⟨t, p, q⟩ := h
  refine ⟨_, pe_lst p, fun α env h σ H Q r s p => ?_⟩
  simp only [ev, bind_assoc'] at p
  refine q α env h σ H _ r s (Post.mono (Post.bind (R := RVs c) p) fun v1 H1 ⟨x, h1, α1, r1, s1, z1, p1⟩ => ?_)
  cases e : dats x h1 with
  | none => simp only [e] at p1; exact p1.elim
  | some ds =>
    simp only [e] at p1
    have f := z1.dats e
    split at p1
    · rename_i hl
      refine ⟨by rw [f.length, ← lim_eq]; exact hl, fun a n => ?_⟩
      obtain ⟨rm, sm⟩ := r1.made n f
      simp only [bind_ok] at p1
      exact p1 (.ref a) _ _ rm sm ⟨a, len_at r1, rfl⟩
    · exact p1.elim
end
end RR

-- RR12
set_option maxHeartbeats 2000000
/-! Statements. -/
namespace RR
open PySem PySem.Spec L2
def PostS (c : Cs) (α : List Addr) (h : IH) (H : Hp) (o : Out) (D : Ends) (W : WX) : Prop := match o with
  | .next env h' => ∀ σ' α' H', HR c α' h' H' → Stp α h H α' h' H' → SR c (liv α' h') α' H' env σ' → D.nx σ' H'
  | .ret v h' => ∀ v' α' H', HR c α' h' H' → Stp α h H α' h' H' → RV c (liv α' h') α' H' v v' → D.rt v' H'
  | .brk env h' => ∀ σ' α' H', HR c α' h' H' → Stp α h H α' h' H' → SR c (liv α' h') α' H' env σ' → D.bk σ' H'
  | .cont env h' => ∀ σ' α' H', HR c α' h' H' → Stp α h H α' h' H' → SR c (liv α' h') α' H' env σ' → D.ct σ' H'
  | .exc x env h' => ∀ cls d σ' α' H', HR c α' h' H' → Stp α h H α' h' H' → XR c (liv α' h') H' x cls d → SR c (liv α' h') α' H' env σ' → W cls d σ' H'
  | .stuck => False
section
variable {c : Cs} {α α1 : List Addr} {h h1 : IH} {H H1 : Hp} {W : WX} {D : Ends}
theorem PostS.from {o : Out} (p : PostS c α h H o D W) (s : Stp α h H α1 h1 H1) : PostS c α1 h1 H1 o D W := by
  cases o with
  | next env h2 => exact fun σ' α' H' a b q => p σ' α' H' a (s.trans b) q
  | ret v h2 => exact fun σ' α' H' a b q => p σ' α' H' a (s.trans b) q
  | brk env h2 => exact fun σ' α' H' a b q => p σ' α' H' a (s.trans b) q
  | cont env h2 => exact fun σ' α' H' a b q => p σ' α' H' a (s.trans b) q
  | exc x env h2 => exact fun cls d σ' α' H' a b q => p cls d σ' α' H' a (s.trans b) q
  | stuck => exact p
/-- an expression, then the rest -/
theorem PostS.then_ {β γ : Type} {R : (Addr → Prop) → List Addr → Hp → β → γ → Prop} {r : Res β} {env : Env} {σ : St} {f : β → IH → Out} (hr : HR c α h H) (sr : SR c (liv α h) α H env σ) (p : PostS c α h H (r.then_ env f) D W) :
    Post c R α h H r (fun v' H' => ∃ v h1 α1, HR c α1 h1 H' ∧ Stp α h H α1 h1 H' ∧ R (liv α1 h1) α1 H' v v' ∧ PostS c α1 h1 H' (f v h1) D W) (WE W σ) := by
  cases r with
  | ok v h2 => exact fun v' α' H' a b q => ⟨v, h2, α', a, b, q, PostS.from p b⟩
  | exc x h2 => exact fun cls d α' H' a b q => p cls d σ α' H' a b q (sr.mono hr b)
  | stuck => exact p.elim
theorem PostS.next {env : Env} {σ : St} (p : PostS c α h H (.next env h1) D W) (r : HR c α1 h1 H1) (s : Stp α h H α1 h1 H1) (sr : SR c (liv α1 h1) α1 H1 env σ) : D.nx σ H1 := p σ α1 H1 r s sr
theorem PostS.here {env : Env} {σ : St} (p : PostS c α h H (.next env h) D W) (r : HR c α h H) (sr : SR c (liv α h) α H env σ) : D.nx σ H := p σ α H r Stp.refl sr
end
structure GS (c : Cs) (tx : Text) (C : Sem) (k : Nat) (S : SC) (X : Cx) (W : WX) : Prop extends GX c tx C k S X W where
  po : PassesOwn (model X.prog X.w) X.A X.env X.xe
section
variable (c : Cs) (C : Sem) (wf : Nat) (X : Cx) (W : WX)
def SS (st : Stmt) (is : IS) : Prop := ∃ t : TS, PS X st t ∧ ∀ α (env : Env) h σ H D, HR c α h H → SR c (liv α h) α H env σ → PostS c α h H (ex1 C wf env is h) D W → t D σ H
def SSs (st : List Stmt) (is : List IS) : Prop := ∃ t : TS, PSs X st t ∧ ∀ α (env : Env) h σ H D, HR c α h H → SR c (liv α h) α H env σ → PostS c α h H (exs C wf env is h) D W → t D σ H
end
section
variable {c : Cs} {tx : Text} {C : Sem} {wf : Nat} {k : Nat} {S : SC} {X : Cx} {W : WX}
/-! ### what is never reached -/
theorem SS.never {st : Stmt} {a : Nat} {es : List IE} : SS c C wf X W st (.raise a es) := ⟨_, ps_never, fun α env h σ H D r s p => p.elim⟩
theorem SE.never {e : Expr} : SE c C X W e .nop := ⟨fun _ _ _ => False, ⟨fun _ _ _ _ _ _ h => h.elim⟩, fun α env h σ H Q r s p => by
  simp only [ev] at p
  exact p.elim⟩
/-! ### one after another -/
theorem SSs.nil : SSs c C wf X W [] [] := ⟨_, pss_nil, fun α env h σ H D r s p => by
  simp only [exs] at p
  exact PostS.here p r s⟩
theorem SSs.cons {st : Stmt} {sts : List Stmt} {is : IS} {iss : List IS} (ha : SS c C wf X W st is) (hb : SSs c C wf X W sts iss) : SSs c C wf X W (st :: sts) (is :: iss) := by
  obtain ⟨ta, pa, qa⟩ := ha
  obtain ⟨tb, pb, qb⟩ := hb
  refine ⟨_, pss_cons pa pb, fun α env h σ H D r s p => ?_⟩
  simp only [exs] at p
  refine qa α env h σ H _ r s ?_
  cases e : ex1 C wf env is h with
  | next env1 h1 =>
    rw [e] at p
    intro σ' α' H' r' s' sr'
    exact qb α' env1 h1 σ' H' D r' sr' (PostS.from p s')
  | ret v h1 => rw [e] at p; exact p
  | brk env1 h1 => rw [e] at p; exact p
  | cont env1 h1 => rw [e] at p; exact p
  | exc x env1 h1 => rw [e] at p; exact p
  | stuck => rw [e] at p; exact p
theorem SS.pass {pos} : SS c C wf X W (.Pass pos) .pass := ⟨_, ps_pass, fun α env h σ H D r s p => by
  simp only [ex1] at p
  exact PostS.here p r s⟩
theorem SS.brk {pos} : SS c C wf X W (.Break pos) .brk := ⟨_, ps_break, fun α env h σ H D r s p => by
  simp only [ex1] at p
  exact p σ α H r Stp.refl s⟩
theorem SS.cont {pos} : SS c C wf X W (.Continue pos) .cont := ⟨_, ps_continue, fun α env h σ H D r s p => by
  simp only [ex1] at p
  exact p σ α H r Stp.refl s⟩
def isComp : Expr → Bool
  | .ListComp .. => true
  | .SetComp .. => true
  | .DictComp .. => true
  | _ => false
theorem sw_plain {e : Expr} (h : isComp e = false) (t : Option Expr) (l : Nat) (env : PySem.Env) : swapsWith e t l env = pure false := by
  cases e <;> first | (cases h; done) | rfl
theorem SS.ex {e : Expr} {ie : IE} {pos} (ha : SE c C X W e ie) (hn : isComp e = false) : SS c C wf X W (.Expr e pos) (.ex ie) := by
  obtain ⟨ta, pa, qa⟩ := ha
  refine ⟨_, ps_expr pa (sw_plain hn _ _ _), fun α env h σ H D r s p => ?_⟩
  simp only [ex1] at p
  exact qa α env h σ H _ r s (Post.mono (PostS.then_ (R := RV c) r s p) fun v1 H1 ⟨x, h1, α1, r1, s1, z1, p1⟩ => PostS.here p1 r1 (s.mono r s1))
theorem SS.ret {e : Expr} {ie : IE} {pos} (ha : SE c C X W e ie) : SS c C wf X W (.Return (some e) pos) (.ret ie) := by
  obtain ⟨ta, pa, qa⟩ := ha
  refine ⟨_, ps_ret pa, fun α env h σ H D r s p => ?_⟩
  simp only [ex1] at p
  exact qa α env h σ H _ r s (Post.mono (PostS.then_ (R := RV c) r s p) fun v1 H1 ⟨x, h1, α1, r1, s1, z1, p1⟩ => p1 v1 α1 H1 r1 Stp.refl z1)
theorem SS.retN {pos} : SS c C wf X W (.Return none pos) (.ret (.c .none)) := by
  refine ⟨_, ps_retN, fun α env h σ H D r s p => ?_⟩
  simp only [ex1, ev, then_ok] at p
  exact p .non α H r Stp.refl .non
theorem SS.ite {t : Expr} {a b : List Stmt} {it : IE} {ia ib : List IS} {pos} (ht : ST c C X W t it) (ha : SSs c C wf X W a ia) (hb : SSs c C wf X W b ib) : SS c C wf X W (.If t a b pos) (.ite it ia ib) := by
  obtain ⟨tt, pt, qt⟩ := ht
  obtain ⟨ta, pa, qa⟩ := ha
  obtain ⟨tb, pb, qb⟩ := hb
  refine ⟨_, ps_if pt pa pb, fun α env h σ H D r s p => ?_⟩
  have e : ex1 C wf env (.ite it ia ib) h = (tst C env it h).then_ env fun b h1 => if b = true then exs C wf env ia h1 else exs C wf env ib h1 := by
    simp only [ex1, tst]
    cases ev C env it h with
    | ok x h1 =>
      simp only [then_ok, bind_ok]
      cases truth x h1 with
      | none => rfl
      | some t => cases t <;> rfl
    | _ => rfl
  rw [e] at p
  refine qt α env h σ H _ r s (Post.mono (PostS.then_ (R := RB) r s p) fun v1 H1 ⟨x, h1, α1, r1, s1, z1, p1⟩ => ?_)
  cases z1
  cases v1 with
  | true => exact qa α1 env h1 σ H1 _ r1 (s.mono r s1) p1
  | false => exact qb α1 env h1 σ H1 _ r1 (s.mono r s1) p1
/-! ### name = value -/
theorem set_next {α : List Addr} {h : IH} {H : Hp} {env : Env} {σ : St} {D : Ends} {i : Nat} {x : Val} {v : V} (r : HR c α h H) (s : SR c (liv α h) α H env σ) (z : RV c (liv α h) α H x v)
    (p : PostS c α h H (setV env i x h) D W) : D.nx (σ.set i (some v)) H := by
  cases x with
  | clo l cs => exact p.elim
  | d x => exact PostS.here p r (s.set z)
  | ref n => exact PostS.here p r (s.set z)
  | fn g => exact PostS.here p r (s.set z)
  | fd a b => exact PostS.here p r (s.set z)
theorem SS.set (G : GX c tx C k S X W) {i : Nat} {x : Str} {e : Expr} {ie : IE} {p1 pos} (hi : S.N[i]? = some x) (hl : locB S x = true) (ha : SE c C X W e ie) (hs : swapsWith e (some (.Name x p1)) pos.line X.env = pure false) : SS c C wf X W (.Assign [.Name x p1] e pos) (.set i ie) := by
  obtain ⟨l1, l2⟩ := G.loc hl
  obtain ⟨ta, pa, qa⟩ := ha
  refine ⟨_, ps_set G.nd (by rw [G.N]; exact hi) l1 pa hs l2, fun α env h σ H D r s p => ?_⟩
  simp only [ex1] at p
  exact qa α env h σ H _ r s (Post.mono (PostS.then_ (R := RV c) r s p) fun v1 H1 ⟨x, h1, α1, r1, s1, z1, p1⟩ => set_next r1 (s.mono r s1) z1 p1)
/-- what setLc needs of the names -/
theorem SS.setLc (G : GX c tx C k S X W) {i : Nat} {y : Str} {kk : Ik} {its : List IE} {tg : Tg} {cond elt ie : IE} {etg eit eelt : Expr} {ifs : List Expr} {scope : Scope} {own : List (Str × Nat)} {py pos spos : Pos} (hN : S.N[i]? = some y) (hy : S.sc.names.lookup y = some .local)
    (hsw : swapsWith (.ListComp eelt [⟨etg, eit, ifs, 0⟩] scope pos) (some (.Name y py)) spos.line X.env = pure true)
    (ok : BlkOk X.N X.env.scope scope own) (how : own.map (·.2) = tgs tg) (hi : SI c C X W etg eit kk its) (hfold : ∀ x, foldedSetIterable eit X.env x = pure x) (hb : LcB c C X scope etg eelt ifs tg cond elt)
    (hie : ie = .lc kk its tg cond elt ∨ ie = .mut (.lc kk its tg cond elt)) : SS c C wf X W (.Assign [.Name y py] (.ListComp eelt [⟨etg, eit, ifs, 0⟩] scope pos) spos) (.set i ie) := by
  obtain ⟨wi, pi, qi⟩ := hi
  refine ⟨_, ps_setLc G.calm G.nd (by rw [G.N]; exact hN) (by rw [G.sc]; exact hy) hsw pi ok (fun s H C' cl fp => (hb s H C' cl fp).1.canon) (fun s H C' cl fp => (hb s H C' cl fp).2.1.canon) (fun s H C' cl fp => (hb s H C' cl fp).2.2.canon) hfold, fun α env h σ H D r s p => ?_⟩
  rw [how]
  simp only [ex1] at p
  have p' := Post.mono (PostS.then_ (R := RV c) r s p) fun v1 H1 ⟨x, h1, α1, r1, s1, z1, p1⟩ => set_next r1 (s.mono r s1) z1 p1
  rcases hie with rfl | rfl
  · exact lc_sem qi (fin := lcEnd) lc_end (fun env h => ev_lc ..) α env h σ H _ r s p'
  · exact lc_sem qi (fin := fun n h => (lcEnd n h).bind fun x h1 => match x with
    | .d (.list xs) => .ok (.ref h1.length) (h1 ++ [.lst xs])
    | _ => .stuck) lc_endM (fun env h => ev_mut_lc ..) α env h σ H _ r s p'
theorem SS.setLc2 (G : GX c tx C k S X W) {i : Nat} {y : Str} {kk k2 : Ik} {its its2 : List IE} {tg tg2 : Tg} {cond elt : IE} {etg eit etg2 eit2 eelt : Expr} {ifs : List Expr} {scope : Scope} {own : List (Str × Nat)} {py pos spos : Pos} (hN : S.N[i]? = some y) (hy : S.sc.names.lookup y = some .local)
    (hsw : swapsWith (.ListComp eelt [⟨etg, eit, [], 0⟩, ⟨etg2, eit2, ifs, 0⟩] scope pos) (some (.Name y py)) spos.line X.env = pure true)
    (ok : BlkOk X.N X.env.scope scope own) (how : own.map (·.2) = tgs tg ++ tgs tg2) (hi : SI c C X W etg eit kk its) (hfold : ∀ x, foldedSetIterable eit X.env x = pure x) (hfold2 : ∀ env x, foldedSetIterable eit2 env x = pure x) (hb : LcB2 c C X scope etg etg2 eit2 eelt ifs tg k2 its2 tg2 cond elt) :
    SS c C wf X W (.Assign [.Name y py] (.ListComp eelt [⟨etg, eit, [], 0⟩, ⟨etg2, eit2, ifs, 0⟩] scope pos) spos) (.set i (.lc2 kk its tg k2 its2 tg2 cond elt)) := by
  obtain ⟨wi, pi, qi⟩ := hi
  refine ⟨_, ps_setLc2 (vs1 := tgs tg2) G.calm G.nd (by rw [G.N]; exact hN) (by rw [G.sc]; exact hy) hsw pi ok (fun i hi => by rw [how]; exact List.mem_append_right _ hi) (fun s H C' cl fp => (hb s H C' cl fp).1.canon) (fun s H C' cl fp => pts_nil) (fun s H C' cl fp => (hb s H C' cl fp).2.1.canon) (fun s H C' cl fp => (hb s H C' cl fp).2.2.1.canon) (fun s H C' cl fp => (hb s H C' cl fp).2.2.2.1.canon) (fun s H C' cl fp => (hb s H C' cl fp).2.2.2.2.canon) hfold hfold2, fun α env h σ H D r s p => ?_⟩
  rw [how]
  simp only [ex1] at p
  have p' := Post.mono (PostS.then_ (R := RV c) r s p) fun v1 H1 ⟨x, h1, α1, r1, s1, z1, p1⟩ => set_next r1 (s.mono r s1) z1 p1
  exact lc2_sem qi α env h σ H _ r s p'
end
end RR

-- RR13
set_option maxHeartbeats 2000000
/-! Statements: loops, stores. -/
namespace RR
open PySem PySem.Spec L2
section
variable {c : Cs} {tx : Text} {C : Sem} {wf : Nat} {k : Nat} {S : SC} {X : Cx} {W : WX}
theorem fold_plain {e : Expr} (h : (match e with | .Set .. => false | _ => true) = true) (env : PySem.Env) (x : Value) : foldedSetIterable e env x = pure x := by
  cases e <;> first | (cases h; done) | rfl
theorem SS.while_ (G : GS c tx C k S X W) {t : Expr} {body : List Stmt} {it : IE} {ib : List IS} {pos} (ht : ST c C X W t it) (hb : SSs c C wf X W body ib) : SS c C wf X W (.While t body [] pos) (.while_ it ib) := by
  obtain ⟨tt, pt, qt⟩ := ht
  obtain ⟨tb, pb, qb⟩ := hb
  refine ⟨_, ps_while G.po pt pb, fun α env h σ H D r s p => ?_⟩
  have e : ex1 C wf env (.while_ it ib) h = whileLoop (fun env h => tst C env it h) (fun env h => exs C wf env ib h) wf env h := by
    simp only [ex1, tst]
  rw [e] at p
  refine ⟨fun m σ H => ∃ α' env' h', HR c α' h' H ∧ SR c (liv α' h') α' H env' σ ∧ PostS c α' h' H (whileLoop (fun env h => tst C env it h) (fun env h => exs C wf env ib h) m env' h') D W, ⟨wf, α, env, h, r, s, p⟩, ?_⟩
  rintro m σ1 H1 ⟨α1, env1, h1, r1, s1, p1⟩
  cases m with
  | zero => exact p1.elim
  | succ m =>
    simp only [whileLoop] at p1
    refine qt α1 env1 h1 σ1 H1 _ r1 s1 (Post.mono (PostS.then_ (R := RB) r1 s1 p1) fun b H2 ⟨b', h2, α2, r2, st2, zb, p2⟩ => ?_)
    cases zb
    cases b with
    | false => exact PostS.here p2 r2 (s1.mono r1 st2)
    | true =>
      simp only [if_true] at p2 ⊢
      refine ⟨fun σ' H' => ∃ α' env' h', HR c α' h' H' ∧ SR c (liv α' h') α' H' env' σ' ∧ PostS c α' h' H' (whileLoop (fun env h => tst C env it h) (fun env h => exs C wf env ib h) m env' h') D W, fun σ' H' q => ⟨m, Nat.lt_succ_self m, q⟩, ?_⟩
      refine qb α2 env1 h2 σ1 H2 _ r2 (s1.mono r1 st2) ?_
      cases e : exs C wf env1 ib h2 with
      | next env3 h3 => rw [e] at p2; exact fun σ' α' H' r' s' sr' => ⟨α', env3, h3, r', sr', PostS.from p2 s'⟩
      | cont env3 h3 => rw [e] at p2; exact fun σ' α' H' r' s' sr' => ⟨α', env3, h3, r', sr', PostS.from p2 s'⟩
      | brk env3 h3 => rw [e] at p2; exact p2
      | ret v h3 => rw [e] at p2; exact p2
      | exc x env3 h3 => rw [e] at p2; exact p2
      | stuck => rw [e] at p2; exact p2
theorem SS.for_ (G : GS c tx C k S X W) {etg eit : Expr} {body : List Stmt} {kk : Ik} {its : List IE} {tg : Tg} {ib : List IS} {pos} (hi : SI c C X W etg eit kk its) (hg : STg c X etg tg) (hb : SSs c C wf X W body ib) (hfold : ∀ x, foldedSetIterable eit X.env x = pure x) :
    SS c C wf X W (.For etg eit body [] pos) (.for_ kk its tg ib) := by
  obtain ⟨wi, pi, qi⟩ := hi
  obtain ⟨g, pg, qg⟩ := hg
  obtain ⟨tb, pb, qb⟩ := hb
  refine ⟨_, ps_for G.po G.calm pi pg pb hfold, fun α env h σ H D r s p => ?_⟩
  simp only [ex1] at p
  refine qi α env h σ H _ r s (Post.mono (PostS.then_ (R := RI c (isTupE _)) r s p) fun J H1 ⟨items, h1, α1, r1, s1, io, p1⟩ => ?_)
  have io := io h1 rfl r1
  refine ⟨fun i m σ H => ∃ α' env' h', m = items.length - i ∧ i ≤ items.length ∧ HR c α' h' H ∧ Stp α1 h1 H1 α' h' H ∧ SR c (liv α' h') α' H env' σ ∧ PostS c α' h' H (forLoop tg (fun env h => exs C wf env ib h) (items.drop i) env' h') D W,
    ⟨items.length, α1, env, h1, by simp, Nat.zero_le _, r1, Stp.refl, s.mono r s1, p1⟩, ?_⟩
  rintro i m σ2 H2 ⟨α2, env2, h2, rfl, hi, r2, s2, sr2, p2⟩
  obtain ⟨io1, io2⟩ := io α2 h2 H2 r2 s2 i
  by_cases hlt : i < items.length
  · obtain ⟨go, yl⟩ := io1 _ (List.getElem?_eq_getElem hlt)
    rw [drop_cons hlt] at p2
    simp only [forLoop] at p2
    refine .inr ⟨go, fun σ H => ∃ α' env' h', HR c α' h' H ∧ Stp α1 h1 H1 α' h' H ∧ SR c (liv α' h') α' H env' σ ∧ PostS c α' h' H (forLoop tg (fun env h => exs C wf env ib h) (items.drop (i + 1)) env' h') D W, fun σ' H' ⟨α'', e'', h'', q1, q2, q3, q4⟩ => ⟨items.length - (i + 1), by omega, α'', e'', h'', rfl, hlt, q1, q2, q3, q4⟩, fun x H3 y => ?_⟩
    obtain ⟨ex, fx⟩ := yl x H3 y
    have r3 := r2.ext ex
    have s23 : Stp α2 h2 H2 α2 h2 H3 := Stp.ext ex
    cases e : bindT tg items[i] env2 with
    | none => rw [e] at p2; exact p2.elim
    | some env3 =>
      rw [e] at p2
      refine qg r3 (sr2.mono r2 s23) fx e fun σ4 sr4 _ => ?_
      refine qb α2 env3 h2 σ4 H3 _ r3 sr4 ?_
      have p3 := PostS.from p2 s23
      simp only at p3
      cases e : exs C wf env3 ib h2 with
      | next env5 h5 => rw [e] at p3; exact fun σ' α' H' r' s' sr' => ⟨α', env5, h5, r', (s2.trans s23).trans s', sr', PostS.from p3 s'⟩
      | cont env5 h5 => rw [e] at p3; exact fun σ' α' H' r' s' sr' => ⟨α', env5, h5, r', (s2.trans s23).trans s', sr', PostS.from p3 s'⟩
      | brk env5 h5 => rw [e] at p3; exact p3
      | ret v h5 => rw [e] at p3; exact p3
      | exc x env5 h5 => rw [e] at p3; exact p3
      | stuck => rw [e] at p3; exact p3
  · have ei : i = items.length := by omega
    subst ei
    rw [List.drop_length] at p2
    exact .inl ⟨io2 (Nat.le_refl _), PostS.here p2 r2 sr2⟩
/-! ### o[i] = x -/
theorem store_ok {α : List Addr} {h h2 : IH} {H : Hp} {o : Val} {i x : D} {ov iv v : V} {Q : Hp → Prop} (r : HR c α h H) (zo : RV c (liv α h) α H o ov) (zi : FD c.K (liv α h) H iv i) (zx : FD c.K (liv α h) H v x) (e : storeAt o i x h = some h2)
    (q : ∀ H', HR c α h2 H' → Stp α h H α h2 H' → Q H') : rSetL ov iv v H Q := by
  cases o with
  | ref n =>
    obtain ⟨a, ea, rfl⟩ := zo
    simp only [storeAt] at e
    cases e1 : h[n]? with
    | none => simp only [e1] at e; cases e
    | some z =>
      cases z with
      | dead => simp only [e1] at e; cases e
      | vls _ => simp only [e1] at e; cases e
      | dct _ _ => simp only [e1] at e; cases e
      | lst xs =>
        simp only [e1] at e
        cases i with
        | int i =>
          simp only at e
          cases e2 : plc xs.length i with
          | none => simp only [e2] at e; cases e
          | some j =>
            simp only [e2] at e
            cases e
            cases zi
            obtain ⟨a', ws, q1, q2, q3⟩ := r.cell n xs e1
            rw [ea] at q1
            cases q1
            obtain ⟨w1, w2⟩ := r.wr e1 ea (q3.set j zx)
            rw [plc_eq] at e2
            exact ⟨a, ws, i, j, rfl, rfl, q2, by rw [q3.length]; exact e2, q _ w1 w2⟩
        | _ => simp only at e; cases e
  | _ => cases e
theorem sub_assign {o i : Expr} (h : isSlice i = false) (pos : Pos) (env : PySem.Env) (v : Value) : assign (.Subscript o i pos) env v = (do
      let ov ← holding [v] (eval o env)
      let iv ← holding [v, ov] (eval i env)
      standAt pos
      holding [v, ov, iv] (setItem ov iv v)
      release [v, ov, iv] []) := by
  cases i <;> first | (cases h; done) | rfl
def STt (c : Cs) (C : Sem) (X : Cx) (W : WX) (tg : List Expr) (ts : List TE1) : Prop := ∃ g : TGs, PGs X tg g ∧ ∀ {α : List Addr} {h : IH} {env : Env} {σ : St} {H : Hp} {vs : List V} {ds : List D} {D : Ends}, HR c α h H → SR c (liv α h) α H env σ → FDs c.K (liv α h) H vs ds → PostS c α h H (storeT C env ts ds h) D W → g vs σ H D.nx
theorem STt.nil : STt c C X W [] [] := by
  refine ⟨_, pgs_nil, fun {α h env σ H vs ds D} r s f p => ?_⟩
  cases ds with
  | cons => exact p.elim
  | nil =>
    cases f
    exact ⟨rfl, PostS.here p r s⟩
theorem STt.one (G : GX c tx C k S X W) {i : Nat} {x : Str} {pos} {es : List Expr} {ts : List TE1} (hi : S.N[i]? = some x) (hl : locB S x = true) (hs : STt c C X W es ts) : STt c C X W (.Name x pos :: es) (.one i :: ts) := by
  obtain ⟨l1, l2⟩ := G.loc hl
  obtain ⟨g, pg, qg⟩ := hs
  refine ⟨_, pgs_cons (pg_name G.nd (by rw [G.N]; exact hi) l1 l2) pg, fun {α h env σ H vs ds D} r s f p => ?_⟩
  cases f with
  | nil => exact p.elim
  | @cons v vs' d ds' f1 f2 => exact ⟨v, vs', rfl, qg r (SR.set (x := .d d) s f1) f2 p⟩
theorem STt.sub (G : GX c tx C k S X W) {o i : Expr} {io ii : IE} {pos} {es : List Expr} {ts : List TE1} (ho : SE c C X W o io) (hi : SE c C X W i ii) (hn : isSlice i = false) (hs : STt c C X W es ts) : STt c C X W (.Subscript o i pos :: es) (.sub io ii :: ts) := by
  obtain ⟨to, po, qo⟩ := ho
  obtain ⟨ti, pi, qi⟩ := hi
  obtain ⟨g, pg, qg⟩ := hs
  refine ⟨_, pgs_cons (pg_sub po pi set_list (sub_assign hn pos X.env)) pg, fun {α h env σ H vs ds D} r s f p => ?_⟩
  cases f with
  | nil => exact p.elim
  | @cons v vs' d ds' f1 f2 =>
    refine ⟨v, vs', rfl, ?_⟩
    simp only [storeT] at p
    refine qo α env h σ H _ r s (Post.mono (PostS.then_ (R := RV c) r s p) fun v1 H1 ⟨x, h1, α1, r1, s1, z1, p1⟩ => ?_)
    refine qi α1 env h1 σ H1 _ r1 (s.mono r s1) (Post.mono (PostS.then_ (R := RV c) r1 (s.mono r s1) p1) fun v2 H2 ⟨y, h2, α2, r2, s2, z2, p2⟩ => ?_)
    have s12 := s1.trans s2
    cases y with
    | d y =>
      simp only at p2
      cases e : storeAt x y d h2 with
      | none => simp only [e] at p2; exact p2.elim
      | some h3 =>
        simp only [e] at p2
        refine store_ok r2 (z1.mono r1 s2) z2 (f1.mono (s12.kp r)) e fun H3 r3 s3 => ?_
        exact qg r3 (s.mono r (s12.trans s3)) (f2.mono ((s12.trans s3).kp r)) (PostS.from p2 s3)
    | _ => exact p2.elim
theorem sole_plain {e : Expr} (h : isComp e = false) (t : Expr) (l : Nat) (env : PySem.Env) : swapsWithSole [t] e l env = pure false := by
  unfold swapsWithSole
  exact sw_plain h _ _ _
theorem SS.setS (G : GX c tx C k S X W) {o i e : Expr} {io ii ie : IE} {p1 pos} (ho : SE c C X W o io) (hi : SE c C X W i ii) (he : SE c C X W e ie) (hn : isSlice i = false) (hc : isComp e = false) : SS c C wf X W (.Assign [.Subscript o i p1] e pos) (.setS io ii ie) := by
  obtain ⟨to, po, qo⟩ := ho
  obtain ⟨ti, pi, qi⟩ := hi
  obtain ⟨te, pe, qe⟩ := he
  refine ⟨_, ps_asg pe (pg_sub po pi set_list (sub_assign hn p1 X.env)) (sole_plain hc _ _ _) rfl rfl, fun α env h σ H D r s p => ?_⟩
  simp only [ex1] at p
  refine qe α env h σ H _ r s (Post.mono (PostS.then_ (R := RV c) r s p) fun v0 H0 ⟨x, h0, α0, r0, s0, z0, p0⟩ => ?_)
  refine qo α0 env h0 σ H0 _ r0 (s.mono r s0) (Post.mono (PostS.then_ (R := RV c) r0 (s.mono r s0) p0) fun v1 H1 ⟨o', h1, α1, r1, s1, z1, p1⟩ => ?_)
  refine qi α1 env h1 σ H1 _ r1 ((s.mono r s0).mono r0 s1) (Post.mono (PostS.then_ (R := RV c) r1 ((s.mono r s0).mono r0 s1) p1) fun v2 H2 ⟨i', h2, α2, r2, s2, z2, p2⟩ => ?_)
  have s02 := s1.trans s2
  cases x with
  | d x =>
    cases i' with
    | d i' =>
      simp only at p2
      cases e : storeAt o' i' x h2 with
      | none => simp only [e] at p2; exact p2.elim
      | some h3 =>
        simp only [e] at p2
        exact store_ok r2 (z1.mono r1 s2) z2 (FD.mono (s02.kp r0) z0) e fun H3 r3 s3 => p2 σ α2 H3 r3 s3 ((s.mono r s0).mono r0 (s02.trans s3))
    | _ => exact p2.elim
  | _ => cases i' <;> exact p2.elim
/-! ### several names at once -/
def nmOf (sc : Scope) (l : Nat) : Expr → Option Str
  | .Name id pos => if sc.names.lookup id == some .local && pos.line == l then some id else none
  | _ => none
/-- what swappedStores answers, in a def -/
def swB (sc : Scope) (ts vs : List Expr) : Option (Option (List Str)) :=
  if !(ts.length == 2 || ts.length == 3) || vs.length != ts.length then some none
  else if vs.any isStar then some none
  else if (ts.filterMap (nmOf sc ((ts.head?.map (·.pos.line)).getD 0))).length != ts.length || (ts.filterMap (nmOf sc ((ts.head?.map (·.pos.line)).getD 0))).eraseDups.length != (ts.filterMap (nmOf sc ((ts.head?.map (·.pos.line)).getD 0))).length then some none
  else if vs.all (foldedForSure 8) then some none
  else if vs.all (constantsAlone 8) then none
  else some (some (ts.filterMap (nmOf sc ((ts.head?.map (·.pos.line)).getD 0))))
theorem swB_ok {sc : Scope} {env : PySem.Env} {ts vs : List Expr} {kt k2 : Nat} {p1 p2 : Pos} {r : Option (List Str)} (hs : env.scope = sc) (hk : sc.kind = .function) (h : swB sc ts vs = some r) : swappedStores [.Tuple ts kt p1] (.Tuple vs k2 p2) env = pure r := by
  have hb : env.blockKind = .function := by unfold Env.blockKind; rw [hs, hk]; rfl
  subst hs
  unfold swB at h
  unfold swappedStores
  simp only [hb]
  have e2 : (ScopeKind.function != ScopeKind.function) = false := rfl
  rw [e2, Bool.or_false]
  show (if _ then pure none else if (vs.any isStar) = true then pure none else if ((List.filterMap (nmOf env.scope ((Option.map (fun x : Expr => x.pos.line) ts.head?).getD 0)) ts).length != ts.length || (List.filterMap (nmOf env.scope ((Option.map (fun x : Expr => x.pos.line) ts.head?).getD 0)) ts).eraseDups.length != (List.filterMap (nmOf env.scope ((Option.map (fun x : Expr => x.pos.line) ts.head?).getD 0)) ts).length) = true then pure none else if vs.all (foldedForSure 8) = true then pure none else _) = (pure r : PySem.Sem (Option (List Str)))
  split at h
  · rename_i hc
    rw [if_pos hc]; cases h; rfl
  rename_i hc
  rw [if_neg hc]
  split at h
  · rename_i hc
    rw [if_pos hc]; cases h; rfl
  rename_i hc
  rw [if_neg hc]
  split at h
  · rename_i hc
    rw [if_pos hc]; cases h; rfl
  rename_i hc
  rw [if_neg hc]
  split at h
  · rename_i hc
    rw [if_pos hc]; cases h; rfl
  rename_i hc
  rw [if_neg hc]
  split at h
  · cases h
  rename_i hc
  rw [if_neg hc]
  cases h
  rfl
theorem sw_other {tg e : Expr} {env : PySem.Env} (h : (match tg, e with | .Tuple .., .Tuple .. => false | .List .., .Tuple .. => false | _, _ => true) = true) : swappedStores [tg] e env = pure none := by
  cases tg <;> first
    | rfl
    | (cases e <;> first | (cases h; done) | rfl)
theorem pg_or {e : Expr} {g k : TG} (h1 : PG X e g) (h2 : PG X e k) : PG X e (fun v σ H Q => g v σ H Q ∨ k v σ H Q) := ⟨fun pins s σ H v u Q I r h => h.elim (h1.run pins s σ H v u Q I r) (h2.run pins s σ H v u Q I r)⟩
theorem SS.setT (G : GX c tx C k S X W) {es : List Expr} {ts : List TE1} {e : Expr} {ie : IE} {j p1 pos} (he : SE c C X W e ie) (ht : STt c C X W es ts) (hn : noSt es = true) (hl : ts.length = es.length) (hc : isComp e = false)
    (hw : swappedStores [.Tuple es j p1] e X.env = pure none) : SS c C wf X W (.Assign [.Tuple es j p1] e pos) (.setT ts ie) := by
  obtain ⟨te, pe, qe⟩ := he
  obtain ⟨g, pg, qg⟩ := ht
  obtain ⟨l1, l2⟩ := each_length es X.env hn
  refine ⟨_, ps_asg pe (pg_or (pg_tup G.calm pg l1 l2) (pg_unl G.calm pg l1 l2)) (sole_plain hc _ _ _) hw rfl, fun α env h σ H D r s p => ?_⟩
  simp only [ex1] at p
  refine qe α env h σ H _ r s (Post.mono (PostS.then_ (R := RV c) r s p) fun v0 H0 ⟨x, h0, α0, r0, s0, z0, p0⟩ => ?_)
  have lst : ∀ xs, dat x h0 = some (.list xs) → PostS c α0 h0 H0 (if xs.length = ts.length then storeT C env ts xs h0 else .stuck) D W → gUnl X.K es.length g v0 σ H0 D.nx := fun xs hd p0 => by
    obtain ⟨a, ws, rfl, hq, fs⟩ := (dat_v r0 z0 hd).list
    split at p0
    · rename_i hx
      refine ⟨a, ws, rfl, by rw [G.K]; exact hq, ?_, qg r0 (s.mono r s0) fs p0⟩
      rw [fs.length, hx, hl]
    · exact p0.elim
  cases x with
  | d x =>
    cases x with
    | tuple xs =>
      obtain ⟨a, ws, rfl, hq, fs⟩ := FT.tuple (.inl z0)
      simp only at p0
      split at p0
      · rename_i hx
        refine .inl ⟨a, ws, rfl, by rw [G.K]; exact hq, ?_, qg r0 (s.mono r s0) fs p0⟩
        rw [fs.length, hx, hl]
      · exact p0.elim
    | list xs => exact .inr (lst xs rfl p0)
    | _ => exact p0.elim
  | ref m =>
    simp only at p0
    cases hd : dat (.ref m) h0 with
    | none => rw [hd] at p0; exact p0.elim
    | some d =>
      rw [hd] at p0
      cases d with
      | list xs => exact .inr (lst xs hd p0)
      | _ => exact p0.elim
  | _ => exact p0.elim
theorem SA.two {a b : Expr} {ia ib : IE} (ha : SE c C X W a ia) (hb : SE c C X W b ib) (h1 : isStar a = false) (h2 : isStar b = false) : SA c C X W [a, b] [ia, ib] := SA.cons ha (SA.cons hb SA.nil h2) h1
theorem setVs_next {α : List Addr} {h : IH} {H : Hp} {D : Ends} : ∀ {is : List Nat} {xs : List Val} {vs : List V} {env env1 : Env} {σ : St}, SR c (liv α h) α H env σ → RVs c (liv α h) α H xs vs → setVs env is xs = some env1 → ∃ σ1, SR c (liv α h) α H env1 σ1 ∧ vs.length = is.length ∧ σ1 = (is.zip vs).foldl (fun σ p => σ.set p.1 (some p.2)) σ
  | [], [], _, env, env1, σ, s, .nil, e => by cases e; exact ⟨σ, s, rfl, rfl⟩
  | i :: is, x :: xs, v :: vs, env, env1, σ, s, .cons a b, e => by
    obtain ⟨σ1, q1, q2, q3⟩ := setVs_next (D := D) (s.set a) b (show setVs (env.set i (some x)) is xs = some env1 from e)
    exact ⟨σ1, q1, congrArg (· + 1) q2, q3⟩
  | [], _ :: _, _, _, _, _, _, _, e => by cases e
  | _ :: _, [], _, _, _, _, _, _, e => by cases e
theorem SS.par2 (G : GX c tx C k S X W) {i j : Nat} {x y : Str} {a b : Expr} {ies : List IE} {px py pt pos : Pos} {kt k2 : Nat} {pt2 : Pos} (hi : S.N[i]? = some x) (hj : S.N[j]? = some y) (hij : i ≠ j) (hx : S.sc.names.lookup x = some .local) (hy : S.sc.names.lookup y = some .local) (ha : SA c C X W [a, b] ies)
    (hw : swB S.sc [.Name x px, .Name y py] [a, b] = some (some [x, y])) : SS c C wf X W (.Assign [.Tuple [.Name x px, .Name y py] kt pt] (.Tuple [a, b] k2 pt2) pos) (.par [i, j] ies) := by
  obtain ⟨t, pa, qa⟩ := ha
  refine ⟨_, ps_par G.calm G.nd (by rw [G.N]; exact hi) (by rw [G.N]; exact hj) hij (by rw [G.sc]; exact hx) (by rw [G.sc]; exact hy) pa (swB_ok G.sc G.kind hw) rfl, fun α env h σ H D r s p => ?_⟩
  simp only [ex1] at p
  refine qa α env h σ H _ r s (Post.mono (PostS.then_ (R := RVs c) r s p) fun vs H0 ⟨xs, h0, α0, r0, s0, z0, p0⟩ => ?_)
  cases e : setVs env [i, j] xs with
  | none => simp only [e] at p0; exact p0.elim
  | some env1 =>
    simp only [e] at p0
    obtain ⟨σ1, q1, q2, rfl⟩ := setVs_next (D := D) (s.mono r s0) z0 e
    match vs, q2, q1 with
    | [v, w], _, q1 => exact ⟨v, w, rfl, PostS.here p0 r0 q1⟩
theorem SS.par3 (G : GX c tx C k S X W) {i j l : Nat} {x y z : Str} {a b d : Expr} {ies : List IE} {px py pz pt pos : Pos} {kt k2 : Nat} {pt2 : Pos} (hi : S.N[i]? = some x) (hj : S.N[j]? = some y) (hl : S.N[l]? = some z) (hij : i ≠ j) (hil : i ≠ l) (hjl : j ≠ l) (hx : S.sc.names.lookup x = some .local) (hy : S.sc.names.lookup y = some .local) (hz : S.sc.names.lookup z = some .local) (ha : SA c C X W [a, b, d] ies)
    (hw : swB S.sc [.Name x px, .Name y py, .Name z pz] [a, b, d] = some (some [x, y, z])) : SS c C wf X W (.Assign [.Tuple [.Name x px, .Name y py, .Name z pz] kt pt] (.Tuple [a, b, d] k2 pt2) pos) (.par [i, j, l] ies) := by
  obtain ⟨t, pa, qa⟩ := ha
  refine ⟨_, ps_par3 G.calm G.nd (by rw [G.N]; exact hi) (by rw [G.N]; exact hj) (by rw [G.N]; exact hl) hij hil hjl (by rw [G.sc]; exact hx) (by rw [G.sc]; exact hy) (by rw [G.sc]; exact hz) pa (swB_ok G.sc G.kind hw) rfl, fun α env h σ H D r s p => ?_⟩
  simp only [ex1] at p
  refine qa α env h σ H _ r s (Post.mono (PostS.then_ (R := RVs c) r s p) fun vs H0 ⟨xs, h0, α0, r0, s0, z0, p0⟩ => ?_)
  cases e : setVs env [i, j, l] xs with
  | none => simp only [e] at p0; exact p0.elim
  | some env1 =>
    simp only [e] at p0
    obtain ⟨σ1, q1, q2, rfl⟩ := setVs_next (D := D) (s.mono r s0) z0 e
    match vs, q2, q1 with
    | [v, w, u], _, q1 => exact ⟨v, w, u, rfl, PostS.here p0 r0 q1⟩
end
end RR

-- RRK
set_option maxHeartbeats 4000000
/-! Objects known for a while. -/
namespace RR
open PySem PySem.Spec L2
abbrev Ks := List (Addr × Obj)
def plus (H : Hp) (ks : Ks) : Hp := fun b => match ks.lookup b with
  | some o => some (KO o)
  | none => H b
def minus (H : Hp) (bs : List Addr) : Hp := fun b => if b ∈ bs then none else H b
theorem plus_in {H : Hp} {ks : Ks} {b : Addr} {o : Obj} (h : ks.lookup b = some o) : plus H ks b = some (KO o) := by unfold plus; rw [h]
theorem plus_out {H : Hp} {ks : Ks} {b : Addr} (h : ks.lookup b = none) : plus H ks b = H b := by unfold plus; rw [h]
theorem minus_in {H : Hp} {bs : List Addr} {b : Addr} (h : b ∈ bs) : minus H bs b = none := if_pos h
theorem minus_out {H : Hp} {bs : List Addr} {b : Addr} (h : b ∉ bs) : minus H bs b = H b := if_neg h
theorem look_mem {ks : Ks} {b : Addr} : b ∈ ks.map (·.1) ↔ ∃ o, ks.lookup b = some o := by
  induction ks with
  | nil => simp
  | cons p r ih =>
    obtain ⟨a, o⟩ := p
    by_cases e : b = a
    · subst e
      simp [List.lookup]
    · have e' : (b == a) = false := by simpa using e
      simp only [List.map_cons, List.mem_cons, List.lookup, e', e, false_or]
      exact ih
theorem look_none {ks : Ks} {b : Addr} (h : b ∉ ks.map (·.1)) : ks.lookup b = none := by
  cases e : ks.lookup b with
  | none => rfl
  | some o => exact absurd (look_mem.mpr ⟨o, e⟩) h
/-- nothing but known objects differ -/
structure KDiff (bs : List Addr) (H H' : Hp) : Prop where
  eq : ∀ b, b ∉ bs → H b = H' b
  l : ∀ b ∈ bs, H b = none ∨ ∃ o, H b = some (KO o)
  r : ∀ b ∈ bs, H' b = none ∨ ∃ o, H' b = some (KO o)
section
variable {bs : List Addr} {H H' : Hp}
theorem KDiff.symm (k : KDiff bs H H') : KDiff bs H' H := ⟨fun b h => (k.eq b h).symm, k.r, k.l⟩
theorem KDiff.same (k : KDiff bs H H') {a : Addr} {u : HO} (e : H a = some u) (n : ∀ o, u ≠ KO o) : H' a = some u := by
  by_cases h : a ∈ bs
  · rcases k.l a h with z | ⟨o, z⟩
    · rw [z] at e; cases e
    · rw [z] at e; exact absurd (Option.some.inj e).symm (n o)
  · rw [← k.eq a h]; exact e
theorem KDiff.frz (k : KDiff bs H H') {a : Addr} {o : Obj} {u : HO} (e : H a = some (.frz o u)) (n : ∀ φ, u ≠ .ext φ) : H' a = some (.frz o u) := k.same e fun o' z => by
  unfold KO at z
  injection z with _ z
  exact n _ z
theorem KDiff.rd (k : KDiff bs H H') {a : Addr} {u : HO} (r : Rd H a u) (n1 : ∀ o, u ≠ KO o) (n2 : ∀ φ, u ≠ .ext φ) : Rd H' a u := by
  rcases r with r | ⟨o, r⟩
  · exact .inl (k.same r n1)
  · exact .inr ⟨o, k.frz r n2⟩
variable {K : PySem.W.Frag} {M : Addr → Prop}
mutual
theorem FD.diff (k : KDiff bs H H') : ∀ {d : D} {v : V}, FD K M H v d → FD K M H' v d
  | .none, _, h => by cases h; exact .non
  | .bool _, _, h => by cases h; exact .bl _
  | .int _, _, h => by cases h; exact .int _
  | .str _, _, h => by cases h; exact .str _
  | .list _, _, h => by
    cases h with
    | lst r n q => exact .lst (k.rd r (fun _ z => nomatch z) (fun _ z => nomatch z)) n (FDs.diff k q)
    | klst r q => exact .klst r (FDs.diff k q)
  | .tuple _, _, h => by
    cases h with
    | tup r n q => exact .tup (k.frz r (fun _ z => nomatch z)) n (FDs.diff k q)
  | .dict _, _, h => by cases h
theorem FDs.diff (k : KDiff bs H H') : ∀ {ds : List D} {vs : List V}, FDs K M H vs ds → FDs K M H' vs ds
  | [], _, h => by cases h; exact .nil
  | _ :: _, _, h => by cases h with | cons a b => exact .cons (FD.diff k a) (FDs.diff k b)
end
theorem codeO_ne_KO {c : Addr} {q : Str} {o : Obj} : LamX.CodeO c q ≠ KO o := fun z => by
  unfold LamX.CodeO KO at z
  cases z
theorem TabS.diff (k : KDiff bs H H') {P : Addr} {q : Str} (t : LamX.TabS H P q) : LamX.TabS H' P q := by
  obtain ⟨ps, h1, h2, h3⟩ := t
  refine ⟨ps, k.same h1 (fun _ z => nomatch z), h2, fun pos cv hc => ?_⟩
  obtain ⟨c, e1, e2⟩ := h3 pos cv hc
  exact ⟨c, e1, k.same e2 fun o => codeO_ne_KO⟩
theorem FroD.diff {c : Cs} (k : KDiff bs H H') {a : Addr} {kvs : List (D × D)} : ∀ {tk : Bool}, FroD c.K M H a kvs tk → FroD c.K M H' a kvs tk
  | false, ⟨o, ks, e, q⟩ => ⟨o, ks, k.frz e (fun _ z => nomatch z), Paired.mp q fun _ _ y => ⟨y.1, y.2.diff k⟩⟩
  | true, ⟨o, ks, e, q⟩ => ⟨o, ks, k.frz e (fun _ z => nomatch z), Paired.mp q fun _ _ y => ⟨y.1, y.2.diff k⟩⟩
theorem RVN.diff {c : Cs} (k : KDiff bs H H') : ∀ {x : Val} {v : V}, RVN c M H x v → RVN c M H' x v
  | .d x, v, q => FD.diff k q
  | .ref n, v, z => z
  | .fn g, v, q => q
  | .clo l caps, v, z => z
  | .fd tk kvs, v, ⟨a, e, z⟩ => ⟨a, e, z.diff (c := c) k⟩
theorem CellR.diff {c : Cs} (k : KDiff bs H H') {a : Addr} : ∀ {x : Cell}, CellR c M H a x → CellR c M H' a x
  | .lst _, ⟨vs, z, q⟩ => ⟨vs, k.same z (fun _ z => nomatch z), FDs.diff k q⟩
  | .vls _, ⟨vs, z, q⟩ => ⟨vs, k.same z (fun _ z => nomatch z), Paired.mp q fun _ _ y => y.diff k⟩
  | .dct false _, ⟨vs, z, q⟩ => ⟨vs, k.same z (fun _ z => nomatch z), Paired.mp q fun _ _ y => ⟨y.1, y.2.diff k⟩⟩
  | .dct true _, ⟨vs, z, q⟩ => ⟨vs, k.same z (fun _ z => nomatch z), Paired.mp q fun _ _ y => ⟨y.1, y.2.diff k⟩⟩
  | .dead, z => z.elim
theorem HR.diff {c : Cs} {α : List Addr} {h : IH} (r : HR c α h H) (k : KDiff bs H H') : HR c α h H' where
  len := r.len
  cel := fun n x e l => by
    obtain ⟨a, q1, q2⟩ := r.cel n x e l
    exact ⟨a, q1, q2.diff k⟩
  ij := r.ij
  tabs := fun p hp => TabS.diff k (r.tabs p hp)
end
section
variable {H : Hp} {ks : Ks} {P : Program} {w : World} {h : Heap}
/-- the known objects lie so, not known yet -/
def Lie (H : Hp) (h : Heap) (ks : Ks) : Prop := ∀ b o, ks.lookup b = some o → h.get? b = some o ∧ H b = none
theorem KDiff.plus (H : Hp) (ks : Ks) (n : ∀ b o, ks.lookup b = some o → H b = none) : KDiff (ks.map (·.1)) H (plus H ks) := by
  refine ⟨fun b h => (plus_out (look_none h)).symm, fun b h => ?_, fun b h => ?_⟩
  · obtain ⟨o, e⟩ := look_mem.mp h
    exact .inl (n b o e)
  · obtain ⟨o, e⟩ := look_mem.mp h
    exact .inr ⟨o, plus_in e⟩
theorem KDiff.minus {H : Hp} {bs : List Addr} (n : ∀ b ∈ bs, ∃ o, H b = some (KO o)) : KDiff bs H (minus H bs) :=
  ⟨fun b h => (minus_out h).symm, fun b h => .inr (n b h), fun b h => .inl (minus_in h)⟩
theorem objOk_diff {bs : List Addr} {H H' : Hp} (k : KDiff bs H H') {a : Addr} {o : HO} (x : ObjOk P w H h a o) : ObjOk P w H' h a o :=
  x.stay (fun _ _ _ e => e) (fun b e => k.same e (fun _ z => nomatch z)) fun b xs e => k.same e (fun _ z => nomatch z)
theorem hok_plus (ok : HOk P w H h) (l : Lie H h ks) : HOk P w (plus H ks) h := fun b u e => by
  cases q : ks.lookup b with
  | some o =>
    rw [plus_in q] at e
    cases e
    exact ⟨(l b o q).1, trivial, ⟨o, (l b o q).1⟩, fun _ _ _ _ => trivial⟩
  | none =>
    rw [plus_out q] at e
    exact objOk_diff (KDiff.plus H ks fun b o e => (l b o e).2) (ok b u e)
theorem hok_minus {bs : List Addr} (ok : HOk P w H h) (n : ∀ b ∈ bs, ∃ o, H b = some (KO o)) : HOk P w (minus H bs) h := fun b u e => by
  by_cases hb : b ∈ bs
  · rw [minus_in hb] at e; cases e
  · rw [minus_out hb] at e
    exact objOk_diff (KDiff.minus n) (ok b u e)
/-! ### a call with more known -/
theorem ce_plus {outer : List PySem.Env} {s s' : Shared} {Q : VK} {u : Value} (l : Lie H s.heap ks) (x : CE outer P w (plus H ks) s (fun v H' => Q v (minus H' (ks.map (·.1)))) u s') : CE outer P w H s Q u s' := by
  obtain ⟨v, H', os, bare, un, hok, r, q⟩ := x
  have kn : ∀ b o, ks.lookup b = some o → H' b = some (KO o) := fun b o e => un.frzs b o _ (plus_in e)
  have kn' : ∀ b ∈ ks.map (·.1), ∃ o, H' b = some (KO o) := fun b hb => by
    obtain ⟨o, e⟩ := look_mem.mp hb
    exact ⟨o, kn b o e⟩
  have out : ∀ {b u}, H b = some u → b ∉ ks.map (·.1) := fun {b u} e hb => by
    obtain ⟨o, z⟩ := look_mem.mp hb
    rw [(l b o z).2] at e
    cases e
  refine ⟨v, minus H' (ks.map (·.1)), os, bare, ⟨fun b o e n hf hx => ?_, fun b o e n hf hx => ?_, fun b o e n hx => ?_, un.there, fun b xs e => ?_, fun b o u e => ?_, fun b ps e => ?_⟩, hok_minus hok kn', r, q⟩
  · cases z : ks.lookup b with
    | some o' =>
      have e1 := (l b o' z).1
      rw [e] at e1
      cases e1
      exact (hok b _ (kn b o z)).1
    | none => exact un.keep b o e (by rw [plus_out z]; exact n) hf hx
  · cases z : ks.lookup b with
    | some o' =>
      have e1 := (l b o' z).1
      rw [e] at e1
      cases e1
      exact ⟨o.slots, (hok b _ (kn b o z)).1⟩
    | none => exact un.slot b o e (by rw [plus_out z]; exact n) hf hx
  · by_cases hb : b ∈ ks.map (·.1)
    · exact minus_in hb
    · rw [minus_out hb]
      exact un.free b o e (by rw [plus_out (look_none hb)]; exact n) hx
  · have hb := out e
    rw [minus_out hb]
    exact un.tups b xs (by rw [plus_out (look_none hb)]; exact e)
  · have hb := out e
    rw [minus_out hb]
    exact un.frzs b o u (by rw [plus_out (look_none hb)]; exact e)
  · have hb := out e
    rw [minus_out hb]
    exact un.tbls b ps (by rw [plus_out (look_none hb)]; exact e)
theorem cx_plus {outer : List PySem.Env} {s s' : Shared} {E : XK} {u : Value} (l : Lie H s.heap ks) (x : L2.CX P w outer (plus H ks) s (fun cls d H' => E cls d (minus H' (ks.map (·.1)))) u s') : L2.CX P w outer H s E u s' := by
  obtain ⟨a, B, H', cls, d, eu, fl, hok, ub, na, os, bare, q⟩ := x
  have kn : ∀ b o, ks.lookup b = some o → H' b = some (KO o) := fun b o e => ub.frzs b o _ (plus_in e)
  have kn' : ∀ b ∈ ks.map (·.1), ∃ o, H' b = some (KO o) := fun b hb => by
    obtain ⟨o, e⟩ := look_mem.mp hb
    exact ⟨o, kn b o e⟩
  have out : ∀ {b u}, H b = some u → b ∉ ks.map (·.1) := fun {b u} e hb => by
    obtain ⟨o, z⟩ := look_mem.mp hb
    rw [(l b o z).2] at e
    cases e
  refine ⟨a, B, minus H' (ks.map (·.1)), cls, d, eu, fl, hok_minus hok kn', ⟨fun b o e n hf => ?_, ub.slot, fun b o e n => ?_, ub.there, fun b xs e => ?_, fun b o u e => ?_, fun b ps e => ?_⟩, ?_, os, bare, q⟩
  · cases z : ks.lookup b with
    | some o' =>
      have e1 := (l b o' z).1
      rw [e] at e1
      cases e1
      exact (hok b _ (kn b o z)).1
    | none => exact ub.keep b o e (by rw [plus_out z]; exact n) hf
  · by_cases hb : b ∈ ks.map (·.1)
    · exact minus_in hb
    · rw [minus_out hb]
      exact ub.free b o e (by rw [plus_out (look_none hb)]; exact n)
  · have hb := out e
    rw [minus_out hb]
    exact ub.tups b xs (by rw [plus_out (look_none hb)]; exact e)
  · have hb := out e
    rw [minus_out hb]
    exact ub.frzs b o u (by rw [plus_out (look_none hb)]; exact e)
  · have hb := out e
    rw [minus_out hb]
    exact ub.tbls b ps (by rw [plus_out (look_none hb)]; exact e)
  · by_cases hb : a ∈ ks.map (·.1)
    · exact minus_in hb
    · rw [minus_out hb]; exact na
/-! ### a call with less known -/
/-- they are known -/
def Know (H : Hp) (ks : Ks) : Prop := ∀ b o, ks.lookup b = some o → H b = some (KO o)
theorem Know.all (k : Know H ks) : ∀ b ∈ ks.map (·.1), ∃ o, H b = some (KO o) := fun b hb => by
  obtain ⟨o, e⟩ := look_mem.mp hb
  exact ⟨o, k b o e⟩
theorem ce_minus {outer : List PySem.Env} {s s' : Shared} {Q : VK} {u : Value} (k : Know H ks) (ok : HOk P w H s.heap) (nf : ∀ b ∈ frs outer, H b = none)
    (x : CE outer P w (minus H (ks.map (·.1))) s (fun v H' => (∀ b ∈ ks.map (·.1), H' b = none) → Q v (plus H' ks)) u s') : CE outer P w H s Q u s' := by
  obtain ⟨v, H', os, bare, un, hok, r, q⟩ := x
  have lie0 : ∀ b o, ks.lookup b = some o → s.heap.get? b = some o := fun b o e => (ok b _ (k b o e)).1
  have gone : ∀ b ∈ ks.map (·.1), H' b = none := fun b hb => by
    obtain ⟨o, e⟩ := look_mem.mp hb
    exact un.free b o (lie0 b o e) (minus_in hb) (fun z => nomatch z)
  have stay : Lie H' s'.heap ks := fun b o e => by
    have hb := look_mem.mpr ⟨o, e⟩
    refine ⟨un.keep b o (lie0 b o e) (minus_in hb) (fun z => ?_) (fun z => nomatch z), gone b hb⟩
    have n := nf b z
    rw [k b o e] at n
    cases n
  refine ⟨v, plus H' ks, os, bare, ⟨fun b o e n hf hx => ?_, fun b o e n hf hx => ?_, fun b o e n hx => ?_, un.there, fun b xs e => ?_, fun b o u e => ?_, fun b ps e => ?_⟩, hok_plus hok stay, r, q gone⟩
  · by_cases hb : b ∈ ks.map (·.1)
    · exact un.keep b o e (minus_in hb) hf hx
    · exact un.keep b o e (by rw [minus_out hb]; exact n) hf hx
  · by_cases hb : b ∈ ks.map (·.1)
    · exact un.slot b o e (minus_in hb) hf hx
    · exact un.slot b o e (by rw [minus_out hb]; exact n) hf hx
  · have hb : b ∉ ks.map (·.1) := fun z => by
      obtain ⟨o', e'⟩ := look_mem.mp z
      rw [k b o' e'] at n
      cases n
    rw [plus_out (look_none hb)]
    exact un.free b o e (by rw [minus_out hb]; exact n) hx
  · have hb : b ∉ ks.map (·.1) := fun z => by
      obtain ⟨o', e'⟩ := look_mem.mp z
      rw [k b o' e'] at e
      cases e
    rw [plus_out (look_none hb)]
    exact un.tups b xs (by rw [minus_out hb]; exact e)
  · by_cases hb : b ∈ ks.map (·.1)
    · obtain ⟨o', e'⟩ := look_mem.mp hb
      rw [k b o' e'] at e
      rw [plus_in e']
      exact e
    · rw [plus_out (look_none hb)]
      exact un.frzs b o u (by rw [minus_out hb]; exact e)
  · have hb : b ∉ ks.map (·.1) := fun z => by
      obtain ⟨o', e'⟩ := look_mem.mp z
      rw [k b o' e'] at e
      cases e
    rw [plus_out (look_none hb)]
    exact un.tbls b ps (by rw [minus_out hb]; exact e)
theorem cx_minus {outer : List PySem.Env} {s s' : Shared} {E : XK} {u : Value} (k : Know H ks) (ok : HOk P w H s.heap) (nf : ∀ b ∈ frs outer, H b = none)
    (x : L2.CX P w outer (minus H (ks.map (·.1))) s (fun cls d H' => (∀ b ∈ ks.map (·.1), H' b = none) → E cls d (plus H' ks)) u s') : L2.CX P w outer H s E u s' := by
  obtain ⟨a, B, H', cls, d, eu, fl, hok, ub, na, os, bare, q⟩ := x
  have lie0 : ∀ b o, ks.lookup b = some o → s.heap.get? b = some o := fun b o e => (ok b _ (k b o e)).1
  have gone : ∀ b ∈ ks.map (·.1), H' b = none := fun b hb => by
    obtain ⟨o, e⟩ := look_mem.mp hb
    exact ub.free b o (lie0 b o e) (minus_in hb)
  have stay : Lie H' B ks := fun b o e => by
    have hb := look_mem.mpr ⟨o, e⟩
    refine ⟨ub.keep b o (lie0 b o e) (minus_in hb) (fun z => ?_), gone b hb⟩
    have n := nf b z
    rw [k b o e] at n
    cases n
  refine ⟨a, B, plus H' ks, cls, d, eu, fl, hok_plus hok stay, ⟨fun b o e n hf => ?_, ub.slot, fun b o e n => ?_, ub.there, fun b xs e => ?_, fun b o u e => ?_, fun b ps e => ?_⟩, ?_, os, bare, q gone⟩
  · by_cases hb : b ∈ ks.map (·.1)
    · exact ub.keep b o e (minus_in hb) hf
    · exact ub.keep b o e (by rw [minus_out hb]; exact n) hf
  · have hb : b ∉ ks.map (·.1) := fun z => by
      obtain ⟨o', e'⟩ := look_mem.mp z
      rw [k b o' e'] at n
      cases n
    rw [plus_out (look_none hb)]
    exact ub.free b o e (by rw [minus_out hb]; exact n)
  · have hb : b ∉ ks.map (·.1) := fun z => by
      obtain ⟨o', e'⟩ := look_mem.mp z
      rw [k b o' e'] at e
      cases e
    rw [plus_out (look_none hb)]
    exact ub.tups b xs (by rw [minus_out hb]; exact e)
  · by_cases hb : b ∈ ks.map (·.1)
    · obtain ⟨o', e'⟩ := look_mem.mp hb
      rw [k b o' e'] at e
      rw [plus_in e']
      exact e
    · rw [plus_out (look_none hb)]
      exact ub.frzs b o u (by rw [minus_out hb]; exact e)
  · have hb : b ∉ ks.map (·.1) := fun z => by
      obtain ⟨o', e'⟩ := look_mem.mp z
      rw [k b o' e'] at e
      cases e
    rw [plus_out (look_none hb)]
    exact ub.tbls b ps (by rw [minus_out hb]; exact e)
  · have hb : a ∉ ks.map (·.1) := fun z => by
      obtain ⟨o, e⟩ := look_mem.mp z
      have h1 := (stay a o e).1
      rw [fl.2.1] at h1
      cases h1
    rw [plus_out (look_none hb)]
    exact na
theorem env0_plus {K : PySem.W.Frag} {mg : Str → Option Value} {base : Heap} {A : Around} {outer : List PySem.Env} {s : Shared} (e : Env0 P w K mg base A outer s H) (l : Lie H s.heap ks) (nb : ∀ b o, ks.lookup b = some o → base.get? b = none) (nf : ∀ b ∈ ks.map (·.1), b ∉ frs outer) : Env0 P w K mg base A outer s (plus H ks) := by
  refine ⟨e.frames, e.mod, fun b o q => ⟨(e.bs b o q).1, ?_⟩, e.bsz, e.funs, fun b hb => ?_, hok_plus e.hok l, e.bare⟩
  · cases z : ks.lookup b with
    | some o' => rw [nb b o' z] at q; cases q
    | none => rw [plus_out z]; exact (e.bs b o q).2
  · rw [plus_out (look_none fun z => nf b z hb)]
    exact e.frf b hb
theorem env0_minus {K : PySem.W.Frag} {mg : Str → Option Value} {base : Heap} {A : Around} {outer : List PySem.Env} {s : Shared} {bs : List Addr} (e : Env0 P w K mg base A outer s H) (n : ∀ b ∈ bs, ∃ o, H b = some (KO o)) : Env0 P w K mg base A outer s (minus H bs) := by
  refine ⟨e.frames, e.mod, fun b o q => ⟨(e.bs b o q).1, ?_⟩, e.bsz, e.funs, fun b hb => ?_, hok_minus e.hok n, e.bare⟩
  · by_cases hb : b ∈ bs
    · exact minus_in hb
    · rw [minus_out hb]; exact (e.bs b o q).2
  · by_cases hb : b ∈ bs
    · exact minus_in hb
    · rw [minus_out hb]; rename_i h2; exact e.frf b h2
end
end RR

-- RRL
set_option maxHeartbeats 4000000
/-! Lambdas. -/
namespace RR
open PySem PySem.Spec L2
section
variable {c : Cs}
/-- all but the tables stay, the tables are told -/
theorem HR.tabled {α : List Addr} {h : IH} {H H1 : Hp} (r : HR c α h H) (k : ∀ b o, H b = some o → (∀ ps, o ≠ .tbl ps) → H1 b = some o) (t : LamX.Tabs c.T H1) (tb : ∀ a ps, H a = some (.tbl ps) → ∃ ps', H1 a = some (.tbl ps')) :
    HR c α h H1 ∧ Stp α h H α h H1 := by
  refine ⟨⟨r.len, fun n x e l => ?_, r.ij, t⟩, ⟨[], by simp⟩, fun a o e _ n => k a o e n, tb, fun a l => .inl l⟩
  obtain ⟨a, q1, q2⟩ := r.cel n x e l
  obtain ⟨o, q3, mo⟩ := q2.obj
  exact ⟨a, q1, q2.kp ⟨fun a m => r.lst a m, fun a o e _ n => k a o e n, fun a m => .inl m⟩ ((k a _ q3 (fun ps z => by rw [z] at mo; exact mo)).trans q3.symm)⟩
variable {X : Cx} {pins : List (Addr × Obj)} {σ : St} {H : Hp} {s : Shared}
theorem lam_new {q : Str} {params : Arguments} {body : Expr} {scope : Scope} {pos : Pos} {E : Value → Shared → Prop} {Q : Value → Shared → Prop} {α : List Addr} {h : IH} (I : Inv X pins σ H s) (r : HR c α h H) (L : LamAt c X q) (hdef : defaultsOf params X.env = ([], [])) (hfree : ∀ y ∈ scope.names, y.2 = .free → ∃ c, X.env.cells.lookup y.1 = some c)
    (hq : ∀ (f c' : Addr) (pm ctv : Value) (H1 : Hp) (s' : Shared), Inv X pins σ H1 s' → HR c α h H1 → Stp α h H α h H1 → s'.heap.get? f = some (PySem.W.kla_obj "<lambda>" q params body scope (cloFrom X.env.cells scope.names []) pm c' ctv) → s.heap.objs.size ≤ f → H1 f = none → H1 c' = some (LamX.CodeO c' q) → Q (.ref f) s') :
    wpAny (model X.prog X.w) X.A (eval (.Lambda params body scope pos) X.env) Q E s := by
  obtain ⟨rfl, cd, P, TB, hcode, hm, hu⟩ := L
  obtain ⟨ps, hP, ht, ha⟩ := r.tabs _ hm
  have bP : s.heap.BuiltinsAt X.mg P := TB.bm.keeps I.bk
  have hP' : s.heap.get? P = some { cls := .none, data := .fields ps } := I.hok P _ hP
  refine PySem.W.kla_eval hdef ?_
  cases hc : codeAmong pos ps.toList with
  | some cv =>
    obtain ⟨c', rfl, hco⟩ := ha pos cv hc
    refine PySem.W.kla_makeFunctionHit (mg := X.mg) (c := cd) (P := P) (ps := ps) (closure_ok hfree) I.ok.glob (I.mod.glob.keeps I.bk) hcode (TB.code.keeps I.bk) hP' ht hc bP fun ctv h' tk hx hsz => ?_
    exact hq _ c' _ ctv H _ (I.kept fun b o e => Heap.get?_push_of_some _ (hx b o e)) r Stp.refl (Heap.get?_push_size _ rfl) hsz (I.hok.fresh hsz) hco
  | none =>
    refine PySem.W.kla_makeFunction (mg := X.mg) (c := cd) (P := P) (ps := ps) (closure_ok hfree) I.ok.glob (I.mod.glob.keeps I.bk) hcode (TB.code.keeps I.bk) hP' ht hc TB.gP bP fun c' ctv h' tk hx hge hlt hrec htb => ?_
    obtain ⟨_, oc, vs, t, e2, hoc, hd, hv⟩ := hrec
    cases e2
    have hsz := Nat.le_trans hge (Nat.le_of_lt hlt)
    have nC : H c' = none := I.hok.fresh hge
    have nPc : P ≠ c' := ne_of_none hP nC
    have J := LamX.inv_table (t' := tk) (more := #[rawInt pos.line, rawInt pos.col, .ref c']) (h' := h'.push (PySem.W.kla_obj "<lambda>" (X.env.qual ++ "<lambda>") params body scope (cloFrom X.env.cells scope.names []) ((X.mg "__name__").getD .none) c' ctv)) I hP
      (fun b o hb e => Heap.get?_push_of_some _ (hx b o hb e)) (Heap.get?_push_of_some _ htb) hge ⟨oc, vs, t, Heap.get?_push_of_some _ hoc, hd, hv⟩
    generalize hH1 : upd (upd H P (.tbl (ps ++ #[rawInt pos.line, rawInt pos.col, .ref c']))) c' (LamX.CodeO c' (X.env.qual ++ "<lambda>")) = H1 at J
    have atP : H1 P = some (.tbl (ps ++ #[rawInt pos.line, rawInt pos.col, .ref c'])) := by rw [← hH1, upd_ne nPc, upd_same]
    have atC : H1 c' = some (LamX.CodeO c' (X.env.qual ++ "<lambda>")) := by rw [← hH1, upd_same]
    have els : ∀ b, b ≠ P → b ≠ c' → H1 b = H b := fun b n1 n2 => by rw [← hH1, upd_ne n2, upd_ne n1]
    have keep : ∀ b o, H b = some o → (∀ ps, o ≠ .tbl ps) → H1 b = some o := fun b o e n => by
      rw [els b (fun z => n ps (Option.some.inj (e.symm.trans (by rw [z]; exact hP)))) (ne_of_none e nC)]
      exact e
    have eL : (ps ++ #[rawInt pos.line, rawInt pos.col, .ref c']).toList = ps.toList ++ [rawInt pos.line, rawInt pos.col, .ref c'] := by simp
    have tabs : LamX.Tabs c.T H1 := fun p hp => by
      by_cases hb : p.1 = P
      · rw [hu p hp hb, hb]
        refine ⟨_, atP, by rw [eL]; exact PySem.TriplesOk_snoc _ _ _ _ ht, fun p' cv hcv => ?_⟩
        rw [eL] at hcv
        rcases LamX.among_app _ ht hcv with z | z
        · obtain ⟨c0, e1, e2⟩ := ha p' cv z
          exact ⟨c0, e1, keep _ _ e2 LamX.codeO_ne⟩
        · exact ⟨c', z, atC⟩
      · obtain ⟨ps', a1, a2, a3⟩ := r.tabs p hp
        refine ⟨ps', by rw [els _ hb (ne_of_none a1 nC)]; exact a1, a2, fun p' cv hcv => ?_⟩
        obtain ⟨c0, e1, e2⟩ := a3 p' cv hcv
        exact ⟨c0, e1, keep _ _ e2 LamX.codeO_ne⟩
    obtain ⟨r1, s1⟩ := r.tabled keep tabs fun a ps' e => by
      by_cases hb : a = P
      · rw [hb]; exact ⟨_, atP⟩
      · exact ⟨ps', by rw [els a hb (ne_of_none e nC)]; exact e⟩
    refine hq _ c' _ ctv H1 _ J r1 s1 (Heap.get?_push_size _ rfl) hsz ?_ atC
    rw [els _ (Nat.ne_of_gt (Nat.lt_of_lt_of_le (Heap.lt_size hP') hsz)) (Nat.ne_of_gt hlt)]
    exact I.hok.fresh hsz
end
section
variable {c : Cs} {tx : Text} {C : Sem} {k : Nat} {S : SC} {X : Cx} {W : WX}
/-! ### a lambda handed over is called -/
theorem fnAt_clo {P : Program} {w : World} {M : Addr → Prop} {H : Hp} {f : Addr} {l : Nat} {caps : List D} {h : Heap} (q : CloH c M H f l caps) (ok : HOk P w H h) : PySem.W.FnAt f h := by
  obtain ⟨qn, params, body, scope, names, cl, c', pm, ctv, e1, e2, _⟩ := q
  exact ⟨_, _, _, _, (ok f _ e2).1⟩
def tCallV (c : Cs) (C : Sem) (W : WX) (i : Nat) (t : TA) : TE := fun σ H Q => ∃ α h f l caps, HR c α h H ∧ σ[i]? = some (some (.ref f)) ∧ CloH c (liv α h) H f l caps ∧ t σ H fun vs H1 => ∃ α1 h1 ds, HR c α1 h1 H1 ∧ Stp α h H α1 h1 H1 ∧ FDs c.K (liv α1 h1) H1 vs ds ∧ Post c (RV c) α1 h1 H1 (C.lam l caps ds h1) Q (WE W σ)
theorem run_lam (G : GX c tx C k S X W) {pins : List (Addr × Obj)} {σ : St} {H : Hp} {s : Shared} {Q : VK} {us : List Value} {vs : List V} {f : Addr} {l : Nat} {caps ds : List D} {α : List Addr} {h : IH} (I : Inv X pins σ H s) (r : HR c α h H) (q : CloH c (liv α h) H f l caps) (fs : FDs c.K (liv α h) H vs ds) (rv : Vals vs us)
    (p : Post c (RV c) α h H (C.lam l caps ds h) Q (WE W σ)) : wpAny (model X.prog X.w) X.A (call (.ref f) us) (EP X pins σ Q) X.xe s := by
  have e0 := I.env0
  rw [G.K] at e0
  refine wpAny_call (codeAny_mono (G.lam l X.A X.stack s H f us vs Q (WE W σ) caps ds α h G.grd G.room e0 q r fs rv p) fun r s' hq => ?_)
  match r, hq with
  | .error e, hq => exact passAt G.tk σ pins H s e s' I hq
  | .ok (.ret u), hq => exact I.after hq
theorem pe_callV (G : GX c tx C k S X W) {i : Nat} {x : Str} {p pos : Pos} {e : Expr} {es : List Expr} {t : TA} (hN : X.N[i]? = some x) (hv : Vis X.env.scope x) (hd : (x == ("__debug__" : Str)) = false) (hcd : (x == ("__classdict__" : Str)) = false) (hs : noSt (e :: es) = true) (ha : PA X (e :: es) t) :
    PE X (.Call (.Name x p) (e :: es) [] pos) (tCallV c C W i t) := by
  refine ⟨fun pins s σ H Q I hh => ?_⟩
  obtain ⟨α, h, f, l, caps, r, hf, q, ht⟩ := hh
  refine wpAny_Call_Name_kw (thn ((pe_var (pos := p) (i := i) hN hv hd hcd).run pins s σ H (fun v H1 => v = .ref f ∧ H1 = H) I ⟨.ref f, hf, rfl, rfl⟩) fun u s1 ⟨v, H1, I1, r1, ev, eH⟩ => ?_)
  subst ev eH
  obtain rfl : u = Value.ref f := r1
  refine PySem.W.callWith_F (fnAt_clo q I1.hok) (thn (ha.run pos pins s1 σ H1 _ I1 ht) fun us s2 ⟨vs, H2, I2, rv, α1, h1, ds, r2, s2', fs, pp⟩ => ?_) (star_cons (noSt_tail hs).1 es X.env) (hpl_of (noSt_tail hs).2 X.env pos)
  have q2 := q.mono (s2'.kp r)
  exact ⟨fnAt_clo q2 I2.hok, run_lam G I2 r2 q2 fs rv pp⟩
theorem pe_callV0 (G : GX c tx C k S X W) {i : Nat} {x : Str} {p pos : Pos} (hN : X.N[i]? = some x) (hv : Vis X.env.scope x) (hd : (x == ("__debug__" : Str)) = false) (hcd : (x == ("__classdict__" : Str)) = false) :
    PE X (.Call (.Name x p) [] [] pos) (tCallV c C W i tNil) := by
  refine ⟨fun pins s σ H Q I hh => ?_⟩
  obtain ⟨α, h, f, l, caps, r, hf, q, ht⟩ := hh
  refine wpAny_Call_Name_kw (thn ((pe_var (pos := p) (i := i) hN hv hd hcd).run pins s σ H (fun v H1 => v = .ref f ∧ H1 = H) I ⟨.ref f, hf, rfl, rfl⟩) fun u s1 ⟨v, H1, I1, r1, ev, eH⟩ => ?_)
  subst ev eH
  obtain rfl : u = Value.ref f := r1
  obtain ⟨α1, h1, ds, r2, s2', fs, pp⟩ := ht
  exact PySem.W.callWith_F0 (fnAt_clo q I1.hok) (run_lam G I1 r2 (q.mono (s2'.kp r)) fs .nil pp)
theorem callV_sem {i : Nat} {ies : List IE} {t : TA} (qa : ∀ α (env : Env) h σ H Q, HR c α h H → SR c (liv α h) α H env σ → Post c (RVs c) α h H (evs C env ies h) Q (WE W σ) → t σ H Q) :
    ∀ α (env : Env) h σ H Q, HR c α h H → SR c (liv α h) α H env σ → Post c (RV c) α h H (ev C env (.callV i ies) h) Q (WE W σ) → tCallV c C W i t σ H Q := by
  intro α env h σ H Q r s p
  simp only [ev] at p
  cases e : getS env i with
  | none => rw [e] at p; exact p.elim
  | some y =>
    rw [e] at p
    cases y with
    | clo l caps =>
      simp only at p
      obtain ⟨v, e1, f, rfl, q⟩ := s.2 i _ (getS_some e)
      refine ⟨α, h, f, l, caps, r, e1, q, qa α env h σ H _ r s (Post.mono (Post.bind (R := RVs c) p) fun vs H1 ⟨xs, h1, α1, r1, s1, z1, p1⟩ => ?_)⟩
      cases e2 : dats xs h1 with
      | none => simp only [e2] at p1; exact p1.elim
      | some ds =>
        simp only [e2] at p1
        exact ⟨α1, h1, ds, r1, s1, z1.dats e2, p1⟩
    | _ => exact p.elim
theorem SE.callV (G : GX c tx C k S X W) {i : Nat} {x : Str} {p pos : Pos} {e : Expr} {es : List Expr} {ies : List IE} (hN : S.N[i]? = some x) (hv : Vis S.sc x) (hd : (x == ("__debug__" : Str)) = false) (hcd : (x == ("__classdict__" : Str)) = false) (hs : noSt (e :: es) = true) (ha : SA c C X W (e :: es) ies) :
    SE c C X W (.Call (.Name x p) (e :: es) [] pos) (.callV i ies) := by
  obtain ⟨t, pa, qa⟩ := ha
  exact ⟨_, pe_callV G (by rw [G.N]; exact hN) (by rw [G.sc]; exact hv) hd hcd hs pa, callV_sem qa⟩
theorem SE.callV0 (G : GX c tx C k S X W) {i : Nat} {x : Str} {p pos : Pos} (hN : S.N[i]? = some x) (hv : Vis S.sc x) (hd : (x == ("__debug__" : Str)) = false) (hcd : (x == ("__classdict__" : Str)) = false) :
    SE c C X W (.Call (.Name x p) [] [] pos) (.callV i []) :=
  ⟨_, pe_callV0 G (by rw [G.N]; exact hN) (by rw [G.sc]; exact hv) hd hcd, callV_sem fun α env h σ H Q r s p => Post.here (R := RVs c) (v' := []) p r .nil⟩
/-! ### a def called with a lambda -/
/-- the lambda has come -/
def LamF (X : Cx) (q : Str) (params : Arguments) (body : Expr) (scope : Scope) (f : Addr) (s : Shared) (H : Hp) : Prop := ∃ (c' : Addr) (pm ctv : Value), s.heap.get? f = some (PySem.W.kla_obj "<lambda>" q params body scope (cloFrom X.env.cells scope.names []) pm c' ctv) ∧ X.base.get? f = none ∧ f ∉ frs X.stack ∧ H f = none ∧ H c' = some (LamX.CodeO c' q)
structure PAL (X : Cx) (q : Str) (params : Arguments) (body : Expr) (scope : Scope) (lpos : Pos) (es : List Expr) (t : TA) : Prop where
  run : ∀ (pos : Pos) (pins : List (Addr × Obj)) (s : Shared) (σ : St) (H : Hp) (Q : List V → Hp → Prop), Inv X pins σ H s → t σ H Q → wpAny (model X.prog X.w) X.A (spliced (backTo pos (starEach (es ++ [.Lambda params body scope lpos]) X.env)))
    (fun us s' => ∃ vs us' f H1, us = us' ++ [.ref f] ∧ Inv X pins σ H1 s' ∧ Vals vs us' ∧ LamF X q params body scope f s' H1 ∧ Q vs H1) X.xe s
def SAL (c : Cs) (C : Sem) (X : Cx) (W : WX) (q : Str) (params : Arguments) (body : Expr) (scope : Scope) (lpos : Pos) (es : List Expr) (ies : List IE) : Prop := ∃ t : TA, PAL X q params body scope lpos es t ∧ ∀ α (env : Env) h σ H Q, HR c α h H → SR c (liv α h) α H env σ → Post c (RVs c) α h H (evs C env ies h) Q (WE W σ) → t σ H Q
theorem SAL.nil (G : GX c tx C k S X W) {q : Str} {params : Arguments} {body : Expr} {scope : Scope} {lpos : Pos} (L : LamAt c X q) (hdef : ∀ env, defaultsOf params env = ([], [])) (hfree : ∀ y ∈ scope.names, y.2 = .free → S.sc.names.lookup y.1 = some .cell ∨ S.sc.names.lookup y.1 = some .free) : SAL c C X W q params body scope lpos [] [] := by
  refine ⟨fun σ H Q => ∃ α h, HR c α h H ∧ ∀ H1, HR c α h H1 → Stp α h H α h H1 → Q [] H1, ⟨fun pos pins s σ H Q I ⟨α, h, r, hq⟩ => ?_⟩, fun α env h σ H Q r s p => ⟨α, h, r, fun H1 r1 s1 => Post.at_ (R := RVs c) (v' := []) p r1 s1 .nil⟩⟩
  have hf : ∀ y ∈ scope.names, y.2 = .free → ∃ c, X.env.cells.lookup y.1 = some c := fun y hy e => by
    have z := hfree y hy e
    rw [← G.sc] at z
    exact I.ok.has y.1 z
  show wpAny _ _ (spliced ((false, eval (.Lambda params body scope lpos) X.env) :: backTo pos (starEach [] X.env))) _ _ s
  refine Calls.spliced_cons (lam_new I r L (hdef X.env) hf fun f c' pm ctv H1 s' I1 r1 s1 e1 e2 e3 e4 => ?_)
  refine Calls.spliced_nil ⟨[], [], f, H1, rfl, I1, .nil, ⟨c', pm, ctv, e1, ?_, fun z => ?_, e3, e4⟩, hq H1 r1 s1⟩
  · cases q : X.base.get? f with
    | none => rfl
    | some o => exact absurd (Nat.lt_of_lt_of_le (Heap.lt_size ((I.bs f o q).1)) e2) (Nat.lt_irrefl _)
  · rcases List.mem_cons.mp (I.stkSub _ z) with e | e
    · have h1 := I.lt
      rw [← e] at h1
      exact Nat.lt_irrefl _ (Nat.lt_of_lt_of_le h1 e2)
    · exact I.nofs e2 e
theorem SAL.cons {q : Str} {params : Arguments} {body : Expr} {scope : Scope} {lpos : Pos} {e : Expr} {es : List Expr} {ie : IE} {ies : List IE} (ha : SE c C X W e ie) (hs : SAL c C X W q params body scope lpos es ies) (hn : isStar e = false) : SAL c C X W q params body scope lpos (e :: es) (ie :: ies) := by
  obtain ⟨ta, pa, qa⟩ := ha
  obtain ⟨tb, pb, qb⟩ := hs
  refine ⟨tCons ta tb, ⟨fun pos pins s σ H Q I hq => ?_⟩, fun α env h σ H Q r s p => ?_⟩
  · show wpAny _ _ (spliced (backTo pos (starEach (e :: (es ++ [.Lambda params body scope lpos])) X.env))) _ _ s
    rw [star_cons hn]
    show wpAny _ _ (spliced ((false, eval e X.env) :: backTo pos (starEach (es ++ [.Lambda params body scope lpos]) X.env))) _ _ s
    refine Calls.spliced_cons (thn (pa.run pins s σ H _ I hq) fun u s1 ⟨x, H1, I1, r1, q1⟩ => ?_)
    refine thn (pb.run pos pins s1 σ H1 _ I1 q1) fun us s2 ⟨vs, us', f, H2, eu, I2, rv, lf, q2⟩ => ?_
    subst eu
    exact ⟨x :: vs, u :: us', f, H2, rfl, I2, .cons r1 rv, lf, q2⟩
  · simp only [evs] at p
    refine qa α env h σ H _ r s (Post.mono (Post.bind (R := RV c) p) fun v1 H1 ⟨x, h1, α1, r1, s1, z1, p1⟩ => ?_)
    refine qb α1 env h1 σ H1 _ r1 (s.mono r s1) (Post.mono (Post.bind (R := RVs c) p1) fun v2 H2 ⟨y, h2, α2, r2, s2, z2, p2⟩ => ?_)
    exact Post.here (R := RVs c) (v' := v1 :: v2) p2 r2 (.cons (z1.mono r1 s2) z2)
end
end RR

-- RRM
set_option maxHeartbeats 4000000
/-! A def called with a lambda. -/
namespace RR
open PySem PySem.Spec L2
section
variable {c : Cs} {tx : Text} {C : Sem} {k : Nat} {S : SC} {X : Cx} {W : WX}
/-! ### what is known more, what less -/
section
variable {bs : List Addr} {H H' : Hp} {M : Addr → Prop} {α : List Addr}
theorem CapOk.diff (kd : KDiff bs H H') (hk : ∀ b o, H b = some (KO o) → H' b = some (KO o)) {cl : List (Str × Addr)} {x : Str} {d : D} (q : CapOk c M H cl x d) : CapOk c M H' cl x d := by
  obtain ⟨b, o, u, v, q1, q2, q3, q4, q5⟩ := q
  exact ⟨b, o, u, v, q1, hk b o q2, q3, q4, FD.diff kd q5⟩
theorem CloH.diff (kd : KDiff bs H H') (hk : ∀ b o, H b = some (KO o) → H' b = some (KO o)) {f : Addr} {l : Nat} {caps : List D} (q : CloH c M H f l caps) : CloH c M H' f l caps := by
  obtain ⟨qn, params, body, scope, names, cl, c', pm, ctv, e1, e2, e3, e4, e5, e6⟩ := q
  exact ⟨qn, params, body, scope, names, cl, c', pm, ctv, e1, hk _ _ e2, kd.same e3 fun o => codeO_ne_KO, Paired.mp e4 fun x d z => CapOk.diff kd hk z, e5, e6⟩
theorem RV.diff (kd : KDiff bs H H') (hk : ∀ b o, H b = some (KO o) → H' b = some (KO o)) : ∀ {x : Val} {v : V}, RV c M α H x v → RV c M α H' x v
  | .d x, v, q => FD.diff kd q
  | .ref n, v, q => q
  | .fn g, v, q => q
  | .clo l caps, v, ⟨f, e, z⟩ => ⟨f, e, CloH.diff kd hk z⟩
  | .fd tk kvs, v, ⟨a, e, z⟩ => ⟨a, e, FroD.diff (c := c) kd z⟩
theorem RV.diffN (kd : KDiff bs H H') {x : Val} {v : V} (n : ∀ l cs, x ≠ .clo l cs) (q : RV c M α H x v) : RV c M α H' x v := by
  cases x with
  | d x => exact FD.diff kd q
  | ref n => exact q
  | fn g => exact q
  | clo l cs => exact absurd rfl (n l cs)
  | fd tk kvs => obtain ⟨a, e, z⟩ := q; exact ⟨a, e, FroD.diff (c := c) kd z⟩
theorem XR.diff (kd : KDiff bs H H') {x : Exc} {cls : Value} {d : Option Addr} (q : XR c M H x cls d) : XR c M H' x cls d := by
  obtain ⟨e, q⟩ := q
  refine ⟨e, ?_⟩
  cases z : x.arg with
  | none => rw [z] at q; exact q
  | some a =>
    rw [z] at q
    obtain ⟨dd, v, q1, q2, q3⟩ := q
    exact ⟨dd, v, q1, kd.same q2 (fun _ w => nomatch w), FD.diff kd q3⟩
end
theorem noClo_ok {r : Res Val} {v : Val} {h : IH} (e : r = .ok v h) (n : ∀ l cs, v ≠ .clo l cs) : r.bind noClo = .ok v h := by
  subst e
  cases v <;> first | rfl | exact absurd rfl (n _ _)
/-- the result of a call with more known, seen without -/
theorem post_plus {ks : Ks} {α : List Addr} {h : IH} {H : Hp} {r : Res Val} {Q : VK} {E : XK} (hr : HR c α h H) (n : ∀ b o, ks.lookup b = some o → H b = none) (p : Post c (RV c) α h H (r.bind noClo) Q E) :
    Post c (RV c) α h (plus H ks) r (fun v H' => Q v (minus H' (ks.map (·.1)))) (fun cls d H' => E cls d (minus H' (ks.map (·.1)))) := by
  have kp := KDiff.plus H ks n
  have hp := hr.diff kp
  have known : ∀ {α' : List Addr} {h' : IH} {H' : Hp}, Stp α h (plus H ks) α' h' H' → ∀ b ∈ ks.map (·.1), ∃ o, H' b = some (KO o) := fun {α' h' H'} st b hb => by
    obtain ⟨o, e⟩ := look_mem.mp hb
    refine ⟨o, st.keep b _ (plus_in e) (fun l => ?_) KO_ne_tbl⟩
    obtain ⟨xs, z, mo⟩ := hp.lst b l
    rw [plus_in e] at z
    cases z
    exact mo
  have outn : ∀ {b : Addr} {u : HO}, H b = some u → b ∉ ks.map (·.1) := fun {b u} e hb => by
    obtain ⟨o, z⟩ := look_mem.mp hb
    rw [n b o z] at e
    cases e
  have back : ∀ {α' : List Addr} {h' : IH} {H' : Hp}, Stp α h (plus H ks) α' h' H' → Stp α h H α' h' (minus H' (ks.map (·.1))) := fun {α' h' H'} st => by
    refine ⟨st.pre, fun a o e nl nt => ?_, fun a ps e => ?_, fun a l => ?_⟩
    · have ha := outn e
      rw [minus_out ha]
      exact st.keep a o (by rw [plus_out (look_none ha)]; exact e) nl nt
    · have ha := outn e
      obtain ⟨ps', q⟩ := st.tbl a ps (by rw [plus_out (look_none ha)]; exact e)
      exact ⟨ps', by rw [minus_out ha]; exact q⟩
    · rcases st.mem a l with z | z
      · exact .inl z
      · refine .inr ?_
        cases q : ks.lookup a with
        | some o => rw [plus_in q] at z; cases z
        | none => rw [plus_out q] at z; exact z
  cases r with
  | ok v h' =>
    intro v' α' H' r' s' z
    have km := KDiff.minus (known s')
    have nc : ∀ l cs, v ≠ .clo l cs := fun l cs z => by subst z; exact p.elim
    rw [noClo_ok rfl nc] at p
    exact p v' α' _ (r'.diff km) (back s') (RV.diffN km nc z)
  | exc x h' =>
    intro cls d α' H' r' s' z
    have km := KDiff.minus (known s')
    exact p cls d α' _ (r'.diff km) (back s') (XR.diff km z)
  | stuck => exact p.elim
/-! ### the cells that it captures -/
def ksOf (X : Cx) (h : Heap) (f : Addr) (o : Obj) (names : List Str) : Ks := (f, o) :: names.filterMap fun x => (X.env.cells.lookup x).bind fun b => (h.get? b).map fun o => (b, o)
theorem look_in {ks : Ks} {b : Addr} {o : Obj} (e : ks.lookup b = some o) : (b, o) ∈ ks := by
  induction ks with
  | nil => cases e
  | cons p r ih =>
    obtain ⟨a, u⟩ := p
    have e2 : (match b == a with | true => some u | false => r.lookup b) = some o := e
    cases q : (b == a) with
    | true =>
      rw [q] at e2
      rw [beq_iff_eq.mp q, Option.some.inj e2]
      exact List.mem_cons_self
    | false =>
      rw [q] at e2
      exact List.mem_cons_of_mem _ (ih e2)
theorem ksOf_look {h : Heap} {f : Addr} {o : Obj} {names : List Str} (hf : h.get? f = some o) {b : Addr} {o' : Obj} (e : (ksOf X h f o names).lookup b = some o') : h.get? b = some o' ∧ (b = f ∨ ∃ x ∈ names, X.env.cells.lookup x = some b) := by
  have hm := look_in e
  unfold ksOf at hm
  rcases List.mem_cons.mp hm with z | z
  · cases z
    exact ⟨hf, .inl rfl⟩
  · obtain ⟨x, hx, q⟩ := List.mem_filterMap.mp z
    cases q1 : X.env.cells.lookup x with
    | none => rw [q1] at q; cases q
    | some b' =>
      rw [q1] at q
      cases q2 : h.get? b' with
      | none => simp [q2] at q
      | some o2 =>
        simp [q2] at q
        obtain ⟨rfl, rfl⟩ := q
        exact ⟨q2, .inr ⟨x, hx, q1⟩⟩
theorem ksOf_has {h : Heap} {f : Addr} {o : Obj} {names : List Str} (hf : h.get? f = some o) {x : Str} {b : Addr} {o' : Obj} (hx : x ∈ names) (e1 : X.env.cells.lookup x = some b) (e2 : h.get? b = some o') : (ksOf X h f o names).lookup b = some o' := by
  have hm : b ∈ (ksOf X h f o names).map (·.1) := by
    refine List.mem_map.mpr ⟨(b, o'), ?_, rfl⟩
    unfold ksOf
    exact List.mem_cons_of_mem _ (List.mem_filterMap.mpr ⟨x, hx, by rw [e1]; simp [e2]⟩)
  obtain ⟨o2, q⟩ := look_mem.mp hm
  have := (ksOf_look hf q).1
  rw [e2] at this
  cases this
  exact q
theorem ksOf_f {h : Heap} {f : Addr} {o : Obj} {names : List Str} : (ksOf X h f o names).lookup f = some o := by
  unfold ksOf
  simp [List.lookup]
theorem clo_look {cells : List (Str × Addr)} {scope : Scope} (hfree : ∀ y ∈ scope.names, y.2 = .free → ∃ c, cells.lookup y.1 = some c) {x : Str} {b : Addr} (e : (cloFrom cells scope.names []).lookup x = some b) : (x, NameKind.free) ∈ scope.names ∧ cells.lookup x = some b := by
  rcases cloFrom_mem (PySem.mem_of_lookup e) with hm | ⟨h1, h2⟩
  · cases hm
  · refine ⟨h1, ?_⟩
    obtain ⟨c1, hc⟩ := hfree _ h1 rfl
    have hc : cells.lookup x = some c1 := hc
    rw [h2, hc]
    rfl
theorem clo_has {cells : List (Str × Addr)} {scope : Scope} (hfree : ∀ y ∈ scope.names, y.2 = .free → ∃ c, cells.lookup y.1 = some c) {x : Str} {b : Addr} (hx : (x, NameKind.free) ∈ scope.names) (e : cells.lookup x = some b) : (cloFrom cells scope.names []).lookup x = some b := by
  obtain ⟨c2, q⟩ := mem_lookup (cloFrom_has (cells := cells) (acc := []) hx)
  obtain ⟨_, q2⟩ := clo_look hfree q
  rw [e] at q2
  cases q2
  exact q
/-- the captured slots beside their names -/
def CapsAt (S : SC) (scope : Scope) : List Nat → List Str → Prop := Paired fun i x => S.N[i]? = some x ∧ (x, NameKind.free) ∈ scope.names ∧ (S.sc.names.lookup x = some .cell ∨ S.sc.names.lookup x = some .free) ∧ S.fs.names.lookup x = some .cell
theorem capsAt_fs {scope : Scope} {cs : List Nat} {names : List Str} (h : CapsAt S scope cs names) : ∀ x ∈ names, S.fs.names.lookup x = some .cell := by
  induction h with
  | nil => exact fun x hx => nomatch hx
  | cons a b ih =>
    intro x hx
    rcases List.mem_cons.mp hx with rfl | hx
    · exact a.2.2.2
    · exact ih x hx
theorem caps_ok (G : GX c tx C k S X W) {scope : Scope} {pins : List (Addr × Obj)} {σ : St} {H : Hp} {s : Shared} {α : List Addr} {h : IH} {env : Env} {f : Addr} {o : Obj} {all : List Str} (hfree : ∀ y ∈ scope.names, y.2 = .free → ∃ c, X.env.cells.lookup y.1 = some c) (I : Inv X pins σ H s) (sr : SR c (liv α h) α H env σ) (hf : s.heap.get? f = some o) (kd : KDiff ((ksOf X s.heap f o all).map (·.1)) H (plus H (ksOf X s.heap f o all))) :
    ∀ {cs : List Nat} {names : List Str} {caps : List D}, CapsAt S scope cs names → (∀ x ∈ names, x ∈ all) → capsOf env cs = some caps → Paired (CapOk c (liv α h) (plus H (ksOf X s.heap f o all)) (cloFrom X.env.cells scope.names [])) names caps
  | [], _, _, .nil, _, e => by cases e; exact .nil
  | i :: cs, x :: names, _, .cons ⟨h1, h2, h3, _⟩ r, ha, e => by
    simp only [capsOf] at e
    cases e1 : getS env i with
    | none => rw [e1] at e; cases e
    | some y =>
      rw [e1] at e
      cases y with
      | d d =>
        simp only at e
        cases e2 : capsOf env cs with
        | none => rw [e2] at e; cases e
        | some ds =>
          rw [e2] at e
          cases e
          obtain ⟨v, q1, q2⟩ := sr.2 i _ (getS_some e1)
          obtain ⟨m, hn, hl⟩ := I.loc
          obtain ⟨u, ru, lk⟩ := hl i x v (by rw [G.N]; exact h1) q1 (by rw [G.sc]; exact .inr h3)
          have hkind : X.env.kindOf x = S.sc.names.lookup x := by
            show X.env.scope.names.lookup x = _
            rw [G.sc]
          obtain ⟨b, hb, ob, hob, hdb⟩ : ∃ b, X.env.cells.lookup x = some b ∧ s.heap.IsCell b (some u) := by
            rcases lk with ⟨z, _⟩ | ⟨_, b, z1, z2⟩
            · rw [hkind] at z
              rcases h3 with h3 | h3 <;> rw [h3] at z <;> cases z
            · exact ⟨b, z1, z2⟩
          exact .cons ⟨b, ob, u, v, clo_has hfree h2 hb, plus_in (ksOf_has hf (ha x List.mem_cons_self) hb hob), hdb, ru, FD.diff kd q2⟩ (caps_ok G hfree I sr hf kd r (fun y hy => ha y (List.mem_cons_of_mem _ hy)) e2)
      | _ => cases e
def tCallL (c : Cs) (C : Sem) (W : WX) (g l : Nat) (cs : List Nat) (t : TA) : TE := fun σ H Q => ∃ α env h, HR c α h H ∧ SR c (liv α h) α H env σ ∧ t σ H fun vs H1 => ∃ xs h1 α1 caps, HR c α1 h1 H1 ∧ Stp α h H α1 h1 H1 ∧ RVs c (liv α1 h1) α1 H1 xs vs ∧ capsOf env cs = some caps ∧ Post c (RV c) α1 h1 H1 ((C.call g (xs ++ [.clo l caps]) h1).bind noClo) Q (WE W σ)
theorem vals_snoc {vs : List V} {us : List Value} (r : Vals vs us) {v : V} {u : Value} (q : RelV v u) : Vals (vs ++ [v]) (us ++ [u]) := r.append (.cons q .nil)
theorem paired_snoc {α β : Type} {F : α → β → Prop} : ∀ {xs : List α} {ys : List β}, Paired F xs ys → ∀ {x : α} {y : β}, F x y → Paired F (xs ++ [x]) (ys ++ [y])
  | _, _, .nil, _, _, f => .cons f .nil
  | _, _, .cons a b, _, _, f => .cons a (paired_snoc b f)
theorem pe_callL (G : GX c tx C k S X W) {g l : Nat} {d : DefT} {q : Str} {params : Arguments} {body : Expr} {scope : Scope} {lpos p pos : Pos} {es : List Expr} {t : TA} {cs : List Nat} {names : List Str} (hd : tx.defs[g]? = some d) (hgl : S.sc.names.lookup d.name = some .globalImplicit) (hdb : (d.name == ("__debug__" : Str)) = false)
    (hs : noSt es = true) (ha : PAL X q params body scope lpos es t) (hfree : ∀ y ∈ scope.names, y.2 = .free → S.sc.names.lookup y.1 = some .cell ∨ S.sc.names.lookup y.1 = some .free) (hcaps : CapsAt S scope cs names) (hall : ∀ y ∈ scope.names, y.2 = .free → y.1 ∈ names) (hP : c.lamP l params body scope names) :
    PE X (.Call (.Name d.name p) (es ++ [.Lambda params body scope lpos]) [] pos) (tCallL c C W g l cs t) := by
  refine ⟨fun pins s σ H Q I hh => ?_⟩
  obtain ⟨α, env, h, r, sr, ht⟩ := hh
  obtain ⟨hm, hk, fd, F, hb, _⟩ := G.fn g d hd
  refine wpAny_Call_Name_kw (ld_glob I (G.gl hgl) hm ?_ hdb)
  have hcell : ∀ y ∈ scope.names, y.2 = .free → ∃ c, X.env.cells.lookup y.1 = some c := fun y hy e => by
    have z := hfree y hy e
    rw [← G.sc] at z
    exact I.ok.has y.1 z
  have fin : ∀ {us : List Value} {s1 : Shared}, (∃ vs us' f H1, us = us' ++ [.ref f] ∧ Inv X pins σ H1 s1 ∧ Vals vs us' ∧ LamF X q params body scope f s1 H1 ∧ ∃ xs h1 α1 caps, HR c α1 h1 H1 ∧ Stp α h H α1 h1 H1 ∧ RVs c (liv α1 h1) α1 H1 xs vs ∧ capsOf env cs = some caps ∧ Post c (RV c) α1 h1 H1 ((C.call g (xs ++ [.clo l caps]) h1).bind noClo) Q (WE W σ)) →
      X.K.In s1.heap ∧ wpAny (model X.prog X.w) X.A (call (.ref (c.adr g)) ([] ++ us)) (EP X pins σ Q) X.xe s1 := fun {us s1} ⟨vs, us', f, H1, eu, I1, rv, ⟨c', pm, ctv, f1, f2, f3, f4, f5⟩, xs, h1, α1, caps, r1, s1', zs, ec, pp⟩ => by
    subst eu
    refine ⟨I1.kIn, ?_⟩
    generalize hks : ksOf X s1.heap f (PySem.W.kla_obj "<lambda>" q params body scope (cloFrom X.env.cells scope.names []) pm c' ctv) names = ks
    have lie : Lie H1 s1.heap ks := fun b o e => by
      rw [← hks] at e
      obtain ⟨e1, e2⟩ := ksOf_look f1 e
      refine ⟨e1, ?_⟩
      rcases e2 with rfl | ⟨x, _, e2⟩
      · exact f4
      · exact I1.freeC x b e2
    have high : ∀ x ∈ names, ∀ {b : Addr}, X.env.cells.lookup x = some b → X.s_0.heap.objs.size ≤ b := fun x hx b e => I1.ok.cab x b (G.fs x (capsAt_fs hcaps x hx)) e
    have kd : KDiff (ks.map (·.1)) H1 (plus H1 ks) := KDiff.plus H1 ks fun b o e => (lie b o e).2
    have e0 : Env0 X.prog X.w X.K X.mg X.base X.A X.stack s1 (plus H1 ks) := by
      refine env0_plus I1.env0 lie (fun b o e => ?_) fun b hb hf => ?_
      · rw [← hks] at e
        obtain ⟨e1, e2⟩ := ksOf_look f1 e
        rcases e2 with rfl | ⟨x, _, e2⟩
        · exact f2
        · cases q : X.base.get? b with
          | none => rfl
          | some o' => exact absurd (Nat.lt_of_lt_of_le (Heap.lt_size (I1.ok.bs b o' q).1) (high x ‹x ∈ names› e2)) (Nat.lt_irrefl _)
      · obtain ⟨o, e⟩ := look_mem.mp hb
        rw [← hks] at e
        rcases (ksOf_look f1 e).2 with rfl | ⟨x, hx, e2⟩
        · exact f3 hf
        · rcases List.mem_cons.mp (I1.stkSub _ hf) with z | z
          · exact I1.cne x b e2 z
          · obtain ⟨_, o', ho', _⟩ := I1.ok.funs.mem z
            exact absurd (Nat.lt_of_lt_of_le (Heap.lt_size ho') (high x hx e2)) (Nat.lt_irrefl _)
    have kko : ∀ b o, H1 b = some (KO o) → plus H1 ks b = some (KO o) := fun b o e => by
      cases z : ks.lookup b with
      | some o' => rw [(lie b o' z).2] at e; cases e
      | none => rw [plus_out z]; exact e
    have sr1 : SR c (liv α1 h1) α1 H1 env σ := sr.mono r s1'
    have caps' : Paired (CapOk c (liv α1 h1) (plus H1 ks) (cloFrom X.env.cells scope.names [])) names caps := by
      have kd' := kd
      rw [← hks] at kd'
      rw [← hks]
      exact caps_ok G hcell I1 sr1 f1 kd' hcaps (fun _ z => z) ec
    have clo : RV c (liv α1 h1) α1 (plus H1 ks) (.clo l caps) (.ref f) := by
      refine ⟨f, rfl, q, params, body, scope, names, _, c', pm, ctv, hP, ?_, kd.same f5 fun o => codeO_ne_KO, caps', fun x b e => hall _ (clo_look hcell e).1 rfl, fun x y b ex ey => I1.ok.inj x y b (clo_look hcell ex).2 (clo_look hcell ey).2⟩
      rw [← hks]
      exact plus_in ksOf_f
    have sp : spF c (C.call g) (vs ++ [.ref f]) (plus H1 ks) (fun v H' => Q v (minus H' (ks.map (·.1)))) (fun cls d H' => WE W σ cls d (minus H' (ks.map (·.1)))) :=
      ⟨α1, h1, xs ++ [.clo l caps], r1.diff kd, paired_snoc (Paired.mp zs fun _ _ z => RV.diff kd kko z) clo, post_plus r1 (fun b o e => (lie b o e).2) pp⟩
    have hl : (us' ++ [Value.ref f]).length = d.ps.length := by
      have z := F.len _ _ _ _ sp
      rw [← z, List.length_append, List.length_append, rv.length]
      rfl
    have b := hb s1 (us' ++ [.ref f]) I1.kIn (by simpa using hl)
    rw [List.append_nil] at b
    refine wpAny_call (codeAny_mono (F.run X.A X.stack s1 _ ⟨us' ++ [.ref f], []⟩ (us' ++ [.ref f]) (vs ++ [.ref f]) _ _ G.grd G.room e0 b (vals_snoc rv (v := V.ref f) (u := Value.ref f) rfl) sp) fun r s' hq => ?_)
    match r, hq with
    | .error e, hq => exact passAt G.tk σ pins H1 s1 e s' I1 (cx_plus lie hq)
    | .ok (.ret u), hq => exact I1.after (ce_plus lie hq)
  cases es with
  | nil => exact PySem.W.callWith_K (h₀ := X.base) I.ok.mod.kin hk (thn (ha.run pos pins s σ H _ I ht) fun us s1 q => fin q) rfl rfl
  | cons e es =>
    obtain ⟨n1, n2⟩ := noSt_tail hs
    refine PySem.W.callWith_K (h₀ := X.base) I.ok.mod.kin hk (thn (ha.run pos pins s σ H _ I ht) fun us s1 q => fin q) (star_cons n1 _ X.env) (plain_star ?_)
    have n3 : noSt (es ++ [.Lambda params body scope lpos]) = true := by
      unfold noSt at n2 ⊢
      rw [List.all_append, n2]
      rfl
    exact n3
theorem SE.callL (G : GX c tx C k S X W) {g l : Nat} {d : DefT} {q : Str} {params : Arguments} {body : Expr} {scope : Scope} {lpos p pos : Pos} {es : List Expr} {ies : List IE} {cs : List Nat} {names : List Str} (hd : tx.defs[g]? = some d) (hgl : S.sc.names.lookup d.name = some .globalImplicit) (hdb : (d.name == ("__debug__" : Str)) = false)
    (hs : noSt es = true) (ha : SAL c C X W q params body scope lpos es ies) (hfree : ∀ y ∈ scope.names, y.2 = .free → S.sc.names.lookup y.1 = some .cell ∨ S.sc.names.lookup y.1 = some .free) (hcaps : CapsAt S scope cs names) (hall : ∀ y ∈ scope.names, y.2 = .free → y.1 ∈ names) (hP : c.lamP l params body scope names) :
    SE c C X W (.Call (.Name d.name p) (es ++ [.Lambda params body scope lpos]) [] pos) (.callL g ies l cs) := by
  obtain ⟨t, pa, qa⟩ := ha
  refine ⟨_, pe_callL G hd hgl hdb hs pa hfree hcaps hall hP, fun α env h σ H Q r s p => ?_⟩
  simp only [ev] at p
  refine ⟨α, env, h, r, s, qa α env h σ H _ r s (Post.mono (Post.bind (R := RVs c) p) fun v1 H1 ⟨x, h1, α1, r1, s1, z1, p1⟩ => ?_)⟩
  cases e : capsOf env cs with
  | none => simp only [e] at p1; exact p1.elim
  | some caps =>
    simp only [e] at p1
    exact ⟨x, h1, α1, caps, r1, s1, z1, rfl, p1⟩
end
end RR

-- RRN
set_option maxHeartbeats 4000000
/-! A sequence from behind. -/
namespace RR
open PySem PySem.Spec PyProof.Rows L2
section
variable {prog : Program} {w : World} {A : Around} {E : Value → Shared → Prop} {s : Shared}
theorem app_rev {sl : Addr} {x y z : Value} {m : Nat} {Q : Int × Int × Nat → Shared → Prop} (hs : s.heap.IsSliceOf sl x y z) (px : IsPart x none) (py : IsPart y none) (pz : IsPart z (some (-1))) (h : Q ((m : Int) - 1, -1, m) s) :
    wpAny (model prog w) A (Builtin.Slice.sliceApplied (.ref sl) (pure (m : Int))) Q E s := by
  obtain ⟨o, ho, _, hd⟩ := id hs
  unfold Builtin.Slice.sliceApplied
  unfold Builtin.Slice.sliceFields
  refine wpAny_bind (wpAny_bind (wpAny_field ho hd (x := x) rfl (wpAny_bind (wpAny_field ho hd (x := y) rfl (wpAny_bind (wpAny_field ho hd (x := z) rfl (wpAny_pure ?_)))))))
  refine wpAny_bind (HT.slicePart_ pz ?_)
  show wpAny _ _ (if ((-1 : Int) == 0) = true then _ else _) _ _ s
  rw [if_neg (by decide)]
  refine wpAny_bind (HT.slicePart_ px (wpAny_bind (HT.slicePart_ py (wpAny_bind (wpAny_pure ?_)))))
  have e1 : Builtin.Slice.sliceAdjust none none (-1) (m : Int) = ((m : Int) - 1, -1) := rfl
  have e2 : Builtin.Slice.slicePlaces ((m : Int) - 1) (-1) (-1) = m := by
    unfold Builtin.Slice.slicePlaces
    rw [if_neg (by decide)]
    by_cases hm : m = 0
    · subst hm; rfl
    · rw [if_pos (by omega)]
      have : ((m : Int) - 1 - -1 - 1) / (- -1) + 1 = m := by
        rw [show (- -1 : Int) = 1 by decide, Int.ediv_one]
        omega
      rw [this]
      omega
  show wpAny _ _ (match Builtin.Slice.sliceAdjust none none (-1) (m : Int) with | (a, b) => pure (a, (-1 : Int), Builtin.Slice.slicePlaces a b (-1))) _ _ s
  rw [e1]
  show wpAny _ _ (pure ((m : Int) - 1, (-1 : Int), Builtin.Slice.slicePlaces ((m : Int) - 1) (-1) (-1))) _ _ s
  rw [e2]
  exact wpAny_pure h
theorem pick_rev (xs : List Value) : ((List.range xs.length).filterMap fun (k : Nat) => xs.toArray[((xs.length : Int) - 1 + (k : Int) * -1).toNat]?) = xs.reverse := by
  have e : ∀ k, k ∈ List.range xs.length → xs.toArray[((xs.length : Int) - 1 + (k : Int) * -1).toNat]? = some (xs.reverse.getD k .none) := fun k hk => by
    have hk := List.mem_range.mp hk
    have e1 : ((xs.length : Int) - 1 + (k : Int) * -1).toNat = xs.length - 1 - k := by omega
    rw [e1]
    simp only [List.getElem?_toArray]
    rw [List.getD_eq_getElem?_getD, List.getElem?_reverse hk, List.getElem?_eq_getElem (show xs.length - 1 - k < xs.length by omega)]
    rfl
  have q : ∀ l : List Nat, (∀ k ∈ l, k ∈ List.range xs.length) → (l.filterMap fun (k : Nat) => xs.toArray[((xs.length : Int) - 1 + (k : Int) * -1).toNat]?) = l.map fun k => xs.reverse.getD k .none := fun l hl => by
    induction l with
    | nil => rfl
    | cons a r ih =>
      rw [List.filterMap_cons, e a (hl a List.mem_cons_self), List.map_cons, ih fun k hk => hl k (List.mem_cons_of_mem _ hk)]
  rw [q _ fun k hk => hk]
  apply List.ext_getElem
  · simp
  · intro i h1 h2
    simp only [List.getElem_map, List.getElem_range]
    rw [List.getD_eq_getElem?_getD, List.getElem?_eq_getElem h2]
    rfl
theorem get_rev {t sl : Addr} {xs : List Value} {x y z : Value} {Q : Value → Shared → Prop} (ht : IsTup s.heap t xs.toArray) (hs : s.heap.IsSliceOf sl x y z) (px : IsPart x none) (py : IsPart y none) (pz : IsPart z (some (-1)))
    (h : Q (.ref s.heap.objs.size) { s with heap := s.heap.push { cls := .type "tuple", data := .seq xs.reverse.toArray } }) (hz : xs.length ≤ sizeLine) : wpAny (model prog w) A (getItem (.ref t) (.ref sl)) Q E s := by
  have hok : sizeOk (.seq xs.reverse.toArray) := by
    show xs.reverse.toArray.size ≤ sizeLine
    simpa using hz
  obtain ⟨o, ho, hcs, hd⟩ := id hs
  have hT : s.TypeIs (.ref sl) "slice" := ⟨o, ho, hcs⟩
  unfold getItem
  try with_reducible refine wpAny_holding ?_
  first | refine wpAny_bind (wpAny_pure ?_) | skip
  refine wpAny_bind (wpAny_sequenceKey ht.typeIs (by decide) ?_)
  refine wpAny_bind (wpAny_callSpecial?_slot (name := Str.ofString "__getitem__") ht.typeIs PyProof.Rows.slot_tuple_getitem (wpAny_call_entry PyProof.Rows.slot_tuple_getitem ht.typeIs entry_tuple_getitem ?_ (args_tuple_getitem _ _)))
  show wpAny _ _ (Builtin.Tuple.tupleItemsOf (.ref t) >>= _) _ _ s
  refine wpAny_bind (tupleItemsOf_ ht ?_)
  refine wpAny_bind (wpAny_typeOf hT ?_)
  rw [if_pos (by decide)]
  rw [List.size_toArray]
  refine wpAny_bind (app_rev hs px py pz ?_)
  have hno : ¬ ((((xs.length : Int) - 1) == 0 && (-1 : Int) == 1 && xs.length == xs.length) = true) := by
    rw [show ((-1 : Int) == 1) = false from rfl, Bool.and_false, Bool.false_and]
    exact Bool.false_ne_true
  show wpAny _ _ (if ((((xs.length : Int) - 1) == 0 && (-1 : Int) == 1 && xs.length == xs.length) = true) then _ else _) _ _ s
  rw [if_neg hno, pick_rev]
  first
    | exact wpAny_bind (m := Builtin.Tuple.tupleExact _) (wpAny_newObj_type (wpAny_pure ⟨_, rfl, wpAny_pure h⟩) hok)
    | exact wpAny_bind (wpAny_bind (m := Builtin.Tuple.tupleExact _) (wpAny_newObj_type (wpAny_pure ⟨_, rfl, wpAny_pure h⟩) hok))
end
section
variable {X : Cx}
/-- a tuple from behind -/
def tRevT (K : PySem.W.Frag) (te : TE) : TE := fun σ H Q => te σ H fun x H1 => ∃ a xs, x = .ref a ∧ SqT K H1 a xs ∧ NewT H1 xs.reverse Q
theorem pe_revT {e : Expr} {te : TE} {k : Nat} {p1 p2 p3 pos : Pos} (he : PE X e te) : PE X (.Subscript e (.Slice none none (some (.UnaryOp .USub (.Constant (.int 1) k p1) p2)) p3) pos) (tRevT X.K te) := by
  refine ⟨fun pins s σ H Q I h => ?_⟩
  refine Subscript_ (thn (he.run pins s σ H _ I h) fun v s1 ⟨x, H1, I1, r1, a, xs, ex, hx, q⟩ => ?_)
  subst ex
  cases r1
  have hst : PO X (some (.UnaryOp .USub (.Constant (.int 1) k p1) p2)) (tPart (tUn (rU fun j => .int (-j)) (tC (.int 1)))) := po_some (pe_un un_neg pe_int)
  refine wpAny_Slice (thn (po_none.run pins s1 σ H1 (fun o J => o = none ∧ J = H1) I1 ⟨rfl, rfl⟩) fun vl s2 ⟨l, H2, I2, pl, el, e2⟩ => ?_)
  subst el e2
  refine thn (po_none.run pins s2 σ H2 (fun o J => o = none ∧ J = H2) I2 ⟨rfl, rfl⟩) fun vu s3 ⟨u, H3, I3, pu, eu, e3⟩ => ?_
  subst eu e3
  refine thn (hst.run pins s3 σ H3 (fun o J => o = some (-1) ∧ J = H3) I3 ⟨1, rfl, -1, rfl, rfl, rfl⟩) fun vs s4 ⟨o, H4, I4, ps, eo, e4⟩ => ?_
  subst eo e4
  have I5 : Inv X pins σ H4 { s4 with heap := s4.heap.push { cls := .type "slice", data := .fields #[vl, vu, vs] } } := I4.kept (t' := s4.toks) fun _ _ z => Heap.get?_push_of_some _ z
  obtain ⟨its, r, ht, hz⟩ := I5.tuple hx
  have hlen := r.length
  show wpAny (model X.prog X.w) X.A (subscriptTail e (.Slice none none (some (.UnaryOp .USub (.Constant (.int 1) k p1) p2)) p3) (.ref a) (.ref s4.heap.objs.size)) (EP X pins σ Q) X.xe _
  refine tail_any (ops := [.ref a, .ref s4.heap.objs.size]) ht.typeIs (PyProof.Rows.slot_tuple_getitem.lookup) ?_ (by with_unfolding_all rfl)
  refine get_rev ht (Heap.IsSliceOf.new _ vl vu vs) pl pu ps ?_ (by omega)
  exact newT_inv (tk := s4.toks) (g := s4.heap.push { cls := .type "slice", data := .fields #[vl, vu, vs] }) (s := s4) I5 r.reverse (by rw [List.length_reverse]; exact hz) q
theorem pe_or {e : Expr} {t u : TE} (ht : PE X e t) (hu : PE X e u) : PE X e (fun σ H Q => t σ H Q ∨ u σ H Q) := ⟨fun pins s σ H Q I h => h.elim (ht.run pins s σ H Q I) (hu.run pins s σ H Q I)⟩
end
section
variable {c : Cs} {tx : Text} {C : Sem} {k : Nat} {S : SC} {X : Cx} {W : WX}
theorem SE.rev (G : GX c tx C k S X W) {a : Expr} {ia : IE} {j : Nat} {p1 p2 p3 pos : Pos} (ha : SE c C X W a ia) : SE c C X W (.Subscript a (.Slice Option.none Option.none (Option.some (.UnaryOp .USub (.Constant (.int 1) j p1) p2)) p3) pos) (.rev ia) := by
  obtain ⟨ta, pa, qa⟩ := ha
  refine ⟨_, pe_or (pe_revL pa) (pe_revT pa), fun α env h σ H Q r s p => ?_⟩
  simp only [ev] at p
  cases hev : ev C env ia h with
  | ok x h1 =>
    rw [hev] at p
    simp only [bind_ok] at p
    cases hd : dat x h1 with
    | none => rw [hd] at p; exact p.elim
    | some d =>
      rw [hd] at p
      cases d with
      | tuple xs =>
        refine .inr (qa α env h σ H _ r s ?_)
        rw [hev]
        intro v' α' H' r' s' z'
        obtain ⟨q, ws, rfl, s1, q1⟩ := (dat_v r' z' hd).tuple
        rw [G.K]
        exact ⟨q, ws, rfl, s1, (Post.fin r' (Post.from p s')).tup r'.lst q1.reverse⟩
      | list xs =>
        refine .inl (qa α env h σ H _ r s ?_)
        rw [hev]
        intro v' α' H' r' s' z'
        obtain ⟨q, ws, rfl, s1, q1⟩ := (dat_v r' z' hd).list
        rw [G.K]
        exact ⟨q, ws, rfl, s1, (Post.fin r' (Post.from p s')).lst r'.lst q1.reverse⟩
      | _ => exact p.elim
  | exc x h1 =>
    rw [hev] at p
    refine .inl (qa α env h σ H _ r s ?_)
    rw [hev]
    exact p
  | stuck => rw [hev] at p; exact p.elim
end
end RR

-- RRO
set_option maxHeartbeats 4000000
/-! Methods of lists. -/
namespace RR
open PySem PySem.Spec PyProof.Rows L2
section
variable {c : Cs} {tx : Text} {C : Sem} {k : Nat} {S : SC} {X : Cx} {W : WX}
theorem isLst_some {x : Val} {h : IH} (e : isLst x h = true) : ∃ n xs, x = .ref n ∧ h[n]? = some (.lst xs) := by
  unfold isLst at e
  split at e
  · split at e
    · rename_i n h xs hx
      exact ⟨n, xs, rfl, hx⟩
    · cases e
  · cases e
theorem isLst_ty {α : List Addr} {h : IH} {H : Hp} {x : Val} {v : V} (r : HR c α h H) (z : RV c (liv α h) α H x v) (e : isLst x h = true) : tyV c.K "list" v H := by
  obtain ⟨n, xs, rfl, hx⟩ := isLst_some e
  obtain ⟨a, e1, rfl⟩ := z
  obtain ⟨a', ws, q1, q2, _⟩ := r.cell n xs hx
  rw [e1] at q1
  cases q1
  exact .inl ⟨rfl, ws, SqL.of q2⟩
theorem few1 {e : Expr} (hs : isStar e = false) (cpos : Pos) (env : PySem.Env) : ((backTo cpos (starEach [e] env)).all (fun x => !x.1) && (backToKw cpos (keywordEach [] env)).all (fun x => x.1.isSome) && decide ([e].length + ([] : List Keyword).length + (if ([] : List Keyword).isEmpty then 0 else 1) < 30)) = true := by
  cases e <;> first | (cases hs; done) | rfl
theorem SE.append (G : GX c tx C k S X W) {x : Str} {e : Expr} {io ia : IE} {p1 apos cpos : Pos} (ho : SE c C X W (.Name x p1) io) (he : SA c C X W [e] [ia]) (hs : isStar e = false) (hl : (apos.endLine == cpos.line) = true) : SE c C X W (.Call (.Attribute (.Name x p1) "append" apos) [e] [] cpos) (.me .append io [ia]) := by
  obtain ⟨to, po, qo⟩ := ho
  obtain ⟨t, pa, qa⟩ := he
  refine ⟨_, pe_bm (T := "list") (name := "append") (id := "list.append") PySem.F.plainAttrs_list PySem.F.slot_list_append PySem.F.type_list_append mt_append po pa rfl (few1 hs cpos X.env) hl (star_cons hs [] X.env) rfl, fun α env h σ H Q r s p => ?_⟩
  rw [ev] at p
  refine qo α env h σ H _ r s (Post.mono (Post.bind (R := RV c) p) fun v1 H1 ⟨y, h1, α1, r1, s1, z1, p1⟩ => ?_)
  cases hy : isLst y h1 with
  | false => rw [hy] at p1; exact p1.elim
  | true =>
    rw [hy, if_pos rfl] at p1
    refine ⟨by rw [G.K]; exact isLst_ty r1 z1 hy, qa α1 env h1 σ H1 _ r1 (s.mono r s1) (Post.mono (Post.bind (R := RVs c) p1) fun vs H2 ⟨ys, h2, α2, r2, s2, z2, p2⟩ => ?_)⟩
    have z1' := z1.mono r1 s2
    cases hd : dats ys h2 with
    | none => simp only [hd] at p2; exact p2.elim
    | some ds =>
      simp only [hd] at p2
      have f := z2.dats hd
      unfold meV at p2
      cases y with
      | ref m =>
        cases hc : h2[m]? with
        | none => simp only [hc] at p2; exact p2.elim
        | some z =>
          cases z with
          | dead => simp only [hc] at p2; exact p2.elim
          | vls _ => simp only [hc] at p2; exact p2.elim
          | dct _ _ => simp only [hc] at p2; exact p2.elim
          | lst xs =>
            simp only [hc] at p2
            cases ds with
            | nil => exact p2.elim
            | cons d ds =>
              cases ds with
              | cons _ _ => exact p2.elim
              | nil =>
                simp only at p2
                split at p2
                · rename_i hz
                  cases f with
                  | @cons v0 vs0 _ _ f1 f2 =>
                    cases f2
                    obtain ⟨a, ea, rfl⟩ := z1'
                    obtain ⟨a', ws, q1, q2, q3⟩ := r2.cell m xs hc
                    rw [ea] at q1
                    cases q1
                    obtain ⟨w1, w2⟩ := r2.wr hc ea (q3.append (.cons f1 .nil))
                    exact ⟨a, ws, v0, rfl, rfl, q2, by rw [q3.length, ← lim_eq]; exact hz, p2 _ α2 _ w1 w2 .non⟩
                · exact p2.elim
      | _ => exact p2.elim
theorem ev_mut (env : Env) (a : IE) (h : IH) : ev C env (.mut a) h = (ev C env a h).bind fun x h1 => match x with
    | .d (.list xs) => .ok (.ref h1.length) (h1 ++ [.lst xs])
    | _ => .stuck := by
  rw [ev] <;> rfl
theorem SE.mlist (G : GX c tx C k S X W) {e : Expr} {ia : IE} {p pos : Pos} (hx : ("list" : Str) ∈ tx.free) (hgl : S.sc.names.lookup ("list" : Str) = some .globalImplicit) (hs : isStar e = false) (ha : SE c C X W e ia) : SE c C X W (.Call (.Name "list" p) [e] [] pos) (.mut (.bi .list [ia])) := by
  obtain ⟨t, pa, qa⟩ := SA.cons ha SA.nil hs
  have hn : noSt [e] = true := by cases e <;> first | (cases hs; done) | rfl
  refine ⟨_, pe_callTy call_list_of (G.gl hgl) (G.free _ hx) boot_list' pa (by decide) (by decide) (star_cons hs [] X.env) (hpl_of (noSt_tail hn).2 X.env pos), fun α env h σ H Q r s p => ?_⟩
  rw [ev_mut, ev_bi, res_bind_assoc] at p
  refine qa α env h σ H _ r s (Post.mono (Post.bind (R := RVs c) p) fun v1 H1 ⟨x, h1, α1, r1, s1, z1, p1⟩ => ?_)
  cases e1 : biA x h1 with
  | none => simp only [e1] at p1; exact p1.elim
  | some ds =>
    simp only [e1] at p1
    have ft := biA_ft r1 z1 e1
    rw [G.K]
    unfold biD at p1
    split at p1 <;> (try (rename_i hb; cases hb; done)) <;> try (exact p1.elim)
    all_goals
      obtain ⟨v, rfl, f⟩ := pair1 ft
      first
        | (obtain ⟨a, ws, rfl, s', q1⟩ := f.tuple
           refine ⟨a, ws, rfl, .inr s', fun b n => ?_⟩
           obtain ⟨rm, sm⟩ := r1.made n q1
           exact p1 (.ref b) _ _ rm sm ⟨b, len_at r1, rfl⟩)
        | (obtain ⟨a, ws, rfl, s', q1⟩ := f.list
           refine ⟨a, ws, rfl, .inl s', fun b n => ?_⟩
           obtain ⟨rm, sm⟩ := r1.made n q1
           exact p1 (.ref b) _ _ rm sm ⟨b, len_at r1, rfl⟩)
theorem rg_fd {K : PySem.W.Frag} {M : Addr → Prop} {H : Hp} (n : Int) : FDs K M H (rgV 0 n) (rangeD 0 n) := by
  unfold rgV rangeD
  generalize List.range (n - 0).toNat = l
  induction l with
  | nil => exact .nil
  | cons a r ih => exact .cons (FD.int _) ih
def tTupRgN (te : L2.St → Hp → (Int → Int → Hp → Prop) → Prop) : TE := fun σ H Q => te σ H fun a b H1 => RgOk a b ∧ NewT H1 (rgV a b) Q
theorem pe_tupRgN {e : Expr} {te : L2.St → Hp → (Int → Int → Hp → Prop) → Prop} {p pos : Pos} (hc : X.calm = true) (hg : Gl X "tuple") (hm : X.mg "tuple" = none) (he : PRg X e te) (na : starEach [e] X.env = (false, eval e X.env) :: starEach [] X.env := by rfl) : PE X (.Call (.Name "tuple" p) [e] [] pos) (tTupRgN te) := by
  refine ⟨fun pins s σ H Q I h => ?_⟩
  refine Call_ (ld_blt I hg hm boot_tuple' (PyProof.Rows.callWith_type1 (args_cons (thn (he pins s σ H _ I h) fun x s1 ⟨r, a, b, t, u, v, H1, ex, hr, I1, ok, q⟩ => args_nil ?_) na) na))
  subst ex
  obtain ⟨b1, b2, b3, b4, b5⟩ := ok
  refine call_tuple_range (n := (b - a).toNat) (I1.ok.hd hc) hr (small_one b1 b2 b3 b4) (rangeSize_nat a b) b5 fun g tk acc hk hi => ?_
  have ez : (acc.toList).toArray = acc := Array.toArray_toList ..
  rw [← ez]
  exact newT_inv (tk := tk) (g := g) (s := s1) (I1.kept hk) (vals_rg hi) (by rw [rgV_length, sizeLine_eq]; omega) q
theorem SE.tupR (G : GX c tx C k S X W) {e : Expr} {ia : IE} {p p2 pos pos2 : Pos} (hx : ("tuple" : Str) ∈ tx.free) (hgl : S.sc.names.lookup ("tuple" : Str) = some .globalImplicit) (hx2 : ("range" : Str) ∈ tx.free) (hgl2 : S.sc.names.lookup ("range" : Str) = some .globalImplicit) (hs : isStar e = false) (ha : SE c C X W e ia) : SE c C X W (.Call (.Name "tuple" p) [.Call (.Name "range" p2) [e] [] pos2] [] pos) (.tupR ia) := by
  obtain ⟨t, pa, qa⟩ := ha
  refine ⟨_, pe_tupRgN G.calm (G.gl hgl) (G.free _ hx) (prg_1 (G.gl hgl2) (G.free _ hx2) pa (star_cons hs [] X.env)) rfl, fun α env h σ H Q r s p => ?_⟩
  rw [ev] at p
  refine qa α env h σ H _ r s (Post.mono (Post.bind (R := RV c) p) fun v1 H1 ⟨x, h1, α1, r1, s1, z1, p1⟩ => ?_)
  cases x with
  | d x =>
    cases x with
    | int i =>
      simp only at p1
      split at p1
      · rename_i hi
        simp only [Bool.and_eq_true, decide_eq_true_eq] at hi
        cases z1
        exact ⟨i, rfl, RgOk.of_le (by omega) (by omega) (by omega) (by omega), (Post.fin r1 p1).tup r1.lst (rg_fd i)⟩
      · exact p1.elim
    | _ => exact p1.elim
  | _ => exact p1.elim
end
end RR

-- RRP
set_option maxHeartbeats 4000000
/-! Methods of data. -/
namespace RRX
open PySem PySem.SeqAt
open AutoSeq1 (wpAny_loadPart')
open MeetsSeq MeetsSeq2 MeetsSeq3 SeqRoads2
theorem forIn_rngF {β : Type} {M : Model} {A : Around} {E : Value → Shared → Prop} {s : Shared} {lo n : Nat} {hp : 0 < 1} (f : Nat → β → Sem (ForInStep β)) (I : List Nat → β → Shared → Prop) (Q : β → Shared → Prop)
    (turn : ∀ x rest b s, I (x :: rest) b s → wpAny M A (f x b) (fun r s' => match r with | .yield b' => I rest b' s' | .done b' => Q b' s') E s)
    (fin : ∀ b s, I [] b s → Q b s) (b : β) (h : I (List.range' lo (n - lo)) b s) : wpAny M A (forIn ({ start := lo, stop := n, step := 1, step_pos := hp } : Std.Legacy.Range) b f) Q E s := by
  rw [Std.Legacy.Range.forIn_eq_forIn_range']
  simp only [Std.Legacy.Range.size, Nat.add_sub_cancel, Nat.div_one]
  exact wpAny_forIn_list f I Q turn fin _ b h
theorem tuple_indexFrom (l : Addr) (items : Array Value) (n : Nat) (dd : Option Addr) (sl : Array (Option Value)) (x : Value) (e : Value → Bool) (lo : Nat) (tt : Tok) (j : Nat) (hj : j < items.size) (hlo : lo ≤ j)
    (hit : e items[j] = true) (hno : ∀ m (hm : m < items.size), lo ≤ m → m < j → e items[m] = false) :
    Meets (Builtin.«tuple.index» ⟨[.ref l, x, .int (lo : Int) tt], []⟩)
      (fun A R s => s.heap.get? l = some { cls := .type "tuple", dict := dd, data := .seq items n, slots := sl } ∧ (∀ y, y ∈ items → EqAt A.in1 s y x (e y)) ∧ R (.ok (.ret (.int j s.toks))) { s with toks := s.toks + 1 }) :=
  .of_wp fun prog w A R s h => by
    obtain ⟨hp, g, d, tk, os⟩ := s; obtain ⟨hl, he, h⟩ := h
    have ti : typeLookup (Value.type "int") (Str.ofString "__index__") = pure (some (.builtin "int.__index__")) := by rw [typeLookup_type, builtinLookup_eq_fast]; kernel_rfl
    have e1 : ¬ ((lo : Int) < 0) := by omega
    have e2 : (max (if (lo : Int) < 0 then (lo : Int) + (items.size : Int) else (lo : Int)) 0).toNat = lo := by rw [if_neg e1]; omega
    wp_walk using wpAny_loadPart' hl, forIn_rngF _ (fun rest b s' => b.1 = none ∧ s' = ⟨hp, g, d, tk, os⟩ ∧ ∃ i, rest = List.range' i (items.size - i) ∧ lo ≤ i ∧ i ≤ j) _
    case turn =>
      rintro y rest b s' ⟨hb', rfl, i, hr, hli, hi⟩
      have hlt : i < items.size := by omega
      obtain ⟨rfl, hrest⟩ : y = i ∧ rest = List.range' (i + 1) (items.size - (i + 1)) := by
        have e : items.size - i = (items.size - (i + 1)) + 1 := by omega
        rw [e, List.range'_succ] at hr
        injection hr with h1 h2
        exact ⟨h1, h2⟩
      rw [Array.getElem?_eq_getElem hlt]
      refine wpAny_bind (he _ (Array.getElem_mem hlt) prog w _ _ ?_)
      by_cases hji : y = j
      · subst hji
        rw [hit]
        wp_walk
        exact ⟨_, rfl, h⟩
      · rw [hno y hlt hli (by omega)]
        wp_walk
        exact ⟨rfl, rfl, y + 1, hrest, by omega, by omega⟩
    case fin =>
      rintro b s' ⟨hb', rfl, i, hr, hli, hi⟩
      exfalso
      have e : items.size - i = (items.size - (i + 1)) + 1 := by omega
      rw [e, List.range'_succ] at hr
      cases hr
    case h =>
      refine ⟨rfl, rfl, lo, ?_, Nat.le_refl _, hlo⟩
      rw [e2, Nat.min_self]
end RRX

namespace RR
open PySem PySem.Spec PyProof.Rows L2
section
variable {c : Cs} {tx : Text} {C : Sem} {k : Nat} {S : SC} {X : Cx} {W : WX}
theorem findD_ok {y : D} : ∀ {xs : List D} {lo i j : Nat}, findD y xs lo i = some j → i ≤ j ∧ lo ≤ j ∧ (∃ z, xs[j - i]? = some z ∧ PyData.eqv z y = true) ∧ ∀ (m : Nat) (z : D), i ≤ m → lo ≤ m → m < j → xs[m - i]? = some z → PyData.eqv z y = false
  | [], _, _, _, e => by cases e
  | x :: r, lo, i, j, e => by
    unfold findD at e
    split at e
    · rename_i h
      cases e
      exact ⟨Nat.le_refl _, h.1, ⟨x, by simp, h.2⟩, fun m z h1 h2 h3 => absurd h3 (by omega)⟩
    · rename_i h
      obtain ⟨h1, h2, ⟨z, h3, h4⟩, h5⟩ := findD_ok e
      refine ⟨by omega, h2, ⟨z, ?_, h4⟩, fun m z' g1 g2 g3 g4 => ?_⟩
      · have e1 : j - i = (j - (i + 1)) + 1 := by omega
        rw [e1, List.getElem?_cons_succ]
        exact h3
      · by_cases hm : m = i
        · subst hm
          simp at g4
          subst g4
          cases q : PyData.eqv x y with
          | false => rfl
          | true => exact absurd ⟨g2, q⟩ h
        · refine h5 m z' (by omega) g2 g3 ?_
          have e1 : m - i = (m - (i + 1)) + 1 := by omega
          rw [e1, List.getElem?_cons_succ] at g4
          exact g4
def rMd (K : PySem.W.Frag) (tup : Bool) (m : Me) : V → List V → Hp → VK → Prop := fun x xs H Q => ∃ M o as d, Lv M H ∧ FT K M H x o ∧ Paired (FT K M H) xs as ∧ meD m o as = some d ∧ Fin K M H d Q ∧ (∃ zs, o = if tup then .tuple zs else .list zs)
theorem paired1 {α β : Type} {F : α → β → Prop} {x : α} {ys : List β} (p : Paired F [x] ys) : ∃ y, ys = [y] ∧ F x y := by
  cases p with
  | cons r t => cases t; exact ⟨_, rfl, r⟩
theorem min_dep {X : Cx} (hu : X.A.units + 64 < cLine) {o y : D} {xs : List D} (h : (dep o || dep y) = true) (ho : PyData.depthAll xs ≤ o.depth) : X.A.units + 1 + min (PyData.depthAll xs) y.depth < cLine := by
  have z := dep_min (A := X.A) hu h
  omega
theorem read_at {h : Heap} {its : List Value} {xs : List D} {as : List Addr} (r : ReadsAll h its xs as) (hp : PyData.plainAll xs = true) (m : Nat) (hm : m < its.toArray.size) {z : D} (hz : xs[m]? = some z) : SeqAt.readOf h its.toArray[m] = z := by
  have e := SeqAt.readsAll_map_plain xs its as hp r
  have hml : m < its.length := by simpa using hm
  rw [← e, List.getElem?_map, List.getElem?_eq_getElem hml] at hz
  have e1 : SeqAt.readOf h its[m] = z := Option.some.inj (show some (SeqAt.readOf h its[m]) = some z from hz)
  simpa using e1
theorem mt_tupIndex (hu : X.A.units + 64 < cLine) : MtR X "tuple.index" (rMd X.K true .index) := by
  intro pins s σ H x xs v us Q I rx rxs h
  obtain ⟨M, o, as, d, l, fo, fa, e, q, zs, ez⟩ := h
  simp only [if_true] at ez
  subst ez
  obtain ⟨a, ws, rfl, sq, fw⟩ := fo.tuple
  cases rx
  obtain ⟨its, rv, ⟨⟨cls, dd, data, sls⟩, ho, hc, n, hd⟩, hlen⟩ := I.tuple sq
  simp only at hc hd
  subst hc hd
  obtain ⟨ra, h4⟩ := Dp.readsAll I zs ws its fw.dp rv
  have hpl := fw.plain
  have hdz := (depthAll_le zs).1
  have hsz : its.toArray.size = zs.length := by rw [List.size_toArray, ← rv.length, fw.length]
  have body : ∀ (y : V) (d0 : D) (uy : Value), FT X.K M H y d0 → RelV y uy → (dep (.tuple zs) || dep d0) = true → ∀ u, u ∈ its.toArray → SeqAt.EqAt X.A.in1 s u uy (PyData.eqv (SeqAt.readOf s.heap u) d0) := fun y d0 uy f r hz => by
    obtain ⟨bs, r1⟩ := Dp.reads I d0 y uy f.dp r
    exact SeqAt.items_plain (show ReadsAll s.heap its.toArray.toList zs ra from h4) r1 hpl f.plain (min_dep hu hz hdz)
  cases as with
  | nil => cases e
  | cons d0 as =>
    cases fa with
    | @cons y ys _ _ f1 f2 =>
      cases rxs with
      | @cons _ uy _ uys ry rys =>
        cases as with
        | nil =>
          cases f2
          cases rys
          simp only [meD] at e
          split at e
          · rename_i hz
            cases ef : findD d0 zs 0 0 with
            | none => rw [ef] at e; cases e
            | some j =>
              rw [ef] at e
              cases e
              obtain ⟨_, _, ⟨z, h1, h2⟩, h3⟩ := findD_ok ef
              have hj : j < its.toArray.size := by rw [hsz]; exact (List.getElem?_eq_some_iff.mp h1).1
              refine call_meets PySem.F.slot_tuple_index ⟨_, ho, rfl⟩ PySem.F.entry_tuple_index (PySem.F.args_tuple_index_2 _ _) (TI.tuple_indexAt a its.toArray n dd sls uy (fun u => PyData.eqv (SeqAt.readOf s.heap u) d0) j hj ?_ ?_) ⟨ho, body y d0 uy f1 ry hz, ?_⟩
              · show PyData.eqv (SeqAt.readOf s.heap its.toArray[j]) d0 = true
                rw [read_at h4 hpl j hj h1]
                exact h2
              · intro m hm hmj
                have hmz : m < zs.length := by omega
                show PyData.eqv (SeqAt.readOf s.heap its.toArray[m]) d0 = false
                rw [read_at h4 hpl m hm (List.getElem?_eq_getElem hmz)]
                exact h3 m _ (Nat.zero_le _) (Nat.zero_le _) hmj (List.getElem?_eq_getElem hmz)
              · exact ⟨.int (j : Nat), H, I.tok _, ⟨_, rfl⟩, q.here (.int _)⟩
          · cases e
        | cons d1 as =>
          cases f2 with
          | @cons y2 ys2 _ _ g1 g2 =>
            cases rys with
            | @cons _ uz _ uzs rz rzs =>
              cases as with
              | cons _ _ => cases d1 <;> cases e
              | nil =>
                cases g2
                cases rzs
                cases d1 with
                | int lo =>
                  obtain rfl := g1.int
                  obtain ⟨tt, rfl⟩ := rz
                  simp only [meD] at e
                  split at e
                  · rename_i hz
                    simp only [Bool.and_eq_true, decide_eq_true_eq] at hz
                    obtain ⟨hz, hlo⟩ := hz
                    cases ef : findD d0 zs lo.toNat 0 with
                    | none => rw [ef] at e; cases e
                    | some j =>
                      rw [ef] at e
                      cases e
                      obtain ⟨_, hlj, ⟨z, h1, h2⟩, h3⟩ := findD_ok ef
                      have hj : j < its.toArray.size := by rw [hsz]; exact (List.getElem?_eq_some_iff.mp h1).1
                      have elo : (lo.toNat : Int) = lo := Int.toNat_of_nonneg hlo
                      have mt := RRX.tuple_indexFrom a its.toArray n dd sls uy (fun u => PyData.eqv (SeqAt.readOf s.heap u) d0) lo.toNat tt j hj hlj (by
                        show PyData.eqv (SeqAt.readOf s.heap its.toArray[j]) d0 = true
                        rw [read_at h4 hpl j hj h1]
                        exact h2) (fun m hm hlm hmj => by
                        have hmz : m < zs.length := by omega
                        show PyData.eqv (SeqAt.readOf s.heap its.toArray[m]) d0 = false
                        rw [read_at h4 hpl m hm (List.getElem?_eq_getElem hmz)]
                        exact h3 m _ (Nat.zero_le _) hlm hmj (List.getElem?_eq_getElem hmz))
                      rw [elo] at mt
                      refine call_meets PySem.F.slot_tuple_index ⟨_, ho, rfl⟩ PySem.F.entry_tuple_index (PySem.F.args_tuple_index_3 _ _ _) mt ⟨ho, body y d0 uy f1 ry hz, ?_⟩
                      exact ⟨.int (j : Nat), H, I.tok _, ⟨_, rfl⟩, q.here (.int _)⟩
                  · cases e
                | _ => cases e
theorem mt_lstIndex (hu : X.A.units + 64 < cLine) : MtR X "list.index" (rMd X.K false .index) := by
  intro pins s σ H x xs v us Q I rx rxs h
  obtain ⟨M, o, as, d, l, fo, fa, e, q, zs, ez⟩ := h
  simp only [Bool.false_eq_true, if_false] at ez
  subst ez
  obtain ⟨a, ws, rfl, sq, fw⟩ := fo.list
  cases rx
  obtain ⟨its, rv, ⟨⟨cls, dd, data, sls⟩, n, ho, hc, hdn, hd⟩, hlen⟩ := I.list sq
  simp only at hc hd
  subst hc hd
  obtain ⟨ra, h4⟩ := Dp.readsAll I zs ws its fw.dp rv
  have hpl := fw.plain
  have hdz := (depthAll_le zs).2
  have hsz : its.toArray.size = zs.length := by rw [List.size_toArray, ← rv.length, fw.length]
  cases as with
  | nil => cases e
  | cons d0 as =>
    cases fa with
    | @cons y ys _ _ f1 f2 =>
      cases rxs with
      | @cons _ uy _ uys ry rys =>
        cases as with
        | cons d1 as => cases d1 <;> cases as <;> cases e
        | nil =>
          cases f2
          cases rys
          simp only [meD] at e
          split at e
          · rename_i hz
            simp only [Bool.and_eq_true, decide_eq_true_eq] at hz
            obtain ⟨hz, hll⟩ := hz
            cases ef : findD d0 zs 0 0 with
            | none => rw [ef] at e; cases e
            | some j =>
              rw [ef] at e
              cases e
              obtain ⟨_, _, ⟨z, h1, h2⟩, h3⟩ := findD_ok ef
              have hj : j < its.toArray.size := by rw [hsz]; exact (List.getElem?_eq_some_iff.mp h1).1
              have hl2 := lim_eq
              have hl3 := sizeLine_eq
              obtain ⟨bs, r1⟩ := Dp.reads I d0 y uy f1.dp ry
              refine call_meets PySem.F.slot_list_index ⟨_, ho, rfl⟩ PySem.F.entry_list_index (PySem.F.args_list_index_2 _ _) (SeqAt.list_indexAt a its.toArray n dd sls uy (fun u => PyData.eqv (SeqAt.readOf s.heap u) d0) j hj (by omega) ?_ ?_) ⟨ho, SeqAt.items_plain (show ReadsAll s.heap its.toArray.toList zs ra from h4) r1 hpl f1.plain (min_dep hu hz hdz), ?_⟩
              · show PyData.eqv (SeqAt.readOf s.heap its.toArray[j]) d0 = true
                rw [read_at h4 hpl j hj h1]
                exact h2
              · intro m hm hmj
                have hmz : m < zs.length := by omega
                show PyData.eqv (SeqAt.readOf s.heap its.toArray[m]) d0 = false
                rw [read_at h4 hpl m hm (List.getElem?_eq_getElem hmz)]
                exact h3 m _ (Nat.zero_le _) (Nat.zero_le _) hmj (List.getElem?_eq_getElem hmz)
              · exact ⟨.int (j : Nat), H, I.tok _, ⟨_, rfl⟩, q.here (.int _)⟩
          · cases e
/-! ### o.index(e, ..), o data -/
def isCall0 : Expr → Bool
  | .Call (.Name _ _) [] [] _ => true
  | _ => false
theorem base_plain {o : Expr} {nm : Str} {env : PySem.Env} (h : isCall0 o = false) : attributeBase o nm env (eval o env) = eval o env := by
  unfold attributeBase
  split
  · cases h
  · rfl
theorem few12 {e : Expr} {es : List Expr} (hs : noSt (e :: es) = true) (hl : es.length ≤ 3) (cpos : Pos) (env : PySem.Env) : ((backTo cpos (starEach (e :: es) env)).all (fun x => !x.1) && (backToKw cpos (keywordEach [] env)).all (fun x => x.1.isSome) && decide ((e :: es).length + ([] : List Keyword).length + (if ([] : List Keyword).isEmpty then 0 else 1) < 30)) = true := by
  have h1 : ∀ (l : List Expr), noSt l = true → (backTo cpos (starEach l env)).all (fun x => !x.1) = true := fun l h => by
    rw [noStar h]
    unfold backTo
    simp [List.all_map]
  rw [h1 _ hs, Bool.true_and]
  have h2 : (backToKw cpos (keywordEach [] env)).all (fun x => x.1.isSome) = true := by rfl
  rw [h2, Bool.true_and]
  simp only [List.length_cons, List.length_nil, List.isEmpty_nil, if_true]
  exact decide_eq_true (by omega)
/-- a method of a tuple that has no dict of its own -/
def tBMT (r : V → List V → Hp → VK → Prop) (to : TE) (t : TA) : TE := fun σ H Q => to σ H fun x H1 => (∃ a o xs, x = .ref a ∧ H1 a = some (.frz o (.tup xs)) ∧ o.dict = none) ∧ t σ H1 fun xs H2 => r x xs H2 Q
theorem pe_bmT {o e : Expr} {es : List Expr} {to : TE} {t : TA} {name : Str} {apos cpos : Pos} {id : String} {r : V → List V → Hp → VK → Prop} (slot : Slot "tuple" name id) (hty : typeOf (.builtin id) = pure (.type "method_descriptor")) (hm : MtR X id r) (ho : PE X o to) (ha : PA X (e :: es) t)
    (hbase : attributeBase o name X.env (eval o X.env) = eval o X.env) (hs : noSt (e :: es) = true) (hfl : es.length ≤ 3) (hline : (apos.endLine == cpos.line) = true) :
    PE X (.Call (.Attribute o name apos) (e :: es) [] cpos) (tBMT r to t) := by
  refine ⟨fun pins s σ H Q I h => ?_⟩
  refine wpAny_Call_method_late hbase (few12 hs hfl cpos X.env) hline rfl (thn (ho.run pins s σ H _ I h) fun v s1 ⟨x, H1, I1, r1, ⟨a, ob, xs, ex, hx, hd⟩, q1⟩ => ?_)
  subst ex
  cases r1
  obtain ⟨g1, _, its, rv, it⟩ := (show ObjOk X.prog X.w H1 s1.heap a (.frz ob (.tup xs)) from I1.hok a _ hx)
  refine ⟨"tuple", id, PySem.F.plainAttrs_tuple, slot, hty, it.typeIs, fun b eb => ?_, ?_⟩
  · cases eb
    exact ⟨ob, g1, hd⟩
  have hA := ha.run cpos pins s1 σ H1 _ I1 q1
  rw [star_cons (noSt_tail hs).1 es X.env] at hA ⊢
  refine Calls.callWith_builtin (by show (false || (backTo cpos (starEach es X.env)).any (·.1)) = false; rw [hpl_of (noSt_tail hs).2 X.env cpos] <;> rfl) (Calls.evalArgs_plain ?_)
  exact thn hA fun us s2 ⟨vs, H2, I2, r2, q2⟩ => hm pins s2 σ H2 (.ref a) vs (.ref a) us Q I2 rfl r2 q2
theorem isSeq_list {α : List Addr} {h : IH} {H : Hp} {x : Val} {v : V} (r : HR c α h H) (z : RV c (liv α h) α H x v) (e : isSeq x h = true) (nt : ∀ xs, x ≠ .d (.tuple xs)) : tyV c.K "list" v H := by
  cases x with
  | d x =>
    cases x with
    | tuple xs => exact absurd rfl (nt xs)
    | list xs =>
      obtain ⟨a, ws, rfl, sq, _⟩ := FT.list (.inl z)
      exact .inl ⟨rfl, ws, sq⟩
    | _ => cases e
  | ref n =>
    simp only [isSeq] at e
    split at e
    · rename_i xs hx
      obtain ⟨a, e1, rfl⟩ := z
      obtain ⟨a', ws, q1, q2, _⟩ := r.cell n xs hx
      rw [e1] at q1
      cases q1
      exact .inl ⟨rfl, ws, SqL.of q2⟩
    · cases e
  | _ => cases e
theorem dat_seq {x : Val} {h h2 : IH} {d : D} (e : isSeq x h = true) (ed : dat x h2 = some d) (nt : ∀ xs, x ≠ .d (.tuple xs)) : ∃ zs, d = .list zs := by
  cases x with
  | d x =>
    cases x with
    | tuple xs => exact absurd rfl (nt xs)
    | list xs => cases ed; exact ⟨_, rfl⟩
    | _ => cases e
  | ref n =>
    simp only [dat] at ed
    split at ed
    · cases ed
      exact ⟨_, rfl⟩
    · cases ed
  | _ => cases e
theorem paired_ft {M : Addr → Prop} {H : Hp} : ∀ {ds : List D} {vs : List V}, FDs c.K M H vs ds → Paired (FT c.K M H) vs ds
  | [], _, h => by cases h; exact .nil
  | _ :: _, _, h => by
    cases h with
    | cons a b => exact .cons (.inl a) (paired_ft b)
theorem SE.md (G : GX c tx C k S X W) {o e : Expr} {es : List Expr} {io : IE} {ies : List IE} {m : Me} {nm : Str} {apos cpos : Pos} {il it : String}
    (sl : Slot "list" nm il) (tl : typeOf (.builtin il) = pure (.type "method_descriptor")) (ml : MtR X il (rMd X.K false m)) (st : Slot "tuple" nm it) (tt : typeOf (.builtin it) = pure (.type "method_descriptor")) (mt : MtR X it (rMd X.K true m))
    (ho : SE c C X W o io) (he : SA c C X W (e :: es) ies) (hb : isCall0 o = false) (hs : noSt (e :: es) = true) (hf : es.length ≤ 3) (hl : (apos.endLine == cpos.line) = true) : SE c C X W (.Call (.Attribute o nm apos) (e :: es) [] cpos) (.md m io ies) := by
  obtain ⟨to, po, qo⟩ := ho
  obtain ⟨t, pa, qa⟩ := he
  refine ⟨_, pe_or (pe_bm PySem.F.plainAttrs_list sl tl ml po pa (base_plain hb) (few12 hs hf cpos X.env) hl (star_cons (noSt_tail hs).1 es X.env) (hpl_of (noSt_tail hs).2 X.env cpos)) (pe_bmT st tt mt po pa (base_plain hb) hs hf hl), fun α env h σ H Q r s p => ?_⟩
  rw [ev] at p
  -- what follows the object
  have rest : ∀ {x : Val} {v : V} {α1 : List Addr} {h1 : IH} {H1 : Hp} (b : Bool), HR c α1 h1 H1 → Stp α h H α1 h1 H1 → RV c (liv α1 h1) α1 H1 x v → (∀ h2 d, dat x h2 = some d → ∃ zs, d = if b then .tuple zs else .list zs) →
      Post c (RV c) α1 h1 H1 ((evs C env ies h1).bind fun xs h2 => match dat x h2, dats xs h2 with
        | some d, some ds => ofO ((meD m d ds).map .d) h2
        | _, _ => .stuck) Q (WE W σ) → t σ H1 fun xs H2 => rMd X.K b m v xs H2 Q := fun {x v α1 h1 H1} b r1 s1 z1 hd p1 => by
    refine qa α1 env h1 σ H1 _ r1 (s.mono r s1) (Post.mono (Post.bind (R := RVs c) p1) fun vs H2 ⟨ys, h2, α2, r2, s2, z2, p2⟩ => ?_)
    have z1' := z1.mono r1 s2
    cases e1 : dat x h2 with
    | none => simp only [e1] at p2; exact p2.elim
    | some d =>
      cases e2 : dats ys h2 with
      | none => simp only [e1, e2] at p2; exact p2.elim
      | some ds =>
        simp only [e1, e2] at p2
        obtain ⟨dd, e3, q⟩ := Post.ofO_d r2 p2
        rw [G.K]
        exact ⟨liv α2 h2, d, ds, dd, r2.lst, dat_v r2 z1' e1, paired_ft (z2.dats e2), e3, q, hd _ _ e1⟩
  cases hev : ev C env io h with
  | exc x h1 =>
    rw [hev] at p
    refine .inl (qo α env h σ H _ r s ?_)
    rw [hev]
    exact p
  | stuck => rw [hev] at p; exact p.elim
  | ok x h1 =>
    rw [hev] at p
    simp only [bind_ok] at p
    cases hq : isSeq x h1 with
    | false => rw [hq] at p; exact p.elim
    | true =>
      rw [hq, if_pos rfl] at p
      by_cases hx : ∃ xs, x = .d (.tuple xs)
      · obtain ⟨xs, rfl⟩ := hx
        refine .inr (qo α env h σ H _ r s ?_)
        rw [hev]
        intro v' α' H' r' s' z'
        refine ⟨?_, rest true r' s' z' (fun h2 d ed => ?_) (Post.from p s')⟩
        · obtain ⟨a, vs, o', e1, e2, e3, _⟩ := FT.tupleN (.inl z')
          exact ⟨a, o', vs, e1, e2, e3⟩
        · cases ed
          exact ⟨xs, rfl⟩
      · have nt : ∀ xs, x ≠ .d (.tuple xs) := fun xs z => hx ⟨xs, z⟩
        refine .inl (qo α env h σ H _ r s ?_)
        rw [hev]
        intro v' α' H' r' s' z'
        refine ⟨by rw [G.K]; exact isSeq_list r' z' hq nt, rest false r' s' z' (fun h2 d ed => ?_) (Post.from p s')⟩
        obtain ⟨zs, e⟩ := dat_seq hq ed nt
        exact ⟨zs, e⟩
theorem SE.index (G : GX c tx C k S X W) {o e : Expr} {es : List Expr} {io : IE} {ies : List IE} {apos cpos : Pos} (ho : SE c C X W o io) (he : SA c C X W (e :: es) ies) (hb : isCall0 o = false) (hs : noSt (e :: es) = true) (hf : es.length ≤ 3) (hl : (apos.endLine == cpos.line) = true) : SE c C X W (.Call (.Attribute o "index" apos) (e :: es) [] cpos) (.md .index io ies) :=
  SE.md G PySem.F.slot_list_index PySem.F.type_list_index (mt_lstIndex G.un) PySem.F.slot_tuple_index PySem.F.type_tuple_index (mt_tupIndex G.un) ho he hb hs hf hl
end
end RR

-- RRR
set_option maxHeartbeats 8000000 in
/-! How many rows are apart: len(set(rows)), the rows in a tuple. -/
namespace RR
open PySem PySem.Spec PyProof.Rows L2
section
variable {P : Program} {w : World} {A : Around} {E : Value → Shared → Prop} {s : Shared}
/-- a set that is new -/
abbrev newS (w : World) : Obj := { cls := .type "set", dict := none, data := .set #[] 0 (.fresh 0 0 (!w.params.followText "set-order")) }
abbrev sh1 (w : World) (s : Shared) : Shared := { s with heap := s.heap.push (newS w) }
theorem not_yet {h : Heap} {b : Addr} (hb : h.objs.size ≤ b) : h.get? b = none := by
  cases q : h.get? b with
  | none => rfl
  | some o => exact absurd (Nat.lt_of_lt_of_le (Heap.lt_size q) hb) (Nat.lt_irrefl _)
theorem rows_at {its : Array Value} {ks : List (Addr × List Int)} (e : its.toList = ks.map fun p => Value.ref p.1) {i : Nat} {v : Value} (hv : its[i]? = some v) : ∃ p, ks[i]? = some p ∧ v = .ref p.1 := by
  have z : (ks.map fun p => Value.ref p.1)[i]? = some v := by
    rw [← e, Array.getElem?_toList, hv]
  rw [List.getElem?_map] at z
  obtain ⟨p, hp, rfl⟩ := Option.map_eq_some_iff.mp z
  exact ⟨p, hp, rfl⟩
/-- what set(t) leaves -/
def Left (P : Program) (w : World) (s : Shared) (ks : List (Addr × List Int)) (s2 : Shared) : Prop := ∃ g tk L es ep t, s2 = { s with heap := g, toks := tk } ∧ SetTR P w g s.heap.objs.size L es ep t ∧ Got ks ks.length L ∧ ∀ b o, s.heap.get? b = some o → g.get? b = some o
theorem set_rows {t0 : Addr} {its : Array Value} (ks : List (Addr × List Int)) {Q : Value → Shared → Prop} (no : A.handled = none) (ht : s.heap.IsTuple t0 its) (e : its.toList = ks.map fun p => Value.ref p.1)
    (tk : ∀ p ∈ ks, IsT P w s.heap p.2 p.1) (few : ks.length < 64) (un : A.units + 3 < cLine) (q : ∀ s2, Left P w s ks s2 → Q (.ref s.heap.objs.size) s2) : wpAny (model P w) A (call (.type "set") [.ref t0]) Q E s := by
  have sz : its.size = ks.length := by
    rw [← Array.length_toList, e, List.length_map]
  obtain ⟨mc, mt, mro⟩ := F.called_set.mro
  have m1 := F.called_set.made
  have m2 := F.called_set.sub
  have m3 := F.called_set.notType
  have m4 := F.called_set.canCreate
  have m5 := F.typeCall_set_1 (.ref t0)
  refine wpAny_call (codeAny_of_tree ?_)
  show wpAny _ _ (callAny (.type "set") _) _ _ _
  refine wpAny_pure ⟨Code.quiet_builtin _ (by decide +kernel), codeAny_builtin F.entry_type_call ?_⟩
  rw [Around.under_plain (weight_type_call_type "set" [.ref t0] []) rfl]
  repeat (any_goals (first | assumption | wp_step))
  refine codeAny_mono (code_set_led1 (.ref t0) (E := E) (Q₁ := fun x y => x = .ref s.heap.objs.size ∧ y = sh1 w s) ⟨rfl, rfl⟩) fun o y z => ?_
  cases o with
  | error _ => exact z
  | ok fl =>
    cases fl with
    | ret x =>
      obtain ⟨rfl, rfl⟩ := z
      have at0 : (s.heap.push (newS w)).get? s.heap.objs.size = some (newS w) := Heap.get?_push_size _ rfl
      have ty0 : Shared.TypeIs (sh1 w s) (.ref s.heap.objs.size) "set" := ⟨_, at0, rfl⟩
      have n1 := F.called_set.init.lookup
      have n2 := F.called_set.init.bind (.ref s.heap.objs.size)
      repeat (any_goals (first | assumption | wp_step))
      refine codeAny_mono (codeAny_call_builtin (R := wants (fun r y => r = .none ∧ Left P w s ks y) E) F.called_set.init.plain F.entry_set_init (check_set_init_1 ty0 ?_)) fun o y z => ?_
      · obtain ⟨⟨k1, k2, k3, k4⟩, ho, hc, nn, hd⟩ := ht
        simp only at hc hd
        subst hc hd
        have at1 : (s.heap.push (newS w)).get? t0 = some { cls := .type "tuple", dict := k2, data := .seq its nn, slots := k4 } := Heap.get?_push_of_some _ ho
        have b1 := F.sub_tuple_set
        have b2 := F.sub_tuple_frozenset
        have b3 : (Value.type "tuple" == Value.type "dict") = false := by decide
        have tup1 : (s.heap.push (newS w)).IsTuple t0 its := ⟨_, at1, rfl, nn, rfl⟩
        unfold Builtin.«set.__init__» noKeywords Builtin.Frozenset.updateFrom
        generalize hit : pyIter = pit
        wp_walk
        subst hit
        refine wpAny_pyIter_tuple tup1 (wpAny_bind (wpAny_runValue ?_))
        have lt0 : t0 < s.heap.objs.size := Heap.lt_size ho
        have no3 : A.in1.in1.in1.handled = none := by simp [no]
        have s1 : (s.heap.push (newS w)).objs.size = s.heap.objs.size + 1 := Heap.size_push ..
        have far : t0 ≠ (s.heap.push (newS w)).objs.size := by
          rw [s1]
          exact Nat.ne_of_lt (Nat.lt_succ_of_lt lt0)
        have out : s.heap.objs.size ∉ [(s.heap.push (newS w)).objs.size, t0] := by
          rw [s1]
          intro z
          rcases List.mem_cons.mp z with z | z
          · exact absurd z (Nat.ne_of_lt (Nat.lt_succ_self _))
          · exact absurd (List.mem_singleton.mp z) (Nat.ne_of_gt lt0)
        refine set_update_tups ((Walks.tuple no3 _ t0 far its).toS) s.heap.objs.size out ks sz few (fun i v hv => rows_at e hv) s.heap tk (not_yet (Nat.le_refl _)) (fun b hb => not_yet (by rw [List.mem_singleton.mp hb, s1]; exact Nat.le_succ _)) un
          (its.size - 0) 0 _ (by omega) (Nat.zero_le _) ⟨⟨_, Heap.get?_push_size _ rfl, rfl, rfl⟩, tup1.push _⟩ (fun b o z => Heap.get?_push_of_some _ (Heap.get?_push_of_some _ z)) ⟨[], #[], 0, _, setTR_fresh (Heap.get?_push_of_some _ at0), Got.zero ks⟩ ?_
        intro y L es ep t mv str got kp
        obtain ⟨g, g1, g2, tk', g3⟩ := y
        obtain rfl : g1 = s.gens := mv.gens
        obtain rfl : g2 = s.drawn := mv.drawn
        obtain rfl : g3 = s.os := mv.os
        rw [sz] at got
        show wpAny _ _ _ _ _ _
        refine wpAny_pure ?_
        show wpAny _ _ (ret Value.none) _ _ _
        exact wpAny_pure ⟨rfl, g, tk', L, es, ep, t, rfl, str, got, kp⟩
      · cases o with
        | error _ => exact z
        | ok fl =>
          cases fl with
          | ret r =>
            obtain ⟨rfl, lf⟩ := z
            obtain ⟨g, tk', L, es, ep, t, rfl, rest⟩ := id lf
            repeat (any_goals (first | assumption | wp_step))
            exact q _ lf
          | _ => exact z.elim
    | _ => exact z.elim
end
section
variable {X : Cx}
def rSetRows (K : PySem.W.Frag) (P : Program) (w : World) : List V → Hp → VK → Prop := fun xs H Q => ∃ (t : Addr) (ks : List (Addr × List Int)), xs = [V.ref t] ∧ SqT K H t (ks.map fun p => V.ref p.1) ∧ (∀ p ∈ ks, SqT K H p.1 (p.2.map V.int)) ∧ ks.length < 60 ∧
  ∀ a L, H a = none → (∀ p ∈ L, p ∈ ks) → (∀ p ∈ ks, p.2 ∈ L.map (·.2)) → Q (.ref a) (upd H a (SetTO P w a L))
theorem cr_setRows (cm : X.calm = true) (un : X.A.units + 64 < cLine) : CallR X (.type "set") (rSetRows X.K X.prog X.w) := by
  intro pins s σ H xs us Q I r ⟨t, ks, e, st, sk, few, q⟩
  subst e
  rw [Vals.ref1 r]
  obtain ⟨its, rv, pl, _⟩ := I.tuple st
  refine set_rows (P := X.prog) (w := X.w) ks (I.ok.hd cm) pl (by simpa using refs_of_vals rv) (fun p hp => I.isT (sk p hp)) (by omega) (by omega) fun s2 ⟨g, tk, L, es, ep, tb, e2, sr, got, kp⟩ => ?_
  subst e2
  exact ⟨.ref _, upd H s.heap.objs.size (SetTO X.prog X.w s.heap.objs.size L), I.laid (t' := tk) kp (Nat.le_refl _) (setTO_new sr.t0), rfl, q _ L (I.hok.fresh (Nat.le_refl _)) (fun p hp => List.mem_of_mem_take (got.sub p hp)) fun p hp => got.all p (by rw [List.take_length]; exact hp)⟩
def rLenRows (P : Program) (w : World) : List V → Hp → VK → Prop := fun xs H Q => ∃ (a : Addr) (L : List (Addr × List Int)), xs = [V.ref a] ∧ H a = some (SetTO P w a L) ∧ ((L.map (·.2)).Nodup → Q (.int L.length) H)
theorem cr_lenRows : CallR X (.builtin "len") (rLenRows X.prog X.w) := by
  intro pins s σ H xs us Q I r ⟨a, L, e, ha, q⟩
  subst e
  rw [Vals.ref1 r]
  have z : SetT0 X.prog X.w s.heap a L := (I.hok a _ ha).1
  obtain ⟨es, ep, t, ⟨o, ho, hx, hd⟩, rows, tab, nd, pln, led, room, few⟩ := z.ex
  have sz : es.size = L.length := by
    rw [← Array.length_toList, rows, L2.rowsOf, List.length_map]
  have fit : t.fits es.size = true := by
    have p1 := tab.sz
    have p2 := tab.dm
    rw [List.length_map] at p1
    unfold SetTable.fits SetTable.fill
    rw [p2, Bool.and_eq_true]
    refine ⟨beq_iff_eq.mpr (p1.trans sz.symm), decide_eq_true ?_⟩
    show t.place.size + 0 ≤ t.mask
    omega
  exact call_len_set ho hx hd fit (by rw [sz]; omega) ⟨.int L.length, H, I.tok _, ⟨_, by rw [sz]⟩, q nd⟩
end
section
theorem uniqD_mem (x : List Int) : ∀ L : List (List Int), x ∈ uniqD L ↔ x ∈ L
  | [] => by simp [uniqD]
  | y :: r => by
    rw [uniqD]
    split
    · rename_i h
      rw [uniqD_mem x r]
      constructor
      · exact fun z => List.mem_cons_of_mem _ z
      · intro z
        rcases List.mem_cons.mp z with rfl | z
        · exact h
        · exact z
    · rw [List.mem_cons, List.mem_cons, uniqD_mem x r]
theorem uniqD_nodup : ∀ L : List (List Int), (uniqD L).Nodup
  | [] => List.nodup_nil
  | y :: r => by
    rw [uniqD]
    split
    · exact uniqD_nodup r
    · rename_i h
      exact List.nodup_cons.mpr ⟨fun z => h ((uniqD_mem y r).mp z), uniqD_nodup r⟩
theorem uniqD_len {L rs : List (List Int)} (nd : L.Nodup) (h1 : ∀ x ∈ L, x ∈ rs) (h2 : ∀ x ∈ rs, x ∈ L) : L.length = (uniqD rs).length :=
  ((List.perm_ext_iff_of_nodup nd (uniqD_nodup rs)).mpr fun x => by
    rw [uniqD_mem]
    exact ⟨h1 x, h2 x⟩).length_eq
end
section
variable {c : Cs} {tx : Text} {C : Sem} {k : Nat} {S : SC} {X : Cx} {W : WX}
theorem lv_grow {M : Addr → Prop} {H H' : Hp} (l : Lv M H) (e : ∀ b o, H b = some o → H' b = some o) : Lv M H' := fun a m => by
  obtain ⟨o, ho, mo⟩ := l a m
  exact ⟨o, e a o ho, mo⟩
theorem intsOf_back (ns : List Int) : intsOf (ns.map PyData.int) = some ns := by
  induction ns with
  | nil => rfl
  | cons x r ih => simp [intsOf, ih]
theorem boot_len2 : bootBuiltins "len" = some (.builtin "len") := by decide +kernel
theorem boot_set2 : bootBuiltins "set" = some (.type "set") := by decide +kernel
theorem SE.lset (G : GX c tx C k S X W) {e : Expr} {ie : IE} {p p2 q pos : Pos} (hx : ("len" : Str) ∈ tx.free) (hgl : S.sc.names.lookup ("len" : Str) = some .globalImplicit) (hx2 : ("set" : Str) ∈ tx.free) (hgl2 : S.sc.names.lookup ("set" : Str) = some .globalImplicit) (hs : isStar e = false) (ha : SE c C X W e ie) :
    SE c C X W (.Call (.Name "len" p) [.Call (.Name "set" p2) [e] [] q] [] pos) (.lset ie) := by
  obtain ⟨t, pa, qa⟩ := SA.cons ha SA.nil hs
  refine ⟨_, pe_callB cr_lenRows (G.gl hgl) (G.free _ hx) boot_len2 (pa_cons (pe_callTy (cr_setRows G.calm G.un) (G.gl hgl2) (G.free _ hx2) boot_set2 pa (by decide) (by decide) (star_cons hs [] X.env) rfl) pa_nil), fun α env h σ H Q r s p => ?_⟩
  rw [ev] at p
  have p' : Post c (RV c) α h H ((evs C env [ie] h).bind fun x h1 => match x with
    | [x] => (match dat x h1 with
      | some d => ofO ((lsetD d).map .d) h1
      | Option.none => .stuck)
    | _ => .stuck) Q (WE W σ) := by
    have e1 : evs C env [ie] h = (ev C env ie h).bind fun x h1 => .ok [x] h1 := by
      rw [evs]
      refine congrArg _ (funext fun x => funext fun h1 => ?_)
      rw [evs]
      rfl
    rw [e1, res_bind_assoc]
    exact p
  refine qa α env h σ H _ r s (Post.mono (Post.bind (R := RVs c) p') fun v1 H1 ⟨x, h1, α1, r1, s1, z1, p1⟩ => ?_)
  cases z1 with
  | nil => exact p1.elim
  | @cons x1 v1' xs vs zx zs =>
    cases zs with
    | cons _ _ => exact p1.elim
    | nil =>
      cases hd : dat x1 h1 with
      | none => simp only [hd] at p1; exact p1.elim
      | some d =>
        simp only [hd] at p1
        obtain ⟨dd, e2, q⟩ := Post.ofO_d r1 p1
        have ft := dat_v r1 zx hd
        unfold lsetD at e2
        split at e2
        · rename_i ds
          split at e2
          · rename_i rs hr
            split at e2
            · rename_i few
              cases e2
              obtain ⟨a, ws, rfl, st, fd⟩ := ft.tuple
              obtain ⟨ks, rfl, rfl, sk⟩ := rows_fd fd hr
              rw [List.length_map] at few
              refine ⟨a, ks, rfl, by rw [G.K]; exact st, fun p hp => by rw [G.K]; exact (sk p hp).1, few, fun b L nb sub all => ⟨b, L, rfl, by simp [upd], fun nd => ?_⟩⟩
              have el := uniqD_len (rs := ks.map (·.2)) nd (fun x hx => by
                obtain ⟨p, hp, rfl⟩ := List.mem_map.mp hx
                exact List.mem_map.mpr ⟨p, sub p hp, rfl⟩) fun x hx => by
                obtain ⟨p, hp, rfl⟩ := List.mem_map.mp hx
                exact all p hp
              rw [List.length_map] at el
              rw [el]
              refine q _ _ (fun b' o hb => ?_) (.int _)
              by_cases hbb : b' = b
              · rw [hbb, nb] at hb
                cases hb
              · simp only [upd, if_neg hbb]
                exact hb
            · cases e2
          · cases e2
        · cases e2
theorem boot_sorted2 : bootBuiltins "sorted" = some (.builtin "sorted") := by decide +kernel
theorem SE.sset (G : GX c tx C k S X W) {e : Expr} {ie : IE} {p p2 q pos : Pos} (hx : ("sorted" : Str) ∈ tx.free) (hgl : S.sc.names.lookup ("sorted" : Str) = some .globalImplicit) (hx2 : ("set" : Str) ∈ tx.free) (hgl2 : S.sc.names.lookup ("set" : Str) = some .globalImplicit) (hs : isStar e = false) (ha : SE c C X W e ie) :
    SE c C X W (.Call (.Name "sorted" p) [.Call (.Name "set" p2) [e] [] q] [] pos) (.sset ie) := by
  obtain ⟨t, pa, qa⟩ := SA.cons ha SA.nil hs
  refine ⟨_, pe_callB (cr_sortedT G.calm) (G.gl hgl) (G.free _ hx) boot_sorted2 (pa_cons (pe_callTy (cr_setRows G.calm G.un) (G.gl hgl2) (G.free _ hx2) boot_set2 pa (by decide) (by decide) (star_cons hs [] X.env) rfl) pa_nil), fun α env h σ H Q r s p => ?_⟩
  rw [ev] at p
  have p' : Post c (RV c) α h H ((evs C env [ie] h).bind fun x h1 => match x with
    | [x] => (match dat x h1 with
      | some d => ofO ((ssetD d).map .d) h1
      | Option.none => .stuck)
    | _ => .stuck) Q (WE W σ) := by
    have e1 : evs C env [ie] h = (ev C env ie h).bind fun x h1 => .ok [x] h1 := by
      rw [evs]
      refine congrArg _ (funext fun x => funext fun h1 => ?_)
      rw [evs]
      rfl
    rw [e1, res_bind_assoc]
    exact p
  refine qa α env h σ H _ r s (Post.mono (Post.bind (R := RVs c) p') fun v1 H1 ⟨x, h1, α1, r1, s1, z1, p1⟩ => ?_)
  cases z1 with
  | nil => exact p1.elim
  | @cons x1 v1' xs vs zx zs =>
    cases zs with
    | cons _ _ => exact p1.elim
    | nil =>
      cases hd : dat x1 h1 with
      | none => simp only [hd] at p1; exact p1.elim
      | some d =>
        simp only [hd] at p1
        obtain ⟨dd, e2, q⟩ := Post.ofO_d r1 p1
        have ft := dat_v r1 zx hd
        unfold ssetD at e2
        split at e2
        · rename_i ds
          split at e2
          · rename_i rs hr
            split at e2
            · rename_i hs
              cases e2
              obtain ⟨few, d0, d1, hrow⟩ := sortable_ok hs
              obtain ⟨a, ws, rfl, st, fd⟩ := ft.tuple
              obtain ⟨ks, rfl, rfl, sk⟩ := rows_fd fd hr
              rw [List.length_map] at few
              refine ⟨a, ks, rfl, by rw [G.K]; exact st, fun p hp => by rw [G.K]; exact (sk p hp).1, few, fun b L nb sub all => ?_⟩
              have grow : ∀ b' o, H1 b' = some o → upd H1 b (SetTO X.prog X.w b L) b' = some o := fun b' o hb => by
                by_cases hbb : b' = b
                · rw [hbb, nb] at hb
                  cases hb
                · simp only [upd, if_neg hbb]
                  exact hb
              have gk : Kp (liv α1 h1) (liv α1 h1) H1 (upd H1 b (SetTO X.prog X.w b L)) := Lv.kp (show Lv (liv α1 h1) H1 from r1.lst) grow
              have fdL : ∀ p ∈ L, FD c.K (liv α1 h1) (upd H1 b (SetTO X.prog X.w b L)) (.ref p.1) (rowD p.2) := fun p hp => FD.mono gk (sk p (sub p hp)).2
              have sqL : ∀ p ∈ L, SqT X.K (upd H1 b (SetTO X.prog X.w b L)) p.1 (p.2.map V.int) := fun p hp => by
                rw [G.K]
                obtain ⟨a', ws', e', s', q'⟩ := FT.tuple (show FT c.K (liv α1 h1) (upd H1 b (SetTO X.prog X.w b L)) (.ref p.1) (.tuple (p.2.map .int)) from .inl (fdL p hp))
                cases e'
                have ez := FDs.ints q' (intsOf_back p.2)
                rw [ez] at s'
                exact s'
              refine ⟨b, L, d0, 1000, rfl, by simp [upd], sqL, d1, fun p hp => hrow p.2 (List.mem_map.mpr ⟨p, sub p hp, rfl⟩), fun L2 b2 pm nd few2 pw nb2 => ?_⟩
              have in2 : ∀ p ∈ L2, p ∈ L := fun p hp => pm.mem_iff.mp hp
              have hu : ∀ r ∈ uniqD (ks.map (·.2)), r.length = d0 ∧ TS.Bd 1000 r := fun r hr => hrow r ((uniqD_mem r _).mp hr)
              have es : L2.map (·.2) = sortR (uniqD (ks.map (·.2))) := by
                refine sort_one hu ?_ (List.pairwise_map.mpr pw)
                refine (List.perm_ext_iff_of_nodup nd (uniqD_nodup _)).mpr fun x => ?_
                rw [uniqD_mem]
                constructor
                · intro hx
                  obtain ⟨p, hp, rfl⟩ := List.mem_map.mp hx
                  exact List.mem_map.mpr ⟨p, sub p (in2 p hp), rfl⟩
                · intro hx
                  obtain ⟨p, hp, rfl⟩ := List.mem_map.mp hx
                  obtain ⟨p', hp', e'⟩ := List.mem_map.mp (all p hp)
                  exact List.mem_map.mpr ⟨p', pm.mem_iff.mpr hp', e'⟩
              have fd2 := rows_back L2 fun p hp => fdL p (in2 p hp)
              rw [es] at fd2
              refine q _ _ (fun b' o hb => ?_) (fd_lst (lv_grow (show Lv (liv α1 h1) H1 from r1.lst) grow) nb2 fd2)
              have h2 := grow b' o hb
              by_cases hbb : b' = b2
              · rw [hbb, nb2] at h2
                cases h2
              · simp only [upd, if_neg hbb] at h2 ⊢
                exact h2
            · cases e2
          · cases e2
        · cases e2
end
end RR

-- RR14
set_option maxHeartbeats 4000000
/-! The text beside the program's: a check, and that it is sound. -/
namespace RR
open PySem PySem.Spec L2
def gOk (S : SC) (x : Str) : Bool := decide (S.sc.names.lookup x = some .globalImplicit)
def visB (S : SC) (x : Str) : Bool := decide (S.sc.names.lookup x = some .local) || decide (S.sc.names.lookup x = some .cell) || decide (S.sc.names.lookup x = some .free)
def ndb (x : Str) : Bool := !(x == ("__debug__" : Str))
def ndc (x : Str) : Bool := !(x == ("__classdict__" : Str))
def defOk (tx : Text) (S : SC) (g : Nat) (x : Str) : Bool := match tx.defs[g]? with
  | some d => decide (d.name = x) && gOk S x && ndb x
  | none => false
def frB (tx : Text) (S : SC) (x : Str) : Bool := decide (x ∈ tx.free) && gOk S x
def strip1 : Expr → Expr
  | .BoolOp _ [x] _ => x
  | e => e
def constOk (x : D) (k : Const) : Bool := match x, k with
  | .int i, .int j => decide (i = j)
  | .bool i, .bool j => decide (i = j)
  | .str i, .str j => decide (i = j)
  | .none, .none => true
  | _, _ => false
def ownOf (N : List Str) (is : List Nat) : List (Str × Nat) := is.map fun i => (N.getD i "", i)
theorem ownOf_map (N : List Str) (is : List Nat) : (ownOf N is).map (·.2) = is := by
  unfold ownOf
  rw [List.map_map]
  exact List.map_id _
def isSetE : Expr → Bool
  | .Set .. => true
  | _ => false
theorem fold_ok {e : Expr} (h : isSetE e = false) (env : PySem.Env) (x : Value) : foldedSetIterable e env x = pure x := by
  cases e <;> first | (cases h; done) | rfl
def mGs (S : SC) : List Nat → List Expr → Bool
  | [], [] => true
  | i :: is, e :: es => (match e with
    | .Name x _ => decide (S.N[i]? = some x) && locB S x
    | _ => false) && mGs S is es
  | _, _ => false
def mG (S : SC) (tg : Tg) (e : Expr) : Bool := match tg with
  | .one i => match e with
    | .Name x _ => decide (S.N[i]? = some x) && locB S x
    | _ => false
  | .tup is => match e with
    | .Tuple es _ _ => mGs S is es && noSt es && decide (is.length = es.length)
    | _ => false
def splitLast (es : List Expr) : Option (List Expr × Expr) := match es.getLast? with
  | some l => some (es.dropLast, l)
  | none => none
theorem splitLast_eq {es pre : List Expr} {l : Expr} (h : splitLast es = some (pre, l)) : es = pre ++ [l] := by
  unfold splitLast at h
  cases e : es.getLast? with
  | none => rw [e] at h; cases h
  | some a =>
    rw [e] at h
    cases h
    obtain ⟨ys, rfl⟩ := List.getLast?_eq_some_iff.mp e
    simp
def plainArgs : Arguments → Option (List Arg)
  | ⟨[], as, none, [], [], none, []⟩ => some as
  | _ => none
theorem plainArgs_eq {p : Arguments} {as : List Arg} (h : plainArgs p = some as) : p = ⟨[], as, none, [], [], none, []⟩ := by
  unfold plainArgs at h
  split at h
  · cases h; rfl
  · cases h
def lamScB (scope : Scope) (names ps : List Str) : Bool := decide (scope.kind = .function) && !scope.isCoroutine && !scope.isGenerator && (scope.names.all fun y => match y.2 with
    | .cell => false
    | .local => decide (y.1 ∈ ps)
    | .free => decide (y.1 ∈ names)
    | _ => true) && (ps.all fun x => decide (scope.names.lookup x = some .local)) && (names.all fun x => decide (scope.names.lookup x = some .free))
def capNames (S : SC) (cs : List Nat) : List Str := cs.map fun i => S.N.getD i ""
def capsB (S : SC) (scope : Scope) (cs : List Nat) : Bool := cs.all fun i => decide (S.N[i]? = some (S.N.getD i "")) && decide ((S.N.getD i "", NameKind.free) ∈ scope.names) && (decide (S.sc.names.lookup (S.N.getD i "") = some .cell) || decide (S.sc.names.lookup (S.N.getD i "") = some .free)) && decide (S.fs.names.lookup (S.N.getD i "") = some .cell)
def freeB (S : SC) (scope : Scope) (names : List Str) : Bool := scope.names.all fun y => !decide (y.2 = .free) || ((decide (S.sc.names.lookup y.1 = some .cell) || decide (S.sc.names.lookup y.1 = some .free)) && decide (y.1 ∈ names))
mutual
def mE (tx : Text) : Nat → SC → IE → Expr → Bool
  | 0, _, _, _ => false
  | n + 1, S, ie, e => match ie with
    | .nop => true
    | .c x => match e with
      | .Constant k _ _ => constOk x k
      | .Name y _ => match x with
        | .int i => decide ((y, i) ∈ tx.consts) && gOk S y && ndb y
        | _ => false
      | _ => false
    | .v i => match e with
      | .Name x _ => decide (S.N[i]? = some x) && visB S x && ndb x && ndc x
      | _ => false
    | .fn g => match e with
      | .Name x _ => defOk tx S g x
      | _ => false
    | .bin op a b => match e with
      | .BinOp ea op' eb _ => decide (op = op') && okBin op && mE tx n S a ea && mE tx n S b eb
      | _ => false
    | .neg a => match e with
      | .UnaryOp .USub ea _ => mE tx n S a ea
      | _ => false
    | .nt a => match e with
      | .UnaryOp .Not ea _ => mE tx n S a ea
      | _ => false
    | .cmp op a b => match e with
      | .Compare ea [op'] [eb] _ => decide (op = op') && okCmp op && !behindInMarks op eb && mE tx n S a ea && mE tx n S b eb
      | _ => false
    | .chain op op2 a b d => match e with
      | .Compare ea [op', op2'] [eb, ed] _ => decide (op = op') && decide (op2 = op2') && okCmp op && okCmp op2 && !lastMarks [op, op2] [eb, ed] && mE tx n S a ea && mE tx n S b eb && mE tx n S d ed
      | _ => false
    | .isN yes a => match e with
      | .Compare ea [.Is] [.Constant .none _ _] _ => yes && mE tx n S a ea
      | .Compare ea [.IsNot] [.Constant .none _ _] _ => !yes && mE tx n S a ea
      | _ => false
    | .and_ a b => match e with
      | .BoolOp .And (ea :: eb :: rest) pos => mE tx n S a ea && mE tx n S b (strip1 (.BoolOp .And (eb :: rest) pos))
      | _ => false
    | .or_ a b => match e with
      | .BoolOp .Or (ea :: eb :: rest) pos => mE tx n S a ea && mE tx n S b (strip1 (.BoolOp .Or (eb :: rest) pos))
      | _ => false
    | .ifx t a b => match e with
      | .IfExp et ea eb _ => mE tx n S t et && mE tx n S a ea && mE tx n S b eb
      | _ => false
    | .tup es => match e with
      | .Tuple ees _ _ => mEs tx n S es ees
      | _ => false
    | .lst es => match e with
      | .List ees _ => mEs tx n S es ees
      | _ => false
    | .ix a i => match e with
      | .Subscript ea ei _ => !isSlice ei && mE tx n S a ea && mE tx n S i ei
      | _ => false
    | .sl a lo hi => match e with
      | .Subscript ea (.Slice elo ehi none _) _ => mE tx n S a ea && mO tx n S lo elo && mO tx n S hi ehi
      | _ => false
    | .rev a => match e with
      | .Subscript ea (.Slice none none (some (.UnaryOp .USub (.Constant (.int 1) _ _) _)) _) _ => mE tx n S a ea
      | _ => false
    | .me m o es => match m, es, e with
      | .append, [ia], .Call (.Attribute (.Name x p1) nm apos) [ea] [] cpos => decide (nm = "append") && !isStar ea && (apos.endLine == cpos.line) && mE tx n S o (.Name x p1) && mE tx n S ia ea
      | _, _, _ => false
    | .call g es => match e with
      | .Call (.Name x _) ees [] _ => defOk tx S g x && noSt ees && mEs tx n S es ees
      | _ => false
    | .callD g es ks => match e with
      | .Call (.Name x _) (ee :: ees) [] _ => defOk tx S g x && noSt (ee :: ees) && mEs tx n S es (ee :: ees) && (match tx.defs[g]? with
        | some d => decide (ks.length ≤ d.dfl.length) && decide (ks = d.dfl.drop (d.dfl.length - ks.length))
        | none => false)
      | _ => false
    | .callK g perm es => match e with
      | .Call (.Name x _) [] kws _ => defOk tx S g x && (match kwNames kws with
        | some ks => decide ((g, ks, perm) ∈ tx.kws) && decide (perm.length = ks.length)
        | none => false) && mKs tx n S es kws
      | _ => false
    | .bi b es => match e with
      | .Call (.Name x _) (ee :: ees) [] _ => decide (biName b = some x) && frB tx S x && noSt (ee :: ees) && mEs tx n S es (ee :: ees)
      | .Call (.Name x _) [ee] [⟨some kw, .Constant .none _ _, _⟩] _ => decide (x = "min") && decide (kw = "default") && frB tx S "min" && !isStar ee && (match b, es with
        | .minD, [ie] => mE tx n S ie ee
        | _, _ => false)
      | _ => false
    | .tupR a => match e with
      | .Call (.Name x _) [.Call (.Name y _) [ee] [] _] [] _ => decide (x = "tuple") && decide (y = "range") && frB tx S "tuple" && frB tx S "range" && !isStar ee && mE tx n S a ee
      | _ => false
    | .lset a => match e with
      | .Call (.Name x _) [.Call (.Name y _) [ee] [] _] [] _ => decide (x = "len") && decide (y = "set") && frB tx S "len" && frB tx S "set" && !isStar ee && mE tx n S a ee
      | _ => false
    | .sset a => match e with
      | .Call (.Name x _) [.Call (.Name y _) [ee] [] _] [] _ => decide (x = "sorted") && decide (y = "set") && frB tx S "sorted" && frB tx S "set" && !isStar ee && mE tx n S a ee
      | _ => false
    | .isI t a => match e with
      | .Call (.Name x _) [ee, .Name y _] [] _ => decide (x = "isinstance") && frB tx S "isinstance" && decide (y = Str.ofString (tyN t)) && frB tx S (Str.ofString (tyN t)) && !isStar ee && mE tx n S a ee
      | _ => false
    | .lc k its tg cond elt => match e with
      | .ListComp eelt [⟨etg, eit, ifs, asy⟩] scope _ => decide (asy = 0) && blkC S.N S.sc scope (ownOf S.N (tgs tg)) && !isSetE eit && mI tx n S k its etg eit && mG (S.blk scope) tg etg && mTs tx n (S.blk scope) cond ifs && mE tx n (S.blk scope) elt eelt
      | _ => false
    | .lc2 k its tg k2 its2 tg2 cond elt => match e with
      | .ListComp eelt [⟨etg, eit, [], asy⟩, ⟨etg2, eit2, ifs, asy2⟩] scope _ => decide (asy = 0) && decide (asy2 = 0) && blkC S.N S.sc scope (ownOf S.N (tgs tg ++ tgs tg2)) && !isSetE eit && !isSetE eit2 && mI tx n S k its etg eit && mG (S.blk scope) tg etg && mI tx n (S.blk scope) k2 its2 etg2 eit2 && mG (S.blk scope) tg2 etg2 && mTs tx n (S.blk scope) cond ifs && mE tx n (S.blk scope) elt eelt
      | _ => false
    | .callV i es => match e with
      | .Call (.Name x _) ees [] _ => decide (S.N[i]? = some x) && visB S x && ndb x && ndc x && noSt ees && mEs tx n S es ees
      | _ => false
    | .callL g es l cs => match e with
      | .Call (.Name x _) ees [] _ => defOk tx S g x && S.q.isSome && (match splitLast ees with
        | some (pre, .Lambda params body scope _) => noSt pre && mEs tx n S es pre && capsB S scope cs && freeB S scope (capNames S cs) && mL tx n l params body scope (capNames S cs)
        | _ => false)
      | _ => false
    | .mut a => match a, e with
      | .lst es, .List ees _ => mEs tx n S es ees
      | .lc k its tg cond elt, .ListComp eelt [⟨etg, eit, ifs, asy⟩] scope _ => decide (asy = 0) && blkC S.N S.sc scope (ownOf S.N (tgs tg)) && !isSetE eit && mI tx n S k its etg eit && mG (S.blk scope) tg etg && mTs tx n (S.blk scope) cond ifs && mE tx n (S.blk scope) elt eelt
      | .bi .list [ia], .Call (.Name x _) [ea] [] _ => decide (x = "list") && frB tx S "list" && !isStar ea && mE tx n S ia ea
      | _, _ => false
    | .md m o es => match m, e with
      | .index, .Call (.Attribute eo nm apos) (ee :: ees) [] cpos => decide (nm = "index") && !isCall0 eo && noSt (ee :: ees) && decide (ees.length ≤ 3) && (apos.endLine == cpos.line) && mE tx n S o eo && mEs tx n S es (ee :: ees)
      | _, _ => false
    | _ => false
termination_by structural n => n
def mEs (tx : Text) : Nat → SC → List IE → List Expr → Bool
  | 0, _, _, _ => false
  | n + 1, S, ies, es => match ies, es with
    | [], [] => true
    | ie :: ies, e :: es => mE tx n S ie e && !isStar e && mEs tx n S ies es
    | _, _ => false
termination_by structural n => n
def mKs (tx : Text) : Nat → SC → List IE → List Keyword → Bool
  | 0, _, _, _ => false
  | n + 1, S, ies, es => match ies, es with
    | [], [] => true
    | ie :: ies, ⟨_, e, _⟩ :: es => mE tx n S ie e && mKs tx n S ies es
    | _, _ => false
termination_by structural n => n
def mO (tx : Text) : Nat → SC → IE → Option Expr → Bool
  | 0, _, _, _ => false
  | n + 1, S, ie, e => match e with
    | none => (match ie with | .nop => true | _ => false)
    | some e => !ie.isNop && mE tx n S ie e
termination_by structural n => n
def mTs (tx : Text) : Nat → SC → IE → List Expr → Bool
  | 0, _, _, _ => false
  | n + 1, S, ie, es => match es with
    | [] => (match ie with | .nop => true | _ => false)
    | [e] => !ie.isNop && mE tx n S ie e
    | _ => false
termination_by structural n => n
def mI (tx : Text) : Nat → SC → Ik → List IE → Expr → Expr → Bool
  | 0, _, _, _, _, _ => false
  | n + 1, S, k, its, etg, eit => match k with
    | .val => match its with
      | [ie] => mE tx n S ie eit
      | _ => false
    | .range1 => match eit with
      | .Call (.Name x _) [e] [] _ => decide (x = "range") && frB tx S "range" && !isStar e && mEs tx n S its [e]
      | _ => false
    | .range2 => match eit with
      | .Call (.Name x _) [e, e2] [] _ => decide (x = "range") && frB tx S "range" && !isStar e && !isStar e2 && mEs tx n S its [e, e2]
      | _ => false
    | .enum => match etg, eit with
      | .Tuple .., .Call (.Name x _) [e] [] _ => decide (x = "enumerate") && frB tx S "enumerate" && !isStar e && mEs tx n S its [e]
      | _, _ => false
    | .zip => match etg, eit with
      | .Tuple .., .Call (.Name x _) [e, e2] [] _ => decide (x = "zip") && frB tx S "zip" && !isStar e && !isStar e2 && mEs tx n S its [e, e2]
      | _, _ => false
    | .rev => false
    | .dkeys => false
termination_by structural n => n
def mL (tx : Text) : Nat → Nat → Arguments → Expr → Scope → List Str → Bool
  | 0, _, _, _, _, _ => false
  | n + 1, l, params, body, scope, names => match tx.lams[l]?, plainArgs params with
    | some ld, some as => decide (names.length = ld.caps) && decide (as.length = ld.n) && decide ((names ++ as.map (·.arg)).Nodup) && lamScB scope names (as.map (·.arg)) && mE tx n ⟨names ++ as.map (·.arg), scope, scope, none⟩ ld.body body
    | _, _ => false
termination_by structural n => n
end
section
variable {c : Cs} {tx : Text} {C : Sem} {k : Nat} {S : SC} {X : Cx} {W : WX}
theorem ndb_ok {x : Str} (h : ndb x = true) : (x == ("__debug__" : Str)) = false := by
  unfold ndb at h
  simpa using h
theorem ndc_ok {x : Str} (h : ndc x = true) : (x == ("__classdict__" : Str)) = false := by
  unfold ndc at h
  simpa using h
theorem gOk_ok {x : Str} (h : gOk S x = true) : S.sc.names.lookup x = some .globalImplicit := of_decide_eq_true h
theorem visB_ok {x : Str} (h : visB S x = true) : Vis S.sc x := by
  unfold visB at h
  simp only [Bool.or_eq_true, decide_eq_true_eq] at h
  rcases h with (h | h) | h
  · exact .inl h
  · exact .inr (.inl h)
  · exact .inr (.inr h)
theorem defOk_ok {g : Nat} {x : Str} (h : defOk tx S g x = true) : ∃ d, tx.defs[g]? = some d ∧ d.name = x ∧ S.sc.names.lookup d.name = some .globalImplicit ∧ (d.name == ("__debug__" : Str)) = false := by
  unfold defOk at h
  cases e : tx.defs[g]? with
  | none => rw [e] at h; cases h
  | some d =>
    rw [e] at h
    simp only [Bool.and_eq_true, decide_eq_true_eq] at h
    obtain ⟨⟨h1, h2⟩, h3⟩ := h
    subst h1
    exact ⟨d, rfl, rfl, gOk_ok h2, ndb_ok h3⟩
theorem frB_ok {x : Str} (h : frB tx S x = true) : x ∈ tx.free ∧ S.sc.names.lookup x = some .globalImplicit := by
  unfold frB at h
  simp only [Bool.and_eq_true, decide_eq_true_eq] at h
  exact ⟨h.1, gOk_ok h.2⟩
theorem mGs_ok (G : GX c tx C k S X W) : ∀ {is : List Nat} {es : List Expr}, mGs S is es = true → STgs c X es is
  | [], [], _ => STgs.nil
  | [], _ :: _, h => by simp [mGs] at h
  | _ :: _, [], h => by simp [mGs] at h
  | i :: is, e :: es, h => by
    simp only [mGs, Bool.and_eq_true] at h
    obtain ⟨h1, h2⟩ := h
    have ih := mGs_ok G h2
    cases e <;> first | (cases h1; done) | skip
    simp only [Bool.and_eq_true, decide_eq_true_eq] at h1
    exact STgs.cons G h1.1 h1.2 ih
theorem mG_ok (G : GX c tx C k S X W) {tg : Tg} {e : Expr} (h : mG S tg e = true) : STg c X e tg := by
  cases tg with
  | one i =>
    simp only [mG] at h
    cases e <;> first | (cases h; done) | skip
    simp only [Bool.and_eq_true, decide_eq_true_eq] at h
    exact STg.one G h.1 h.2
  | tup is =>
    simp only [mG] at h
    cases e <;> first | (cases h; done) | skip
    simp only [Bool.and_eq_true, decide_eq_true_eq] at h
    exact STg.tup G (mGs_ok G h.1.1) h.1.2 h.2
theorem ST.never {e : Expr} : ST c C X W e .nop := ⟨fun _ _ _ => False, ⟨fun _ _ _ _ _ _ h => h.elim⟩, fun α env h σ H Q r s p => by
  simp only [tst, ev] at p
  exact p.elim⟩
theorem SW.never {e : Expr} : SW c C X W e .nop := ⟨fun _ _ _ => False, ⟨fun _ _ _ _ _ _ _ h => h.elim⟩, fun α env h σ H Q r s p => by
  simp only [tst, ev] at p
  exact p.elim⟩
/-- an expression in all its uses -/
structure S3 (c : Cs) (C : Sem) (X : Cx) (W : WX) (e : Expr) (ie : IE) : Prop where
  v : SE c C X W e ie
  t : ST c C X W e ie
  w : ∀ op xs pos, e = .BoolOp op xs pos → SW c C X W e ie
theorem S3.plain (G : GX c tx C k S X W) {e : Expr} {ie : IE} (h : SE c C X W e ie) (hp : plainT e = true) : S3 c C X W e ie := ⟨h, ST.plain G h hp, fun op xs pos z => by subst z; cases hp⟩
theorem S3.never {e : Expr} : S3 c C X W e .nop := ⟨SE.never, ST.never, fun _ _ _ _ => SW.never⟩
theorem S3.of_strip {ie : IE} {op : BoolOp} {b : Expr} {rest : List Expr} {pos : Pos} (h : S3 c C X W (strip1 (.BoolOp op (b :: rest) pos)) ie) : SE c C X W (.BoolOp op (b :: rest) pos) ie ∧ SW c C X W (.BoolOp op (b :: rest) pos) ie := by
  cases rest with
  | nil =>
    have h' : S3 c C X W b ie := h
    refine ⟨SE.one h'.v, ?_⟩
    cases op with
    | And => exact SW.and1 h'.t
    | Or => exact SW.or1 h'.t
  | cons r rest =>
    have h' : S3 c C X W (.BoolOp op (b :: r :: rest) pos) ie := h
    exact ⟨h'.v, h'.w _ _ _ rfl⟩
theorem capsB_ok {scope : Scope} : ∀ {cs : List Nat}, capsB S scope cs = true → CapsAt S scope cs (capNames S cs)
  | [], _ => .nil
  | i :: cs, h => by
    have h' : ((decide (S.N[i]? = some (S.N.getD i "")) && decide ((S.N.getD i "", NameKind.free) ∈ scope.names) && (decide (S.sc.names.lookup (S.N.getD i "") = some .cell) || decide (S.sc.names.lookup (S.N.getD i "") = some .free)) && decide (S.fs.names.lookup (S.N.getD i "") = some .cell)) && capsB S scope cs) = true := h
    simp only [Bool.and_eq_true, Bool.or_eq_true, decide_eq_true_eq] at h'
    obtain ⟨⟨⟨⟨h1, h2⟩, h3⟩, h4⟩, h5⟩ := h'
    exact .cons ⟨h1, h2, h3, h4⟩ (capsB_ok h5)
theorem freeB_ok {scope : Scope} {names : List Str} (h : freeB S scope names = true) : (∀ y ∈ scope.names, y.2 = .free → S.sc.names.lookup y.1 = some .cell ∨ S.sc.names.lookup y.1 = some .free) ∧ ∀ y ∈ scope.names, y.2 = .free → y.1 ∈ names := by
  have q : ∀ y ∈ scope.names, y.2 = .free → (S.sc.names.lookup y.1 = some .cell ∨ S.sc.names.lookup y.1 = some .free) ∧ y.1 ∈ names := fun y hy e => by
    have z := List.all_eq_true.mp h y hy
    rw [e] at z
    simpa using z
  exact ⟨fun y hy e => (q y hy e).1, fun y hy e => (q y hy e).2⟩
/-- the lambdas' relation is the check's -/
def LamLink (c : Cs) (tx : Text) : Prop := ∀ n l params body scope names, mL tx n l params body scope names = true → c.lamP l params body scope names
end
end RR

-- RR15
set_option maxHeartbeats 8000000
/-! The check is sound: expressions. -/
namespace RR
open PySem PySem.Spec L2
structure Sn (c : Cs) (tx : Text) (C : Sem) (k n : Nat) : Prop where
  e : ∀ {S : SC} {X : Cx} {W : WX} {ie : IE} {e : Expr}, GX c tx C k S X W → mE tx n S ie e = true → S3 c C X W e ie
  es : ∀ {S : SC} {X : Cx} {W : WX} {ie : List IE} {e : List Expr}, GX c tx C k S X W → mEs tx n S ie e = true → SA c C X W e ie
  ks : ∀ {S : SC} {X : Cx} {W : WX} {ie : List IE} {e : List Keyword}, GX c tx C k S X W → mKs tx n S ie e = true → SK c C X W e ie
  o : ∀ {S : SC} {X : Cx} {W : WX} {ie : IE} {e : Option Expr}, GX c tx C k S X W → mO tx n S ie e = true → SO c C X W e ie
  ts : ∀ {S : SC} {X : Cx} {W : WX} {ie : IE} {e : List Expr}, GX c tx C k S X W → mTs tx n S ie e = true → STs c C X W e ie
  al : ∀ {S : SC} {X : Cx} {W : WX} {ie : List IE} {e : List Expr} {q : Str} {params : Arguments} {body : Expr} {scope : Scope} {lpos : Pos}, GX c tx C k S X W → mEs tx n S ie e = true → SAL c C X W q params body scope lpos [] [] → SAL c C X W q params body scope lpos e ie
  i : ∀ {S : SC} {X : Cx} {W : WX} {kk : Ik} {its : List IE} {tg e : Expr}, GX c tx C k S X W → mI tx n S kk its tg e = true → SI c C X W tg e kk its
section
variable {c : Cs} {tx : Text} {C : Sem} {k n : Nat} {S : SC} {X : Cx} {W : WX}
theorem nt_eq {b : Bool} (h : (!b) = true) : b = false := by cases b <;> first | rfl | cases h
theorem blk_ok (G : GX c tx C k S X W) {scope : Scope} {own : List (Str × Nat)} (h : blkC S.N S.sc scope own = true) : BlkOk X.N X.env.scope scope own := by
  rw [G.N, G.sc]
  exact blkOk_by h
theorem lcb (I : Sn c tx C k n) (G : GX c tx C k S X W) {scope : Scope} {own : List (Str × Nat)} {tg : Tg} {cond elt : IE} {etg eelt : Expr} {ifs : List Expr} (hk : blkC S.N S.sc scope own = true) (h1 : mG (S.blk scope) tg etg = true) (h2 : mTs tx n (S.blk scope) cond ifs = true) (h3 : mE tx n (S.blk scope) elt eelt = true) : LcB c C X scope etg eelt ifs tg cond elt := fun s H C' cl fp =>
  have g := G.blk (blkOk_by hk).kind s H C' cl fp
  ⟨mG_ok g h1, I.ts g h2, (I.e g h3).v⟩
theorem snE (hL : LamLink c tx) (I : Sn c tx C k n) {ie : IE} {e : Expr} (G : GX c tx C k S X W) (h : mE tx (n + 1) S ie e = true) : S3 c C X W e ie := by
  cases ie with
  | nop => exact S3.never
  | c x =>
    simp only [mE] at h
    split at h
    · unfold constOk at h
      split at h
      · rw [of_decide_eq_true h]; exact S3.plain G SE.int rfl
      · rw [of_decide_eq_true h]; exact S3.plain G SE.bool rfl
      · rw [of_decide_eq_true h]; exact S3.plain G SE.str rfl
      · exact S3.plain G SE.none rfl
      · cases h
    · split at h
      · simp only [Bool.and_eq_true, decide_eq_true_eq] at h
        exact S3.plain G (SE.gint G h.1.1 (gOk_ok h.1.2) (ndb_ok h.2)) rfl
      · cases h
    · cases h
  | v i =>
    simp only [mE] at h
    split at h
    · simp only [Bool.and_eq_true, decide_eq_true_eq] at h
      exact S3.plain G (SE.var G h.1.1.1 (visB_ok h.1.1.2) (ndb_ok h.1.2) (ndc_ok h.2)) rfl
    · cases h
  | fn g =>
    simp only [mE] at h
    split at h
    · obtain ⟨d, h1, rfl, h3, h4⟩ := defOk_ok h
      exact S3.plain G (SE.fn G h1 h3 h4) rfl
    · cases h
  | bin op a b =>
    simp only [mE] at h
    split at h
    · simp only [Bool.and_eq_true, decide_eq_true_eq] at h
      obtain ⟨⟨⟨rfl, h2⟩, h3⟩, h4⟩ := h
      exact S3.plain G (SE.bin G (I.e G h3).v (I.e G h4).v h2) rfl
    · cases h
  | neg a =>
    simp only [mE] at h
    split at h
    · exact S3.plain G (SE.neg (I.e G h).v) rfl
    · cases h
  | nt a =>
    simp only [mE] at h
    split at h
    · exact ⟨SE.nt G (I.e G h).v, ST.nt (I.e G h).t, fun _ _ _ z => by cases z⟩
    · cases h
  | cmp op a b =>
    simp only [mE] at h
    split at h
    · simp only [Bool.and_eq_true, decide_eq_true_eq] at h
      obtain ⟨⟨⟨⟨rfl, h2⟩, h3⟩, h4⟩, h5⟩ := h
      exact ⟨SE.cmp G (I.e G h4).v (I.e G h5).v h2 (nt_eq h3), ST.cmp G (I.e G h4).v (I.e G h5).v h2 (nt_eq h3), fun _ _ _ z => by cases z⟩
    · cases h
  | chain op op2 a b d =>
    simp only [mE] at h
    split at h
    · simp only [Bool.and_eq_true, decide_eq_true_eq] at h
      obtain ⟨⟨⟨⟨⟨⟨⟨rfl, rfl⟩, h2⟩, h3⟩, h4⟩, h5⟩, h6⟩, h7⟩ := h
      exact ⟨SE.chain G (I.e G h5).v (I.e G h6).v (I.e G h7).v h2 h3 (nt_eq h4), ST.chain G (I.e G h5).v (I.e G h6).v (I.e G h7).v h2 h3 (nt_eq h4), fun _ _ _ z => by cases z⟩
    · cases h
  | isN yes a =>
    simp only [mE] at h
    split at h
    · simp only [Bool.and_eq_true] at h
      obtain ⟨rfl, h⟩ := h
      exact ⟨SE.isN (I.e G h).v, ST.isN (I.e G h).v, fun _ _ _ z => by cases z⟩
    · simp only [Bool.and_eq_true] at h
      obtain ⟨h1, h⟩ := h
      obtain rfl := nt_eq h1
      exact ⟨SE.notN (I.e G h).v, ST.notN (I.e G h).v, fun _ _ _ z => by cases z⟩
    · cases h
  | and_ a b =>
    simp only [mE] at h
    split at h
    · simp only [Bool.and_eq_true] at h
      obtain ⟨h1, h2⟩ := h
      obtain ⟨v, w⟩ := S3.of_strip (I.e G h2)
      have w' := SW.and_ (I.e G h1).t w
      exact ⟨SE.and_ G (I.e G h1).v v, w'.st, fun _ _ _ _ => w'⟩
    · cases h
  | or_ a b =>
    simp only [mE] at h
    split at h
    · simp only [Bool.and_eq_true] at h
      obtain ⟨h1, h2⟩ := h
      obtain ⟨v, w⟩ := S3.of_strip (I.e G h2)
      have w' := SW.or_ (I.e G h1).t w
      exact ⟨SE.or_ G (I.e G h1).v v, w'.st, fun _ _ _ _ => w'⟩
    · cases h
  | ifx t a b =>
    simp only [mE] at h
    split at h
    · simp only [Bool.and_eq_true] at h
      obtain ⟨⟨h1, h2⟩, h3⟩ := h
      exact ⟨SE.ifx (I.e G h1).t (I.e G h2).v (I.e G h3).v, ST.ifx (I.e G h1).t (I.e G h2).t (I.e G h3).t, fun _ _ _ z => by cases z⟩
    · cases h
  | tup es =>
    simp only [mE] at h
    split at h
    · exact S3.plain G (SE.tup (I.es G h)) rfl
    · cases h
  | lst es =>
    simp only [mE] at h
    split at h
    · exact S3.plain G (SE.lst (I.es G h)) rfl
    · cases h
  | ix a i =>
    simp only [mE] at h
    split at h
    · simp only [Bool.and_eq_true] at h
      obtain ⟨⟨h1, h2⟩, h3⟩ := h
      exact S3.plain G (SE.ix G (I.e G h2).v (I.e G h3).v (nt_eq h1)) rfl
    · cases h
  | sl a lo hi =>
    simp only [mE] at h
    split at h
    · simp only [Bool.and_eq_true] at h
      obtain ⟨⟨h1, h2⟩, h3⟩ := h
      exact S3.plain G (SE.sl G (I.e G h1).v (I.o G h2) (I.o G h3)) rfl
    · cases h
  | rev a =>
    simp only [mE] at h
    split at h
    · exact S3.plain G (SE.rev G (I.e G h).v) rfl
    · cases h
  | me m o es =>
    simp only [mE] at h
    split at h
    · simp only [Bool.and_eq_true, decide_eq_true_eq] at h
      obtain ⟨⟨⟨⟨rfl, h1⟩, h2⟩, h3⟩, h4⟩ := h
      exact S3.plain G (SE.append G (I.e G h3).v (SA.cons (I.e G h4).v SA.nil (nt_eq h1)) (nt_eq h1) h2) rfl
    · cases h
  | callD g es ks =>
    simp only [mE] at h
    split at h
    · rename_i x _ ee ees _ _
      simp only [Bool.and_eq_true] at h
      obtain ⟨⟨⟨h1, h2⟩, h3⟩, h4⟩ := h
      obtain ⟨d, g1, rfl, g3, g4⟩ := defOk_ok h1
      rw [g1] at h4
      simp only [Bool.and_eq_true, decide_eq_true_eq] at h4
      rw [h4.2]
      exact S3.plain G (SE.callD G g1 (by omega) g3 g4 h2 (I.es G h3)) rfl
    · cases h
  | call g es =>
    simp only [mE] at h
    split at h
    · rename_i x _ ees _
      simp only [Bool.and_eq_true] at h
      obtain ⟨⟨h1, h2⟩, h3⟩ := h
      obtain ⟨d, q1, rfl, q3, q4⟩ := defOk_ok h1
      cases ees with
      | nil =>
        cases es with
        | nil => exact S3.plain G (SE.call0 G q1 q3 q4) rfl
        | cons => cases n <;> simp [mEs] at h3
      | cons ee ees => exact S3.plain G (SE.call G q1 q3 q4 h2 (I.es G h3)) rfl
    · cases h
  | callK g perm es =>
    simp only [mE] at h
    split at h
    · simp only [Bool.and_eq_true] at h
      obtain ⟨⟨h1, h2⟩, h3⟩ := h
      obtain ⟨d, q1, rfl, q3, q4⟩ := defOk_ok h1
      split at h2
      · rename_i ks hks
        simp only [Bool.and_eq_true, decide_eq_true_eq] at h2
        exact S3.plain G (SE.callK G q1 h2.1 hks h2.2 q3 q4 (I.ks G h3)) rfl
      · cases h2
    · cases h
  | callV i es =>
    simp only [mE] at h
    split at h
    · rename_i x _ ees _
      simp only [Bool.and_eq_true, decide_eq_true_eq] at h
      obtain ⟨⟨⟨⟨⟨h1, h2⟩, h3⟩, h4⟩, h5⟩, h6⟩ := h
      cases ees with
      | nil =>
        cases es with
        | nil => exact S3.plain G (SE.callV0 G h1 (visB_ok h2) (ndb_ok h3) (ndc_ok h4)) rfl
        | cons => cases n <;> simp [mEs] at h6
      | cons ee ees => exact S3.plain G (SE.callV G h1 (visB_ok h2) (ndb_ok h3) (ndc_ok h4) h5 (I.es G h6)) rfl
    · cases h
  | callL g es l cs =>
    simp only [mE] at h
    split at h
    · simp only [Bool.and_eq_true] at h
      obtain ⟨⟨h1, h2⟩, h3⟩ := h
      obtain ⟨d, q1, rfl, q3, q4⟩ := defOk_ok h1
      obtain ⟨q, hq⟩ := Option.isSome_iff_exists.mp h2
      split at h3
      · rename_i pre params body scope lpos hsp
        simp only [Bool.and_eq_true] at h3
        obtain ⟨⟨⟨⟨p1, p2⟩, p3⟩, p4⟩, p5⟩ := h3
        obtain ⟨f1, f2⟩ := freeB_ok p4
        have hdef : ∀ env, defaultsOf params env = ([], []) := fun env => by
          cases n with
          | zero => simp [mL] at p5
          | succ n =>
            simp only [mL] at p5
            split at p5
            · rename_i ha
              rw [plainArgs_eq ha]
              rfl
            · cases p5
        rw [splitLast_eq hsp]
        exact S3.plain G (SE.callL G q1 q3 q4 p1 (I.al G p2 (SAL.nil G (G.lamAt q hq) hdef f1)) f1 (capsB_ok p3) f2 (hL _ _ _ _ _ _ p5)) rfl
      · cases h3
    · cases h
  | bi b es =>
    simp only [mE] at h
    split at h
    · simp only [Bool.and_eq_true, decide_eq_true_eq] at h
      obtain ⟨⟨⟨h1, h2⟩, h3⟩, h4⟩ := h
      obtain ⟨f1, f2⟩ := frB_ok h2
      exact S3.plain G (SE.bi G h1 f1 f2 h3 (I.es G h4)) rfl
    · simp only [Bool.and_eq_true, decide_eq_true_eq] at h
      obtain ⟨⟨⟨⟨rfl, rfl⟩, h2⟩, h3⟩, h4⟩ := h
      obtain ⟨f1, f2⟩ := frB_ok h2
      split at h4
      · exact S3.plain G (SE.minD G f1 f2 (nt_eq h3) (I.e G h4).v) rfl
      · cases h4
    · cases h
  | tupR a =>
    simp only [mE] at h
    split at h
    · simp only [Bool.and_eq_true, decide_eq_true_eq] at h
      obtain ⟨⟨⟨⟨⟨rfl, rfl⟩, h2⟩, h4⟩, h5⟩, h6⟩ := h
      obtain ⟨f1, f2⟩ := frB_ok h2
      obtain ⟨f3, f4⟩ := frB_ok h4
      exact S3.plain G (SE.tupR G f1 f2 f3 f4 (nt_eq h5) (I.e G h6).v) rfl
    · cases h
  | lset a =>
    simp only [mE] at h
    split at h
    · simp only [Bool.and_eq_true, decide_eq_true_eq] at h
      obtain ⟨⟨⟨⟨⟨rfl, rfl⟩, h2⟩, h4⟩, h5⟩, h6⟩ := h
      obtain ⟨f1, f2⟩ := frB_ok h2
      obtain ⟨f3, f4⟩ := frB_ok h4
      exact S3.plain G (SE.lset G f1 f2 f3 f4 (nt_eq h5) (I.e G h6).v) rfl
    · cases h
  | sset a =>
    simp only [mE] at h
    split at h
    · simp only [Bool.and_eq_true, decide_eq_true_eq] at h
      obtain ⟨⟨⟨⟨⟨rfl, rfl⟩, h2⟩, h4⟩, h5⟩, h6⟩ := h
      obtain ⟨f1, f2⟩ := frB_ok h2
      obtain ⟨f3, f4⟩ := frB_ok h4
      exact S3.plain G (SE.sset G f1 f2 f3 f4 (nt_eq h5) (I.e G h6).v) rfl
    · cases h
  | isI t a =>
    simp only [mE] at h
    split at h
    · simp only [Bool.and_eq_true, decide_eq_true_eq] at h
      obtain ⟨⟨⟨⟨⟨rfl, h2⟩, rfl⟩, h4⟩, h5⟩, h6⟩ := h
      obtain ⟨f1, f2⟩ := frB_ok h2
      obtain ⟨f3, f4⟩ := frB_ok h4
      exact S3.plain G (SE.isI G f1 f2 f3 f4 (nt_eq h5) (I.e G h6).v) rfl
    · cases h
  | lc kk its tg cond elt =>
    simp only [mE] at h
    split at h
    · simp only [Bool.and_eq_true, decide_eq_true_eq] at h
      obtain ⟨⟨⟨⟨⟨⟨rfl, h2⟩, h3⟩, h4⟩, h5⟩, h6⟩, h7⟩ := h
      exact S3.plain G (SE.lc G (blk_ok G h2) (ownOf_map _ _) (I.i G h4) (fold_ok (nt_eq h3) _) (lcb I G h2 h5 h6 h7)) rfl
    · cases h
  | lc2 kk its tg k2 its2 tg2 cond elt =>
    simp only [mE] at h
    split at h
    · simp only [Bool.and_eq_true, decide_eq_true_eq] at h
      obtain ⟨⟨⟨⟨⟨⟨⟨⟨⟨⟨rfl, rfl⟩, h2⟩, h3⟩, h3'⟩, h4⟩, h5⟩, h6⟩, h7⟩, h8⟩, h9⟩ := h
      refine S3.plain G (SE.lc2 G (blk_ok G h2) (ownOf_map _ _) (I.i G h4) (fold_ok (nt_eq h3) _) (fun env x => fold_ok (nt_eq h3') env x) fun s H C' cl fp => ?_) rfl
      have g := G.blk (blkOk_by h2).kind s H C' cl fp
      exact ⟨mG_ok g h5, I.i g h6, mG_ok g h7, I.ts g h8, (I.e g h9).v⟩
    · cases h
  | «mut» a =>
    simp only [mE] at h
    split at h
    · exact S3.plain G (SE.mlst (I.es G h)) rfl
    · simp only [Bool.and_eq_true, decide_eq_true_eq] at h
      obtain ⟨⟨⟨⟨⟨⟨rfl, h2⟩, h3⟩, h4⟩, h5⟩, h6⟩, h7⟩ := h
      exact S3.plain G (SE.mlc G (blk_ok G h2) (ownOf_map _ _) (I.i G h4) (fold_ok (nt_eq h3) _) (lcb I G h2 h5 h6 h7)) rfl
    · simp only [Bool.and_eq_true, decide_eq_true_eq] at h
      obtain ⟨⟨⟨rfl, h1⟩, h2⟩, h3⟩ := h
      obtain ⟨f1, f2⟩ := frB_ok h1
      exact S3.plain G (SE.mlist G f1 f2 (nt_eq h2) (I.e G h3).v) rfl
    · cases h
  | md m o es =>
    simp only [mE] at h
    split at h
    · simp only [Bool.and_eq_true, decide_eq_true_eq] at h
      obtain ⟨⟨⟨⟨⟨⟨rfl, h1⟩, h2⟩, h3⟩, h4⟩, h5⟩, h6⟩ := h
      exact S3.plain G (SE.index G (I.e G h5).v (I.es G h6) (nt_eq h1) h2 h3 h4) rfl
    · cases h
  | _ => simp only [mE] at h; cases h
theorem snAll (hL : LamLink c tx) : ∀ n, Sn c tx C k n
  | 0 => ⟨fun _ h => by simp [mE] at h, fun _ h => by simp [mEs] at h, fun _ h => by simp [mKs] at h, fun _ h => by simp [mO] at h, fun _ h => by simp [mTs] at h, fun _ h => by simp [mEs] at h, fun _ h => by simp [mI] at h⟩
  | n + 1 => by
    have I := snAll hL n
    refine ⟨fun G h => snE hL I G h, ?_, ?_, ?_, ?_, ?_, ?_⟩
    · intro S X W ie e G h
      simp only [mEs] at h
      split at h
      · exact SA.nil
      · simp only [Bool.and_eq_true] at h
        exact SA.cons (I.e G h.1.1).v (I.es G h.2) (nt_eq h.1.2)
      · cases h
    · intro S X W ie e G h
      simp only [mKs] at h
      split at h
      · exact SK.nil
      · simp only [Bool.and_eq_true] at h
        exact SK.cons (I.e G h.1).v (I.ks G h.2)
      · cases h
    · intro S X W ie e G h
      simp only [mO] at h
      split at h
      · split at h
        · exact SO.none
        · cases h
      · simp only [Bool.and_eq_true] at h
        exact SO.some (I.e G h.2).v (nt_eq h.1)
    · intro S X W ie e G h
      simp only [mTs] at h
      split at h
      · split at h
        · exact STs.nil
        · cases h
      · simp only [Bool.and_eq_true] at h
        exact STs.one (I.e G h.2).t (nt_eq h.1)
      · cases h
    · intro S X W ie e q params body scope lpos G h h0
      simp only [mEs] at h
      split at h
      · exact h0
      · simp only [Bool.and_eq_true] at h
        exact SAL.cons (I.e G h.1.1).v (I.al G h.2 h0) (nt_eq h.1.2)
      · cases h
    · intro S X W kk its tg e G h
      cases kk with
      | val =>
        simp only [mI] at h
        split at h
        · exact SI.val G (I.e G h).v
        · cases h
      | range1 =>
        simp only [mI] at h
        split at h
        · simp only [Bool.and_eq_true, decide_eq_true_eq] at h
          obtain ⟨⟨⟨rfl, h2⟩, h3⟩, h4⟩ := h
          obtain ⟨f1, f2⟩ := frB_ok h2
          exact SI.range1 G f1 f2 (nt_eq h3) (I.es G h4)
        · cases h
      | range2 =>
        simp only [mI] at h
        split at h
        · simp only [Bool.and_eq_true, decide_eq_true_eq] at h
          obtain ⟨⟨⟨⟨rfl, h2⟩, h3⟩, h3'⟩, h4⟩ := h
          obtain ⟨f1, f2⟩ := frB_ok h2
          exact SI.range2 G f1 f2 (nt_eq h3) (nt_eq h3') (I.es G h4)
        · cases h
      | enum =>
        simp only [mI] at h
        split at h
        · simp only [Bool.and_eq_true, decide_eq_true_eq] at h
          obtain ⟨⟨⟨rfl, h2⟩, h3⟩, h4⟩ := h
          obtain ⟨f1, f2⟩ := frB_ok h2
          exact SI.enum G f1 f2 (nt_eq h3) (I.es G h4)
        · cases h
      | zip =>
        simp only [mI] at h
        split at h
        · simp only [Bool.and_eq_true, decide_eq_true_eq] at h
          obtain ⟨⟨⟨⟨rfl, h2⟩, h3⟩, h3'⟩, h4⟩ := h
          obtain ⟨f1, f2⟩ := frB_ok h2
          exact SI.zip G f1 f2 (nt_eq h3) (nt_eq h3') (I.es G h4)
        · cases h
      | rev => simp only [mI] at h; cases h
      | dkeys => simp only [mI] at h; cases h
end
end RR

-- RR16
set_option maxHeartbeats 8000000
/-! The check is sound: statements. -/
namespace RR
open PySem PySem.Spec L2
/-- does a stored comprehension swap -/
def swC (S : SC) (x : Str) (l : Nat) (e : Expr) : Bool := match e with
  | .ListComp _ _ scope pos => decide (S.sc.names.lookup x = some .local) && l == pos.line && !(scope.names.any fun (n, k) => n == x && (k == .local || k == .cell))
  | _ => false
def isLC : Expr → Bool
  | .ListComp .. => true
  | e => !isComp e
mutual
def mSs (tx : Text) : Nat → SC → List IS → List Stmt → Bool
  | 0, _, _, _ => false
  | n + 1, S, iss, sts => match iss, sts with
    | [], [] => true
    | is :: iss, st :: sts => mS tx n S is st && mSs tx n S iss sts
    | _, _ => false
termination_by structural n => n
def mS (tx : Text) : Nat → SC → IS → Stmt → Bool
  | 0, _, _, _ => false
  | n + 1, S, is, st => match is with
    | .raise _ _ => true
    | .dput _ _ _ => false
    | .pass => match st with
      | .Pass _ => true
      | _ => false
    | .brk => match st with
      | .Break _ => true
      | _ => false
    | .cont => match st with
      | .Continue _ => true
      | _ => false
    | .ex ie => match st with
      | .Expr e _ => !isComp e && mE tx n S ie e
      | _ => false
    | .ret ie => match st with
      | .Return (some e) _ => mE tx n S ie e
      | .Return none _ => (match ie with
        | .c .none => true
        | _ => false)
      | _ => false
    | .ite t a b => match st with
      | .If et ea eb _ => mE tx n S t et && mSs tx n S a ea && mSs tx n S b eb
      | _ => false
    | .while_ t b => match st with
      | .While et eb [] _ => mE tx n S t et && mSs tx n S b eb
      | _ => false
    | .for_ k its tg b => match st with
      | .For etg eit eb [] _ => mI tx n S k its etg eit && mG S tg etg && mSs tx n S b eb && !isSetE eit
      | _ => false
    | .set i ie => match st with
      | .Assign [.Name x p1] e pos => decide (S.N[i]? = some x) && locB S x && (if swC S x p1.line e = true then (match ie, e with
          | .lc k its tg cond elt, .ListComp eelt [⟨etg, eit, ifs, asy⟩] scope _ => decide (asy = 0) && blkC S.N S.sc scope (ownOf S.N (tgs tg)) && !isSetE eit && mI tx n S k its etg eit && mG (S.blk scope) tg etg && mTs tx n (S.blk scope) cond ifs && mE tx n (S.blk scope) elt eelt
          | .mut (.lc k its tg cond elt), .ListComp eelt [⟨etg, eit, ifs, asy⟩] scope _ => decide (asy = 0) && blkC S.N S.sc scope (ownOf S.N (tgs tg)) && !isSetE eit && mI tx n S k its etg eit && mG (S.blk scope) tg etg && mTs tx n (S.blk scope) cond ifs && mE tx n (S.blk scope) elt eelt
          | .lc2 k its tg k2 its2 tg2 cond elt, .ListComp eelt [⟨etg, eit, [], asy⟩, ⟨etg2, eit2, ifs, asy2⟩] scope _ => decide (asy = 0) && decide (asy2 = 0) && blkC S.N S.sc scope (ownOf S.N (tgs tg ++ tgs tg2)) && !isSetE eit && !isSetE eit2 && mI tx n S k its etg eit && mG (S.blk scope) tg etg && mI tx n (S.blk scope) k2 its2 etg2 eit2 && mG (S.blk scope) tg2 etg2 && mTs tx n (S.blk scope) cond ifs && mE tx n (S.blk scope) elt eelt
          | _, _ => false) else isLC e && mE tx n S ie e)
      | _ => false
    | .setS o i ie => match st with
      | .Assign [.Subscript eo ei _] e _ => mE tx n S o eo && mE tx n S i ei && mE tx n S ie e && !isSlice ei && !isComp e
      | _ => false
    | .setT ts ie => match st with
      | .Assign [.Tuple es _ _] e _ => mE tx n S ie e && mTt tx n S ts es && noSt es && decide (ts.length = es.length) && !isComp e && (match e with
        | .Tuple vs _ _ => decide (swB S.sc es vs = some none)
        | _ => true)
      | _ => false
    | .par is ies => match st with
      | .Assign [.Tuple [.Name x px, .Name y py] _ _] (.Tuple [a, b] _ _) _ => (match is with
        | [i, j] => decide (S.N[i]? = some x) && decide (S.N[j]? = some y) && decide (i ≠ j) && decide (S.sc.names.lookup x = some .local) && decide (S.sc.names.lookup y = some .local) && mEs tx n S ies [a, b] && decide (swB S.sc [.Name x px, .Name y py] [a, b] = some (some [x, y]))
        | _ => false)
      | .Assign [.Tuple [.Name x px, .Name y py, .Name z pz] _ _] (.Tuple [a, b, d] _ _) _ => (match is with
        | [i, j, l] => decide (S.N[i]? = some x) && decide (S.N[j]? = some y) && decide (S.N[l]? = some z) && decide (i ≠ j) && decide (i ≠ l) && decide (j ≠ l) && decide (S.sc.names.lookup x = some .local) && decide (S.sc.names.lookup y = some .local) && decide (S.sc.names.lookup z = some .local) && mEs tx n S ies [a, b, d] && decide (swB S.sc [.Name x px, .Name y py, .Name z pz] [a, b, d] = some (some [x, y, z]))
        | _ => false)
      | _ => false
termination_by structural n => n
def mTt (tx : Text) : Nat → SC → List TE1 → List Expr → Bool
  | 0, _, _, _ => false
  | n + 1, S, ts, es => match ts, es with
    | [], [] => true
    | .one i :: ts, .Name x _ :: es => decide (S.N[i]? = some x) && locB S x && mTt tx n S ts es
    | .sub o i :: ts, .Subscript eo ei _ :: es => mE tx n S o eo && mE tx n S i ei && !isSlice ei && mTt tx n S ts es
    | _, _ => false
termination_by structural n => n
end
structure Ss (c : Cs) (tx : Text) (C : Sem) (wf k n : Nat) : Prop where
  s : ∀ {S : SC} {X : Cx} {W : WX} {is : IS} {st : Stmt}, GS c tx C k S X W → mS tx n S is st = true → SS c C wf X W st is
  ss : ∀ {S : SC} {X : Cx} {W : WX} {is : List IS} {st : List Stmt}, GS c tx C k S X W → mSs tx n S is st = true → SSs c C wf X W st is
  tt : ∀ {S : SC} {X : Cx} {W : WX} {ts : List TE1} {es : List Expr}, GS c tx C k S X W → mTt tx n S ts es = true → STt c C X W es ts
section
variable {c : Cs} {tx : Text} {C : Sem} {wf k n : Nat} {S : SC} {X : Cx} {W : WX}
theorem sw_val (G : GX c tx C k S X W) {e : Expr} {x : Str} {p1 : Pos} {l : Nat} (hl : isLC e = true) : swapsWith e (some (.Name x p1)) l X.env = pure (swC S x p1.line e) := by
  have hb : X.env.blockKind = .function := by unfold Env.blockKind; rw [G.sc, G.kind]; rfl
  cases e with
  | ListComp elt gs scope pos =>
    have ek : X.env.kindOf x = S.sc.names.lookup x := by
      show X.env.scope.names.lookup x = _
      rw [G.sc]
    unfold swapsWith swC
    simp only [hb, ek, Expr.pos]
    generalize S.sc.names.lookup x = o
    cases o with
    | none => rfl
    | some kd => cases kd <;> rfl
  | SetComp => cases hl
  | DictComp => cases hl
  | _ => rfl
theorem ssE (hL : LamLink c tx) (I : Ss c tx C wf k n) {is : IS} {st : Stmt} (G : GS c tx C k S X W) (h : mS tx (n + 1) S is st = true) : SS c C wf X W st is := by
  have J := snAll (c := c) (tx := tx) (C := C) (k := k) hL n
  have G' := G.toGX
  cases is with
  | raise => exact SS.never
  | pass =>
    simp only [mS] at h
    split at h
    · exact SS.pass
    · cases h
  | brk =>
    simp only [mS] at h
    split at h
    · exact SS.brk
    · cases h
  | cont =>
    simp only [mS] at h
    split at h
    · exact SS.cont
    · cases h
  | ex ie =>
    simp only [mS] at h
    split at h
    · simp only [Bool.and_eq_true] at h
      exact SS.ex (J.e G' h.2).v (nt_eq h.1)
    · cases h
  | ret ie =>
    simp only [mS] at h
    split at h
    · exact SS.ret (J.e G' h).v
    · split at h
      · exact SS.retN
      · cases h
    · cases h
  | ite t a b =>
    simp only [mS] at h
    split at h
    · simp only [Bool.and_eq_true] at h
      exact SS.ite (J.e G' h.1.1).t (I.ss G h.1.2) (I.ss G h.2)
    · cases h
  | while_ t b =>
    simp only [mS] at h
    split at h
    · simp only [Bool.and_eq_true] at h
      exact SS.while_ G (J.e G' h.1).t (I.ss G h.2)
    · cases h
  | for_ kk its tg b =>
    simp only [mS] at h
    split at h
    · simp only [Bool.and_eq_true] at h
      exact SS.for_ G (J.i G' h.1.1.1) (mG_ok G' h.1.1.2) (I.ss G h.1.2) (fold_ok (nt_eq h.2) _)
    · cases h
  | set i ie =>
    simp only [mS] at h
    split at h
    · rename_i x p1 e pos
      simp only [Bool.and_eq_true, decide_eq_true_eq] at h
      obtain ⟨⟨h1, h2⟩, h3⟩ := h
      cases hsw : swC S x p1.line e with
      | false =>
        rw [hsw] at h3
        simp only [Bool.false_eq_true, if_false, Bool.and_eq_true] at h3
        exact SS.set G' h1 h2 (J.e G' h3.2).v (by rw [sw_val G' h3.1, hsw])
      | true =>
        rw [hsw] at h3
        simp only [if_true] at h3
        have hloc : S.sc.names.lookup x = some .local := by
          unfold swC at hsw
          split at hsw
          · simp only [Bool.and_eq_true, decide_eq_true_eq] at hsw
            exact hsw.1.1
          · cases hsw
        split at h3
        · simp only [Bool.and_eq_true, decide_eq_true_eq] at h3
          obtain ⟨⟨⟨⟨⟨⟨rfl, q2⟩, q3⟩, q4⟩, q5⟩, q6⟩, q7⟩ := h3
          exact SS.setLc G' h1 hloc (by rw [sw_val G' rfl, hsw]) (blk_ok G' q2) (ownOf_map _ _) (J.i G' q4) (fold_ok (nt_eq q3) _) (lcb J G' q2 q5 q6 q7) (.inl rfl)
        · simp only [Bool.and_eq_true, decide_eq_true_eq] at h3
          obtain ⟨⟨⟨⟨⟨⟨rfl, q2⟩, q3⟩, q4⟩, q5⟩, q6⟩, q7⟩ := h3
          exact SS.setLc G' h1 hloc (by rw [sw_val G' rfl, hsw]) (blk_ok G' q2) (ownOf_map _ _) (J.i G' q4) (fold_ok (nt_eq q3) _) (lcb J G' q2 q5 q6 q7) (.inr rfl)
        · simp only [Bool.and_eq_true, decide_eq_true_eq] at h3
          obtain ⟨⟨⟨⟨⟨⟨⟨⟨⟨⟨rfl, rfl⟩, q2⟩, q3⟩, q3'⟩, q4⟩, q5⟩, q6⟩, q7⟩, q8⟩, q9⟩ := h3
          refine SS.setLc2 G' h1 hloc (by rw [sw_val G' rfl, hsw]) (blk_ok G' q2) (ownOf_map _ _) (J.i G' q4) (fold_ok (nt_eq q3) _) (fun env x => fold_ok (nt_eq q3') env x) fun s H C' cl fp => ?_
          have g := G'.blk (blkOk_by q2).kind s H C' cl fp
          exact ⟨mG_ok g q5, J.i g q6, mG_ok g q7, J.ts g q8, (J.e g q9).v⟩
        · cases h3
    · cases h
  | setS o i ie =>
    simp only [mS] at h
    split at h
    · simp only [Bool.and_eq_true] at h
      obtain ⟨⟨⟨⟨h1, h2⟩, h3⟩, h4⟩, h5⟩ := h
      exact SS.setS G' (J.e G' h1).v (J.e G' h2).v (J.e G' h3).v (nt_eq h4) (nt_eq h5)
    · cases h
  | setT ts ie =>
    simp only [mS] at h
    split at h
    · rename_i es _ _ e _
      simp only [Bool.and_eq_true, decide_eq_true_eq] at h
      obtain ⟨⟨⟨⟨⟨h1, h2⟩, h3⟩, h4⟩, h5⟩, h6⟩ := h
      refine SS.setT G' (J.e G' h1).v (I.tt G h2) h3 h4 (nt_eq h5) ?_
      by_cases he : isTupE e = true
      · cases e <;> first | (cases he; done) | skip
        exact swB_ok G'.sc G'.kind (of_decide_eq_true h6)
      · refine sw_other ?_
        cases e <;> first | rfl | exact absurd rfl he
    · cases h
  | par is ies =>
    simp only [mS] at h
    split at h
    · split at h
      · simp only [Bool.and_eq_true, decide_eq_true_eq] at h
        obtain ⟨⟨⟨⟨⟨⟨h1, h2⟩, h3⟩, h4⟩, h5⟩, h6⟩, h7⟩ := h
        exact SS.par2 G' h1 h2 h3 h4 h5 (J.es G' h6) h7
      · cases h
    · split at h
      · simp only [Bool.and_eq_true, decide_eq_true_eq] at h
        obtain ⟨⟨⟨⟨⟨⟨⟨⟨⟨⟨h1, h2⟩, h3⟩, h4⟩, h5⟩, h6⟩, h7⟩, h8⟩, h9⟩, h10⟩, h11⟩ := h
        exact SS.par3 G' h1 h2 h3 h4 h5 h6 h7 h8 h9 (J.es G' h10) h11
      · cases h
    · cases h
  | dput o k e => simp only [mS] at h; cases h
theorem ssAll (hL : LamLink c tx) : ∀ n, Ss c tx C wf k n
  | 0 => ⟨fun _ h => by simp [mS] at h, fun _ h => by simp [mSs] at h, fun _ h => by simp [mTt] at h⟩
  | n + 1 => by
    have I := ssAll hL n
    have J := snAll (c := c) (tx := tx) (C := C) (k := k) hL n
    refine ⟨fun G h => ssE hL I G h, ?_, ?_⟩
    · intro S X W is st G h
      simp only [mSs] at h
      split at h
      · exact SSs.nil
      · simp only [Bool.and_eq_true] at h
        exact SSs.cons (I.s G h.1) (I.ss G h.2)
      · cases h
    · intro S X W ts es G h
      simp only [mTt] at h
      split at h
      · exact STt.nil
      · simp only [Bool.and_eq_true, decide_eq_true_eq] at h
        exact STt.one G.toGX h.1.1 h.1.2 (I.tt G h.2)
      · simp only [Bool.and_eq_true] at h
        exact STt.sub G.toGX (J.e G.toGX h.1.1.1).v (J.e G.toGX h.1.1.2).v (nt_eq h.1.2) (I.tt G h.2)
      · cases h
end
end RR

-- RR18
set_option maxHeartbeats 4000000
/-! Defs: what a call does. -/
namespace RR
open PySem PySem.Spec L2
section
variable {c : Cs} {tx : Text} {C : Sem} {wf k n : Nat} {P : Program} {w : World} {mg : Str → Option Value} {base : Heap}
/-! ### a def's end -/
theorem fd_cut {α α' : List Addr} {h h' : IH} {H H' : Hp} {x : D} {v : V} (r0 : HR c α h H) (r : HR c α' h' H') (s : Stp α h H α' h' H') (f : FD c.K (liv α' h') H' v x) : FD c.K (liv α (h'.take h.length)) H' v x :=
  FD.mono ⟨fun a m => r.lst a m, fun a o z _ _ => z, fun a ⟨n, xs, z1, z2, z4⟩ => by
    obtain ⟨hn, z3⟩ := getElem?_take_lt z2
    exact .inl ⟨n, xs, s.get z1, z3, z4⟩⟩ f
theorem finish_post {α : List Addr} {h : IH} {H : Hp} {Q : VK} {E : XK} {o : Out} (r0 : HR c α h H) (p : Post c (RV c) α h H (finish h.length o) Q E) : PostS c α h H o { nx := fun _ H' => Q .non H', rt := Q } (fun cls d _ H => E cls d H) := by
  cases o with
  | next env h' =>
    intro σ' α' H' r s sr
    obtain ⟨r1, s1⟩ := r0.cut r s
    exact p .non α H' r1 s1 .non
  | ret v h' =>
    intro v' α' H' r s z
    obtain ⟨r1, s1⟩ := r0.cut r s
    cases v with
    | d x => exact p v' α H' r1 s1 (fd_cut r0 r s z)
    | ref m =>
      obtain ⟨a, ea, rfl⟩ := z
      simp only [finish] at p
      split at p
      · rename_i hm
        obtain ⟨β, eβ⟩ := s.pre
        refine p (.ref a) α H' r1 s1 ⟨a, ?_, rfl⟩
        rw [eβ, List.getElem?_append_left (by rw [r0.len]; exact hm)] at ea
        exact ea
      · rename_i hm
        cases e : h'[m]? with
        | none => rw [e] at p; exact p.elim
        | some z =>
          rw [e] at p
          obtain ⟨rc, sc⟩ := r0.cut1 r s (by omega) ea e
          refine p (.ref a) _ H' rc sc ⟨a, ?_, rfl⟩
          exact len_at r0
    | fn g => exact p v' α H' r1 s1 z
    | clo l cs => exact p.elim
    | fd tk kvs =>
      obtain ⟨a, rfl, z⟩ := z
      refine p (.ref a) α H' r1 s1 ⟨a, rfl, FroD.mono (c := c) ⟨fun a m => r.lst a m, fun a o z _ _ => z, fun a ⟨n, x, z1, z2, z3⟩ => ?_⟩ z⟩
      obtain ⟨hn, z3'⟩ := getElem?_take_lt z2
      exact .inl ⟨n, x, s.get z1, z3', z3⟩
  | exc x env h' =>
    intro cls d σ' α' H' r s z sr
    obtain ⟨r1, s1⟩ := r0.cut r s
    refine p cls d α H' r1 s1 (XR.mono ⟨fun a m => r.lst a m, fun a o z _ _ => z, fun a ⟨n, xs, z1, z2, z4⟩ => ?_⟩ z)
    obtain ⟨hn, z3⟩ := getElem?_take_lt z2
    exact .inl ⟨n, xs, s.get z1, z3, z4⟩
  | brk env h' => exact p.elim
  | cont env h' => exact p.elim
  | stuck => exact p.elim
/-! ### what the module gives -/
structure GB (c : Cs) (tx : Text) (C : Sem) (k : Nat) (P : Program) (w : World) (mg : Str → Option Value) (base : Heap) : Prop where
  lam : ∀ l, LamG c P w mg base k l (C.lam l)
  free : ∀ x ∈ tx.free, mg x = none
  cst : ∀ p ∈ tx.consts, ∃ t, mg p.1 = some (.int p.2 t)
  fn : ∀ g d, tx.defs[g]? = some d → mg d.name = some (.ref (c.adr g)) ∧ PySem.W.keepIn c.K (.ref (c.adr g)) = true ∧ ∃ fd, FnG P w c.K mg base k (c.adr g) fd d.ps (spF c (C.call g)) ∧ Binds c.K fd d.ps [] ∧
    (∀ ks perm, (g, ks, perm) ∈ tx.kws → ∀ (s : Shared) (ws us : List Value), c.K.In s.heap → ws.length = ks.length → permV perm ws = some us → BindsTo s fd ⟨[], ks.zip ws⟩ (d.ps.zip us)) ∧
    ∀ j, j ≤ d.dfl.length → ∃ ds, Vals ((d.dfl.drop j).map V.int) ds ∧ Binds c.K fd d.ps ds
/-- where the def's lambdas lie -/
def DefLam (c : Cs) (mg : Str → Option Value) (base : Heap) (qual : Str) (cd : Value) (q : Option Str) : Prop := ∀ q0, q = some q0 → (qual ++ ".<locals>." ++ "<lambda>" : Str) = q0 ∧ ∃ ca P : Addr, LamX.TabB base mg ca P ∧ cd = .ref ca ∧ (P, q0) ∈ c.T ∧ ∀ p ∈ c.T, p.1 = P → p.2 = q0
/-- a def's own context -/
theorem gs_cx (G : GB c tx C k P w mg base) {N ps : List Str} {qual : Str} {scope : Scope} (S : FnScope N ps scope) {f : Addr} {cd : Value} {A : Around} {outer : List PySem.Env} {s : Shared} {H : Hp} {E : XK} (hg : A.guards = some []) (hr : Room k (A.deeper (PyProof.Rows.envOfC qual scope s.heap.objs.size f cd))) {q : Option Str} (hq : DefLam c mg base qual cd q) :
    GS c tx C k ⟨N, scope, scope, q⟩ (cxOf (L2.CX P w) P w c.K mg base N qual scope f cd A outer s H E) (fun cls d _ H => E cls d H) where
  K := rfl
  N := rfl
  sc := rfl
  fs := fun _ _ => rfl
  kind := S.kind
  calm := rfl
  nd := S.nd
  grd := hg
  room := hr
  tk := takes_of rfl rfl rfl rfl
  lam := G.lam
  lamAt := fun q0 e => by
    obtain ⟨h1, h2⟩ := hq q0 e
    exact ⟨h1, h2⟩
  free := G.free
  cst := G.cst
  fn := G.fn
  po := passes_of (X := cxOf (L2.CX P w) P w c.K mg base N qual scope f cd A outer s H E) rfl
theorem rvs_get {α : List Addr} {M : Addr → Prop} {H : Hp} {as : List Val} {vs : List V} (r : RVs c M α H as vs) : ∀ {i : Nat} {x : Val}, as[i]? = some x → ∃ v, vs[i]? = some v ∧ RV c M α H x v := by
  induction r with
  | nil => intro i x e; cases e
  | cons a b ih => intro i x e; cases i with
    | zero => cases e; exact ⟨_, rfl, a⟩
    | succ i =>
      obtain ⟨v, h1, h2⟩ := ih (i := i) (by simpa using e)
      exact ⟨v, by simpa using h1, h2⟩
theorem begin_sr {α : List Addr} {M : Addr → Prop} {H : Hp} {as : List Val} {vs : List V} {N : List Str} (z : RVs c M α H as vs) : SR c M α H (begin_ N.length as) (L2.start N vs) := by
  have hl := Paired.length z
  refine ⟨by unfold begin_ L2.start; simp [hl], fun i x e => ?_⟩
  unfold begin_ at e
  unfold L2.start
  by_cases hi : i < as.length
  · rw [List.getElem?_append_left (by rw [List.length_map]; exact hi), List.getElem?_map] at e
    rw [List.getElem?_append_left (by rw [List.length_map, ← hl]; exact hi), List.getElem?_map]
    cases ea : as[i]? with
    | none => rw [ea] at e; cases e
    | some y =>
      rw [ea] at e
      cases e
      obtain ⟨v, hv, rv⟩ := rvs_get z ea
      exact ⟨v, by rw [hv]; rfl, rv⟩
  · rw [List.getElem?_append_right (by rw [List.length_map]; omega), List.getElem?_replicate] at e
    split at e <;> cases e
/-- THE RULE: a def does what its text says -/
theorem fnG_of {f : Addr} {name qual : Str} {params : Arguments} {body : List Stmt} {scope : Scope} {dV kV doc pm cdv ct oc : Value} {an od : Option Addr} {osl : Array (Option Value)} {N ps : List Str} {is : List IS}
    (G : GB c tx C k P w mg base) (lk : c.K.lookup f = some ⟨oc, od, .func (PySem.W.fnOf name qual params body scope dV kV doc pm an cdv ct), osl⟩) (hcd : PySem.W.codeIn c.K cdv qual = true) (S : FnScope N ps scope)
    (hL : LamLink c tx) {q : Option Str} (hq : DefLam c mg base qual cdv q) (hm : mSs tx n ⟨N, scope, scope, q⟩ is body = true) :
    FnG P w c.K mg base (k + 1) f (PySem.W.fnOf name qual params body scope dV kV doc pm an cdv ct) ps (spF c fun vs h => if vs.length = ps.length then finish h.length (exs C wf (begin_ N.length vs) is h) else .stuck) := by
  have len : ∀ vs H Q E, (spF c fun vs h => if vs.length = ps.length then finish h.length (exs C wf (begin_ N.length vs) is h) else .stuck) vs H Q E → vs.length = ps.length := fun vs H Q E ⟨α, h, as, r, z, p⟩ => by
    have p : Post c (RV c) α h H (if as.length = ps.length then finish h.length (exs C wf (begin_ N.length as) is h) else .stuck) Q E := p
    split at p
    · rename_i hl
      rw [← hl]
      exact (Paired.length z).symm
    · exact p.elim
  refine ⟨len, fun A outer s H args us vs Q E hg hr e0 hb rv hsp => ?_⟩
  have hl := len _ _ _ _ hsp
  obtain ⟨α, h, as, r, z, p⟩ := hsp
  have p : Post c (RV c) α h H (if as.length = ps.length then finish h.length (exs C wf (begin_ N.length as) is h) else .stuck) Q E := p
  have KX : c.K.In s.heap := e0.mod.kin.keeps fun b o e => (e0.bs b o e).1
  have lim : s.heap.NoLimit := e0.mod.nolimit.keeps fun b o e => (e0.bs b o e).1
  have hkind : ∀ y ∈ ps.zip us, scope.names.lookup y.1 = some .local ∨ (scope.names.lookup y.1 = some .cell ∧ ((cellsFrom (s.heap.objs.size + 1) scope.names []).lookup y.1).isSome = true) := fun ⟨n, v⟩ hy => by
    rcases S.par n (List.of_mem_zip hy).1 with q | q
    · exact .inl q
    · exact .inr ⟨q, PySem.W.cellsFrom_some _ _ _ (.inl q)⟩
  refine codeAny_call_function hr.depth (KX _ _ lk) rfl S.co S.gen rfl (PySem.W.codeRec_of KX hcd) (hb _ _ _ _ ?_)
  refine wpAny_newFunctionEnv_cells S.kind hkind fun env he s1 x => ?_
  subst he
  refine ⟨lim.keeps x.toInCall.keep, codeAny_func ?_⟩
  have gs := gs_cx (f := f) (cd := cdv) (outer := outer) (s := s) (H := H) (E := E) G S (qual := qual) (A := A) hg (hr.deeper _) hq
  obtain ⟨t, ht, hq⟩ := (ssAll hL n).ss (wf := wf) gs hm
  have I : Inv (cxOf (L2.CX P w) P w c.K mg base N qual scope f cdv A outer s H E) [] (L2.start N vs) H s1 := inv_start S hr.hd e0 hl rv x
  rw [if_pos (by rw [Paired.length z]; exact hl)] at p
  have tq := hq α (begin_ N.length as) h (L2.start N vs) H _ r (begin_sr z) (finish_post r p)
  refine wpAny_mono (ht.run [] s1 (L2.start N vs) H _ I tq) (fun fl s' hs => ?_) fun e s' hs => hs
  have fin : ∀ {σ' : St} {H' : Hp} {v : V} {u : Value}, Inv (cxOf (L2.CX P w) P w c.K mg base N qual scope f cdv A outer s H E) [] σ' H' s' → RelV v u → Q v H' → CE outer P w H s Q u s' :=
    fun {σ' H' v u} J rv q => ⟨v, H', J.os, J.bare, J.base, J.hok, rv, q⟩
  cases fl with
  | ret u =>
    obtain ⟨v, σ', H', J, rv, q⟩ := hs
    exact fin J rv q
  | next =>
    obtain ⟨σ', H', J, q⟩ := hs
    exact fin (v := V.non) (u := Value.none) J rfl q
  | brk =>
    obtain ⟨_, _, _, q⟩ := hs
    exact False.elim q
  | cont =>
    obtain ⟨_, _, _, q⟩ := hs
    exact False.elim q
end
end RR

-- RR19
set_option maxHeartbeats 4000000
/-! Lambdas called; the levels. -/
namespace RR
open PySem PySem.Spec L2
theorem zip_look : ∀ {ps : List Str} {us : List Value}, us.length = ps.length → ∀ {n : Str}, n ∈ ps → ∃ v, (ps.zip us).lookup n = some v
  | [], _, _, _, h => by cases h
  | p :: ps, [], hl, _, _ => by cases hl
  | p :: ps, u :: us, hl, n, h => by
    by_cases e : n = p
    · subst e
      exact ⟨u, by simp [List.lookup]⟩
    · obtain ⟨v, q⟩ := zip_look (ps := ps) (us := us) (by simpa using hl) ((List.mem_cons.mp h).resolve_left e)
      refine ⟨v, ?_⟩
      show List.lookup n ((p, u) :: ps.zip us) = _
      rw [List.lookup]
      have e' : (n == p) = false := by simpa using e
      rw [e']
      exact q
theorem zip_lookup_mem {ps : List Str} {us : List Value} (hl : us.length = ps.length) : (ps.filter fun n => ((ps.zip us).lookup n).isNone) = [] := by
  rw [List.filter_eq_nil_iff]
  intro n hn
  obtain ⟨v, q⟩ := zip_look hl hn
  rw [q]
  simp
theorem zip_filterMap : ∀ {ps : List Str} {us : List Value}, ps.Nodup → us.length = ps.length → ∀ (pre : List (Str × Value)), (∀ n ∈ ps, pre.lookup n = none) → (ps.filterMap fun n => ((pre ++ ps.zip us).lookup n).map (n, ·)) = ps.zip us
  | [], _, _, _, _, _ => rfl
  | p :: ps, [], _, hl, _, _ => by cases hl
  | p :: ps, u :: us, nd, hl, pre, hp => by
    obtain ⟨n1, n2⟩ := List.nodup_cons.mp nd
    have e1 : ((pre ++ (p, u) :: ps.zip us).lookup p) = some u := by
      rw [List.lookup_append, hp p List.mem_cons_self]
      simp [List.lookup]
    show List.filterMap _ (p :: ps) = (p, u) :: ps.zip us
    have e2 : (p :: ps).zip (u :: us) = (p, u) :: ps.zip us := rfl
    rw [e2, List.filterMap_cons, e1]
    have ih := zip_filterMap (us := us) n2 (by simpa using hl) (pre ++ [(p, u)]) fun n hn => by
      rw [List.lookup_append, hp n (List.mem_cons_of_mem _ hn)]
      have : (n == p) = false := by
        have : n ≠ p := fun z => n1 (z ▸ hn)
        simpa using this
      simp [List.lookup, this]
    have ea : pre ++ [(p, u)] ++ ps.zip us = pre ++ (p, u) :: ps.zip us := by simp
    rw [ea] at ih
    rw [ih]
    rfl
theorem bind_gen {fd : FuncData} {as : List Arg} {us : List Value} (h1 : fd.params = ⟨[], as, none, [], [], none, []⟩) (h2 : fd.defaults = .none) (nd : (as.map (·.arg)).Nodup) (hl : us.length = (as.map (·.arg)).length) : bindArgs fd ⟨us, []⟩ = pure ((as.map (·.arg)).zip us) := by
  unfold bindArgs
  rw [h1, h2]
  have e : seqItems? (.none : Value) = pure none := rfl
  simp only [e, List.map_nil, List.nil_append, List.forIn_nil, pure_bind, Option.getD_none]
  generalize as.map (·.arg) = ps at nd hl
  have fm := zip_filterMap nd hl [] (fun _ _ => rfl)
  simp only [List.nil_append] at fm
  have ng : ¬ (us.length > ps.length) := by omega
  have e1 : (ps.take (ps.length - (List.drop (0 - ps.length) ([] : List Value)).length)) = ps := by
    rw [List.drop_nil, List.length_nil, Nat.sub_zero, List.take_length]
  simp [hl, fm]
  intro x hx h
  obtain ⟨v, q⟩ := zip_look hl hx
  exact absurd (PySem.mem_of_lookup q) (h v)

section
variable {c : Cs} {tx : Text} {C : Sem} {k : Nat} {P : Program} {w : World} {mg : Str → Option Value} {base : Heap}
/-- the context of a lambda's body -/
def lamX (c : Cs) (P : Program) (w : World) (mg : Str → Option Value) (base : Heap) (A : Around) (outer : List PySem.Env) (s : Shared) (H : Hp) (E : XK) (N : List Str) (env : PySem.Env) : Cx where
  prog := P
  w := w
  K := c.K
  mg := mg
  base := base
  A := A.deeper env
  N := N
  s_0 := s
  H_0 := H
  env := env
  outer := outer
  stack := env :: outer
  ex := []
  fn := fun _ => false
  calm := true
  pn := []
  xe := fun e s' => wpAny (model P w) (A.deeper env) (leaving env e) (fun _ s'' => L2.CX P w outer H s E e s'') (fun e' s'' => L2.CX P w outer H s E e' s'') s'
/-- the captured values -/
theorem caps_vals {M : Addr → Prop} {H : Hp} {cl : List (Str × Addr)} : ∀ {names : List Str} {caps : List D}, Paired (CapOk c M H cl) names caps → ∃ cvs : List V, FDs c.K M H cvs caps ∧ ∀ (i : Nat) (x : Str), names[i]? = some x → ∃ (b : Addr) (o : Obj) (u : Value) (v : V), cvs[i]? = some v ∧ cl.lookup x = some b ∧ H b = some (KO o) ∧ o.data = .cell (some u) ∧ RelV v u
  | _, _, .nil => ⟨[], .nil, fun i x e => by cases e⟩
  | _, _, .cons ⟨b, o, u, v, q1, q2, q3, q4, q5⟩ r => by
    obtain ⟨cvs, f, h⟩ := caps_vals r
    refine ⟨v :: cvs, .cons q5 f, fun i x e => ?_⟩
    cases i with
    | zero => cases e; exact ⟨b, o, u, v, rfl, q1, q2, q3, q4⟩
    | succ i =>
      obtain ⟨b, o, u, v, z⟩ := h i x (by simpa using e)
      exact ⟨b, o, u, v, by simpa using z⟩
theorem stp_less {α α' : List Addr} {h h' : IH} {H H' : Hp} {ks : Ks} (kn : Know H ks) (r' : HR c α' h' H') (gone : ∀ b ∈ ks.map (·.1), H' b = none) (s : Stp α h (minus H (ks.map (·.1))) α' h' H') : Stp α h H α' h' (plus H' ks) := by
  refine ⟨s.pre, fun a o e nl nt => ?_, fun a ps e => ?_, fun a l => ?_⟩
  · cases q : ks.lookup a with
    | some o' =>
      rw [plus_in q]
      rw [kn a o' q] at e
      exact e
    | none =>
      rw [plus_out q]
      refine s.keep a o ?_ nl nt
      rw [minus_out fun z => ?_]
      · exact e
      · obtain ⟨o', q'⟩ := look_mem.mp z
        rw [q] at q'
        cases q'
  · have ha : a ∉ ks.map (·.1) := fun z => by
      obtain ⟨o', q'⟩ := look_mem.mp z
      rw [kn a o' q'] at e
      cases e
    obtain ⟨ps', q⟩ := s.tbl a ps (by rw [minus_out ha]; exact e)
    exact ⟨ps', by rw [plus_out (look_none ha)]; exact q⟩
  · have ha : a ∉ ks.map (·.1) := fun z => by
      obtain ⟨xs, q, _⟩ := r'.lst a l
      rw [gone a z] at q
      cases q
    rcases s.mem a l with z | z
    · exact .inl z
    · rw [minus_out ha] at z
      exact .inr z
theorem gx_lam (G : GB c tx C k P w mg base) {A : Around} {outer : List PySem.Env} {s : Shared} {H : Hp} {E : XK} {N : List Str} {env : PySem.Env} {scope : Scope} (hs : env.scope = scope) (hk : scope.kind = .function) (nd : N.Nodup) (nc : ∀ y ∈ scope.names, y.2 ≠ .cell) (hf : env.frame = some env.locals) (hg : A.guards = some []) (hr : Room k (A.deeper env)) :
    GX c tx C k ⟨N, scope, scope, none⟩ (lamX c P w mg base A outer s H E N env) (fun cls d _ H => E cls d H) where
  K := rfl
  N := rfl
  sc := hs
  fs := fun x h => absurd rfl (nc _ (PySem.mem_of_lookup h))
  kind := hk
  calm := rfl
  nd := nd
  grd := hg
  room := hr
  tk := takes_of rfl hf rfl rfl
  lam := G.lam
  lamAt := fun q e => nomatch e
  free := G.free
  cst := G.cst
  fn := G.fn
theorem lamSc_ok {scope : Scope} {names ps : List Str} (h : lamScB scope names ps = true) : scope.kind = .function ∧ scope.isCoroutine = false ∧ scope.isGenerator = false ∧ (∀ y ∈ scope.names, y.2 ≠ .cell) ∧ (∀ y ∈ scope.names, y.2 = .free → y.1 ∈ names) ∧ (∀ x ∈ ps, scope.names.lookup x = some .local) ∧ ∀ x ∈ names, scope.names.lookup x = some .free := by
  unfold lamScB at h
  simp only [Bool.and_eq_true, Bool.not_eq_true', decide_eq_true_eq, List.all_eq_true] at h
  obtain ⟨⟨⟨⟨⟨h1, h2⟩, h3⟩, h4⟩, h5⟩, h6⟩ := h
  refine ⟨h1, h2, h3, fun y hy e => ?_, fun y hy e => ?_, h5, h6⟩
  · have z := h4 y hy
    rw [e] at z
    cases z
  · have z := h4 y hy
    rw [e] at z
    exact of_decide_eq_true z
theorem lookup_of_mem : ∀ {l : List (Str × Value)} {x : Str} {u : Value}, (l.map (·.1)).Nodup → (x, u) ∈ l → l.lookup x = some u
  | [], _, _, _, h => nomatch h
  | (y, v) :: r, x, u, nd, h => by
    obtain ⟨n1, n2⟩ := List.nodup_cons.mp (show (y :: r.map (·.1)).Nodup from nd)
    show (match x == y with | true => some v | false => r.lookup x) = some u
    rcases List.mem_cons.mp h with z | z
    · cases z
      rw [beq_self_eq_true]
    · have : (x == y) = false := by
        have : x ≠ y := fun e => n1 (by rw [← e]; exact List.mem_map.mpr ⟨(x, u), z, rfl⟩)
        simpa using this
      rw [this]
      exact lookup_of_mem n2 z
theorem rev_lookup {ps : List Str} {us : List Value} (nd : ps.Nodup) (hl : us.length = ps.length) {i : Nat} {x : Str} {u : Value} (e1 : ps[i]? = some x) (e2 : us[i]? = some u) : (ps.zip us).reverse.lookup x = some u := by
  refine lookup_of_mem ?_ (List.mem_reverse.mpr (List.mem_of_getElem? (i := i) ?_))
  · rw [List.map_reverse, List.map_fst_zip (by omega)]
    unfold List.Nodup
    rw [List.pairwise_reverse]
    exact nd.imp fun h => Ne.symm h
  · rw [List.getElem?_zip_eq_some]
    exact ⟨e1, e2⟩
theorem lam_run (G : GB c tx C k P w mg base) (hL : LamLink c tx) {n l : Nat} {ld : LDef} {params : Arguments} {body : Expr} {scope : Scope} {names : List Str} (hld : tx.lams[l]? = some ld) (hm : mL tx n l params body scope names = true)
    {A : Around} {outer : List PySem.Env} {s : Shared} {H : Hp} {f : Addr} {us : List Value} {vs : List V} {Q : VK} {E : XK} {caps ds : List D} {α : List Addr} {h : IH} {q : Str} {cl : List (Str × Addr)} {c' : Addr} {pm ctv : Value} (hg : A.guards = some []) (hr : Room (k + 1) A) (e0 : Env0 P w c.K mg base A outer s H)
    (hf : H f = some (KO (PySem.W.kla_obj "<lambda>" q params body scope cl pm c' ctv))) (hc : H c' = some (LamX.CodeO c' q)) (hcap : Paired (CapOk c (liv α h) H cl) names caps) (hin : ∀ x b, cl.lookup x = some b → x ∈ names) (hinj : ∀ x y b, cl.lookup x = some b → cl.lookup y = some b → x = y)
    (r : HR c α h H) (fs : FDs c.K (liv α h) H vs ds) (rv : Vals vs us) (h1 : ds.length = ld.n)
    (p : Post c (RV c) α h H ((ev C ((caps ++ ds).map fun x => some (.d x)) ld.body h).bind fun v h1 => match v with
      | .d x => .ok (.d x) (h1.take h.length)
      | _ => .stuck) Q E) : codeAny (model P w) A (.call (.ref f) ⟨us, []⟩) (CR (L2.CX P w) outer P w H s Q E) s := by
  cases n with
  | zero => simp [mL] at hm
  | succ n =>
  simp only [mL] at hm
  split at hm
  · rename_i ld' as e1 e2
    rw [hld] at e1
    cases e1
    simp only [Bool.and_eq_true, decide_eq_true_eq] at hm
    obtain ⟨⟨⟨⟨m1, m2⟩, m3⟩, m4⟩, m5⟩ := hm
    obtain ⟨k1, k2, k3, k4, k5, k6, k7⟩ := lamSc_ok m4
    have ea := plainArgs_eq e2
    generalize hps : as.map (·.arg) = ps at m3 m4 m5 k6
    obtain ⟨nd1, nd2, nd3⟩ := List.nodup_append.mp m3
    have hul : us.length = ps.length := by
      rw [← rv.length, fs.length, h1, ← m2, ← hps, List.length_map]
    obtain ⟨cvs, cf, cv⟩ := caps_vals hcap
    have hfo : s.heap.get? f = some (PySem.W.kla_obj "<lambda>" q params body scope cl pm c' ctv) := (e0.hok f _ hf).1
    obtain ⟨⟨oc, cvs', t, hoc, hdc, hvc⟩, _, _⟩ := e0.hok c' _ hc
    -- the cells, known
    generalize hks : (names.filterMap fun x => (cl.lookup x).bind fun b => (s.heap.get? b).map fun o => (b, o) : Ks) = ks
    have kin : ∀ b o, ks.lookup b = some o → ∃ x ∈ names, cl.lookup x = some b ∧ s.heap.get? b = some o := fun b o e => by
      have z := look_in e
      rw [← hks] at z
      obtain ⟨x, hx, q⟩ := List.mem_filterMap.mp z
      cases q1 : cl.lookup x with
      | none => rw [q1] at q; cases q
      | some b' =>
        rw [q1] at q
        cases q2 : s.heap.get? b' with
        | none => simp [q2] at q
        | some o2 =>
          simp [q2] at q
          obtain ⟨rfl, rfl⟩ := q
          exact ⟨x, hx, q1, q2⟩
    have ix : ∀ {x : Str}, x ∈ names → ∃ i, names[i]? = some x := fun {x} hx => by
      obtain ⟨i, hi, e⟩ := List.getElem_of_mem hx
      exact ⟨i, by rw [List.getElem?_eq_getElem hi, e]⟩
    have kn : Know H ks := fun b o e => by
      obtain ⟨x, hx, q1, q2⟩ := kin b o e
      obtain ⟨i, hi⟩ := ix hx
      obtain ⟨b', o', u, v, z1, z2, z3, z4, z5⟩ := cv i x hi
      rw [q1] at z2
      cases z2
      have z6 := (e0.hok b _ z3).1
      rw [q2] at z6
      cases z6
      exact z3
    have has : ∀ {x : Str} {b : Addr}, cl.lookup x = some b → b ∈ ks.map (·.1) := fun {x b} e => by
      have hx := hin x b e
      obtain ⟨i, hi⟩ := ix hx
      obtain ⟨b', o', u, v, z1, z2, z3, z4, z5⟩ := cv i x hi
      rw [e] at z2
      cases z2
      have z6 := (e0.hok b _ z3).1
      refine List.mem_map.mpr ⟨(b, o'), ?_, rfl⟩
      rw [← hks]
      exact List.mem_filterMap.mpr ⟨x, hx, by rw [e]; simp [z6]⟩
    have km := KDiff.minus kn.all
    have rm := r.diff km
    have em := env0_minus e0 kn.all
    refine codeAny_mono (?_ : codeAny (model P w) A (.call (.ref f) ⟨us, []⟩) (CR (L2.CX P w) outer P w (minus H (ks.map (·.1))) s (fun v H' => (∀ b ∈ ks.map (·.1), H' b = none) → Q v (plus H' ks)) (fun cls d H' => (∀ b ∈ ks.map (·.1), H' b = none) → E cls d (plus H' ks))) s) fun rr s' hq => ?_
    · refine PySem.W.kla_callFunE hr.depth hfo rfl k2 k3 rfl ⟨c', oc, cvs', t, rfl, hoc, hdc, hvc⟩ ?_
      have hb : bindArgs (PySem.W.kla_fn "<lambda>" q params body scope cl pm (.ref c') ctv) ⟨us, []⟩ = pure (ps.zip us) := by
        rw [← hps]
        exact bind_gen ea rfl (by rw [hps]; exact nd2) (by rw [hps]; exact hul)
      have lim : s.heap.NoLimit := e0.mod.nolimit.keeps fun b o e => (e0.bs b o e).1
      rw [hb]
      refine wpAny_pure (wpAny_newFunctionEnv k4 (fun y hy => k6 y.1 (List.of_mem_zip hy).1) (fun h₁ hns hsb => ⟨lim.fresh _ hsb, ?_⟩) k1)
      show codeAny _ _ (.expr body (PySem.W.envX q scope s.heap.objs.size f (.ref c') cl)) _ _
      generalize henv : PySem.W.envX q scope s.heap.objs.size f (.ref c') cl = env
      have kp : ∀ b o, s.heap.get? b = some o → h₁.get? b = some o := fun b o e => hsb.extBut b o (Nat.ne_of_lt (Heap.lt_size e)) (Heap.get?_push_of_some _ e)
      have gx := gx_lam (A := A) (outer := outer) (s := s) (H := minus H (ks.map (·.1))) (E := fun cls d H' => (∀ b ∈ ks.map (·.1), H' b = none) → E cls d (plus H' ks)) (env := env) G (by rw [← henv]) k1 m3 k4 (by rw [← henv]) hg (hr.deeper _)
      obtain ⟨te, pe, qe⟩ := ((snAll hL n).e gx m5).v
      have hlen : (cvs ++ vs).length = (names ++ ps).length := by
        rw [List.length_append, List.length_append, cf.length, rv.length, hul, Paired.length hcap]
      have J : Inv (lamX c P w mg base A outer s (minus H (ks.map (·.1))) (fun cls d H' => (∀ b ∈ ks.map (·.1), H' b = none) → E cls d (plus H' ks)) (names ++ ps) env) [] ((cvs ++ vs).map some) (minus H (ks.map (·.1))) { s with heap := h₁, toks := s.toks + (ps.zip us).length } := by
        subst henv
        have noA : ∀ b : Addr, b ∉ (lamX c P w mg base A outer s (minus H (ks.map (·.1))) (fun cls d H' => (∀ b ∈ ks.map (·.1), H' b = none) → E cls d (plus H' ks)) (names ++ ps) (PySem.W.envX q scope s.heap.objs.size f (.ref c') cl)).ex := fun b z => absurd (show b ∈ ([] : List Addr) from z) (by simp)
        have cell : ∀ {x : Str} {b : Addr}, cl.lookup x = some b → ∃ u, h₁.IsCell b (some u) := fun {x b} e => by
          obtain ⟨i, hi⟩ := ix (hin x b e)
          obtain ⟨b', o', u, v, z1, z2, z3, z4, z5⟩ := cv i x hi
          rw [e] at z2
          cases z2
          exact ⟨u, o', kp _ _ (e0.hok b _ z3).1, z4⟩
        refine ⟨⟨em.mod, k1, rfl, rfl, Nat.le_refl _, fun y z b e1 e2 => hinj y z b e1 e2, fun y hy => ?_, fun y b z _ => ?_, fun _ => hr.hd, Around.frames_deeper em.frames, .inr ⟨rfl, rfl⟩, fun b z => absurd z (noA b), em.bs, em.bsz, fun b _ _ => noA b, fun b z => absurd z (noA b), em.funs, em.frf⟩,
          rfl, em.bare, Un.kept kp, ⟨_, hns, fun i y v e1 e2 e3 => ?_⟩, fun y b e => ?_, em.hok.fresh (Nat.le_refl _), fun y b e => minus_in (has e), fun q hq => absurd (show q ∈ ([] : List (Addr × Obj)) ++ [] from hq) (by simp), em.hok.kept kp, ?_⟩
        · have hy : scope.names.lookup y = some .cell ∨ scope.names.lookup y = some .free := hy
          rcases hy with hy | hy
          · exact absurd rfl (k4 _ (PySem.mem_of_lookup hy))
          · obtain ⟨i, hi⟩ := ix (k5 _ (PySem.mem_of_lookup hy) rfl)
            obtain ⟨b', o', u, v, z1, z2, _⟩ := cv i y hi
            exact ⟨b', z2⟩
        · have z : false = true := z
          cases z
        · have e1 : (names ++ ps)[i]? = some y := e1
          have e3 : Vis scope y := e3
          have e2' : (cvs ++ vs)[i]? = some v := by
            rw [List.getElem?_map] at e2
            cases z : (cvs ++ vs)[i]? with
            | none => rw [z] at e2; cases e2
            | some v' => rw [z] at e2; cases e2; rfl
          have hcl : cvs.length = names.length := by rw [cf.length, Paired.length hcap]
          by_cases hi : i < names.length
          · rw [List.getElem?_append_left hi] at e1
            rw [List.getElem?_append_left (by omega)] at e2'
            obtain ⟨b', o', u, v', z1, z2, z3, z4, z5⟩ := cv i y e1
            rw [e2'] at z1
            cases z1
            refine ⟨u, z5, .inr ⟨.inr ?_, b', z2, o', kp _ _ (e0.hok b' _ z3).1, z4⟩⟩
            exact k7 y (List.mem_of_getElem? e1)
          · rw [List.getElem?_append_right (by omega)] at e1
            rw [List.getElem?_append_right (by omega)] at e2'
            rw [hcl] at e2'
            obtain ⟨u, hu, ru⟩ := rv.get e2'
            refine ⟨u, ru, .inl ⟨k6 y (List.mem_of_getElem? e1), ?_⟩⟩
            exact rev_lookup nd2 hul e1 hu
        · obtain ⟨u, z⟩ := cell e
          exact ⟨some u, z⟩
        · rw [List.length_map]
          exact hlen
      have sr : SR c (liv α h) α (minus H (ks.map (·.1))) ((caps ++ ds).map fun x => some (Val.d x)) ((cvs ++ vs).map some) := by
        have ff : FDs c.K (liv α h) (minus H (ks.map (·.1))) (cvs ++ vs) (caps ++ ds) := FDs.diff km (cf.append fs)
        refine ⟨by rw [List.length_map, List.length_map, ff.length], fun i x e => ?_⟩
        rw [List.getElem?_map] at e
        cases z : (caps ++ ds)[i]? with
        | none => rw [z] at e; cases e
        | some d =>
          rw [z] at e
          cases e
          obtain ⟨v, hv, fv⟩ := ff.get z
          exact ⟨v, by rw [List.getElem?_map, hv]; rfl, fv⟩
      refine PySem.W.kla_codeExpr (wpAny_mono (pe.run [] _ _ _ (fun v H' => (∀ b ∈ ks.map (·.1), H' b = none) → Q v (plus H' ks)) J (qe α _ h _ _ _ rm sr ?_)) (fun v s' hq => ?_) fun e s' hq => hq)
      · cases eo : ev C ((caps ++ ds).map fun x => some (Val.d x)) ld.body h with
        | ok v h1 =>
          rw [eo] at p
          cases v with
          | d x =>
            intro v' α' H' r' s' z gone
            obtain ⟨rc, sc⟩ := rm.cut r' s'
            have kp' := KDiff.plus H' ks fun b o e => gone b (look_mem.mpr ⟨o, e⟩)
            exact p v' α _ (rc.diff kp') (stp_less kn rc gone sc) (FD.diff kp' (fd_cut rm r' s' z))
          | _ => exact p.elim
        | exc x h1 =>
          rw [eo] at p
          intro cls d α' H' r' s' z gone
          have kp' := KDiff.plus H' ks fun b o e => gone b (look_mem.mpr ⟨o, e⟩)
          exact p cls d α' _ (r'.diff kp') (stp_less kn r' gone s') (XR.diff kp' z)
        | stuck => rw [eo] at p; exact p.elim
      · obtain ⟨w', H', J', rv', q'⟩ := hq
        exact ⟨w', H', J'.os, J'.bare, J'.base, J'.hok, rv', q'⟩
    · match rr, hq with
      | .error e, hq => exact cx_minus kn e0.hok e0.frf hq
      | .ok (.ret u), hq => exact ce_minus kn e0.hok e0.frf hq
  · cases hm
end
end RR

-- RR20
set_option maxHeartbeats 4000000
/-! The levels; a law's end. -/
namespace RR
open PySem PySem.Spec L2 PyProof.Rows
/-- the heap known at the law's call: the script, the defs' empty tables -/
def H0 (K : PySem.W.Frag) (a : Addr) (o : Obj) (xs : List V) (ts : List Addr) : Hp := fun b => if b ∈ ts then some (.tbl #[]) else if b = a then (match K.lookup a with | none => some (.frz o (.lst xs)) | some _ => none) else none
theorem H0_tab {K : PySem.W.Frag} {a b : Addr} {o : Obj} {xs : List V} {ts : List Addr} (h : b ∈ ts) : H0 K a o xs ts b = some (.tbl #[]) := if_pos h
theorem H0_a {K : PySem.W.Frag} {a : Addr} {o : Obj} {xs : List V} {ts : List Addr} (h : a ∉ ts) (hk : K.lookup a = none) : H0 K a o xs ts a = some (.frz o (.lst xs)) := by
  unfold H0
  rw [if_neg h, if_pos rfl, hk]
theorem H0_out {K : PySem.W.Frag} {a b : Addr} {o : Obj} {xs : List V} {ts : List Addr} {u : HO} (e : H0 K a o xs ts b = some u) : (b ∈ ts ∧ u = .tbl #[]) ∨ (b ∉ ts ∧ b = a ∧ K.lookup a = none ∧ u = .frz o (.lst xs)) := by
  unfold H0 at e
  by_cases h : b ∈ ts
  · rw [if_pos h] at e; cases e; exact .inl ⟨h, rfl⟩
  · rw [if_neg h] at e
    by_cases h2 : b = a
    · rw [if_pos h2] at e
      cases hk : K.lookup a with
      | none => rw [hk] at e; cases e; exact .inr ⟨h, h2, rfl, rfl⟩
      | some _ => rw [hk] at e; cases e
    · rw [if_neg h2] at e; cases e
section
variable {P : Program} {w : World} {K : PySem.W.Frag} {mg mb : Str → Option Value}
theorem law_endG {k : Nat} {fa a : Addr} {cs : List (Addr × Addr)} {fd : FuncData} {x : Str} {sp : Sp} {s : Shared} {vs : List Value} {ns : List Int}
    (KX : K.In s.heap) (hns : s.heap.Ns mainGlobals mg) (hb : s.heap.Ns builtinsNs mb) (hbb : ∀ x : Str, x ≠ "__name__" → mb x = bootBuiltins x) (hlim : s.heap.NoLimit) (hg : s.gens = #[])
    (hT : ∀ p ∈ cs, s.heap.get? p.2 = some { cls := .none, data := .fields #[] }) (nT : ∀ p ∈ cs, K.lookup p.2 = none) (C : ∀ p ∈ cs, PySem.W.CodeHd s.heap p.1 p.2)
    (hbm : ∃ (bm : Addr) (ob : Obj), mg "__builtins__" = some (.ref bm) ∧ bm ≠ builtinsNs ∧ s.heap.get? bm = some ob ∧ ob.cls = .type "module" ∧ ob.dict = some builtinsNs ∧ ob.data = .plain)
    (ha : s.heap.get? a = some { cls := .type "list", data := .seq vs.toArray }) (hi : IntsAre vs ns) (hl : ns.length ≤ sizeLine) (hr : Room k callerA)
    (F : ∀ base : Heap, K.In base → base.Ns mainGlobals mg → (∀ p ∈ cs, LamX.TabB base mg p.1 p.2) → FnG P w K mg base k fa fd [x] sp) (hbind : ∀ (s : Shared) (u : Value), BindsTo s fd ⟨[u], []⟩ [(x, u)])
    (hsp : sp [.ref a] (H0 K a { cls := .type "list", data := .seq vs.toArray } (ns.map V.int) (cs.map (·.2))) (fun v _ => v = .bl true) fun _ _ _ => False) :
    codeAny (model P w) callerA (.call (.ref fa) ⟨[.ref a], []⟩) (fun r s' => r = .ok (.ret (.bool true)) ∧ OldK s.heap s'.heap ∧ s'.os = s.os ∧ AllBare s'.gens) s := by
  have rv := vals_ints hi
  have tabOf : ∀ b, b ∈ cs.map (·.2) → s.heap.get? b = some { cls := .none, data := .fields #[] } := fun b hb => by
    obtain ⟨p, hp, rfl⟩ := List.mem_map.mp hb
    exact hT p hp
  have aOut : a ∉ cs.map (·.2) := fun z => by
    have q := tabOf a z
    rw [ha] at q
    exact nomatch (congrArg Obj.data (Option.some.inj q) : Data.seq vs.toArray _ = Data.fields #[])
  generalize hH : H0 K a { cls := .type "list", data := .seq vs.toArray } (ns.map V.int) (cs.map (·.2)) = H at hsp
  have out : ∀ {b u}, H b = some u → (b ∈ cs.map (·.2) ∧ u = .tbl #[]) ∨ (b ∉ cs.map (·.2) ∧ b = a ∧ K.lookup a = none ∧ u = .frz { cls := .type "list", data := .seq vs.toArray } (.lst (ns.map V.int))) := fun {b u} e => H0_out (by rw [← hH] at e; exact e)
  have ok : HOk P w H s.heap := fun b u e => by
    rcases out e with ⟨h1, rfl⟩ | ⟨_, rfl, _, rfl⟩
    · exact tabOf b h1
    · exact ⟨ha, by rw [List.length_map]; exact hl, vs, _, rv, ha⟩
  -- an object that is neither list nor empty table is not tracked
  have free : ∀ {b : Addr} {o : Obj}, s.heap.get? b = some o → (∀ xs n, o.data ≠ .seq xs n) → o.data ≠ .fields #[] → H b = none := fun {b o} e n1 n2 => by
    cases q : H b with
    | none => rfl
    | some u =>
      rcases out q with ⟨h1, _⟩ | ⟨_, rfl, _⟩
      · rw [tabOf b h1] at e; cases e; exact absurd rfl n2
      · rw [ha] at e; cases e; exact absurd rfl (n1 _ _)
  have ns' : ∀ {b : Addr} {m : Str → Option Value}, s.heap.Ns b m → (hidT s.heap H).Ns b m := fun {b m} ⟨o, es, ep, e, d, r⟩ =>
    ⟨o, es, ep, hidT_get e (free e (fun xs n z => by rw [d] at z; cases z) (fun z => by rw [d] at z; cases z)), d, r⟩
  have KB : K.In (hidT s.heap H) := fun b o e => hidT_get (KX b o e) (by
    cases q : H b with
    | none => rfl
    | some u =>
      rcases out q with ⟨h1, _⟩ | ⟨_, rfl, h2, _⟩
      · obtain ⟨p, hp, rfl⟩ := List.mem_map.mp h1
        rw [nT p hp] at e; cases e
      · rw [h2] at e; cases e)
  have md : L2.Mod K mg (hidT s.heap H) := ⟨KB, ns' hns, ⟨mb, ns' hb, hbb⟩, let ⟨mc, h1, h2⟩ := hlim; ⟨mc, ns' h1, h2⟩⟩
  have TB : ∀ p ∈ cs, LamX.TabB (hidT s.heap H) mg p.1 p.2 := fun p hp => by
    refine ⟨?_, ?_, fun z => ?_⟩
    · obtain ⟨o, us, file, tf, flags, tg, inF, text, tt, e1, r1, r2, r3, rest⟩ := C p hp
      refine ⟨o, us, file, tf, flags, tg, inF, text, tt, hidT_get e1 (free e1 (fun xs n z => ?_) fun z => ?_), r1, r2, r3, rest⟩
      · rw [r2] at z; cases z
      · rw [r2] at z; cases z; simp at r3
    · obtain ⟨bm, ob, b1, b2, b3, b4, b5, b6⟩ := hbm
      refine ⟨bm, ob, b1, b2, fun q => ?_, fun q => ?_, hidT_get b3 (free b3 (fun xs n z => ?_) fun z => ?_), b4, b5, b6⟩
      · obtain ⟨o, es, ep, e, hd, _⟩ := hns
        rw [q, e] at b3; cases b3
        rw [hd] at b6; cases b6
      · rw [q, hT p hp] at b3; cases b3; cases b6
      · rw [b6] at z; cases z
      · rw [b6] at z; cases z
    · obtain ⟨o, es, ep, e, hd, _⟩ := hns
      rw [z, hT p hp] at e; cases e; cases hd
  have e0 : Env0 P w K mg (hidT s.heap H) callerA [] s H := ⟨rfl, md, fun b o e => of_hidT e, Nat.le_of_eq (hidT_size _ _), trivial, fun b hb => (by cases hb), ok, .of_eq hg⟩
  refine codeAny_mono ((F _ KB (ns' hns) TB).run callerA [] s H ⟨[.ref a], []⟩ [.ref a] [.ref a] _ _ rfl hr e0 (hbind s (.ref a)) (.cons rfl .nil) hsp) fun r s' h => ?_
  match r, h with
  | .error e, h =>
    obtain ⟨_, _, _, _, _, _, _, _, _, _, _, _, z⟩ := h
    exact z.elim
  | .ok (.ret u), h =>
    obtain ⟨v, H', os, bare, un, ok', r', q⟩ := h
    have q' : v = .bl true := q
    subst q'
    obtain rfl : u = Value.bool true := r'
    have same : ∀ b o, b ∉ cs.map (·.2) → s.heap.get? b = some o → s'.heap.get? b = some o := fun b o nb e => by
      cases q : H b with
      | none => exact un.keep b o e q (fun z => by cases z) (fun z => by cases z)
      | some u =>
        rcases out q with ⟨h1, _⟩ | ⟨_, rfl, _, rfl⟩
        · exact absurd h1 nb
        · rw [ha] at e; cases e
          exact (ok' b _ (un.frzs b _ _ q)).1
    have grown : ∀ p ∈ cs, ∃ more : Array Value, s'.heap.get? p.2 = some { cls := .none, data := .fields more } := fun p hp => by
      obtain ⟨more, z⟩ := un.tbls p.2 #[] (by rw [← hH]; exact H0_tab (List.mem_map.mpr ⟨p, hp, rfl⟩))
      exact ⟨_, ok' p.2 _ z⟩
    refine ⟨rfl, ⟨fun b o e => ?_, fun b o e => ?_⟩, os, bare⟩
    · by_cases hb : b ∈ cs.map (·.2)
      · obtain ⟨p, hp, rfl⟩ := List.mem_map.mp hb
        obtain ⟨more, hm⟩ := grown p hp
        rw [hT p hp] at e
        cases e
        exact .inr (.inl ⟨((C p hp).tab (hT p hp)).isCodeTable, rfl, #[], more, rfl, by rw [Array.empty_append]; exact hm⟩)
      · exact .inl (same b o hb e)
    · by_cases hb : b ∈ cs.map (·.2)
      · obtain ⟨p, hp, rfl⟩ := List.mem_map.mp hb
        obtain ⟨more, hm⟩ := grown p hp
        exact ⟨_, hm⟩
      · exact ⟨o, same b o hb e⟩
end
end RR

-- RR21
set_option maxHeartbeats 4000000
/-! From the head's facts to the law. -/
namespace RR
open PySem PySem.Spec L2 PyProof.Rows
def faOf (tx : Text) : List He.Fa := tx.defs.map (fun d => .glo d.name) ++ tx.free.map .free ++ tx.consts.map fun p => .int p.1 p.2
def ddOf (d : DefT) : He.DefD := ⟨(d.name, none), d.name, d.name, d.params, d.body, d.scope, d.dfl.map He.Dv.int, []⟩
def fnsOf (tx : Text) : List He.DefD := tx.defs.map ddOf
def tfOf (tx : Text) : List He.Defn := tx.defs.filterMap fun d => d.q.map fun _ => (d.name, none)
def TOf (tx : Text) (K : PySem.W.Frag) : List (Addr × Str) := tx.defs.filterMap fun d => d.q.map fun q => ((He.cT K (d.name, none)).2, q)
/-- tables of two names are two -/
def exOf (tx : Text) (K : PySem.W.Frag) : Bool := (TOf tx K).all fun p => (TOf tx K).all fun p' => !(p.1 == p'.1) || decide (p.2 = p'.2)
def cOf (tx : Text) (K : PySem.W.Frag) : Cs where
  K := K
  T := TOf tx K
  adr := fun g => match tx.defs[g]? with
    | some d => He.ga K d.name
    | none => 0
  cls := fun _ => .none
  atr := fun _ => ""
  lamP := fun l params body scope names => ∃ n, mL tx n l params body scope names = true
def plainArgsD : Arguments → Option (List Arg × Nat)
  | ⟨[], as, none, [], [], none, ds⟩ => some (as, ds.length)
  | _ => none
theorem plainArgsD_eq {p : Arguments} {as : List Arg} (h : plainArgsD p = some (as, 0)) : p = ⟨[], as, none, [], [], none, []⟩ := by
  unfold plainArgsD at h
  split at h
  · rename_i as' ds
    cases ds with
    | nil => cases h; rfl
    | cons _ _ => cases h
  · cases h
def okDef (tx : Text) (Pr : Prog) (fuel : Nat) (g : Nat) (d : DefT) : Bool := match Pr.defs[g]? with
  | some f => decide (f.n = d.ps.length) && decide (f.slots = d.N.length) && C8.scC d.N d.ps d.scope && mSs tx fuel ⟨d.N, d.scope, d.scope, d.q⟩ f.body d.body && (match plainArgsD d.params with
    | some (as, m) => decide (as.map (·.arg) = d.ps) && decide d.ps.Nodup && decide (m = d.dfl.length) && decide (m ≤ d.ps.length)
    | none => false) && (match d.q with
    | some q => decide (d.name ++ ".<locals>." ++ "<lambda>" = q)
    | none => true)
  | none => false
def okAll (tx : Text) (Pr : Prog) (fuel : Nat) : Bool := ((List.range tx.defs.length).all fun g => match tx.defs[g]? with
  | some d => okDef tx Pr fuel g d
  | none => false) && decide (Pr.lams.length = tx.lams.length) && tx.kws.all fun q => match tx.defs[q.1]? with
  | some d => d.dfl.isEmpty
  | none => true
def KwOk (tx : Text) : Prop := ∀ g d, tx.defs[g]? = some d → ∀ ks perm, (g, ks, perm) ∈ tx.kws → ∀ (kV doc pm : Value) (an : Option Addr) (cdv ct : Value) (ws us : List Value), ws.length = ks.length → permV perm ws = some us →
  bindArgs (PySem.W.fnOf d.name d.name d.params d.body d.scope .none kV doc pm an cdv ct) ⟨[], ks.zip ws⟩ = pure (d.ps.zip us)
/-- how a def with defaults binds -/
def DfOk (tx : Text) : Prop := ∀ (g : Nat) (d : DefT), tx.defs[g]? = some d → d.dfl ≠ [] → ∀ j, j ≤ d.dfl.length → ∀ (T : Addr) (kV doc pm : Value) (an : Option Addr) (cdv ct : Value) (us its : List Value), us.length + (d.dfl.length - j) = d.ps.length → its.length = d.dfl.length →
  ∃ k, bindArgs (PySem.W.fnOf d.name d.name d.params d.body d.scope (.ref T) kV doc pm an cdv ct) ⟨us, []⟩ = seqItems? (.ref T) >>= k ∧ k (some its.toArray) = pure (d.ps.zip (us ++ its.drop j))
section
variable {tx : Text} {Pr : Prog} {fuel : Nat} {K : PySem.W.Frag} {P : Program} {w : World} {mg : Str → Option Value} {base h : Heap}
abbrev Says (tx : Text) (w : World) (h : Heap) (K : PySem.W.Frag) : Prop := He.SaysX (faOf tx) (fnsOf tx) [] (tfOf tx) (exOf tx) w h K
theorem Says.d (s : Says tx w h K) : He.SaysD (faOf tx) (fnsOf tx) K := congrArg (fun z : He.AlT => z.1) s.t
theorem okAll_def (ok : okAll tx Pr fuel = true) {g : Nat} {d : DefT} (hd : tx.defs[g]? = some d) : okDef tx Pr fuel g d = true := by
  unfold okAll at ok
  simp only [Bool.and_eq_true] at ok
  have z := List.all_eq_true.mp ok.1.1 g (List.mem_range.mpr (List.getElem?_eq_some_iff.mp hd).1)
  rw [hd] at z
  exact z
theorem adr_of {g : Nat} {d : DefT} (hd : tx.defs[g]? = some d) : (cOf tx K).adr g = He.ga K d.name := by
  unfold cOf
  simp only [hd]
theorem lamLink : LamLink (cOf tx K) tx := fun n l params body scope names h => ⟨n, h⟩
theorem mem_tf {g : Nat} {d : DefT} {q : Str} (hd : tx.defs[g]? = some d) (hq : d.q = some q) : (d.name, none) ∈ tfOf tx := by
  unfold tfOf
  exact List.mem_filterMap.mpr ⟨d, List.mem_of_getElem? hd, by rw [hq]; rfl⟩
theorem mem_T {g : Nat} {d : DefT} {q : Str} (hd : tx.defs[g]? = some d) (hq : d.q = some q) : ((He.cT K (d.name, none)).2, q) ∈ TOf tx K := by
  unfold TOf
  exact List.mem_filterMap.mpr ⟨d, List.mem_of_getElem? hd, by rw [hq]; rfl⟩
theorem T_uniq (s : Says tx w h K) {p p' : Addr × Str} (h1 : p ∈ TOf tx K) (h2 : p' ∈ TOf tx K) (e : p.1 = p'.1) : p.2 = p'.2 := by
  have z := List.all_eq_true.mp (List.all_eq_true.mp s.more p h1) p' h2
  rw [e] at z
  simpa using z
/-- one def, one level up -/
theorem fn_level {L : Nat} (s : Says tx w h K) (ok : okAll tx Pr fuel = true) (TB : ∀ p ∈ (tfOf tx).map (He.cT K), LamX.TabB base mg p.1 p.2) (G : GB (cOf tx K) tx (sem Pr L) L P w mg base) {g : Nat} {d : DefT} (hd : tx.defs[g]? = some d) {fd : FuncData} (F : FunD K d.name d.name d.params d.body d.scope (d.dfl.map V.int) [] (He.ga K d.name) fd) :
    FnG P w K mg base (L + 1) (He.ga K d.name) fd d.ps (spF (cOf tx K) ((sem Pr (L + 1)).call g)) := by
  have o := okAll_def ok hd
  unfold okDef at o
  cases ef : Pr.defs[g]? with
  | none => rw [ef] at o; cases o
  | some f =>
    rw [ef] at o
    simp only [Bool.and_eq_true, decide_eq_true_eq] at o
    obtain ⟨⟨⟨⟨⟨o1, o2⟩, o3⟩, o4⟩, o5⟩, o6⟩ := o
    obtain ⟨oc, od, dV, kV, doc, pm, an, cdv, ct, osl, rfl, lk, hcd, hD, hK⟩ := F.ex
    have hq : DefLam (cOf tx K) mg base d.name cdv d.q := fun q0 e => by
      rw [e] at o6
      obtain ⟨ca, rfl⟩ := He.codeIn_ref hcd
      have ec : He.codeOf K (d.name, none) = ca := He.codeOf_eq (p := (d.name, none)) lk rfl
      have hm := mem_tf hd e
      have tb := TB (He.cT K (d.name, none)) (List.mem_map.mpr ⟨_, hm, rfl⟩)
      refine ⟨of_decide_eq_true o6, ca, (He.cT K (d.name, none)).2, ?_, rfl, mem_T hd e, fun p hp ep => T_uniq s hp (mem_T hd e) ep⟩
      have e1 : (He.cT K (d.name, none)).1 = ca := ec
      rw [e1] at tb
      exact tb
    have z := fnG_of (wf := Pr.wf) (is := f.body) G lk hcd (C8.fnScope_by o3) lamLink hq o4
    have e : (sem Pr (L + 1)).call g = fun vs h => if vs.length = d.ps.length then finish h.length (exs (sem Pr L) Pr.wf (begin_ d.N.length vs) f.body h) else .stuck := by
      funext vs h
      show runDef Pr (sem Pr L) g vs h = _
      unfold runDef
      rw [ef]
      dsimp only
      rw [o1, o2]
    rw [e]
    exact z
theorem fun_of (s : Says tx w h K) {g : Nat} {d : DefT} (hd : tx.defs[g]? = some d) : ∃ fd, FunD K d.name d.name d.params d.body d.scope (d.dfl.map V.int) [] (He.ga K d.name) fd := by
  obtain ⟨fd, F⟩ := s.d.defs (d := ddOf d) (List.mem_map.mpr ⟨d, List.mem_of_getElem? hd, rfl⟩)
  have e : (ddOf d).dvs K = d.dfl.map V.int := by
    show (d.dfl.map He.Dv.int).map (He.Dv.v K) = _
    rw [List.map_map]
    rfl
  rw [e] at F
  exact ⟨fd, F⟩
theorem binds_all (ok : okAll tx Pr fuel = true) {g : Nat} {d : DefT} (hd : tx.defs[g]? = some d) (he : d.dfl = []) {fd : FuncData} {f : Addr} (F : FunD K d.name d.name d.params d.body d.scope (d.dfl.map V.int) [] f fd) : Binds K fd d.ps [] ∧ ∀ (s : Shared) (us : List Value), us.length = d.ps.length → BindsTo s fd ⟨us, []⟩ (d.ps.zip us) := by
  have o := okAll_def ok hd
  unfold okDef at o
  cases ef : Pr.defs[g]? with
  | none => rw [ef] at o; cases o
  | some f =>
    rw [ef] at o
    simp only [Bool.and_eq_true, decide_eq_true_eq] at o
    obtain ⟨⟨⟨⟨⟨o1, o2⟩, o3⟩, o4⟩, o5⟩, o6⟩ := o
    cases ea : plainArgsD d.params with
    | none => rw [ea] at o5; cases o5
    | some am =>
      obtain ⟨as, m⟩ := am
      rw [ea] at o5
      simp only [Bool.and_eq_true, decide_eq_true_eq] at o5
      obtain ⟨⟨⟨p1, p2⟩, p3⟩, p4⟩ := o5
      rw [he] at p3
      subst p3
      have hb : ∀ (kV doc pm : Value) (an : Option Addr) (cdv ct : Value) (us : List Value), us.length = d.ps.length → bindArgs (PySem.W.fnOf d.name d.name d.params d.body d.scope .none kV doc pm an cdv ct) ⟨us, []⟩ = pure (d.ps.zip us) := fun kV doc pm an cdv ct us hl => by
        rw [← p1]
        exact bind_gen (plainArgsD_eq ea) rfl (by rw [p1]; exact p2) (by rw [p1]; exact hl)
      rw [he] at F
      exact ⟨F.bindsN hb, F.bindsA hb⟩
theorem binds_of (ok : okAll tx Pr fuel = true) (df : DfOk tx) {g : Nat} {d : DefT} (hd : tx.defs[g]? = some d) {fd : FuncData} {f : Addr} (F : FunD K d.name d.name d.params d.body d.scope (d.dfl.map V.int) [] f fd) (j : Nat) (hj : j ≤ d.dfl.length) : ∃ ds, Vals ((d.dfl.drop j).map V.int) ds ∧ Binds K fd d.ps ds := by
  by_cases he : d.dfl = []
  · refine ⟨[], ?_, (binds_all ok hd he F).1⟩
    rw [he]
    simp
    exact .nil
  · have o := okAll_def ok hd
    unfold okDef at o
    cases ef : Pr.defs[g]? with
    | none => rw [ef] at o; cases o
    | some f =>
      rw [ef] at o
      simp only [Bool.and_eq_true, decide_eq_true_eq] at o
      obtain ⟨⟨⟨⟨⟨o1, o2⟩, o3⟩, o4⟩, o5⟩, o6⟩ := o
      cases ea : plainArgsD d.params with
      | none => rw [ea] at o5; cases o5
      | some am =>
        obtain ⟨as, m⟩ := am
        rw [ea] at o5
        simp only [Bool.and_eq_true, decide_eq_true_eq] at o5
        obtain ⟨⟨⟨p1, p2⟩, p3⟩, p4⟩ := o5
        have hm : (d.dfl.map V.int).length = d.dfl.length := List.length_map ..
        have z := F.binds1 (d.ps.length - (d.dfl.length - j)) j (fun e => he (List.map_eq_nil_iff.mp e)) (by rw [hm]; omega) fun T kV doc pm an cdv ct us its hu hi => df g d hd he j hj T kV doc pm an cdv ct us its (by omega) (by rw [hi, hm])
        rw [List.map_drop]
        exact z
theorem gb_level (s : Says tx w h K) (ok : okAll tx Pr fuel = true) (kw : KwOk tx) (df : DfOk tx) (hl : Pr.lams = tx.lams) (KB : K.In base) (ns : base.Ns mainGlobals mg) (TB : ∀ p ∈ (tfOf tx).map (He.cT K), LamX.TabB base mg p.1 p.2) : ∀ L, GB (cOf tx K) tx (sem Pr L) L P w mg base := by
  have fa : ∀ {f}, f ∈ faOf tx → f.ok K = true := fun hf => s.d.facts hf
  have mk : ∀ L, (∀ l, LamG (cOf tx K) P w mg base L l ((sem Pr L).lam l)) → (∀ g d, tx.defs[g]? = some d → ∀ fd, FunD K d.name d.name d.params d.body d.scope (d.dfl.map V.int) [] (He.ga K d.name) fd → FnG P w K mg base L (He.ga K d.name) fd d.ps (spF (cOf tx K) ((sem Pr L).call g))) → GB (cOf tx K) tx (sem Pr L) L P w mg base := fun L lam fn => by
    refine ⟨lam, fun x hx => ?_, fun p hp => ?_, fun g d hd => ?_⟩
    · exact He.free_ok KB ns (fa (by unfold faOf; exact List.mem_append_left _ (List.mem_append_right _ (List.mem_map.mpr ⟨x, hx, rfl⟩))))
    · exact He.int_ok KB ns (fa (by unfold faOf; exact List.mem_append_right _ (List.mem_map.mpr ⟨p, hp, rfl⟩)))
    · obtain ⟨fd, F⟩ := fun_of s hd
      have kp := F.kp
      have bs := binds_of ok df hd F
      have g1 := fn g d hd fd F
      obtain ⟨oc, od, dV, kV, doc, pm, an, cdv, ct, osl, rfl, lk, hcd, hD, hK⟩ := F.ex
      rw [adr_of hd]
      obtain ⟨ds0, rd0, b1⟩ := bs d.dfl.length (Nat.le_refl _)
      rw [List.drop_length] at rd0
      cases rd0
      refine ⟨He.glo_ok KB ns (fa (by unfold faOf; exact List.mem_append_left _ (List.mem_append_left _ (List.mem_map.mpr ⟨d, List.mem_of_getElem? hd, rfl⟩)))), kp, _, g1, b1, fun ks perm hk s0 ws us _ hlen hp => ?_, bs⟩
      have hne : d.dfl = [] := by
        unfold okAll at ok
        simp only [Bool.and_eq_true] at ok
        have z := List.all_eq_true.mp ok.2 _ hk
        simp only [hd] at z
        exact List.isEmpty_iff.mp z
      rcases hD with ⟨_, rfl⟩ | ⟨z, _⟩
      · exact .of_eq (kw g d hd ks perm hk kV doc pm an cdv ct ws us hlen hp)
      · exact absurd (by rw [hne]; rfl) z
  intro L
  induction L with
  | zero =>
    refine mk 0 (fun l A outer s H f us vs Q E caps ds α h hg hr e0 q r fs rv p => p.elim) fun g d hd fd F => ⟨fun vs H Q E ⟨α, h, as, r, z, p⟩ => p.elim, fun A outer s H args us vs Q E hg hr e0 hb rv ⟨α, h, as, r, z, p⟩ => p.elim⟩
  | succ L ih =>
    refine mk (L + 1) (fun l A outer s0 H f us vs Q E caps ds α h0 hg hr e0 q r fs rv p => ?_) fun g d hd fd F => fn_level s ok TB ih hd F
    obtain ⟨qn, params, body, scope, names, cl, c', pm, ctv, ⟨n, e1⟩, e2, e3, e4, e5, e6⟩ := q
    have p : Post (cOf tx K) (RV (cOf tx K)) α h0 H (runLam Pr (sem Pr L) l caps ds h0) Q E := p
    unfold runLam at p
    rw [hl] at p
    cases el : tx.lams[l]? with
    | none => rw [el] at p; exact p.elim
    | some ld =>
      rw [el] at p
      simp only at p
      split at p
      · rename_i hc
        exact lam_run ih lamLink el e1 hg hr e0 e2 e3 e4 e5 e6 r fs rv hc.1 p
      · exact p.elim
/-- THE END: what the interpreter says of the law is what the law does -/
theorem law_walk {l : PySem.W.OpenLaw} {n L : Nat} {q : Program} {loose : List Str} {XP : (Str → Option Value) → Heap → Prop} {d : DefRec} {gl : Nat} {dl : DefT} {x : Str} (hn : l.most = some n) (hn2 : n ≤ sizeLine) (hdf : d.params.defaults = []) (hr : Room (L + 1) callerA)
    (ok : okAll tx Pr fuel = true) (kw : KwOk tx) (df : DfOk tx) (hl : Pr.lams = tx.lams) (hgl : tx.defs[gl]? = some dl) (hnm : d.name = dl.name) (hps : dl.ps = [x]) (hdl : dl.dfl = [])
    (plain : ∀ ns : List Int, ns.length ≤ n → (∀ z ∈ ns, Builtin.Int.intBits z ≤ 1048576) → ∃ h', (sem Pr (L + 1)).call gl [.d (.list (ns.map .int))] [] = .ok (.d (.bool true)) h') :
    PySem.W.WalkO q loose XP (fun w h => ∃ K : PySem.W.Frag, K.In h ∧ Says tx w h K) l.row.toRowW d [] (fun f vs => PySem.call f vs) := by
  refine Att.attach_callB hn hdf fun w s₀ s₁ mg mb fa o pm cd doc a vs ns G Y ho hd hcd hmg hobj hints hlen hbits hg => ?_
  obtain ⟨K, KX, sx⟩ := Y
  obtain ⟨fd, F⟩ := fun_of sx hgl
  have e1 : mg dl.name = some (.ref (He.ga K dl.name)) := He.glo_ok KX G.T.g (sx.d.facts (by unfold faOf; exact List.mem_append_left _ (List.mem_append_left _ (List.mem_map.mpr ⟨dl, List.mem_of_getElem? hgl, rfl⟩))))
  rw [hnm, e1] at hmg
  obtain rfl : fa = He.ga K dl.name := by injection hmg with z; injection z with z; exact z.symm
  have hT : ∀ p ∈ (tfOf tx).map (He.cT K), s₁.heap.get? p.2 = some { cls := .none, data := .fields #[] } := fun p hp => by
    obtain ⟨z, hz, rfl⟩ := List.mem_map.mp hp
    exact sx.empty z hz
  have nT : ∀ p ∈ (tfOf tx).map (He.cT K), K.lookup p.2 = none := fun p hp => by
    obtain ⟨z, hz, rfl⟩ := List.mem_map.mp hp
    exact sx.out z hz
  have hC : ∀ p ∈ (tfOf tx).map (He.cT K), PySem.W.CodeHd s₁.heap p.1 p.2 := fun p hp => by
    obtain ⟨z, hz, rfl⟩ := List.mem_map.mp hp
    exact PySem.W.codeHd_of_K KX (sx.hd z hz)
  have aOut : a ∉ ((tfOf tx).map (He.cT K)).map (·.2) := fun z => by
    obtain ⟨p, hp, e⟩ := List.mem_map.mp z
    have q := hT p hp
    rw [e, hobj] at q
    exact nomatch (congrArg Obj.data (Option.some.inj q) : Data.seq vs.toArray _ = Data.fields #[])
  have hbind : ∀ (s : Shared) (u : Value), BindsTo s fd ⟨[u], []⟩ [(x, u)] := fun s u => by
    have z := (binds_all ok hgl hdl F).2 s [u] (by rw [hps]; rfl)
    rw [hps] at z
    exact z
  refine law_endG (fd := fd) (x := x) (sp := spF (cOf tx K) ((sem Pr (L + 1)).call gl)) KX G.T.g G.T.b G.T.builtins G.T.nolimit hg hT nT hC G.T.bmain hobj hints (Nat.le_trans hlen hn2) hr (fun base KB hns TB => ?_) hbind ?_
  · have z := fn_level sx ok TB (gb_level (P := l.prog) sx ok kw df hl KB hns TB L) hgl F
    rw [hps] at z
    exact z
  · obtain ⟨h', e⟩ := plain ns hlen hbits
    refine ⟨[], [], [.d (.list (ns.map .int))], ⟨rfl, fun n xs e => (by cases e), fun n m a xs ys e => (by cases e), fun p hp => ?_⟩, .cons ?_ .nil, ?_⟩
    · obtain ⟨d0, hd0, e0⟩ := List.mem_filterMap.mp (show p ∈ TOf tx K from hp)
      cases hq : d0.q with
      | none => rw [hq] at e0; cases e0
      | some q0 =>
        rw [hq] at e0
        cases e0
        refine LamX.TabS.nil (H0_tab (List.mem_map.mpr ⟨He.cT K (d0.name, none), List.mem_map.mpr ⟨_, ?_, rfl⟩, rfl⟩))
        unfold tfOf
        exact List.mem_filterMap.mpr ⟨d0, hd0, by rw [hq]; rfl⟩
    · show FD K _ _ (.ref a) (.list (ns.map .int))
      have rv := vals_ints hints
      cases hk : K.lookup a with
      | none => exact .lst (.inr ⟨_, H0_a aOut hk⟩) (fun ⟨n, xs, z, _⟩ => (by cases z)) (fds_ints ns)
      | some o' =>
        have e := KX a o' hk
        rw [hobj] at e
        cases e
        refine .klst ⟨_, vs.toArray, _, hk, rfl, rfl, rfl, ?_, by simpa using rv⟩ (fds_ints ns)
        rw [List.size_toArray, hints.length]
        exact Nat.le_trans hlen hn2
    · rw [e]
      intro v' α' H' r s z
      cases z
      rfl
end
end RR

-- RP
set_option maxHeartbeats 1000000
/-! Plain lemmas of the interpreter. -/
namespace RR.Q
open PySem
theorem push_at {h0 : IH} {acc : List D} {y : D} (hl : acc.length < lim) : pushC h0.length y (h0 ++ [.lst acc]) = some (h0 ++ [.lst (acc ++ [y])]) := by
  unfold pushC
  rw [List.getElem?_append_right (Nat.le_refl _), Nat.sub_self]
  simp [hl]
/-- a comprehension whose turns leave the heap -/
theorem lcLoop_pure {f : D → IH → Res (Option D)} {g : D → Option D} {h0 : IH} : ∀ {items : List D} {acc : List D}, (∀ x ∈ items, ∀ acc, f x (h0 ++ [.lst acc]) = .ok (g x) (h0 ++ [.lst acc])) → acc.length + items.length ≤ lim →
    lcLoop h0.length f items (h0 ++ [.lst acc]) = .ok () (h0 ++ [.lst (acc ++ items.filterMap g)])
  | [], acc, _, _ => by simp [lcLoop]
  | x :: r, acc, hf, hl => by
    simp only [List.length_cons] at hl
    rw [lcLoop, hf x List.mem_cons_self acc]
    simp only [bind_ok]
    cases hg : g x with
    | none =>
      simp only [List.filterMap_cons, hg]
      exact lcLoop_pure (fun z hz => hf z (List.mem_cons_of_mem _ hz)) (by omega)
    | some y =>
      simp only [push_at (h0 := h0) (acc := acc) (y := y) (by omega)]
      rw [lcLoop_pure (acc := acc ++ [y]) (fun z hz => hf z (List.mem_cons_of_mem _ hz)) (by rw [List.length_append]; simp; omega)]
      simp [List.filterMap_cons, hg]
theorem lcEnd_at {h0 : IH} {acc : List D} : lcEnd h0.length (h0 ++ [.lst acc]) = .ok (.d (.list acc)) h0 := by
  unfold lcEnd
  rw [List.getElem?_append_right (Nat.le_refl _), Nat.sub_self]
  simp
theorem lc_pure {f : D → IH → Res (Option D)} {g : D → Option D} {h0 : IH} {items : List D} (hf : ∀ x ∈ items, ∀ acc, f x (h0 ++ [.lst acc]) = .ok (g x) (h0 ++ [.lst acc])) (hl : items.length ≤ lim) :
    ((lcLoop h0.length f items (h0 ++ [.lst []])).calm.bind fun _ h2 => lcEnd h0.length h2) = .ok (.d (.list (items.filterMap g))) h0 := by
  rw [lcLoop_pure hf (by simpa using hl)]
  simp [lcEnd_at]
/-- a comprehension's turn -/
def cndP (C : Sem) (env : Env) (cond : IE) (h : IH) : Res Bool := if cond.isNop then .ok true h else (ev C env cond h).bind fun v h2 => ofO (truth v h2) h2
def turnP (C : Sem) (env0 : Env) (tg : Tg) (cond elt : IE) (x : D) (h : IH) : Res (Option D) := match bindT tg x env0 with
  | some env1 => (cndP C env1 cond h).bind fun b h2 => if b then (ev C env1 elt h2).bind fun y h3 => (asD y h3).bind fun y h4 => .ok (some y) h4 else .ok none h2
  | none => .stuck
def turnP2 (C : Sem) (n : Nat) (env0 : Env) (tg : Tg) (k2 : Ik) (its2 : List IE) (tg2 : Tg) (cond elt : IE) (x : D) (h : IH) : Res Unit := match bindT tg x env0 with
  | some env1 => (itr k2 (evs C env1 its2 h)).bind fun items2 h2 => lcLoop n (turnP C (wipeE env1 (tgs tg2)) tg2 cond elt) items2 h2
  | none => .stuck
theorem evP_lc (C : Sem) (env : Env) (k : Ik) (its : List IE) (tg : Tg) (cond elt : IE) (h : IH) : ev C env (.lc k its tg cond elt) h = (itr k (evs C env its h)).bind fun items h1 => (lcLoop h1.length (turnP C (wipeE env (tgs tg)) tg cond elt) items (h1 ++ [.lst []])).calm.bind fun _ h2 => lcEnd h1.length h2 := by
  rw [ev]; rfl
theorem evP_lc2 (C : Sem) (env : Env) (k : Ik) (its : List IE) (tg : Tg) (k2 : Ik) (its2 : List IE) (tg2 : Tg) (cond elt : IE) (h : IH) : ev C env (.lc2 k its tg k2 its2 tg2 cond elt) h = (itr k (evs C env its h)).bind fun items h1 => (lcLoop2 (turnP2 C h1.length (wipeE env (tgs tg ++ tgs tg2)) tg k2 its2 tg2 cond elt) items (h1 ++ [.lst []])).calm.bind fun _ h2 => lcEnd h1.length h2 := by
  rw [ev]; rfl
def biP (xs : List Val) (h : IH) : Option (List D) := match xs with
  | [x] => (dat x h).map fun x => [x]
  | _ => dats xs h
theorem evP_bi (C : Sem) (env : Env) (b : Bi) (es : List IE) (h : IH) : ev C env (.bi b es) h = (evs C env es h).bind fun xs h1 => match biP xs h1 with
    | some ds => ofO ((biD b ds).map .d) h1
    | none => .stuck := by
  rw [ev]
  refine congrArg _ ?_
  funext xs h1
  match xs with
  | [] => rfl
  | [x] =>
    simp only [biP]
    generalize dat x h1 = o
    cases o <;> rfl
  | _ :: _ :: _ => rfl
theorem lc_eval {C : Sem} {env : Env} {k : Ik} {its : List IE} {tg : Tg} {cond elt : IE} {h : IH} {vs : List Val} {ds items : List D} (g : D → Option D) (h1 : evs C env its h = .ok vs h) (h2 : dats vs h = some ds) (h3 : itemsD k ds = some items) (h4 : items.length ≤ lim)
    (hf : ∀ x ∈ items, ∀ acc, turnP C (wipeE env (tgs tg)) tg cond elt x (h ++ [.lst acc]) = .ok (g x) (h ++ [.lst acc])) : ev C env (.lc k its tg cond elt) h = .ok (.d (.list (items.filterMap g))) h := by
  rw [evP_lc, h1]
  simp only [itr, bind_ok, h2, h3, ofO]
  exact lc_pure hf h4
theorem sml_ok {i : Int} (h0 : -1000000000 ≤ i) (h1 : i ≤ 1000000000) : sml i = true := by
  have e : (2 : Int) ^ 62 = 4611686018427387904 := by decide
  unfold sml
  rw [e, Bool.and_eq_true]
  exact ⟨decide_eq_true (by omega), decide_eq_true (by omega)⟩
theorem items1 {i : Int} (h0 : -1000000000 ≤ i) (h1 : i ≤ 1000000000) : itemsD .range1 [.int i] = some (rangeD 0 i) := by
  show (if sml i = true then some (rangeD 0 i) else none) = _
  rw [if_pos (sml_ok h0 h1)]
theorem items2 {i j : Int} (h0 : -1000000000 ≤ i) (h1 : i ≤ 1000000000) (h2 : -1000000000 ≤ j) (h3 : j ≤ 1000000000) : itemsD .range2 [.int i, .int j] = some (rangeD i j) := by
  show (if (sml i && sml j) = true then some (rangeD i j) else none) = _
  rw [sml_ok h0 h1, sml_ok h2 h3]
  rfl
theorem rangeD_length (lo hi : Int) : (rangeD lo hi).length = (hi - lo).toNat := by
  unfold rangeD
  rw [List.length_map, List.length_range]
theorem rangeD_mem {lo hi : Int} {x : D} : x ∈ rangeD lo hi ↔ ∃ k : Nat, (k : Int) < hi - lo ∧ x = .int (lo + k) := by
  unfold rangeD
  rw [List.mem_map]
  constructor
  · rintro ⟨k, hk, rfl⟩
    exact ⟨k, by have := List.mem_range.mp hk; omega, rfl⟩
  · rintro ⟨k, hk, rfl⟩
    exact ⟨k, List.mem_range.mpr (by omega), rfl⟩
theorem plc_nat {n k : Nat} (h : k < n) : plc n (k : Int) = some k := by
  unfold plc
  rw [if_pos (by omega), if_pos (by omega)]
  simp
theorem plc_int {n : Nat} {i : Int} (h0 : 0 ≤ i) (h : i < n) : plc n i = some i.toNat := by
  unfold plc
  rw [if_pos h0, if_pos h]
theorem atD_int {xs : List D} {i : Int} (h0 : 0 ≤ i) (h : i < xs.length) : atD xs i = xs[i.toNat]? := by
  unfold atD
  rw [plc_int h0 h]
  rfl
end RR.Q

-- RQ1
set_option maxHeartbeats 1000000
/-! Symbolic runs of the interpreter, and what the common defs compute. -/
namespace RR.Q
open PySem
section
variable (C : Sem) (env : Env) (h : IH)
@[simp] theorem q_c (x : D) : ev C env (.c x) h = .ok (.d x) h := by rw [ev]
@[simp] theorem q_v (i : Nat) : ev C env (.v i) h = ofO (getS env i) h := by rw [ev]
@[simp] theorem q_fn (i : Nat) : ev C env (.fn i) h = .ok (.fn i) h := by rw [ev]
@[simp] theorem q_bin (op : Operator) (a b : IE) : ev C env (.bin op a b) h = (ev C env a h).bind fun x h1 => (ev C env b h1).bind fun y h2 => match x, y with
    | .d x, .d y => ofO ((binD op x y).map .d) h2
    | _, _ => .stuck := by rw [ev] <;> rfl
@[simp] theorem q_neg (a : IE) : ev C env (.neg a) h = (ev C env a h).bind fun x h1 => match x with
    | .d (.int i) => .ok (.d (.int (-i))) h1
    | _ => .stuck := by rw [ev] <;> rfl
@[simp] theorem q_nt (a : IE) : ev C env (.nt a) h = (ev C env a h).bind fun x h1 => match truth x h1 with
    | some b => .ok (.d (.bool (!b))) h1
    | none => .stuck := by rw [ev] <;> rfl
@[simp] theorem q_cmp (op : CmpOp) (a b : IE) : ev C env (.cmp op a b) h = (ev C env a h).bind fun x h1 => (ev C env b h1).bind fun y h2 => match dat x h2, dat y h2 with
    | some x, some y => ofO ((cmpD op x y).map fun b => .d (.bool b)) h2
    | _, _ => .stuck := by rw [ev] <;> rfl
@[simp] theorem q_chain (op op2 : CmpOp) (a b c : IE) : ev C env (.chain op op2 a b c) h = (ev C env a h).bind fun x h1 => (ev C env b h1).bind fun y h2 => match x, y with
    | .d x, .d y => match cmpD op x y with
      | some true => (ev C env c h2).bind fun z h3 => match z with
        | .d z => ofO ((cmpD op2 y z).map fun b => .d (.bool b)) h3
        | _ => .stuck
      | some false => .ok (.d (.bool false)) h2
      | none => .stuck
    | _, _ => .stuck := by rw [ev] <;> rfl
@[simp] theorem q_isN (yes : Bool) (a : IE) : ev C env (.isN yes a) h = (ev C env a h).bind fun x h1 => .ok (.d (.bool (isNone x == yes))) h1 := by rw [ev] <;> rfl
@[simp] theorem q_and (a b : IE) : ev C env (.and_ a b) h = (ev C env a h).bind fun x h1 => match truth x h1 with
    | some true => ev C env b h1
    | some false => .ok x h1
    | none => .stuck := by rw [ev] <;> rfl
@[simp] theorem q_or (a b : IE) : ev C env (.or_ a b) h = (ev C env a h).bind fun x h1 => match truth x h1 with
    | some true => .ok x h1
    | some false => ev C env b h1
    | none => .stuck := by rw [ev] <;> rfl
@[simp] theorem q_ifx (t a b : IE) : ev C env (.ifx t a b) h = (ev C env t h).bind fun x h1 => match truth x h1 with
    | some true => ev C env a h1
    | some false => ev C env b h1
    | none => .stuck := by rw [ev] <;> rfl
@[simp] theorem q_tup (es : List IE) : ev C env (.tup es) h = (evs C env es h).bind fun xs h1 => match dats xs h1 with
    | some ds => if ds.length ≤ lim then .ok (.d (.tuple ds)) h1 else .stuck
    | none => .stuck := by rw [ev] <;> rfl
@[simp] theorem q_lst (es : List IE) : ev C env (.lst es) h = (evs C env es h).bind fun xs h1 => match dats xs h1 with
    | some ds => if ds.length ≤ lim then .ok (.d (.list ds)) h1 else .stuck
    | none => .stuck := by rw [ev] <;> rfl
@[simp] theorem q_ix (a i : IE) : ev C env (.ix a i) h = (ev C env a h).bind fun x h1 => (ev C env i h1).bind fun y h2 => match dat x h2, y with
    | some x, .d y => ofO ((ixD x y).map .d) h2
    | _, _ => .stuck := by rw [ev] <;> rfl
/-- a slice's part -/
def prt (lo : IE) (h1 : IH) : Res (Option Int) := if lo.isNop then .ok none h1 else (ev C env lo h1).bind fun v h2 => ofO (partOf v) h2
@[simp] theorem q_prt_nop : prt C env .nop h = .ok none h := Eq.trans rfl rfl
theorem q_prt {lo : IE} {i : Int} {h1 : IH} (e : ev C env lo h = .ok (.d (.int i)) h1) (hn : lo.isNop = false) : prt C env lo h = .ok (some i) h1 := by
  unfold prt
  rw [hn, e]
  rfl
@[simp] theorem q_prt_v (i : Nat) : prt C env (.v i) h = (ev C env (.v i) h).bind fun v h2 => ofO (partOf v) h2 := Eq.trans rfl rfl
@[simp] theorem q_prt_c (i : D) : prt C env (.c i) h = (ev C env (.c i) h).bind fun v h2 => ofO (partOf v) h2 := Eq.trans rfl rfl
@[simp] theorem q_prt_bin (op : Operator) (a b : IE) : prt C env (.bin op a b) h = (ev C env (.bin op a b) h).bind fun v h2 => ofO (partOf v) h2 := Eq.trans rfl rfl
@[simp] theorem q_prt_neg (a : IE) : prt C env (.neg a) h = (ev C env (.neg a) h).bind fun v h2 => ofO (partOf v) h2 := Eq.trans rfl rfl
@[simp] theorem q_prt_bi (b : Bi) (a : List IE) : prt C env (.bi b a) h = (ev C env (.bi b a) h).bind fun v h2 => ofO (partOf v) h2 := Eq.trans rfl rfl
@[simp] theorem q_prt_call (g : Nat) (a : List IE) : prt C env (.call g a) h = (ev C env (.call g a) h).bind fun v h2 => ofO (partOf v) h2 := Eq.trans rfl rfl
@[simp] theorem q_sl (a lo hi : IE) : ev C env (.sl a lo hi) h = (ev C env a h).bind fun x h1 => (prt C env lo h1).bind fun l h2 => (prt C env hi h2).bind fun u h3 => match dat x h3 with
    | some x => ofO ((slD x l u).map .d) h3
    | none => .stuck := by rw [ev] <;> rfl
@[simp] theorem q_rev (a : IE) : ev C env (.rev a) h = (ev C env a h).bind fun x h1 => match dat x h1 with
    | some (.tuple xs) => .ok (.d (.tuple xs.reverse)) h1
    | some (.list xs) => .ok (.d (.list xs.reverse)) h1
    | _ => .stuck := by rw [ev] <;> rfl
@[simp] theorem q_call (g : Nat) (es : List IE) : ev C env (.call g es) h = (evs C env es h).bind fun xs h1 => C.call g xs h1 := by rw [ev] <;> rfl
@[simp] theorem q_callK (g : Nat) (perm : List Nat) (es : List IE) : ev C env (.callK g perm es) h = (evs C env es h).bind fun xs h1 => if xs.length = perm.length then match permV perm xs with
      | some ys => C.call g ys h1
      | none => .stuck
    else .stuck := by rw [ev] <;> rfl
@[simp] theorem q_callL (g : Nat) (es : List IE) (l : Nat) (cs : List Nat) : ev C env (.callL g es l cs) h = (evs C env es h).bind fun xs h1 => match capsOf env cs with
    | some caps => (C.call g (xs ++ [.clo l caps]) h1).bind noClo
    | none => .stuck := by rw [ev] <;> rfl
@[simp] theorem q_callV (i : Nat) (es : List IE) : ev C env (.callV i es) h = match getS env i with
    | some (.clo l caps) => (evs C env es h).bind fun xs h1 => match dats xs h1 with
      | some ds => C.lam l caps ds h1
      | none => .stuck
    | _ => .stuck := by rw [ev] <;> rfl
@[simp] theorem q_bi (b : Bi) (es : List IE) : ev C env (.bi b es) h = (evs C env es h).bind fun xs h1 => match biP xs h1 with
    | some ds => ofO ((biD b ds).map .d) h1
    | none => .stuck := evP_bi ..
@[simp] theorem q_isI (t : Ty) (e : IE) : ev C env (.isI t e) h = (ev C env e h).bind fun x h1 => match x with
    | .d x => if isDict x then .stuck else .ok (.d (.bool (hasTy t x))) h1
    | _ => .stuck := by rw [ev] <;> rfl
@[simp] theorem q_mut_lst (es : List IE) : ev C env (.mut (.lst es)) h = (ev C env (.lst es) h).bind fun x h1 => match x with
    | .d (.list xs) => .ok (.ref h1.length) (h1 ++ [.lst xs])
    | _ => .stuck := by rw [ev] <;> rfl
@[simp] theorem q_nil : evs C env [] h = .ok [] h := by rw [evs]
@[simp] theorem q_cons (e : IE) (es : List IE) : evs C env (e :: es) h = (ev C env e h).bind fun x h1 => (evs C env es h1).bind fun xs h2 => .ok (x :: xs) h2 := by rw [evs]
@[simp] theorem q_get0 (v : Option Val) (r : Env) : getS (v :: r) 0 = v := by
  cases v <;> rfl
@[simp] theorem q_getS (v : Option Val) (r : Env) (i : Nat) : getS (v :: r) (i + 1) = getS r i := by
  unfold getS
  rw [List.getElem?_cons_succ]
@[simp] theorem q_ofO (α : Type) (x : α) : ofO (some x) h = .ok x h := Eq.trans rfl rfl
@[simp] theorem q_truth_b (b : Bool) : truth (.d (.bool b)) h = some b := rfl
@[simp] theorem q_truth_i (b : Int) : truth (.d (.int b)) h = some (b != 0) := rfl
@[simp] theorem q_truth_n : truth (.d .none) h = some false := rfl
@[simp] theorem q_dat (x : D) : dat (.d x) h = some x := rfl
@[simp] theorem q_dats0 : dats [] h = some [] := rfl
@[simp] theorem q_dats1 (x : D) (vs : List Val) : dats (.d x :: vs) h = (dats vs h).map (x :: ·) := by
  rw [dats]
  generalize dats vs h = o
  cases o <;> rfl
@[simp] theorem q_biP0 : biP [] h = some [] := rfl
@[simp] theorem q_biP1 (v : Val) : biP [v] h = (dat v h).map fun x => [x] := rfl
@[simp] theorem q_biP2 (a b : Val) : biP [a, b] h = dats [a, b] h := rfl
@[simp] theorem q_lim (k : Nat) (hk : k ≤ 100000) : k ≤ lim := by
  unfold lim; omega
@[simp] theorem q_isN0 : isNone (.d .none) = true := rfl
@[simp] theorem q_isN1 (i : Int) : isNone (.d (.int i)) = false := rfl
@[simp] theorem q_isN2 (i : Bool) : isNone (.d (.bool i)) = false := rfl
@[simp] theorem q_isN3 (i : List D) : isNone (.d (.tuple i)) = false := rfl
@[simp] theorem q_isN4 (i : List D) : isNone (.d (.list i)) = false := rfl
@[simp] theorem q_asD (x : D) : asD (.d x) h = .ok x h := rfl
@[simp] theorem q_noClo (x : D) : noClo (.d x) h = .ok (.d x) h := rfl
variable (wf : Nat)
@[simp] theorem q_pass : ex1 C wf env .pass h = .next env h := by rw [ex1]
@[simp] theorem q_brk : ex1 C wf env .brk h = .brk env h := by rw [ex1]
@[simp] theorem q_cont : ex1 C wf env .cont h = .cont env h := by rw [ex1]
@[simp] theorem q_set (i : Nat) (e : IE) : ex1 C wf env (.set i e) h = (ev C env e h).then_ env fun x h1 => setV env i x h1 := by rw [ex1]
@[simp] theorem q_setS (o i e : IE) : ex1 C wf env (.setS o i e) h = (ev C env e h).then_ env fun x h1 => (ev C env o h1).then_ env fun ov h2 => (ev C env i h2).then_ env fun iv h3 => match x, iv with
    | .d x, .d iv => match storeAt ov iv x h3 with
      | some h4 => .next env h4
      | none => .stuck
    | _, _ => .stuck := by rw [ex1] <;> rfl
@[simp] theorem q_setT (ts : List TE1) (e : IE) : ex1 C wf env (.setT ts e) h = (ev C env e h).then_ env fun x h1 => match x with
    | .d (.tuple xs) => if xs.length = ts.length then storeT C env ts xs h1 else .stuck
    | x => match dat x h1 with
      | some (.list xs) => if xs.length = ts.length then storeT C env ts xs h1 else .stuck
      | _ => .stuck := by rw [ex1] <;> rfl
@[simp] theorem q_par (is : List Nat) (es : List IE) : ex1 C wf env (.par is es) h = (evs C env es h).then_ env fun xs h1 => match setVs env is xs with
    | some env1 => .next env1 h1
    | none => .stuck := by rw [ex1] <;> rfl
@[simp] theorem q_ex (e : IE) : ex1 C wf env (.ex e) h = (ev C env e h).then_ env fun _ h1 => .next env h1 := by rw [ex1]
@[simp] theorem q_ret (e : IE) : ex1 C wf env (.ret e) h = (ev C env e h).then_ env fun x h1 => .ret x h1 := by rw [ex1]
@[simp] theorem q_ite (t : IE) (a b : List IS) : ex1 C wf env (.ite t a b) h = (ev C env t h).then_ env fun x h1 => match truth x h1 with
    | some true => exs C wf env a h1
    | some false => exs C wf env b h1
    | none => .stuck := by rw [ex1] <;> rfl
@[simp] theorem q_for (k : Ik) (its : List IE) (tg : Tg) (body : List IS) : ex1 C wf env (.for_ k its tg body) h = (itr k (evs C env its h)).then_ env fun items h1 => forLoop tg (fun env h => exs C wf env body h) items env h1 := by rw [ex1]
@[simp] theorem q_exs0 : exs C wf env [] h = .next env h := by rw [exs]
@[simp] theorem q_exs1 (s : IS) (r : List IS) : exs C wf env (s :: r) h = (ex1 C wf env s h).bind fun env1 h1 => exs C wf env1 r h1 := by rw [exs]
@[simp] theorem q_setV (i : Nat) (x : D) : setV env i (.d x) h = .next (env.set i (some (.d x))) h := Eq.trans rfl rfl
@[simp] theorem q_setVr (i : Nat) (x : Nat) : setV env i (.ref x) h = .next (env.set i (some (.ref x))) h := Eq.trans rfl rfl
@[simp] theorem q_obrk (k : Env → IH → Out) : (Out.brk env h).bind k = .brk env h := Eq.trans rfl rfl
@[simp] theorem q_ocont (k : Env → IH → Out) : (Out.cont env h).bind k = .cont env h := Eq.trans rfl rfl
@[simp] theorem q_fin (x : D) (n0 : Nat) : finish n0 (.ret (.d x) h) = .ok (.d x) (h.take n0) := Eq.trans rfl rfl
@[simp] theorem q_fin1 (n0 : Nat) : finish n0 (.next env h) = .ok (.d .none) (h.take n0) := Eq.trans rfl rfl
@[simp] theorem q_itr (k : Ik) (ds : List Val) : itr k (.ok ds h) = match dats ds h with
    | some ds => ofO (itemsD k ds) h
    | none => itrN k ds h := rfl
@[simp] theorem q_sv0 : setVs env [] [] = some env := Eq.trans rfl rfl
@[simp] theorem q_sv1 (i : Nat) (is : List Nat) (x : Val) (xs : List Val) : setVs env (i :: is) (x :: xs) = setVs (env.set i (some x)) is xs := Eq.trans rfl rfl
@[simp] theorem q_sa0 : setAll env [] [] = some env := Eq.trans rfl rfl
@[simp] theorem q_sa1 (i : Nat) (is : List Nat) (x : D) (xs : List D) : setAll env (i :: is) (x :: xs) = setAll (env.set i (some (.d x))) is xs := Eq.trans rfl rfl
@[simp] theorem q_b1 (i : Nat) (x : D) : bindT (.one i) x env = some (env.set i (some (.d x))) := Eq.trans rfl rfl
@[simp] theorem q_bt (is : List Nat) (xs : List D) : bindT (.tup is) (.tuple xs) env = setAll env is xs := Eq.trans rfl rfl
@[simp] theorem q_tgs1 (i : Nat) : tgs (.one i) = [i] := rfl
@[simp] theorem q_tgst (is : List Nat) : tgs (.tup is) = is := rfl
@[simp] theorem q_w0 : wipeE env [] = env := rfl
@[simp] theorem q_w1 (i : Nat) (is : List Nat) : wipeE env (i :: is) = (wipeE env is).set i none := rfl
@[simp] theorem q_cnd0 : cndP C env .nop h = .ok true h := Eq.trans rfl rfl
theorem q_cnd (C : Sem) (env : Env) {h : IH} {e : IE} (hn : e.isNop = false) : cndP C env e h = (ev C env e h).bind fun v h2 => ofO (truth v h2) h2 := by
  unfold cndP
  rw [hn]
  rfl
@[simp] theorem q_cnd_cmp (op : CmpOp) (a b : IE) : cndP C env (.cmp op a b) h = (ev C env (.cmp op a b) h).bind fun v h2 => ofO (truth v h2) h2 := q_cnd (h := h) C env rfl
@[simp] theorem q_cnd_nt (a : IE) : cndP C env (.nt a) h = (ev C env (.nt a) h).bind fun v h2 => ofO (truth v h2) h2 := q_cnd (h := h) C env rfl
@[simp] theorem q_cnd_call (g : Nat) (es : List IE) : cndP C env (.call g es) h = (ev C env (.call g es) h).bind fun v h2 => ofO (truth v h2) h2 := q_cnd (h := h) C env rfl
@[simp] theorem q_cnd_and (a b : IE) : cndP C env (.and_ a b) h = (ev C env (.and_ a b) h).bind fun v h2 => ofO (truth v h2) h2 := q_cnd (h := h) C env rfl
@[simp] theorem q_cnd_or (a b : IE) : cndP C env (.or_ a b) h = (ev C env (.or_ a b) h).bind fun v h2 => ofO (truth v h2) h2 := q_cnd (h := h) C env rfl
@[simp] theorem q_cnd_isN (y : Bool) (a : IE) : cndP C env (.isN y a) h = (ev C env (.isN y a) h).bind fun v h2 => ofO (truth v h2) h2 := q_cnd (h := h) C env rfl
@[simp] theorem q_cnd_chain (op op2 : CmpOp) (a b c : IE) : cndP C env (.chain op op2 a b c) h = (ev C env (.chain op op2 a b c) h).bind fun v h2 => ofO (truth v h2) h2 := q_cnd (h := h) C env rfl
@[simp] theorem q_cnd_bi (b : Bi) (es : List IE) : cndP C env (.bi b es) h = (ev C env (.bi b es) h).bind fun v h2 => ofO (truth v h2) h2 := q_cnd (h := h) C env rfl
@[simp] theorem q_cnd_v (i : Nat) : cndP C env (.v i) h = (ev C env (.v i) h).bind fun v h2 => ofO (truth v h2) h2 := q_cnd (h := h) C env rfl
@[simp] theorem q_turn1 (env1 : Env) (tg : Tg) (cond elt : IE) (x : D) (e : bindT tg x env = some env1) : turnP C env tg cond elt x h = (cndP C env1 cond h).bind fun b h2 => if b then (ev C env1 elt h2).bind fun y h3 => (asD y h3).bind fun y h4 => .ok (some y) h4 else .ok none h2 := by
  unfold turnP
  rw [e]
@[simp] theorem q_ty (a : Ty) : (a == a) = true := by cases a <;> rfl
@[simp] theorem q_hi0 : hasTy .int .none = false := rfl
@[simp] theorem q_hi1 (i : Int) : hasTy .int (.int i) = true := rfl
@[simp] theorem q_hi2 (i : Bool) : hasTy .int (.bool i) = true := rfl
@[simp] theorem q_hi3 (i : List D) : hasTy .int (.tuple i) = false := rfl
@[simp] theorem q_hi4 (i : List D) : hasTy .int (.list i) = false := rfl
@[simp] theorem q_hb1 (i : Int) : hasTy .bool (.int i) = false := rfl
@[simp] theorem q_hb2 (i : Bool) : hasTy .bool (.bool i) = true := rfl
@[simp] theorem q_ht1 (i : Int) : hasTy .tuple (.int i) = false := rfl
@[simp] theorem q_ht2 (i : Bool) : hasTy .tuple (.bool i) = false := rfl
@[simp] theorem q_ht3 (i : List D) : hasTy .tuple (.tuple i) = true := rfl
@[simp] theorem q_ht4 (i : List D) : hasTy .tuple (.list i) = false := rfl
@[simp] theorem q_hi5 (i : PySem.Str) : hasTy .int (.str i) = false := rfl
@[simp] theorem q_hb3 : hasTy .bool .none = false := rfl
@[simp] theorem q_ht5 (i : PySem.Str) : hasTy .tuple (.str i) = false := rfl
@[simp] theorem q_ht6 : hasTy .tuple .none = false := rfl
@[simp] theorem q_dd6 (i : PySem.Str) : isDict (.str i) = false := rfl
@[simp] theorem q_dd1 (i : Int) : isDict (.int i) = false := rfl
@[simp] theorem q_dd2 (i : Bool) : isDict (.bool i) = false := rfl
@[simp] theorem q_dd3 (i : List D) : isDict (.tuple i) = false := rfl
@[simp] theorem q_dd4 (i : List D) : isDict (.list i) = false := rfl
@[simp] theorem q_dd5 : isDict .none = false := rfl
@[simp] theorem q_add (i j : Int) : binD .Add (.int i) (.int j) = some (.int (i + j)) := rfl
@[simp] theorem q_sub (i j : Int) : binD .Sub (.int i) (.int j) = some (.int (i - j)) := rfl
@[simp] theorem q_bl1 (xs : List D) : biD .len [.tuple xs] = some (.int xs.length) := rfl
@[simp] theorem q_bl2 (xs : List D) : biD .len [.list xs] = some (.int xs.length) := rfl
@[simp] theorem q_btp1 (xs : List D) : biD .tuple [.list xs] = some (.tuple xs) := rfl
@[simp] theorem q_btp2 (xs : List D) : biD .tuple [.tuple xs] = some (.tuple xs) := rfl
@[simp] theorem q_bls1 (xs : List D) : biD .list [.list xs] = some (.list xs) := rfl
@[simp] theorem q_bls2 (xs : List D) : biD .list [.tuple xs] = some (.list xs) := rfl
@[simp] theorem q_le (i j : Int) : cmpD .LtE (.int i) (.int j) = some (decide (i ≤ j)) := rfl
@[simp] theorem q_lt (i j : Int) : cmpD .Lt (.int i) (.int j) = some (decide (i < j)) := rfl
@[simp] theorem q_ge (i j : Int) : cmpD .GtE (.int i) (.int j) = some (decide (j ≤ i)) := rfl
@[simp] theorem q_gt (i j : Int) : cmpD .Gt (.int i) (.int j) = some (decide (j < i)) := rfl
theorem eqv_int (i j : Int) : PyData.eqv (.int i) (.int j) = decide (i = j) := by
  simp only [PyData.eqv]
  by_cases h : i = j <;> simp [h]
end
end RR.Q

-- RQ2
set_option maxHeartbeats 1000000
/-! What the common defs compute. -/
namespace RR.Q
open PySem
section
variable {P : Prog} {n g : Nat}
theorem callP {f : FDef} (hf : P.defs[g]? = some f) (vs : List Val) (h : IH) : (sem P (n + 1)).call g vs h = if vs.length = f.n then RR.finish h.length (exs (sem P n) P.wf (begin_ f.slots vs) f.body h) else .stuck := by
  show runDef P (sem P n) g vs h = _
  unfold runDef
  rw [hf]
theorem callR {f : FDef} (hf : P.defs[g]? = some f) {vs : List Val} {h : IH} {env : Env} {o : Out} (hl : vs.length = f.n) (hb : begin_ f.slots vs = env) (e : exs (sem P n) P.wf env f.body h = o) : (sem P (n + 1)).call g vs h = RR.finish h.length o := by
  rw [callP hf, if_pos hl, hb, e]
theorem callD {f : FDef} (hf : P.defs[g]? = some f) {vs : List Val} {h : IH} {env : Env} {x : D} (hl : vs.length = f.n) (hb : begin_ f.slots vs = env) (e : exs (sem P n) P.wf env f.body h = .ret (.d x) h) : (sem P (n + 1)).call g vs h = .ok (.d x) h := by
  rw [callR hf hl hb e, q_fin, List.take_length]
theorem lamP {f : LDef} (hf : P.lams[g]? = some f) (cs ds : List D) (h : IH) : (sem P (n + 1)).lam g cs ds h = if ds.length = f.n ∧ cs.length = f.caps then (ev (sem P n) ((cs ++ ds).map fun x => some (.d x)) f.body h).bind fun v h1 => match v with
      | .d x => .ok (.d x) (h1.take h.length)
      | _ => .stuck
    else .stuck := by
  show runLam P (sem P n) g cs ds h = _
  unfold runLam
  rw [hf] <;> rfl
/-! ### whole numbers -/
def isW : D → Bool
  | .int _ => true
  | _ => false
def btw (x : D) (a b : Int) : Bool := match x with
  | .int i => decide (a ≤ i) && decide (i ≤ b)
  | _ => false
def tlen (x : D) (a b : Int) : Bool := match x with
  | .tuple xs => decide (a ≤ (xs.length : Int)) && decide ((xs.length : Int) ≤ b)
  | _ => false
def fInt : FDef := ⟨1, 1, [(.ret (.and_ (.isI .int (.v 0)) (.nt (.isI .bool (.v 0)))))]⟩
abbrev SInt (C : Sem) (g : Nat) : Prop := ∀ (x : D) (h : IH), isDict x = false → C.call g [.d x] h = .ok (.d (.bool (isW x))) h
theorem int_ok (hf : P.defs[g]? = some fInt) : SInt (sem P (n + 1)) g := by
  intro x h hx
  rw [callP hf]
  cases x with
  | dict _ => cases hx
  | _ => simp [fInt, begin_, isW]
def fBtw (a : Nat) : FDef := ⟨3, 3, [(.ret (.and_ (.call a [(.v 0)]) (.chain .LtE .LtE (.v 1) (.v 0) (.v 2))))]⟩
abbrev SBtw (C : Sem) (g : Nat) : Prop := ∀ (x : D) (a b : Int) (h : IH), isDict x = false → C.call g [.d x, .d (.int a), .d (.int b)] h = .ok (.d (.bool (btw x a b))) h
theorem btw_ok {a : Nat} (hf : P.defs[g]? = some (fBtw a)) (c0 : SInt (sem P n) a) : SBtw (sem P (n + 1)) g := by
  intro x a b h hx
  rw [callP hf]
  have e := c0 x h hx
  cases x with
  | dict _ => cases hx
  | int i =>
    by_cases h1 : a ≤ i <;> simp [fBtw, begin_, isW, e, btw, h1]
  | _ => simp [fBtw, begin_, isW, e, btw]
def fRow : FDef := ⟨3, 3, [(.ret (.and_ (.isI .tuple (.v 0)) (.chain .LtE .LtE (.v 1) (.bi .len [(.v 0)]) (.v 2))))]⟩
abbrev SRow (C : Sem) (g : Nat) : Prop := ∀ (x : D) (a b : Int) (h : IH), isDict x = false → C.call g [.d x, .d (.int a), .d (.int b)] h = .ok (.d (.bool (tlen x a b))) h
theorem row_ok (hf : P.defs[g]? = some fRow) : SRow (sem P (n + 1)) g := by
  intro x a b h hx
  rw [callP hf]
  cases x with
  | dict _ => cases hx
  | tuple i =>
    by_cases h1 : a ≤ (i.length : Int) <;> simp [fRow, begin_, isW, tlen, biD, h1]
  | _ => simp [fRow, begin_, isW, tlen, biD]
/-- a test of one number between fixed bounds -/
def fFix (c : Nat) (a b : Int) : FDef := ⟨1, 1, [(.ret (.call c [(.v 0), (.c (.int a)), (.c (.int b))]))]⟩
abbrev SFix (a b : Int) (C : Sem) (g : Nat) : Prop := ∀ (x : D) (h : IH), isDict x = false → C.call g [.d x] h = .ok (.d (.bool (btw x a b))) h
theorem fix_ok {c : Nat} {a b : Int} (hf : P.defs[g]? = some (fFix c a b)) (c0 : SBtw (sem P n) c) : SFix a b (sem P (n + 1)) g := by
  intro x h hx
  rw [callP hf]
  simp [fFix, begin_, c0 x a b h hx]
def fMark (c : Nat) : FDef := ⟨2, 2, [(.ret (.call c [(.v 1), (.c (.int 0)), (.bin .Sub (.v 0) (.c (.int 1)))]))]⟩
abbrev SMark (C : Sem) (g : Nat) : Prop := ∀ (s : Int) (x : D) (h : IH), isDict x = false → C.call g [.d (.int s), .d x] h = .ok (.d (.bool (btw x 0 (s - 1)))) h
theorem mark_ok {c : Nat} (hf : P.defs[g]? = some (fMark c)) (c0 : SBtw (sem P n) c) : SMark (sem P (n + 1)) g := by
  intro s x h hx
  rw [callP hf]
  simp [fMark, begin_, c0 x 0 (s - 1) h hx]
def lMark (c : Nat) : LDef := ⟨1, 2, (.call c [(.v 0), (.v 1)])⟩
abbrev SLMark (C : Sem) (g : Nat) : Prop := ∀ (s : Int) (x y : D) (h : IH), isDict x = false → C.lam g [.int s] [x, y] h = .ok (.d (.bool (btw x 0 (s - 1)))) h
theorem lmark_ok {c : Nat} (hf : P.lams[g]? = some (lMark c)) (c0 : SMark (sem P n) c) : SLMark (sem P (n + 1)) g := by
  intro s x y h hx
  rw [lamP hf]
  simp [lMark, c0 s x h hx]
/-! ### the first wrong element -/
def numb (k : Nat) (ys : List D) : List D := ys.mapIdx fun (i : Nat) x => PyData.tuple [.int ((i + k : Nat) : Int), x]
theorem numb_cons (ys : List D) (k : Nat) (y : D) : numb k (y :: ys) = PyData.tuple [.int (k : Int), y] :: numb (k + 1) ys := by
  unfold numb
  rw [List.mapIdx_cons, Nat.zero_add]
  refine congrArg _ ?_
  refine congrArg (fun f => List.mapIdx f ys) ?_
  funext i x
  have : i + 1 + k = i + (k + 1) := by omega
  rw [this]
def fFirst : FDef := ⟨2, 4, [(.for_ .enum [(.v 0)] (.tup [2, 3]) [(.ite (.nt (.callV 1 [(.v 3), (.sl (.v 0) .nop (.v 2))])) [(.ret (.v 2))] [])]), (.ret (.c .none))]⟩
/-- the first place of an element that is not so -/
def fstW (p : D → Bool) : Nat → List D → Option Nat
  | _, [] => none
  | k, x :: r => if p x then fstW p (k + 1) r else some k
def optI : Option Nat → D
  | none => .none
  | some k => .int (k : Int)
theorem fw_loop (C : Sem) (wf : Nat) (p : D → Bool) (xs : List D) (l : Nat) (cs : List D) (h : IH) (hc : ∀ x ∈ xs, ∀ y, C.lam l cs [x, y] h = .ok (.d (.bool (p x))) h) : ∀ (ys : List D) (k : Nat) (e2 e3 : Option Val), (∀ y ∈ ys, y ∈ xs) →
    ∃ e2' e3', forLoop (.tup [2, 3]) (fun env h => exs C wf env [(.ite (.nt (.callV 1 [(.v 3), (.sl (.v 0) .nop (.v 2))])) [(.ret (.v 2))] [])] h) (numb k ys) [some (.d (.tuple xs)), some (.clo l cs), e2, e3] h = match fstW p k ys with
      | none => .next [some (.d (.tuple xs)), some (.clo l cs), e2', e3'] h
      | some j => .ret (.d (.int (j : Int))) h
  | [], k, e2, e3, _ => ⟨e2, e3, by simp [forLoop, numb, fstW]⟩
  | y :: ys, k, e2, e3, hm => by
    have hy := hc y (hm y List.mem_cons_self)
    cases hp : p y with
    | true =>
      obtain ⟨a, b, ih⟩ := fw_loop C wf p xs l cs h hc ys (k + 1) (some (.d (.int k))) (some (.d y)) fun z hz => hm z (List.mem_cons_of_mem _ hz)
      refine ⟨a, b, ?_⟩
      rw [fstW, if_pos hp, ← ih, numb_cons]
      simp [forLoop, partOf, slD, hy, hp]
    | false =>
      refine ⟨e2, e3, ?_⟩
      rw [fstW, if_neg (by simp [hp]), numb_cons]
      simp [forLoop, partOf, slD, hy, hp]
abbrev SFirst (C : Sem) (C1 : Sem) (g : Nat) : Prop := ∀ (p : D → Bool) (xs : List D) (l : Nat) (cs : List D) (h : IH), (∀ x ∈ xs, ∀ y, C1.lam l cs [x, y] h = .ok (.d (.bool (p x))) h) → C.call g [.d (.tuple xs), .clo l cs] h = .ok (.d (optI (fstW p 0 xs))) h
theorem first_ok (hf : P.defs[g]? = some fFirst) : SFirst (sem P (n + 1)) (sem P n) g := by
  intro p xs l cs h hc
  obtain ⟨a, b, e⟩ := fw_loop (sem P n) P.wf p xs l cs h hc xs 0 none none fun _ z => z
  have en : enumD xs = numb 0 xs := rfl
  refine callD hf (env := [some (.d (.tuple xs)), some (.clo l cs), none, none]) rfl rfl ?_
  unfold fFirst
  rw [exs, ex1]
  simp only [q_cons, q_nil, q_v, q_get0, q_ofO, bind_ok, q_itr, q_dats1, q_dats0, Option.map, itemsD, en, then_ok, e]
  cases fstW p 0 xs with
  | none => simp [optI]
  | some j => simp [optI]
def nodict (xs : List D) : Prop := ∀ x ∈ xs, isDict x = false
def fWrong (c l : Nat) : FDef := ⟨2, 2, [(.ret (.callL c [(.v 1)] l [0]))]⟩
abbrev SWrong (C : Sem) (g : Nat) : Prop := ∀ (s : Int) (xs : List D) (h : IH), nodict xs → C.call g [.d (.int s), .d (.tuple xs)] h = .ok (.d (optI (fstW (fun x => btw x 0 (s - 1)) 0 xs))) h
theorem wrong_ok {c l : Nat} (hf : P.defs[g]? = some (fWrong c l)) (c0 : SFirst (sem P (n + 1)) (sem P n) c) (c1 : SLMark (sem P n) l) : SWrong (sem P (n + 2)) g := by
  intro s xs h hx
  rw [callP hf]
  have e := c0 (fun x => btw x 0 (s - 1)) xs l [.int s] h fun x hx' y => c1 s x y h (hx x hx')
  simp [fWrong, begin_, capsOf, e]
end
end RR.Q

-- RQ3
set_option maxHeartbeats 1000000
/-! Looks at arguments, windows. -/
namespace RR.Q
open PySem
section
variable {P : Prog} {n g : Nat}
def tupI (xs : List Int) : D := .tuple (xs.map .int)
@[simp] theorem q_lenI (xs : List Int) : biD .len [tupI xs] = some (.int xs.length) := by
  unfold tupI
  rw [q_bl1, List.length_map]
/-- marks of so many sorts -/
def Mk (s : Int) (xs : List Int) : Prop := ∀ x ∈ xs, 0 ≤ x ∧ x < s
theorem nodictI (xs : List Int) : nodict (xs.map .int) := by
  intro x hx
  obtain ⟨i, _, rfl⟩ := List.mem_map.mp hx
  rfl
theorem fstW_none {p : D → Bool} : ∀ {xs : List D} {k : Nat}, (∀ x ∈ xs, p x = true) → fstW p k xs = none
  | [], _, _ => rfl
  | x :: r, k, h => by
    rw [fstW, if_pos (h x List.mem_cons_self)]
    exact fstW_none fun z hz => h z (List.mem_cons_of_mem _ hz)
theorem wrong_none {s : Int} {xs : List Int} (h : Mk s xs) : fstW (fun x => btw x 0 (s - 1)) 0 (xs.map .int) = none := by
  refine fstW_none fun x hx => ?_
  obtain ⟨i, hi, rfl⟩ := List.mem_map.mp hx
  have q := h i hi
  have q1 : i ≤ s - 1 := by omega
  simp [btw, q.1, q1]
theorem btw_yes {i a b : Int} (h1 : a ≤ i) (h2 : i ≤ b) : btw (.int i) a b = true := by simp [btw, h1, h2]
theorem tlen_yes {xs : List D} {a b : Int} (h1 : a ≤ xs.length) (h2 : (xs.length : Int) ≤ b) : tlen (.tuple xs) a b = true := by simp [tlen, h1, h2]
/-! ### looks that find nothing wrong -/
def fChk (c : Nat) (r : IS) : FDef := ⟨1, 1, [(.ite (.nt (.call c [(.v 0)])) [r] [])]⟩
abbrev SChk (a b : Int) (C : Sem) (g : Nat) : Prop := ∀ (i : Int) (h : IH), a ≤ i → i ≤ b → C.call g [.d (.int i)] h = .ok (.d .none) h
theorem chk_ok {c : Nat} {r : IS} {a b : Int} (hf : P.defs[g]? = some (fChk c r)) (c0 : SFix a b (sem P n) c) : SChk a b (sem P (n + 1)) g := by
  intro i h h1 h2
  rw [callP hf]
  simp [fChk, begin_, c0 (.int i) h rfl, btw_yes h1 h2]
def fMarks (c d : Nat) (r : IS) : FDef := ⟨4, 5, [(.set 4 (.ifx (.call c [(.v 1), (.v 2), (.v 3)]) (.call d [(.v 0), (.v 1)]) (.c .none))), (.ite (.or_ (.nt (.call c [(.v 1), (.v 2), (.v 3)])) (.isN false (.v 4))) [r] [])]⟩
abbrev SMarks (C : Sem) (g : Nat) : Prop := ∀ (s a b : Int) (xs : List Int) (h : IH), Mk s xs → a ≤ xs.length → (xs.length : Int) ≤ b → C.call g [.d (.int s), .d (tupI xs), .d (.int a), .d (.int b)] h = .ok (.d .none) h
theorem marks_ok {c d : Nat} {r : IS} (hf : P.defs[g]? = some (fMarks c d r)) (c0 : SRow (sem P n) c) (c1 : SWrong (sem P n) d) : SMarks (sem P (n + 1)) g := by
  intro s a b xs h hm h1 h2
  rw [callP hf]
  have e0 := c0 (tupI xs) a b h rfl
  have e1 := c1 s (xs.map .int) h (nodictI xs)
  rw [wrong_none hm] at e1
  unfold tupI at e0 ⊢
  rw [tlen_yes (by simpa using h1) (by simpa using h2)] at e0
  simp [fMarks, begin_, e0, e1, optI]
def fChkM (c : Nat) (a b : Int) : FDef := ⟨2, 2, [(.ex (.call c [(.v 0), (.v 1), (.c (.int a)), (.c (.int b))]))]⟩
abbrev SChkM (a b : Int) (C : Sem) (g : Nat) : Prop := ∀ (s : Int) (xs : List Int) (h : IH), Mk s xs → a ≤ xs.length → (xs.length : Int) ≤ b → C.call g [.d (.int s), .d (tupI xs)] h = .ok (.d .none) h
theorem chkM_ok {c : Nat} {a b : Int} (hf : P.defs[g]? = some (fChkM c a b)) (c0 : SMarks (sem P n) c) : SChkM a b (sem P (n + 1)) g := by
  intro s xs h hm h1 h2
  rw [callP hf]
  simp [fChkM, begin_, c0 s a b xs h hm h1 h2]
/-- a ring of so many sorts -/
structure Rg (s : Int) (xs : List Int) : Prop where
  lo : 2 ≤ s
  hi : s ≤ 4
  mks : Mk s xs
  one : 1 ≤ xs.length
  most : xs.length ≤ 32
def fSRing (c d : Nat) : FDef := ⟨2, 2, [(.ex (.call c [(.v 0)])), (.ex (.call d [(.v 0), (.v 1)]))]⟩
abbrev SSRing (C : Sem) (g : Nat) : Prop := ∀ (s : Int) (xs : List Int) (h : IH), Rg s xs → C.call g [.d (.int s), .d (tupI xs)] h = .ok (.d .none) h
theorem sring_ok {c d : Nat} (hf : P.defs[g]? = some (fSRing c d)) (c0 : SChk 2 4 (sem P n) c) (c1 : SChkM 1 32 (sem P n) d) : SSRing (sem P (n + 1)) g := by
  intro s xs h r
  rw [callP hf]
  have q1 := r.one
  have q2 := r.most
  simp [fSRing, begin_, c0 s h r.lo r.hi, c1 s xs h r.mks (by omega) (by omega)]
def fRead (c d : Nat) : FDef := ⟨3, 3, [(.ex (.call c [(.v 0), (.v 1)])), (.ex (.call d [(.v 2)]))]⟩
abbrev SRead (C : Sem) (g : Nat) : Prop := ∀ (s w : Int) (xs : List Int) (h : IH), Rg s xs → 1 ≤ w → w ≤ 6 → C.call g [.d (.int s), .d (tupI xs), .d (.int w)] h = .ok (.d .none) h
theorem read_ok {c d : Nat} (hf : P.defs[g]? = some (fRead c d)) (c0 : SSRing (sem P n) c) (c1 : SChk 1 6 (sem P n) d) : SRead (sem P (n + 1)) g := by
  intro s w xs h r w1 w2
  rw [callP hf]
  simp [fRead, begin_, c0 s xs h r, c1 w h w1 w2]
/-! ### windows -/
def at_ (xs : List Int) (k : Nat) : Int := xs.getD (k % xs.length) 0
def win (xs : List Int) (p w : Nat) : List Int := (List.range w).map fun t => at_ xs (p + t)
theorem win_length (xs : List Int) (p w : Nat) : (win xs p w).length = w := by simp [win]
theorem at_get {xs : List Int} (h : 1 ≤ xs.length) (k : Nat) : atD (xs.map .int) (((k : Int)) % (xs.length : Int)) = some (.int (at_ xs k)) := by
  have e : ((k : Int)) % (xs.length : Int) = ((k % xs.length : Nat) : Int) := by simp
  have hlt : k % xs.length < xs.length := Nat.mod_lt _ (by omega)
  rw [e, atD_int (by omega) (by rw [List.length_map]; exact Int.ofNat_lt.mpr hlt)]
  simp only [Int.toNat_natCast, List.getElem?_map]
  unfold at_
  rw [List.getD_eq_getElem?_getD, List.getElem?_eq_getElem hlt]
  rfl
/-- a comprehension over 0 .. m - 1 that leaves the heap -/
theorem lc_range {C : Sem} {env : Env} {e : IE} {i : Nat} {elt : IE} {h : IH} {m : Nat} (F : Nat → D) (h1 : ev C env e h = .ok (.d (.int (m : Int))) h) (h4 : m ≤ 100000) (hf : ∀ t, t < m → ∀ h', (∃ c, h' = h ++ [c]) → ev C ((env.set i none).set i (some (.d (.int (t : Int))))) elt h' = .ok (.d (F t)) h') :
    ev C env (.lc .range1 [e] (.one i) .nop elt) h = .ok (.d (.list ((List.range m).map F))) h := by
  have key := lc_eval (C := C) (env := env) (k := .range1) (its := [e]) (tg := .one i) (cond := .nop) (elt := elt) (h := h) (vs := [.d (.int m)]) (ds := [.int m]) (items := rangeD 0 m)
    (fun x => match x with | .int i => some (F i.toNat) | _ => none) (by simp [h1]) rfl (items1 (by omega) (by omega)) (by rw [rangeD_length]; unfold lim; omega) fun x hx acc => by
      obtain ⟨t, ht, rfl⟩ := rangeD_mem.mp hx
      have e0 : (0 : Int) + (t : Int) = t := by omega
      have ef := hf t (by omega) (h ++ [.lst acc]) ⟨.lst acc, rfl⟩
      unfold turnP
      simp only [q_b1, e0, q_tgs1, q_w1, q_w0, q_cnd0, bind_ok, if_true, ef, q_asD, Int.toNat_natCast]
  have er : (rangeD 0 (m : Int)).filterMap (fun x => match x with | .int i => some (F i.toNat) | _ => none) = (List.range m).map F := by
    unfold rangeD
    rw [List.filterMap_map, ← List.filterMap_eq_map]
    simp [Function.comp_def]
  rw [er] at key
  exact key
def fWin : FDef := ⟨3, 4, [(.ret (.bi .tuple [(.lc .range1 [(.v 2)] (.one 3) .nop (.ix (.v 0) (.bin .Mod (.bin .Add (.v 1) (.v 3)) (.bi .len [(.v 0)]))))]))]⟩
abbrev SWin (C : Sem) (g : Nat) : Prop := ∀ (xs : List Int) (p w : Nat) (h : IH), 1 ≤ xs.length → w ≤ 1000 → C.call g [.d (tupI xs), .d (.int p), .d (.int w)] h = .ok (.d (tupI (win xs p w))) h
/-- a mark round and round -/
theorem at_ev {C : Sem} {env : Env} {a b c : Nat} {xs : List Int} {p t : Nat} (h : IH) (h1 : 1 ≤ xs.length) (ea : getS env a = some (.d (tupI xs))) (eb : getS env b = some (.d (.int p))) (ec : getS env c = some (.d (.int t))) :
    ev C env (.ix (.v a) (.bin .Mod (.bin .Add (.v b) (.v c)) (.bi .len [(.v a)]))) h = .ok (.d (.int (at_ xs (p + t)))) h := by
  have e := at_get h1 (p + t)
  have e1 : ((p + t : Nat) : Int) = (p : Int) + (t : Int) := by omega
  rw [e1] at e
  have hp : 0 < xs.length := by omega
  simp [ea, eb, ec, biD, tupI, binD, ixD, hp, e]
theorem win_ok (hf : P.defs[g]? = some fWin) : SWin (sem P (n + 1)) g := by
  intro xs p w h h1 hw
  have key := lc_range (C := sem P n) (env := [some (.d (tupI xs)), some (.d (.int p)), some (.d (.int w)), none]) (e := .v 2) (i := 3) (elt := (.ix (.v 0) (.bin .Mod (.bin .Add (.v 1) (.v 3)) (.bi .len [(.v 0)])))) (h := h) (fun t => .int (at_ xs (p + t))) rfl (m := w) (by omega) fun t ht h' _ => at_ev h' h1 rfl rfl rfl
  refine callD hf (env := [some (.d (tupI xs)), some (.d (.int p)), some (.d (.int w)), none]) rfl rfl ?_
  have e2 : (List.range w).map (fun t => PyData.int (at_ xs (p + t))) = (win xs p w).map .int := by
    unfold win
    rw [List.map_map]
    rfl
  simp only [fWin, q_exs1, q_ret, q_bi, q_cons, key, q_nil, bind_ok, q_biP1, q_dat, Option.map, biD, q_ofO, then_ok, obind_ret, e2]
  rfl
def wins (xs : List Int) (w : Nat) : List D := (List.range xs.length).map fun p => tupI (win xs p w)
theorem len_ev {C : Sem} {env : Env} {a : Nat} {xs : List D} (h : IH) (ea : getS env a = some (.d (.tuple xs))) : ev C env (.bi .len [(.v a)]) h = .ok (.d (.int xs.length)) h := by
  simp [ea, biD]
theorem lenL_ev {C : Sem} {env : Env} {a : Nat} {xs : List D} (h : IH) (ea : getS env a = some (.d (.list xs))) : ev C env (.bi .len [(.v a)]) h = .ok (.d (.int xs.length)) h := by
  simp [ea, biD]
theorem lenI_ev {C : Sem} {env : Env} {a : Nat} {xs : List Int} (h : IH) (ea : getS env a = some (.d (tupI xs))) : ev C env (.bi .len [(.v a)]) h = .ok (.d (.int xs.length)) h := by
  have e := len_ev (C := C) h ea
  rwa [List.length_map] at e
def fWins (c : Nat) : FDef := ⟨2, 3, [(.ret (.bi .tuple [(.lc .range1 [(.bi .len [(.v 0)])] (.one 2) .nop (.call c [(.v 0), (.v 2), (.v 1)]))]))]⟩
abbrev SWins (C : Sem) (g : Nat) : Prop := ∀ (xs : List Int) (w : Nat) (h : IH), 1 ≤ xs.length → xs.length ≤ 1000 → w ≤ 1000 → C.call g [.d (tupI xs), .d (.int w)] h = .ok (.d (.tuple (wins xs w))) h
theorem wins_ok {c : Nat} (hf : P.defs[g]? = some (fWins c)) (c0 : SWin (sem P n) c) : SWins (sem P (n + 1)) g := by
  intro xs w h h1 h2 hw
  have key := lc_range (C := sem P n) (env := [some (.d (tupI xs)), some (.d (.int w)), none]) (e := (.bi .len [(.v 0)])) (i := 2) (elt := (.call c [(.v 0), (.v 2), (.v 1)])) (h := h) (fun t => tupI (win xs t w)) (lenI_ev h rfl) (by omega) fun t ht h' _ => by
    simp [c0 xs t w h' h1 hw]
  refine callD hf (env := [some (.d (tupI xs)), some (.d (.int w)), none]) rfl rfl ?_
  simp only [fWins, q_exs1, q_ret, q_bi _ _ _ .tuple, q_cons, key, q_nil, bind_ok, q_biP1, q_dat, Option.map, biD, q_ofO, then_ok, obind_ret]
  rfl
end
end RR.Q

-- RQ4
set_option maxHeartbeats 1000000
/-! A law's drawn numbers: the pool. -/
namespace RR.Q
open PySem
section
variable {P : Prog} {n g : Nat}
abbrev cell3 (a b c : Int) : Cell := .lst [.int a, .int b, .int c]
/-- the pool lies in cell m -/
def Pool (m : Nat) (h : IH) : Prop := ∃ a b c : Int, h[m]? = some (cell3 a b c) ∧ 0 ≤ b ∧ b < 2147483647
/-- only the pool has changed -/
def Dr (m : Nat) (h h' : IH) : Prop := h' = h ∨ ∃ a b c : Int, h' = h.set m (cell3 a b c) ∧ 0 ≤ b ∧ b < 2147483647
theorem Pool.lt {m : Nat} {h : IH} (p : Pool m h) : m < h.length := by
  obtain ⟨a, b, c, e, _⟩ := p
  exact (List.getElem?_eq_some_iff.mp e).1
theorem Dr.rfl' {m : Nat} {h : IH} : Dr m h h := .inl rfl
theorem Dr.pool {m : Nat} {h h' : IH} (p : Pool m h) (d : Dr m h h') : Pool m h' := by
  rcases d with rfl | ⟨a, b, c, rfl, h1, h2⟩
  · exact p
  · exact ⟨a, b, c, by rw [List.getElem?_set_self p.lt], h1, h2⟩
theorem Dr.trans {m : Nat} {h h1 h2 : IH} (d : Dr m h h1) (e : Dr m h1 h2) : Dr m h h2 := by
  rcases e with rfl | ⟨a, b, c, rfl, q1, q2⟩
  · exact d
  · rcases d with rfl | ⟨a', b', c', rfl, q3, q4⟩
    · exact .inr ⟨a, b, c, rfl, q1, q2⟩
    · exact .inr ⟨a, b, c, by rw [List.set_set], q1, q2⟩
theorem Dr.len {m : Nat} {h h' : IH} (d : Dr m h h') : h'.length = h.length := by
  rcases d with rfl | ⟨a, b, c, rfl, _⟩
  · rfl
  · rw [List.length_set]
theorem Pool.app {m : Nat} {h : IH} (p : Pool m h) (r : IH) : Pool m (h ++ r) := by
  obtain ⟨a, b, c, e, q⟩ := p
  exact ⟨a, b, c, by rw [List.getElem?_append_left (List.getElem?_eq_some_iff.mp e).1, e], q⟩
theorem Dr.app {m : Nat} {h r h' : IH} (p : Pool m h) (d : Dr m (h ++ r) h') : ∃ h2, h' = h2 ++ r ∧ Dr m h h2 := by
  rcases d with rfl | ⟨a, b, c, rfl, q⟩
  · exact ⟨h, rfl, .inl rfl⟩
  · exact ⟨h.set m (cell3 a b c), by rw [List.set_append_left _ _ p.lt], .inr ⟨a, b, c, rfl, q⟩⟩
/-! ### one number -/
def fTake : FDef := ⟨2, 4, [(.ite (.cmp .Gt (.ix (.v 0) (.c (.int 0))) (.c (.int 0))) [(.setT [(.sub (.v 0) (.c (.int 0))), (.one 2)] (.bi .divmod [(.ix (.v 0) (.c (.int 0))), (.v 1)])), (.ret (.v 2))] []), (.setS (.v 0) (.c (.int 2)) (.bin .Add (.ix (.v 0) (.c (.int 2))) (.c (.int 1)))), (.set 3 (.bin .Mod (.bin .Add (.ix (.v 0) (.c (.int 1))) (.bin .Mult (.c (.int 28657)) (.ix (.v 0) (.c (.int 2))))) (.c (.int 2147483399)))), (.setS (.v 0) (.c (.int 1)) (.bin .Mod (.bin .Add (.bin .Mult (.v 3) (.bin .Add (.bin .Mod (.v 3) (.c (.int 5003))) (.c (.int 48271)))) (.bin .Mult (.c (.int 17)) (.ix (.v 0) (.c (.int 2))))) (.c (.int 2147483399)))), (.ret (.bin .Mod (.bin .FloorDiv (.ix (.v 0) (.c (.int 1))) (.c (.int 613))) (.v 1)))]⟩
/-- a number below many is drawn -/
abbrev STake (C : Sem) (g : Nat) : Prop := ∀ (m : Nat) (many : Int) (h : IH), Pool m h → 1 ≤ many → many ≤ 1000000000 → ∃ (d : Nat) (h' : IH), (d : Int) < many ∧ Dr m h h' ∧ C.call g [.ref m, .d (.int many)] h = .ok (.d (.int d)) h'
theorem dat_ref {m : Nat} {h : IH} {xs : List D} (e : h[m]? = some (.lst xs)) : dat (.ref m) h = some (.list xs) := by
  simp only [dat, e]
theorem st_ref {m j : Nat} {h : IH} {xs : List D} {i : Int} {x : D} (e : h[m]? = some (.lst xs)) (hp : plc xs.length i = some j) : storeAt (.ref m) (.int i) x h = some (h.set m (.lst (xs.set j x))) := by
  simp only [storeAt, e, hp]
theorem cell_ix {C : Sem} {env : Env} {v m : Nat} {h : IH} {xs : List D} {k : Nat} {x : D} (ev : getS env v = some (.ref m)) (e : h[m]? = some (.lst xs)) (hx : xs[k]? = some x) : RR.ev C env (.ix (.v v) (.c (.int (k : Int)))) h = .ok (.d x) h := by
  have hl : k < xs.length := (List.getElem?_eq_some_iff.mp hx).1
  simp [ev, dat_ref e, ixD, atD, plc_nat hl, hx]
theorem mod_lit {i : Int} (j : Int) (hj : 0 < j) : binD .Mod (.int i) (.int j) = some (.int (i % j)) := by
  show (if 0 < j then _ else _) = _
  rw [if_pos hj]
theorem mul_small {i j : Int} (h : -1000000000000 < i) (h' : i < 1000000000000) : binD .Mult (.int i) (.int j) = some (.int (i * j)) := by
  show (if mulOk i j = true then _ else _) = _
  rw [if_pos]
  have e : (2 : Int) ^ 64 = 18446744073709551616 := by decide
  unfold mulOk
  rw [e]
  have h1 : decide (-18446744073709551616 < i) = true := decide_eq_true (by omega)
  have h2 : decide (i < 18446744073709551616) = true := decide_eq_true (by omega)
  rw [h1, h2]
  rfl
theorem div_613 {i : Int} : binD .FloorDiv (.int i) (.int 613) = some (.int (i / 613)) := rfl
theorem dm_ok {i j : Int} (h : 0 < j) (h' : j < 1073741824) : biD .divmod [.int i, .int j] = some (.tuple [.int (i / j), .int (i % j)]) := by
  show (if (decide (0 < j) && decide (j < 1073741824)) = true then _ else _) = _
  rw [if_pos (by simp [h, h'])]
theorem take_ok (hf : P.defs[g]? = some fTake) : STake (sem P (n + 1)) g := by
  intro m many h ⟨a, b, c, e, hb, hb'⟩ h1 h2
  have hm : m < h.length := (List.getElem?_eq_some_iff.mp e).1
  by_cases ha : 0 < a
  · refine ⟨(a % many).toNat, h.set m (cell3 (a / many) b c), ?_, .inr ⟨_, _, _, rfl, hb, hb'⟩, ?_⟩
    · have q1 := Int.emod_nonneg a (show many ≠ 0 by omega)
      have q2 := Int.emod_lt_of_pos a (show 0 < many by omega)
      omega
    · have ed : ((a % many).toNat : Int) = a % many := Int.toNat_of_nonneg (Int.emod_nonneg a (by omega))
      refine (callR hf (env := [some (.ref m), some (.d (.int many)), none, none]) (o := .ret (.d (.int (a % many))) (h.set m (cell3 (a / many) b c))) rfl rfl ?_).trans ?_
      · have c0 := cell_ix (C := sem P n) (env := [some (.ref m), some (.d (.int many)), none, none]) (v := 0) (m := m) (h := h) (k := 0) (x := .int a) rfl e rfl
        have e2 := st_ref (i := 0) (x := .int (a / many)) (j := 0) e rfl
        simp only [Int.cast_ofNat_Int] at c0
        unfold fTake
        rw [q_exs1, q_ite, q_cmp, c0]
        simp only [bind_ok, q_c, q_dat, q_gt, ha, decide_true, Option.map, q_ofO, then_ok, q_truth_b]
        rw [q_exs1, q_setT, q_bi, q_cons, c0]
        simp [dm_ok (i := a) (show 0 < many by omega) (show many < 1073741824 by omega), storeT, e2]
      · rw [q_fin, ed, List.take_of_length_le (by rw [List.length_set]; exact Nat.le_refl _)]
  · have hx1 : 0 ≤ (b + 28657 * (c + 1)) % 2147483399 := Int.emod_nonneg _ (by decide)
    have hx2 : (b + 28657 * (c + 1)) % 2147483399 < 2147483399 := Int.emod_lt_of_pos _ (by decide)
    generalize hs : (b + 28657 * (c + 1)) % 2147483399 = s at hx1 hx2
    have hy1 : 0 ≤ (s * (s % 5003 + 48271) + 17 * (c + 1)) % 2147483399 := Int.emod_nonneg _ (by decide)
    have hy2 : (s * (s % 5003 + 48271) + 17 * (c + 1)) % 2147483399 < 2147483399 := Int.emod_lt_of_pos _ (by decide)
    generalize ht : (s * (s % 5003 + 48271) + 17 * (c + 1)) % 2147483399 = t at hy1 hy2
    have q1 := Int.emod_nonneg (t / 613) (show many ≠ 0 by omega)
    have q2 := Int.emod_lt_of_pos (t / 613) (show 0 < many by omega)
    have ed : ((t / 613 % many).toNat : Int) = t / 613 % many := Int.toNat_of_nonneg q1
    refine ⟨(t / 613 % many).toNat, h.set m (cell3 a t (c + 1)), by omega, .inr ⟨_, _, _, rfl, hy1, by omega⟩, ?_⟩
    refine (callR hf (env := [some (.ref m), some (.d (.int many)), none, none]) (o := .ret (.d (.int (t / 613 % many))) (h.set m (cell3 a t (c + 1)))) rfl rfl ?_).trans ?_
    · have c0 := cell_ix (C := sem P n) (env := [some (.ref m), some (.d (.int many)), none, none]) (v := 0) (m := m) (h := h) (k := 0) (x := .int a) rfl e rfl
      have c2 := cell_ix (C := sem P n) (env := [some (.ref m), some (.d (.int many)), none, none]) (v := 0) (m := m) (h := h) (k := 2) (x := .int c) rfl e rfl
      have s2 := st_ref (i := 2) (x := .int (c + 1)) (j := 2) e rfl
      have e' : (h.set m (cell3 a b (c + 1)))[m]? = some (cell3 a b (c + 1)) := List.getElem?_set_self hm
      have d1 := cell_ix (C := sem P n) (env := [some (.ref m), some (.d (.int many)), none, none]) (v := 0) (m := m) (h := h.set m (cell3 a b (c + 1))) (k := 1) (x := .int b) rfl e' rfl
      have d2 := cell_ix (C := sem P n) (env := [some (.ref m), some (.d (.int many)), none, none]) (v := 0) (m := m) (h := h.set m (cell3 a b (c + 1))) (k := 2) (x := .int (c + 1)) rfl e' rfl
      have d2' := cell_ix (C := sem P n) (env := [some (.ref m), some (.d (.int many)), none, some (.d (.int s))]) (v := 0) (m := m) (h := h.set m (cell3 a b (c + 1))) (k := 2) (x := .int (c + 1)) rfl e' rfl
      have s1 := st_ref (i := 1) (x := .int t) (j := 1) e' rfl
      have e'' : ((h.set m (cell3 a b (c + 1))).set m (cell3 a t (c + 1)))[m]? = some (cell3 a t (c + 1)) := List.getElem?_set_self (by rw [List.length_set]; exact hm)
      have f1 := cell_ix (C := sem P n) (env := [some (.ref m), some (.d (.int many)), none, some (.d (.int s))]) (v := 0) (m := m) (h := (h.set m (cell3 a b (c + 1))).set m (cell3 a t (c + 1))) (k := 1) (x := .int t) rfl e'' rfl
      simp only [Int.cast_ofNat_Int, List.set_set] at c0 c2 d1 d2 d2' f1
      unfold fTake
      rw [q_exs1, q_ite, q_cmp, c0]
      simp only [bind_ok, q_c, q_dat, q_gt, ha, decide_false, Option.map, q_ofO, then_ok, q_truth_b, q_exs0, obind_next]
      rw [q_exs1, q_setS]
      simp only [q_bin, c2, bind_ok, q_c, q_add, Option.map, q_ofO, then_ok, q_v, q_get0, s2, obind_next, List.set]
      rw [q_exs1, q_set]
      simp only [q_bin, d1, d2, bind_ok, q_c, mul_small (i := 28657) (by decide) (by decide), q_add, Option.map, q_ofO, then_ok, mod_lit 2147483399 (by decide), hs, q_setV, obind_next, List.set]
      rw [q_exs1, q_setS]
      simp only [q_bin, d2', bind_ok, q_c, q_v, q_get0, q_getS, mul_small (i := 17) (by decide) (by decide), mul_small (i := s) (by omega) (by omega), q_add, Option.map, q_ofO, then_ok, mod_lit 2147483399 (by decide), mod_lit 5003 (by decide), ht, q_setV, obind_next, List.set, s1]
      rw [q_exs1, q_ret]
      simp only [q_bin, f1, bind_ok, q_c, q_v, q_get0, q_getS, div_613, Option.map, q_ofO, then_ok, mod_lit many (by omega), obind_ret, List.set_set]
    · rw [q_fin, ed, List.take_of_length_le (by rw [List.length_set]; exact Nat.le_refl _)]
end
end RR.Q

-- RQ5
set_option maxHeartbeats 1000000
/-! A law's drawn things, and its frame. -/
namespace RR.Q
open PySem
section
variable {P : Prog} {n g : Nat}
theorem q_finR {m n0 : Nat} {h : IH} (hm : m < n0) : finish n0 (.ret (.ref m) h) = .ok (.ref m) (h.take n0) := by
  simp [finish, hm]
theorem Dr.take {m : Nat} {h h' : IH} (d : Dr m h h') : h'.take h.length = h' := List.take_of_length_le (by rw [d.len]; exact Nat.le_refl _)
/-! ### one of some things -/
def fOf (t : Nat) : FDef := ⟨2, 2, [(.ret (.ix (.v 1) (.call t [(.v 0), (.bi .len [(.v 1)])])))]⟩
abbrev SOf (C : Sem) (g : Nat) : Prop := ∀ (m : Nat) (v : D) (xs : List D) (h : IH), seqOf v = some xs → Pool m h → 1 ≤ xs.length → xs.length ≤ 100000 → ∃ (x : D) (h' : IH), x ∈ xs ∧ Dr m h h' ∧ C.call g [.ref m, .d v] h = .ok (.d x) h'
theorem at_nat {xs : List D} {k : Nat} (hk : k < xs.length) : atD xs (k : Int) = some xs[k] := by
  unfold atD
  rw [plc_nat hk]
  simp [hk]
theorem of_ok {t : Nat} (hf : P.defs[g]? = some (fOf t)) (c0 : STake (sem P n) t) : SOf (sem P (n + 1)) g := by
  intro m v xs h hv p h1 h2
  obtain ⟨d, h', hd, dr, e⟩ := c0 m xs.length h p (by omega) (by omega)
  have hk : d < xs.length := by omega
  have el : biD .len [v] = some (.int xs.length) := by
    cases v with
    | list ys => cases hv; rfl
    | tuple ys => cases hv; rfl
    | _ => cases hv
  have ei : ixD v (.int d) = some xs[d] := by
    cases v with
    | list ys => cases hv; exact at_nat hk
    | tuple ys => cases hv; exact at_nat hk
    | _ => cases hv
  refine ⟨xs[d], h', List.getElem_mem hk, dr, ?_⟩
  rw [callP hf]
  simp [fOf, begin_, el, e, ei, dr.take]
/-! ### a comprehension that draws -/
theorem lcLoop_draw {f : D → IH → Res (Option D)} {Q : D → D → Prop} {m k : Nat} : ∀ {items acc : List D} {h : IH}, h.length = k → Pool m h → (∀ x ∈ items, ∀ h', h'.length = k → Pool m h' → ∀ acc, ∃ y h2, Q x y ∧ Dr m h' h2 ∧ f x (h' ++ [.lst acc]) = .ok (some y) (h2 ++ [.lst acc])) → acc.length + items.length ≤ lim →
    ∃ ys h2, Paired Q items ys ∧ Dr m h h2 ∧ lcLoop k f items (h ++ [.lst acc]) = .ok () (h2 ++ [.lst (acc ++ ys)])
  | [], acc, h, _, _, _, _ => ⟨[], h, .nil, .rfl', by simp [lcLoop]⟩
  | x :: r, acc, h, hk, p, hf, hl => by
    simp only [List.length_cons] at hl
    obtain ⟨y, h2, q, d, e⟩ := hf x List.mem_cons_self h hk p acc
    obtain ⟨ys, h3, qs, d3, e3⟩ := lcLoop_draw (k := k) (items := r) (acc := acc ++ [y]) (h := h2) (by rw [d.len, hk]) (d.pool p) (fun z hz => hf z (List.mem_cons_of_mem _ hz)) (by rw [List.length_append]; simp; omega)
    refine ⟨y :: ys, h3, .cons q qs, d.trans d3, ?_⟩
    have ep : pushC k y (h2 ++ [.lst acc]) = some (h2 ++ [.lst (acc ++ [y])]) := by
      have := push_at (h0 := h2) (acc := acc) (y := y) (by omega)
      rwa [d.len, hk] at this
    simp only [lcLoop, e, bind_ok, ep, e3]
    simp
theorem lc_draw {C : Sem} {env : Env} {k : Ik} {its : List IE} {tg : Tg} {elt : IE} {h h0 : IH} {vs : List Val} {ds items : List D} {m : Nat} (Q : D → D → Prop) (p : Pool m h) (h1 : evs C env its h = .ok vs h0) (d0 : Dr m h h0) (h2 : dats vs h0 = some ds) (h3 : itemsD k ds = some items) (h4 : items.length ≤ lim)
    (hf : ∀ x ∈ items, ∀ h', Pool m h' → ∃ y h2 env1, bindT tg x (wipeE env (tgs tg)) = some env1 ∧ Q x y ∧ Dr m h' h2 ∧ ev C env1 elt h' = .ok (.d y) h2) :
    ∃ ys h', Paired Q items ys ∧ Dr m h h' ∧ ev C env (.lc k its tg .nop elt) h = .ok (.d (.list ys)) h' := by
  obtain ⟨ys, h', q, d, e⟩ := lcLoop_draw (k := h0.length) (f := turnP C (wipeE env (tgs tg)) tg .nop elt) (Q := Q) (m := m) (items := items) (acc := []) (h := h0) rfl (d0.pool p) (fun x hx h' hl p' acc => by
    obtain ⟨y, h2, env1, eb, q, d, e⟩ := hf x hx (h' ++ [.lst acc]) (p'.app _)
    obtain ⟨h3, rfl, d3⟩ := Dr.app p' d
    refine ⟨y, h3, q, d3, ?_⟩
    unfold turnP
    rw [eb]
    simp only [q_cnd0, bind_ok, if_true, e, q_asD]) (by simpa using h4)
  refine ⟨ys, h', q, d0.trans d, ?_⟩
  rw [evP_lc, h1]
  simp only [q_itr, h2, h3, q_ofO, bind_ok, e, calm_ok]
  rw [← d.len, lcEnd_at]
  simp
/-- .. over 0 .. k - 1 -/
theorem lc_drawR {C : Sem} {env : Env} {e : IE} {i : Nat} {elt : IE} {h h0 : IH} {k m : Nat} (Q : D → Prop) (p : Pool m h) (h1 : ev C env e h = .ok (.d (.int (k : Int))) h0) (d0 : Dr m h h0) (h4 : k ≤ 100000)
    (hf : ∀ t, t < k → ∀ h', Pool m h' → ∃ y h2, Q y ∧ Dr m h' h2 ∧ ev C ((env.set i none).set i (some (.d (.int (t : Int))))) elt h' = .ok (.d y) h2) :
    ∃ ys h', ys.length = k ∧ (∀ y ∈ ys, Q y) ∧ Dr m h h' ∧ ev C env (.lc .range1 [e] (.one i) .nop elt) h = .ok (.d (.list ys)) h' := by
  obtain ⟨ys, h', q, d, e⟩ := lc_draw (C := C) (env := env) (k := .range1) (its := [e]) (tg := .one i) (elt := elt) (vs := [.d (.int k)]) (ds := [.int k]) (items := rangeD 0 k) (fun _ y => Q y) p (by rw [q_cons, h1]; simp) d0 rfl (items1 (by omega) (by omega)) (by rw [rangeD_length]; unfold lim; omega) (fun x hx h' p' => by
    obtain ⟨t, ht, rfl⟩ := rangeD_mem.mp hx
    have e0 : (0 : Int) + (t : Int) = t := by omega
    obtain ⟨y, h2, q, d, e⟩ := hf t (by omega) h' p'
    exact ⟨y, h2, _, rfl, q, d, by rw [e0]; exact e⟩)
  refine ⟨ys, h', ?_, ?_, d, e⟩
  · have : ∀ {a b : List D}, Paired (fun _ y => Q y) a b → b.length = a.length := fun z => by
      induction z with
      | nil => rfl
      | cons _ _ ih => simp [ih]
    rw [this q, rangeD_length]
    omega
  · have : ∀ {a b : List D}, Paired (fun _ y => Q y) a b → ∀ y ∈ b, Q y := fun z => by
      induction z with
      | nil => simp
      | cons q _ ih => simp [q]; exact ih
    exact this q
/-! ### slices -/
theorem bnd_i {l d : Nat} {k : Int} (h : 0 ≤ k) : bnd l d (some k) = min k.toNat l := by
  simp only [bnd]
  rw [if_neg (by omega)]
theorem cut_to (xs : List D) {k : Int} (h : 0 ≤ k) : cutD xs none (some k) = xs.take k.toNat := by
  unfold cutD
  rw [bnd_i h]
  simp only [bnd, List.drop_zero, Nat.sub_zero]
  rw [← List.take_eq_take_min]
theorem cut_from (xs : List D) {k : Int} (h : 0 ≤ k) : cutD xs (some k) none = xs.drop k.toNat := by
  unfold cutD
  rw [bnd_i h]
  simp only [bnd]
  rw [List.take_of_length_le (by rw [List.length_drop]; omega)]
  by_cases hk : k.toNat ≤ xs.length
  · rw [Nat.min_eq_left hk]
  · rw [Nat.min_eq_right (by omega), List.drop_of_length_le (by omega), List.drop_of_length_le (by omega)]
/-! ### a ring -/
theorem ints_of {Q : Int → Prop} : ∀ {ys : List D}, (∀ y ∈ ys, ∃ i, y = .int i ∧ Q i) → ∃ zs : List Int, ys = zs.map .int ∧ ∀ z ∈ zs, Q z
  | [], _ => ⟨[], rfl, by simp⟩
  | y :: r, h => by
    obtain ⟨i, rfl, q⟩ := h y List.mem_cons_self
    obtain ⟨zs, rfl, qs⟩ := ints_of fun z hz => h z (List.mem_cons_of_mem _ hz)
    exact ⟨i :: zs, rfl, by simp [q]; exact qs⟩
def fRing (t : Nat) : FDef := ⟨3, 5, [(.set 3 (.bi .tuple [(.lc .range1 [(.bin .Add (.c (.int 1)) (.call t [(.v 0), (.v 2)]))] (.one 4) .nop (.call t [(.v 0), (.v 1)]))])), (.ret (.ifx (.cmp .Eq (.call t [(.v 0), (.c (.int 6))]) (.c (.int 0))) (.sl (.bin .Mult (.v 3) (.c (.int 3))) .nop (.v 2)) (.v 3)))]⟩
abbrev SRing (C : Sem) (g : Nat) : Prop := ∀ (m : Nat) (s most : Int) (h : IH), Pool m h → 1 ≤ s → s ≤ 1000 → 1 ≤ most → most ≤ 1000 → ∃ (xs : List Int) (h' : IH), Mk s xs ∧ 1 ≤ xs.length ∧ (xs.length : Int) ≤ most ∧ Dr m h h' ∧ C.call g [.ref m, .d (.int s), .d (.int most)] h = .ok (.d (tupI xs)) h'
theorem mult3 {xs : List D} (h1 : 1 ≤ xs.length) (h2 : xs.length ≤ 1000) : binD .Mult (.tuple xs) (.int 3) = some (.tuple (xs ++ xs ++ xs)) := by
  have hx : xs.isEmpty = false := by
    cases xs with
    | nil => simp at h1
    | cons _ _ => rfl
  have hd : decide (xs.length ≤ 1000) = true := decide_eq_true h2
  simp only [binD, hx, hd]
  simp [List.replicate]
theorem ring_ok {t : Nat} (hf : P.defs[g]? = some (fRing t)) (c0 : STake (sem P n) t) : SRing (sem P (n + 1)) g := by
  intro m s most h p s1 s2 m1 m2
  obtain ⟨d, h0, hd, dr, e⟩ := c0 m most h p m1 (by omega)
  obtain ⟨ys, h1, yl, yq, dr1, e1⟩ := lc_drawR (C := sem P n) (env := [some (.ref m), some (.d (.int s)), some (.d (.int most)), none, none]) (e := (.bin .Add (.c (.int 1)) (.call t [(.v 0), (.v 2)]))) (i := 4) (elt := (.call t [(.v 0), (.v 1)])) (h := h) (h0 := h0) (k := 1 + d) (m := m) (fun y => ∃ i : Int, y = .int i ∧ 0 ≤ i ∧ i < s) p (by simp [e]) dr (by omega) fun u hu h' p' => by
    obtain ⟨d', h2, hd', dr', e'⟩ := c0 m s h' p' s1 (by omega)
    exact ⟨.int d', h2, ⟨d', rfl, by omega, hd'⟩, dr', by simp [e']⟩
  obtain ⟨zs, rfl, qs⟩ := ints_of yq
  rw [List.length_map] at yl
  obtain ⟨d2, h2, hd2, dr2, e2⟩ := c0 m 6 h1 (dr1.pool p) (by decide) (by decide)
  have dr3 := dr1.trans dr2
  by_cases hz : d2 = 0
  · subst hz
    refine ⟨(zs ++ zs ++ zs).take most.toNat, h2, fun x hx => ?_, ?_, ?_, dr3, ?_⟩
    · have hx := List.mem_of_mem_take hx
      simp at hx
      exact qs x hx
    · simp
      omega
    · simp
      omega
    · refine (callR hf (env := [some (.ref m), some (.d (.int s)), some (.d (.int most)), none, none]) (o := .ret (.d (tupI ((zs ++ zs ++ zs).take most.toNat))) h2) rfl rfl ?_).trans ?_
      · unfold fRing
        rw [q_exs1, q_set, q_bi, q_cons, e1]
        have em : slD (.tuple (zs.map .int ++ zs.map .int ++ zs.map .int)) none (some most) = some (tupI ((zs ++ zs ++ zs).take most.toNat)) := by
          simp only [slD, cut_to _ (show 0 ≤ most by omega), tupI, ← List.map_append, ← List.map_take]
        simp [biD, e2, cmpD, dep, PyData.depth, eqv_int, mult3 (xs := zs.map .int) (by simp; omega) (by simp; omega), partOf]
        rw [← List.append_assoc, em]
        simp
      · rw [q_fin, dr3.take]
  · refine ⟨zs, h2, qs, by omega, by omega, dr3, ?_⟩
    refine (callR hf (env := [some (.ref m), some (.d (.int s)), some (.d (.int most)), none, none]) (o := .ret (.d (tupI zs)) h2) rfl rfl ?_).trans ?_
    · unfold fRing
      rw [q_exs1, q_set, q_bi, q_cons, e1]
      have hz' : ((d2 : Int) = 0) = False := by simp [hz]
      simp [biD, e2, cmpD, dep, PyData.depth, eqv_int, hz', tupI, hz]
    · rw [q_fin, dr3.take]
end
end RR.Q

-- RQ6
set_option maxHeartbeats 1000000
/-! A law's frame. -/
namespace RR.Q
open PySem
section
variable {P : Prog} {n g : Nat}
/-- a for loop whose turns keep something -/
theorem for_inv {tg : Tg} {body : Env → IH → Out} {I : Env → IH → Prop} : ∀ {items : List D} {env : Env} {h : IH}, I env h → (∀ x ∈ items, ∀ env h, I env h → ∃ env1 env2 h2, bindT tg x env = some env1 ∧ body env1 h = .next env2 h2 ∧ I env2 h2) → ∃ env' h', forLoop tg body items env h = .next env' h' ∧ I env' h'
  | [], env, h, i, _ => ⟨env, h, by rw [forLoop], i⟩
  | x :: r, env, h, i, hf => by
    obtain ⟨env1, env2, h2, e1, e2, i2⟩ := hf x List.mem_cons_self env h i
    obtain ⟨env', h', e, i'⟩ := for_inv (items := r) i2 fun z hz => hf z (List.mem_cons_of_mem _ hz)
    exact ⟨env', h', by rw [forLoop, e1]; simp only [e2, e], i'⟩
theorem intsOf_map (xs : List Int) : intsOf (xs.map .int) = some xs := by
  induction xs with
  | nil => rfl
  | cons x r ih => simp [intsOf, ih]
theorem cutD_map (xs : List Int) (lo hi : Option Int) : ∃ ys : List Int, cutD (xs.map .int) lo hi = ys.map .int := by
  unfold cutD
  rw [← List.map_drop, ← List.map_take]
  exact ⟨_, rfl⟩
def fPool : FDef := ⟨2, 6, [(.par [2, 3] [(.bi .sum [(.sl (.v 0) (.v 1) (.bin .Add (.v 1) (.c (.int 1))))]), (.bin .Add (.c (.int 50021)) (.bin .Mult (.c (.int 977)) (.v 1)))]), (.set 4 (.bin .Mult (.bin .Mult (.bin .Mult (.bin .Mult (.bin .Mult (.bin .Pow (.c (.int 10)) (.c (.int 64))) (.bin .Pow (.c (.int 10)) (.c (.int 64)))) (.bin .Pow (.c (.int 10)) (.c (.int 64)))) (.bin .Pow (.c (.int 10)) (.c (.int 64)))) (.bin .Pow (.c (.int 10)) (.c (.int 64)))) (.bin .Pow (.c (.int 10)) (.c (.int 64))))), (.for_ .val [(.sl (.v 0) .nop (.c (.int 12)))] (.one 5) [(.set 3 (.bin .Mod (.bin .Add (.bin .Add (.bin .Mult (.v 3) (.c (.int 48271))) (.bin .Mult (.bin .Mod (.v 5) (.c (.int 2147483399))) (.c (.int 19)))) (.c (.int 7))) (.c (.int 2147483399))))]), (.ret (.mut (.lst [(.ifx (.or_ (.cmp .Lt (.v 2) (.c (.int 0))) (.cmp .GtE (.v 2) (.bin .Pow (.c (.int 10)) (.c (.int 18))))) (.bin .Mod (.bi .abs [(.v 2)]) (.v 4)) (.c (.int 0))), (.v 3), (.c (.int 0))])))]⟩
abbrev SPool (C : Sem) (g : Nat) : Prop := ∀ (ns : List Int) (k : Nat) (h : IH), k ≤ 10 → ∃ a b c : Int, 0 ≤ b ∧ b < 2147483399 ∧ C.call g [.d (.list (ns.map .int)), .d (.int k)] h = .ok (.ref h.length) (h ++ [cell3 a b c])
theorem pow_lit (i : Int) (j : Nat) (h : (decide ((0 : Int) ≤ (j : Int)) && decide ((j : Int) ≤ 1000000) && decide (i.natAbs < 2 ^ 64)) = true) : binD .Pow (.int i) (.int (j : Int)) = some (.int (i ^ j)) := by
  show (if _ then _ else _) = _
  rw [if_pos h]
  rfl
theorem mul_lit (i j k : Int) (h : mulOk i j = true) (e : i * j = k) : binD .Mult (.int i) (.int j) = some (.int k) := by
  show (if _ then _ else _) = _
  rw [if_pos h, e]
theorem pow64 : binD .Pow (.int 10) (.int 64) = some (.int (10 ^ 64)) := pow_lit 10 64 (by decide +kernel)
theorem pow18 : binD .Pow (.int 10) (.int 18) = some (.int (10 ^ 18)) := pow_lit 10 18 (by decide +kernel)
theorem big1 : binD .Mult (.int (10 ^ 64)) (.int (10 ^ 64)) = some (.int (10 ^ 128)) := mul_lit _ _ _ (by decide +kernel) (by decide +kernel)
theorem big2 : binD .Mult (.int (10 ^ 128)) (.int (10 ^ 64)) = some (.int (10 ^ 192)) := mul_lit _ _ _ (by decide +kernel) (by decide +kernel)
theorem big3 : binD .Mult (.int (10 ^ 192)) (.int (10 ^ 64)) = some (.int (10 ^ 256)) := mul_lit _ _ _ (by decide +kernel) (by decide +kernel)
theorem big4 : binD .Mult (.int (10 ^ 256)) (.int (10 ^ 64)) = some (.int (10 ^ 320)) := mul_lit _ _ _ (by decide +kernel) (by decide +kernel)
theorem big5 : binD .Mult (.int (10 ^ 320)) (.int (10 ^ 64)) = some (.int (10 ^ 384)) := mul_lit _ _ _ (by decide +kernel) (by decide +kernel)
theorem pool_ok (hf : P.defs[g]? = some fPool) : SPool (sem P (n + 1)) g := by
  intro ns k h hk
  obtain ⟨cs, ec⟩ := cutD_map ns (some (k : Int)) (some ((k : Int) + 1))
  obtain ⟨ds, ed⟩ := cutD_map ns none (some 12)
  have hw : (0 : Int) < 10 ^ 384 := by decide +kernel
  generalize hW : (10 : Int) ^ 384 = W at hw
  generalize hV : (10 : Int) ^ 18 = V
  obtain ⟨env', h', ef, v3, v5, rfl, rfl, q1, q2⟩ := for_inv (tg := .one 5) (body := fun env h => exs (sem P n) P.wf env [(.set 3 (.bin .Mod (.bin .Add (.bin .Add (.bin .Mult (.v 3) (.c (.int 48271))) (.bin .Mult (.bin .Mod (.v 5) (.c (.int 2147483399))) (.c (.int 19)))) (.c (.int 7))) (.c (.int 2147483399))))] h) (items := ds.map .int) (env := [some (.d (.list (ns.map .int))), some (.d (.int k)), some (.d (.int cs.sum)), some (.d (.int (50021 + 977 * k))), some (.d (.int W)), none]) (h := h) (I := fun env h' => ∃ (v3 : Int) (v5 : Option Val), h' = h ∧ env = [some (.d (.list (ns.map .int))), some (.d (.int k)), some (.d (.int cs.sum)), some (.d (.int v3)), some (.d (.int W)), v5] ∧ 0 ≤ v3 ∧ v3 < 2147483399) ⟨50021 + 977 * k, none, rfl, rfl, by omega, by omega⟩ (by
    intro x hx env h' ⟨v3, v5, hh, he, q1, q2⟩
    subst hh he
    obtain ⟨i, _, rfl⟩ := List.mem_map.mp hx
    refine ⟨_, [some (.d (.list (ns.map .int))), some (.d (.int k)), some (.d (.int cs.sum)), some (.d (.int ((v3 * 48271 + i % 2147483399 * 19 + 7) % 2147483399))), some (.d (.int W)), some (.d (.int i))], h', rfl, ?_, _, _, rfl, rfl, Int.emod_nonneg _ (by decide), Int.emod_lt_of_pos _ (by decide)⟩
    have w1 := Int.emod_nonneg i (show (2147483399 : Int) ≠ 0 by decide)
    have w2 := Int.emod_lt_of_pos i (show (0 : Int) < 2147483399 by decide)
    simp [mod_lit 2147483399 (by decide), mul_small (i := v3) (by omega) (by omega), mul_small (i := i % 2147483399) (by omega) (by omega)])
  have key : ∃ a : Int, ev (sem P n) [some (.d (.list (ns.map .int))), some (.d (.int k)), some (.d (.int cs.sum)), some (.d (.int v3)), some (.d (.int W)), v5] (.ifx (.or_ (.cmp .Lt (.v 2) (.c (.int 0))) (.cmp .GtE (.v 2) (.bin .Pow (.c (.int 10)) (.c (.int 18))))) (.bin .Mod (.bi .abs [(.v 2)]) (.v 4)) (.c (.int 0))) h' = .ok (.d (.int a)) h' := by
    by_cases c1 : cs.sum < 0
    · exact ⟨(-cs.sum) % W, by simp [c1, biD, mod_lit W hw]⟩
    · by_cases c2 : V ≤ cs.sum
      · exact ⟨cs.sum % W, by simp [c1, c2, biD, mod_lit W hw, pow18, hV]⟩
      · exact ⟨0, by simp [c1, c2, biD, mod_lit W hw, pow18, hV]⟩
  obtain ⟨a, ea⟩ := key
  refine ⟨a, v3, 0, q1, q2, (callR hf (env := [some (.d (.list (ns.map .int))), some (.d (.int k)), none, none, none, none]) (o := .ret (.ref h'.length) (h' ++ [cell3 a v3 0])) rfl rfl ?_).trans ?_⟩
  · unfold fPool
    rw [q_exs1, q_par]
    simp only [q_cons, q_nil, q_bi, q_sl, q_v, q_get0, q_getS, q_ofO, bind_ok, q_prt_v, q_prt_bin, q_bin, q_c, q_add, Option.map, partOf, q_dat, slD, ec, q_biP1, biD, intsOf_map, mul_small (i := 977) (by decide) (by decide), then_ok, q_sv1, q_sv0, obind_next, List.set]
    rw [q_exs1, q_set]
    simp only [q_bin, q_c, bind_ok, pow64, big1, big2, big3, big4, big5, Option.map, q_ofO, then_ok, q_setV, obind_next, List.set, hW]
    rw [q_exs1, q_for]
    simp only [q_cons, q_nil, q_sl, q_v, q_get0, q_getS, q_ofO, bind_ok, q_prt_nop, q_prt_c, q_c, partOf, q_dat, slD, ed, Option.map, q_itr, q_dats1, q_dats0, itemsD, then_ok]
    rw [ef]
    simp only [obind_next]
    rw [q_exs1, q_ret, q_mut_lst, q_lst, q_cons, ea]
    simp
  · simp [finish]
end
end RR.Q

-- RQ7
set_option maxHeartbeats 1000000
namespace RR.Q
open PySem
section
variable {P : Prog} {n g : Nat}
abbrev SRight (C : Sem) (g : Nat) : Prop := ∀ (m : Nat) (h : IH), Pool m h → ∃ h', Dr m h h' ∧ C.call g [.ref m] h = .ok (.d (.bool true)) h'
def fLaw (a b c : Nat) : FDef := ⟨1, 4, [(.for_ .range1 [(.bi .max [(.c (.int 2)), (.bi .min [(.bi .len [(.v 0)]), (.c (.int 3))])])] (.one 1) [(.set 2 (.call a [(.v 0), (.v 1)])), (.ite (.nt (.bi .all [(.lc .range1 [(.c (.int c))] (.one 3) .nop (.call b [(.v 2)]))])) [(.ret (.c (.bool false)))] [])]), (.ret (.c (.bool true)))]⟩
theorem bools_true : ∀ {ys : List D}, (∀ y ∈ ys, y = .bool true) → biD .all [.list ys] = some (.bool true)
  | ys, h => by
    have : ∀ ys : List D, (∀ y ∈ ys, y = .bool true) → ∃ bs, boolsOf ys = some bs ∧ bs.all id = true := fun ys => by
      induction ys with
      | nil => exact fun _ => ⟨[], rfl, rfl⟩
      | cons y r ih =>
        intro h
        obtain ⟨bs, e, q⟩ := ih fun z hz => h z (List.mem_cons_of_mem _ hz)
        rw [h y List.mem_cons_self]
        exact ⟨true :: bs, by simp [boolsOf, e], by simpa using q⟩
    obtain ⟨bs, e, q⟩ := this ys h
    simp only [biD, e, q]
theorem law_ok {a b c : Nat} (hf : P.defs[g]? = some (fLaw a b c)) (hc : c ≤ 100000) (c0 : SPool (sem P n) a) (c1 : SRight (sem P n) b) (ns : List Int) : ∃ h', (sem P (n + 1)).call g [.d (.list (ns.map .int))] [] = .ok (.d (.bool true)) h' := by
  let lst : D := .list (ns.map .int)
  have em : ∃ r : Int, 0 ≤ r ∧ r ≤ 3 ∧ ∀ e1 e2 e3 h, ev (sem P n) [some (.d lst), e1, e2, e3] (.bi .max [(.c (.int 2)), (.bi .min [(.bi .len [(.v 0)]), (.c (.int 3))])]) h = .ok (.d (.int r)) h := by
    by_cases q : (3 : Int) < ns.length
    · exact ⟨3, by decide, by decide, fun e1 e2 e3 h => by simp [lst, biD, q]⟩
    · by_cases q2 : (2 : Int) < ns.length
      · exact ⟨ns.length, by omega, by omega, fun e1 e2 e3 h => by simp [lst, biD, q, q2]⟩
      · exact ⟨2, by decide, by decide, fun e1 e2 e3 h => by simp [lst, biD, q, q2]⟩
  obtain ⟨r, r0, r3, er⟩ := em
  obtain ⟨env', h', ef, e1, e2, e3, rfl⟩ := for_inv (tg := .one 1) (body := fun env h => exs (sem P n) P.wf env [(.set 2 (.call a [(.v 0), (.v 1)])), (.ite (.nt (.bi .all [(.lc .range1 [(.c (.int c))] (.one 3) .nop (.call b [(.v 2)]))])) [(.ret (.c (.bool false)))] [])] h) (items := rangeD 0 r) (env := [some (.d lst), none, none, none]) (h := []) (I := fun env h' => ∃ (e1 e2 e3 : Option Val), env = [some (.d lst), e1, e2, e3]) ⟨_, _, _, rfl⟩ (by
    intro x hx env h' ⟨v1, v2, v3, he⟩
    subst he
    obtain ⟨k, hk, rfl⟩ := rangeD_mem.mp hx
    have e0 : (0 : Int) + (k : Int) = k := by omega
    rw [e0]
    obtain ⟨pa, pb, pc, b1, b2, ep⟩ := c0 ns k h' (by omega)
    have pl : Pool h'.length (h' ++ [cell3 pa pb pc]) := ⟨pa, pb, pc, by simp, b1, by omega⟩
    obtain ⟨ys, h2, yl, yq, dr, e⟩ := lc_drawR (C := sem P n) (env := [some (.d lst), some (.d (.int k)), some (.ref h'.length), v3]) (e := .c (.int c)) (i := 3) (elt := (.call b [(.v 2)])) (h := h' ++ [cell3 pa pb pc]) (h0 := h' ++ [cell3 pa pb pc]) (k := c) (m := h'.length) (fun y => y = .bool true) pl (by simp) .rfl' hc fun t ht h3 p3 => by
      obtain ⟨h4, d4, e4⟩ := c1 h'.length h3 p3
      exact ⟨.bool true, h4, rfl, d4, by simp [e4]⟩
    refine ⟨[some (.d lst), some (.d (.int k)), v2, v3], [some (.d lst), some (.d (.int k)), some (.ref h'.length), v3], h2, rfl, ?_, _, _, _, rfl⟩
    simp only [q_exs1, q_set, q_call, q_cons, q_nil, q_v, q_get0, q_getS, q_ofO, bind_ok, lst, ep, then_ok, q_setVr, obind_next, List.set]
    simp only [q_ite, q_nt, q_bi _ _ _ .all, q_cons, lst] at e ⊢
    simp only [e]
    simp [bools_true yq])
  refine ⟨[], (callR hf (env := [some (.d lst), none, none, none]) (o := .ret (.d (.bool true)) h') rfl rfl ?_).trans ?_⟩
  · unfold fLaw
    rw [q_exs1, q_for, q_cons, er]
    simp only [q_nil, bind_ok, q_itr, q_dats1, q_dats0, Option.map, items1 (i := r) (by omega) (by omega), q_ofO, then_ok, ef, obind_next]
    simp
  · simp
end
end RR.Q

-- RQ8
set_option maxHeartbeats 1000000
/-! What is shown; windows apart. -/
namespace RR.Q
open PySem
/-- a datum with a short text -/
structure SD (L d : Nat) (x : D) : Prop where
  sh : x.showable = true
  nd : x.hasDict = false
  dp : x.depth ≤ d
  ln : x.shown.length ≤ L
theorem SD.up {L d L' d' : Nat} {x : D} (s : SD L d x) (h1 : L ≤ L') (h2 : d ≤ d') : SD L' d' x := ⟨s.sh, s.nd, Nat.le_trans s.dp h2, Nat.le_trans s.ln h1⟩
theorem SD.none : SD 10 0 .none := ⟨rfl, rfl, by simp [PyData.depth], by decide⟩
theorem SD.bool (b : Bool) : SD 10 0 (.bool b) := ⟨rfl, rfl, by simp [PyData.depth], by cases b <;> decide⟩
theorem SD.int {i : Int} (h : i.natAbs < 10 ^ 9) : SD 10 0 (.int i) := ⟨by
  simp only [PyData.showable, decide_eq_true_eq]
  exact Nat.lt_of_le_of_lt (Nat.log2_le_self _) (Nat.lt_of_lt_of_le (show i.natAbs.log2 < 1920 from by
    by_cases hz : i.natAbs = 0
    · rw [hz]; decide
    · exact (Nat.log2_lt hz).mpr (Nat.lt_trans h (by decide +kernel))) (Nat.le_refl _)) |> fun _ => (by
    by_cases hz : i.natAbs = 0
    · rw [hz]; decide
    · exact (Nat.log2_lt hz).mpr (Nat.lt_trans h (by decide +kernel))), rfl, by simp [PyData.depth], by
  show (Str.ofString (toString i)).length ≤ 10
  have := int_text_length_le10 (a := i) (k := 9) (by decide) h
  have e : (Str.ofString (toString i)).length = (toString i).length := ofString_length _
  omega⟩
theorem showableAll_of : ∀ {xs : List D}, (∀ x ∈ xs, x.showable = true) → PyData.showableAll xs = true
  | [], _ => by simp [PyData.showableAll]
  | x :: r, h => by simp [PyData.showableAll, h x List.mem_cons_self, showableAll_of fun z hz => h z (List.mem_cons_of_mem _ hz)]
theorem hasDictAll_of : ∀ {xs : List D}, (∀ x ∈ xs, x.hasDict = false) → PyData.hasDictAll xs = false
  | [], _ => by simp [PyData.hasDictAll]
  | x :: r, h => by simp [PyData.hasDictAll, h x List.mem_cons_self, hasDictAll_of fun z hz => h z (List.mem_cons_of_mem _ hz)]
theorem depthAll_of {d : Nat} : ∀ {xs : List D}, (∀ x ∈ xs, x.depth ≤ d) → PyData.depthAll xs ≤ d
  | [], _ => by simp [PyData.depthAll]
  | x :: r, h => by
    simp only [PyData.depthAll]
    have h1 := h x List.mem_cons_self
    have h2 := depthAll_of fun z hz => h z (List.mem_cons_of_mem _ hz)
    omega
theorem shownAll_sum {L : Nat} : ∀ {xs : List D}, (∀ x ∈ xs, x.shown.length ≤ L) → ((PyData.shownAll xs).map (·.length)).sum ≤ L * xs.length ∧ (PyData.shownAll xs).length = xs.length
  | [], _ => by simp [PyData.shownAll]
  | x :: r, h => by
    have h1 := h x List.mem_cons_self
    have h2 := shownAll_sum fun z hz => h z (List.mem_cons_of_mem _ hz)
    simp only [PyData.shownAll, List.map_cons, List.sum_cons, List.length_cons, Nat.mul_add, Nat.mul_one]
    omega
theorem SD.tup {L d : Nat} {xs : List D} (h : ∀ x ∈ xs, SD L d x) : SD ((L + 2) * xs.length + 3) (d + 1) (.tuple xs) := ⟨by
  simp only [PyData.showable]
  exact showableAll_of fun x hx => (h x hx).sh, by
  simp only [PyData.hasDict]
  exact hasDictAll_of fun x hx => (h x hx).nd, by
  simp only [PyData.depth]
  have := depthAll_of fun x hx => (h x hx).dp
  omega, by
  simp only [PyData.shown]
  have h1 := tupleText_len_le (PyData.shownAll xs)
  have h2 := shownAll_sum fun x hx => (h x hx).ln
  rw [Nat.add_mul]
  omega⟩
theorem SD.lst {L d : Nat} {xs : List D} (h : ∀ x ∈ xs, SD L d x) : SD ((L + 2) * xs.length + 3) (d + 1) (.list xs) := ⟨by
  simp only [PyData.showable]
  exact showableAll_of fun x hx => (h x hx).sh, by
  simp only [PyData.hasDict]
  exact hasDictAll_of fun x hx => (h x hx).nd, by
  simp only [PyData.depth]
  have := depthAll_of fun x hx => (h x hx).dp
  omega, by
  simp only [PyData.shown]
  have h1 := listText_len_le (PyData.shownAll xs)
  have h2 := shownAll_sum fun x hx => (h x hx).ln
  rw [Nat.add_mul]
  omega⟩
theorem repr_of {L d : Nat} {xs : List D} (h : SD L d (.list xs)) (hL : L ≤ 1000000) (hd : d < 50) : biD .repr [.list xs] = some (.str (PyData.shown (.list xs))) := by
  have hd' := h.dp
  have hl := h.ln
  show (if _ then _ else _) = _
  rw [if_pos]
  rw [h.sh, h.nd, decide_eq_true (show (PyData.list xs).depth < 50 by omega), decide_eq_true (show (PyData.list xs).shown.length ≤ lim by unfold lim; omega)]
  rfl
theorem ne_str (s : PySem.Str) : cmpD .NotEq (.str s) (.str s) = some false := by
  simp [cmpD, dep, PyData.depth, PyData.eqv]
theorem eq_str (s : PySem.Str) : cmpD .Eq (.str s) (.str s) = some true := by
  simp [cmpD, dep, PyData.depth, PyData.eqv]
/-- two lists of the same -/
theorem repr2 {L d : Nat} {x : D} (h : SD L d x) (hL : L ≤ 100000) (hd : d < 40) : biD .repr [.list [x, x]] = some (.str (PyData.shown (.list [x, x]))) :=
  repr_of (SD.lst (L := L) (d := d) (xs := [x, x]) (by simpa using h)) (by simp; omega) (by omega)
end RR.Q

-- RQ9
set_option maxHeartbeats 1000000
/-! Windows apart. -/
namespace RR.Q
open PySem
section
variable {P : Prog} {n g : Nat}
/-- at how many places two rows differ -/
def apart : List Int → List Int → Nat
  | a :: r, b :: t => (if a = b then 0 else 1) + apart r t
  | _, _ => 0
theorem apart_le : ∀ (xs ys : List Int), apart xs ys ≤ xs.length
  | [], _ => by simp [apart]
  | a :: r, [] => by simp [apart]
  | a :: r, b :: t => by
    have := apart_le r t
    simp only [apart, List.length_cons]
    split <;> omega
theorem zip_ones : ∀ (xs ys : List Int), ((zipD (xs.map .int) (ys.map .int)).filterMap fun x => match x with
    | .tuple [.int a, .int b] => if a = b then none else some (PyData.int 1)
    | _ => none) = List.replicate (apart xs ys) (.int 1)
  | [], ys => by simp [zipD, apart]
  | a :: r, [] => by simp [zipD, apart]
  | a :: r, b :: t => by
    have ih := zip_ones r t
    simp only [zipD, List.map_cons, List.zipWith_cons_cons, List.filterMap_cons, apart] at ih ⊢
    by_cases h : a = b
    · simp only [h, if_true, Nat.zero_add]
      exact ih
    · simp only [h, if_false, Nat.add_comm 1, List.replicate_succ]
      exact congrArg _ ih
def fApart : FDef := ⟨2, 4, [(.ret (.bi .len [(.lc .zip [(.v 0), (.v 1)] (.tup [2, 3]) (.cmp .NotEq (.v 2) (.v 3)) (.c (.int 1)))]))]⟩
abbrev SApart (C : Sem) (g : Nat) : Prop := ∀ (xs ys : List Int) (h : IH), xs.length ≤ 100000 → C.call g [.d (tupI xs), .d (tupI ys)] h = .ok (.d (.int (apart xs ys))) h
theorem apart_ok (hf : P.defs[g]? = some fApart) : SApart (sem P (n + 1)) g := by
  intro xs ys h hl
  have key := lc_eval (C := sem P n) (env := [some (.d (tupI xs)), some (.d (tupI ys)), none, none]) (k := .zip) (its := [(.v 0), (.v 1)]) (tg := .tup [2, 3]) (cond := (.cmp .NotEq (.v 2) (.v 3))) (elt := (.c (.int 1))) (h := h) (vs := [.d (tupI xs), .d (tupI ys)]) (ds := [tupI xs, tupI ys]) (items := zipD (xs.map .int) (ys.map .int))
    (fun x => match x with
    | .tuple [.int a, .int b] => if a = b then none else some (PyData.int 1)
    | _ => none) (by simp) (by simp) rfl (by unfold zipD; rw [List.length_zipWith, List.length_map]; unfold lim; omega) fun x hx acc => by
      have : ∃ a b : Int, x = .tuple [.int a, .int b] := by
        unfold zipD at hx
        rw [List.zipWith_map] at hx
        obtain ⟨i, hi, rfl⟩ := List.mem_iff_getElem.mp hx
        rw [List.getElem_zipWith]
        exact ⟨_, _, rfl⟩
      obtain ⟨a, b, rfl⟩ := this
      by_cases hab : a = b <;> simp [turnP, cmpD, dep, PyData.depth, eqv_int, hab]
  rw [zip_ones] at key
  refine callD hf (env := [some (.d (tupI xs)), some (.d (tupI ys)), none, none]) rfl rfl ?_
  unfold fApart
  simp only [q_exs1, q_ret, q_bi, q_cons, key, q_nil, bind_ok, q_biP1, q_dat, Option.map, biD, q_ofO, then_ok, obind_ret, List.length_replicate]
/-! ### two clauses -/
theorem lcLoop2_pure {f : D → IH → Res Unit} {F : D → List D} {h0 : IH} : ∀ {items : List D} {acc : List D}, (∀ x ∈ items, ∀ acc : List D, acc.length + (F x).length ≤ lim → f x (h0 ++ [.lst acc]) = .ok () (h0 ++ [.lst (acc ++ F x)])) → acc.length + (items.flatMap F).length ≤ lim →
    lcLoop2 f items (h0 ++ [.lst acc]) = .ok () (h0 ++ [.lst (acc ++ items.flatMap F)])
  | [], acc, _, _ => by simp [lcLoop2]
  | x :: r, acc, hf, hl => by
    simp only [List.flatMap_cons, List.length_append] at hl
    rw [lcLoop2, hf x List.mem_cons_self acc (by omega)]
    simp only [bind_ok]
    rw [lcLoop2_pure (acc := acc ++ F x) (fun z hz => hf z (List.mem_cons_of_mem _ hz)) (by rw [List.length_append]; omega)]
    simp [List.flatMap_cons, List.append_assoc]
theorem turn2_pure {C : Sem} {env0 env1 : Env} {tg tg2 : Tg} {k2 : Ik} {its2 : List IE} {cond elt : IE} {x : D} {h0 : IH} {acc : List D} {vs : List Val} {ds items2 : List D} (g : D → Option D) (e1 : bindT tg x env0 = some env1) (e2 : evs C env1 its2 (h0 ++ [.lst acc]) = .ok vs (h0 ++ [.lst acc])) (e3 : dats vs (h0 ++ [.lst acc]) = some ds) (e4 : itemsD k2 ds = some items2) (hl : acc.length + items2.length ≤ lim)
    (hf : ∀ y ∈ items2, ∀ acc, turnP C (wipeE env1 (tgs tg2)) tg2 cond elt y (h0 ++ [.lst acc]) = .ok (g y) (h0 ++ [.lst acc])) : turnP2 C h0.length env0 tg k2 its2 tg2 cond elt x (h0 ++ [.lst acc]) = .ok () (h0 ++ [.lst (acc ++ items2.filterMap g)]) := by
  unfold turnP2
  rw [e1]
  have e5 : itr k2 (evs C env1 its2 (h0 ++ [.lst acc])) = .ok items2 (h0 ++ [.lst acc]) := by
    rw [e2, q_itr, e3]
    simp only [e4, q_ofO]
  show (itr k2 (evs C env1 its2 (h0 ++ [.lst acc]))).bind _ = _
  rw [e5, bind_ok]
  exact lcLoop_pure hf hl
theorem lc2_eval {C : Sem} {env : Env} {k : Ik} {its : List IE} {tg : Tg} {k2 : Ik} {its2 : List IE} {tg2 : Tg} {cond elt : IE} {h : IH} {vs : List Val} {ds items : List D} (F : D → List D) (h1 : evs C env its h = .ok vs h) (h2 : dats vs h = some ds) (h3 : itemsD k ds = some items) (h4 : (items.flatMap F).length ≤ lim)
    (hf : ∀ x ∈ items, ∀ acc : List D, acc.length + (F x).length ≤ lim → turnP2 C h.length (wipeE env (tgs tg ++ tgs tg2)) tg k2 its2 tg2 cond elt x (h ++ [.lst acc]) = .ok () (h ++ [.lst (acc ++ F x)])) : ev C env (.lc2 k its tg k2 its2 tg2 cond elt) h = .ok (.d (.list (items.flatMap F))) h := by
  rw [evP_lc2, h1]
  simp only [q_itr, bind_ok, h2, h3, q_ofO]
  rw [lcLoop2_pure (F := F) hf (by simpa using h4)]
  simp [lcEnd_at]
def pairs (m : Nat) : List D := (List.range m).flatMap fun b => (List.range b).map fun (a : Nat) => .tuple [.int (a : Int), .int (b : Int)]
theorem pairs_len (m : Nat) : (pairs m).length ≤ m * m := by
  unfold pairs
  rw [List.length_flatMap]
  simp only [List.length_map, List.length_range]
  have : ∀ k, ((List.range k).map fun b => b).sum ≤ k * k := fun k => by
    induction k with
    | zero => simp
    | succ k ih =>
      rw [List.range_succ, List.map_append, List.sum_append]
      simp only [List.map_cons, List.map_nil, List.sum_cons, List.sum_nil]
      rw [Nat.add_mul, Nat.mul_add]
      omega
  exact this m
theorem pairs_mem {m : Nat} {x : D} : x ∈ pairs m ↔ ∃ a b : Nat, a < b ∧ b < m ∧ x = .tuple [.int (a : Int), .int (b : Int)] := by
  unfold pairs
  simp only [List.mem_flatMap, List.mem_range, List.mem_map]
  constructor
  · rintro ⟨b, hb, a, ha, rfl⟩
    exact ⟨a, b, ha, hb, rfl⟩
  · rintro ⟨a, b, ha, hb, rfl⟩
    exact ⟨b, hb, a, ha, rfl⟩
def fPairs : FDef := ⟨1, 3, [(.ret (.lc2 .range1 [(.bi .len [(.v 0)])] (.one 1) .range1 [(.v 1)] (.one 2) .nop (.tup [(.v 2), (.v 1)])))]⟩
abbrev SPairs (C : Sem) (g : Nat) : Prop := ∀ (xs : List Int) (h : IH), xs.length ≤ 100 → C.call g [.d (tupI xs)] h = .ok (.d (.list (pairs xs.length))) h
theorem pairs_ok (hf : P.defs[g]? = some fPairs) : SPairs (sem P (n + 1)) g := by
  intro xs h hl
  have er : (rangeD 0 (xs.length : Int)).flatMap (fun x => match x with | .int b => (List.range b.toNat).map fun (a : Nat) => PyData.tuple [.int (a : Int), .int b] | _ => []) = pairs xs.length := by
    unfold rangeD pairs
    rw [List.flatMap_map]
    simp [Function.comp_def]
  have key := lc2_eval (C := sem P n) (env := [some (.d (tupI xs)), none, none]) (k := .range1) (its := [(.bi .len [(.v 0)])]) (tg := .one 1) (k2 := .range1) (its2 := [.v 1]) (tg2 := .one 2) (cond := .nop) (elt := (.tup [(.v 2), (.v 1)])) (h := h) (vs := [.d (.int xs.length)]) (ds := [.int xs.length]) (items := rangeD 0 xs.length)
    (fun x => match x with | .int b => (List.range b.toNat).map fun (a : Nat) => PyData.tuple [.int (a : Int), .int b] | _ => []) (by rw [q_cons, lenI_ev h rfl]; simp) rfl (items1 (by omega) (by omega)) (by
      rw [er]
      have h1 := pairs_len xs.length
      have h2 : xs.length * xs.length ≤ 100 * 100 := Nat.mul_le_mul hl hl
      unfold lim
      omega) fun x hx acc ha => by
      obtain ⟨b, hb, rfl⟩ := rangeD_mem.mp hx
      have e0 : (0 : Int) + (b : Int) = b := by omega
      rw [e0] at ha ⊢
      have ht := turn2_pure (C := sem P n) (env0 := [some (.d (tupI xs)), none, none]) (env1 := [some (.d (tupI xs)), some (.d (.int b)), none]) (tg := .one 1) (tg2 := .one 2) (k2 := .range1) (its2 := [.v 1]) (cond := .nop) (elt := (.tup [(.v 2), (.v 1)])) (x := .int b) (h0 := h) (acc := acc) (vs := [.d (.int b)]) (ds := [.int b]) (items2 := rangeD 0 b) (fun x => match x with | .int a => some (PyData.tuple [.int a, .int (b : Int)]) | _ => none) rfl (by simp) rfl (items1 (by omega) (by omega)) (by
          rw [rangeD_length]
          simp only [List.length_map, List.length_range] at ha
          simpa using ha) fun y hy acc => by
        obtain ⟨a, _, rfl⟩ := rangeD_mem.mp hy
        have e0 : (0 : Int) + (a : Int) = a := by omega
        simp [turnP, e0]
      have hw : wipeE [some (.d (tupI xs)), none, none] (tgs (.one 1) ++ tgs (.one 2)) = [some (.d (tupI xs)), none, none] := rfl
      have e9 : ((rangeD 0 b).filterMap fun x => match x with | .int a => some (PyData.tuple [.int a, .int (b : Int)]) | _ => none) = (List.range (b : Int).toNat).map fun (a : Nat) => PyData.tuple [.int (a : Int), .int (b : Int)] := by
        unfold rangeD
        rw [List.filterMap_map, ← List.filterMap_eq_map]
        simp [Function.comp_def]
      rw [hw, ht, e9]
  rw [er] at key
  refine callD hf (env := [some (.d (tupI xs)), none, none]) rfl rfl ?_
  unfold fPairs
  simp only [q_exs1, q_ret, key, then_ok, obind_ret]
def aparts (xs : List Int) (w : Nat) : List Int := (pairs xs.length).filterMap fun x => match x with
  | .tuple [.int a, .int b] => some (apart (win xs a.toNat w) (win xs b.toNat w) : Int)
  | _ => none
theorem aparts_mem {xs : List Int} {w : Nat} {x : Int} : x ∈ aparts xs w ↔ ∃ a b : Nat, a < b ∧ b < xs.length ∧ x = apart (win xs a w) (win xs b w) := by
  unfold aparts
  rw [List.mem_filterMap]
  constructor
  · rintro ⟨y, hy, e⟩
    obtain ⟨a, b, h1, h2, rfl⟩ := pairs_mem.mp hy
    exact ⟨a, b, h1, h2, by simpa using e.symm⟩
  · rintro ⟨a, b, h1, h2, rfl⟩
    exact ⟨_, pairs_mem.mpr ⟨a, b, h1, h2, rfl⟩, by simp⟩
theorem wins_at {xs : List Int} {w a : Nat} (h : a < xs.length) : atD (wins xs w) (a : Int) = some (tupI (win xs a w)) := by
  have hl : (wins xs w).length = xs.length := by simp [wins]
  rw [at_nat (by rw [hl]; exact h)]
  simp [wins]
def fAparts (c15 c16 c17 : Nat) : FDef := ⟨2, 5, [(.set 2 (.call c15 [(.v 0), (.v 1)])), (.ret (.lc .val [(.call c17 [(.v 0)])] (.tup [3, 4]) .nop (.call c16 [(.ix (.v 2) (.v 3)), (.ix (.v 2) (.v 4))])))]⟩
abbrev SAparts (C : Sem) (g : Nat) : Prop := ∀ (xs : List Int) (w : Nat) (h : IH), 1 ≤ xs.length → xs.length ≤ 100 → w ≤ 1000 → C.call g [.d (tupI xs), .d (.int w)] h = .ok (.d (.list ((aparts xs w).map .int))) h
theorem aparts_ok {c15 c16 c17 : Nat} (hf : P.defs[g]? = some (fAparts c15 c16 c17)) (c0 : SWins (sem P n) c15) (c1 : SApart (sem P n) c16) (c2 : SPairs (sem P n) c17) : SAparts (sem P (n + 1)) g := by
  intro xs w h h1 h2 hw
  have key := lc_eval (C := sem P n) (env := [some (.d (tupI xs)), some (.d (.int w)), some (.d (.tuple (wins xs w))), none, none]) (k := .val) (its := [(.call c17 [(.v 0)])]) (tg := .tup [3, 4]) (cond := .nop) (elt := (.call c16 [(.ix (.v 2) (.v 3)), (.ix (.v 2) (.v 4))])) (h := h) (vs := [.d (.list (pairs xs.length))]) (ds := [.list (pairs xs.length)]) (items := pairs xs.length)
    (fun x => match x with
      | .tuple [.int a, .int b] => some (.int (apart (win xs a.toNat w) (win xs b.toNat w) : Int))
      | _ => none) (by simp [c2 xs h h2]) rfl rfl (by
        have h3 := pairs_len xs.length
        have h4 : xs.length * xs.length ≤ 100 * 100 := Nat.mul_le_mul h2 h2
        unfold lim
        omega) fun x hx acc => by
      obtain ⟨a, b, ha, hb, rfl⟩ := pairs_mem.mp hx
      simp [turnP, ixD, wins_at (w := w) (show a < xs.length by omega), wins_at (w := w) hb, c1 (win xs a w) (win xs b w) (h ++ [.lst acc]) (by rw [win_length]; omega)]
  have er : (pairs xs.length).filterMap (fun x => match x with
      | .tuple [.int a, .int b] => some (PyData.int (apart (win xs a.toNat w) (win xs b.toNat w) : Int))
      | _ => none) = (aparts xs w).map .int := by
    unfold aparts
    rw [List.map_filterMap]
    refine congrArg (fun f => List.filterMap f (pairs xs.length)) ?_
    funext x
    split <;> simp
  rw [er] at key
  refine callD hf (env := [some (.d (tupI xs)), some (.d (.int w)), none, none, none]) rfl rfl ?_
  unfold fAparts
  simp only [q_exs1, q_set, q_call, q_cons, q_nil, q_v, q_get0, q_getS, q_ofO, bind_ok, c0 xs w h h1 (by omega) hw, then_ok, q_setV, obind_next, List.set, q_ret, key, obind_ret]
/-- the least of some numbers -/
theorem least_spec : ∀ (m : Int) (xs : List Int), least m xs ∈ m :: xs ∧ ∀ x ∈ m :: xs, least m xs ≤ x
  | m, [] => by simp [least]
  | m, x :: r => by
    rw [least]
    have hd : ((if x < m then x else m) = x ∨ (if x < m then x else m) = m) ∧ (if x < m then x else m) ≤ x ∧ (if x < m then x else m) ≤ m := by
      split <;> omega
    generalize (if x < m then x else m) = d at hd
    have ih := least_spec d r
    constructor
    · rcases List.mem_cons.mp ih.1 with e | e
      · rw [e]
        rcases hd.1 with e | e <;> simp [e]
      · exact List.mem_cons_of_mem _ (List.mem_cons_of_mem _ e)
    · intro y hy
      have h0 := ih.2 _ List.mem_cons_self
      rcases List.mem_cons.mp hy with rfl | hy
      · omega
      · rcases List.mem_cons.mp hy with rfl | hy
        · omega
        · exact ih.2 y (List.mem_cons_of_mem _ hy)
theorem least_eq {m : Int} {xs : List Int} {z : Int} (h1 : z ∈ m :: xs) (h2 : ∀ x ∈ m :: xs, z ≤ x) : least m xs = z := by
  have q := least_spec m xs
  have a := q.2 z h1
  have b := h2 _ q.1
  omega
/-- the least of some numbers, None for none -/
def leastD : List Int → D
  | [] => .none
  | m :: r => .int (least m r)
def fApartBy (c : Nat) : FDef := ⟨2, 2, [(.ret (.bi .minD [(.call c [(.v 0), (.v 1)])]))]⟩
abbrev SApartBy (C : Sem) (g : Nat) : Prop := ∀ (xs : List Int) (w : Nat) (h : IH), 1 ≤ xs.length → xs.length ≤ 100 → w ≤ 1000 → C.call g [.d (tupI xs), .d (.int w)] h = .ok (.d (leastD (aparts xs w))) h
theorem minD_ints (xs : List Int) : biD .minD [.list (xs.map .int)] = some (leastD xs) := by
  cases xs with
  | nil => rfl
  | cons m r =>
    have := intsOf_map (m :: r)
    simp only [biD, this, leastD]
theorem apartBy_ok {c : Nat} (hf : P.defs[g]? = some (fApartBy c)) (c0 : SAparts (sem P n) c) : SApartBy (sem P (n + 1)) g := by
  intro xs w h h1 h2 hw
  refine callD hf (env := [some (.d (tupI xs)), some (.d (.int w))]) rfl rfl ?_
  unfold fApartBy
  simp [c0 xs w h h1 h2 hw, minD_ints]
def fRingApart (c d : Nat) : FDef := ⟨3, 3, [(.ex (.call c [(.v 0), (.v 1), (.v 2)])), (.ret (.call d [(.v 1), (.v 2)]))]⟩
abbrev SRingApart (C : Sem) (g : Nat) : Prop := ∀ (s : Int) (w : Nat) (xs : List Int) (h : IH), Rg s xs → 1 ≤ w → w ≤ 6 → C.call g [.d (.int s), .d (tupI xs), .d (.int w)] h = .ok (.d (leastD (aparts xs w))) h
theorem ringApart_ok {c d : Nat} (hf : P.defs[g]? = some (fRingApart c d)) (c0 : SRead (sem P n) c) (c1 : SApartBy (sem P n) d) : SRingApart (sem P (n + 1)) g := by
  intro s w xs h r w1 w2
  refine callD hf (env := [some (.d (.int s)), some (.d (tupI xs)), some (.d (.int w))]) rfl rfl ?_
  have := r.most
  unfold fRingApart
  simp [c0 s w xs h r (by omega) (by omega), c1 xs w h r.one (by omega) (by omega)]
end
end RR.Q

-- RQ10
set_option maxHeartbeats 1000000
/-! Comprehensions and loops over told items; a law's windows. -/
namespace RR.Q
open PySem
section
variable {P : Prog} {n g : Nat}
theorem lcLoop_ts {τ : Type} {f : D → IH → Res (Option D)} {F : τ → D} {G : τ → Option D} {h0 : IH} : ∀ {ts : List τ} {acc : List D}, (∀ t ∈ ts, ∀ acc, f (F t) (h0 ++ [.lst acc]) = .ok (G t) (h0 ++ [.lst acc])) → acc.length + ts.length ≤ lim →
    lcLoop h0.length f (ts.map F) (h0 ++ [.lst acc]) = .ok () (h0 ++ [.lst (acc ++ ts.filterMap G)])
  | [], acc, _, _ => by simp [lcLoop]
  | t :: r, acc, hf, hl => by
    simp only [List.length_cons] at hl
    rw [List.map_cons, lcLoop, hf t List.mem_cons_self acc]
    simp only [bind_ok]
    cases hg : G t with
    | none =>
      simp only [List.filterMap_cons, hg]
      exact lcLoop_ts (fun z hz => hf z (List.mem_cons_of_mem _ hz)) (by omega)
    | some y =>
      simp only [push_at (h0 := h0) (acc := acc) (y := y) (by omega)]
      rw [lcLoop_ts (acc := acc ++ [y]) (fun z hz => hf z (List.mem_cons_of_mem _ hz)) (by rw [List.length_append]; simp; omega)]
      simp [List.filterMap_cons, hg]
theorem lc_ts {C : Sem} {env : Env} {k : Ik} {its : List IE} {tg : Tg} {cond elt : IE} {h : IH} {vs : List Val} {ds : List D} {τ : Type} {ts : List τ} (F : τ → D) (G : τ → Option D) (h1 : evs C env its h = .ok vs h) (h2 : dats vs h = some ds) (h3 : itemsD k ds = some (ts.map F)) (h4 : ts.length ≤ 100000)
    (hf : ∀ t ∈ ts, ∀ acc, turnP C (wipeE env (tgs tg)) tg cond elt (F t) (h ++ [.lst acc]) = .ok (G t) (h ++ [.lst acc])) : ev C env (.lc k its tg cond elt) h = .ok (.d (.list (ts.filterMap G))) h := by
  rw [evP_lc, h1]
  simp only [q_itr, bind_ok, h2, h3, q_ofO]
  rw [lcLoop_ts hf (by simp; unfold lim; omega)]
  simp [lcEnd_at]
/-- each item's value -/
theorem lc_map {C : Sem} {env : Env} {k : Ik} {its : List IE} {tg : Tg} {elt : IE} {h : IH} {vs : List Val} {ds : List D} {τ : Type} {ts : List τ} (F G : τ → D) (h1 : evs C env its h = .ok vs h) (h2 : dats vs h = some ds) (h3 : itemsD k ds = some (ts.map F)) (h4 : ts.length ≤ 100000)
    (hf : ∀ t ∈ ts, ∀ h' : IH, ∃ env1, bindT tg (F t) (wipeE env (tgs tg)) = some env1 ∧ ev C env1 elt h' = .ok (.d (G t)) h') : ev C env (.lc k its tg .nop elt) h = .ok (.d (.list (ts.map G))) h := by
  have key := lc_ts (C := C) (env := env) (tg := tg) (cond := .nop) (elt := elt) F (fun t => some (G t)) h1 h2 h3 h4 fun t ht acc => by
    obtain ⟨env1, e1, e2⟩ := hf t ht (h ++ [.lst acc])
    rw [q_turn1 (e := e1), q_cnd0]
    simp only [bind_ok, if_true, e2, q_asD]
  rw [key, List.filterMap_eq_map']
theorem fm_filter {τ : Type} (p : τ → Bool) (G : τ → D) (ts : List τ) : ts.filterMap (fun t => if p t then some (G t) else none) = (ts.filter p).map G := by
  induction ts with
  | nil => rfl
  | cons t r ih =>
    rw [List.filterMap_cons, List.filter_cons]
    cases hp : p t <;> simp [ih]
/-- those items for which something is so -/
theorem lc_filter {C : Sem} {env : Env} {k : Ik} {its : List IE} {tg : Tg} {cond elt : IE} {h : IH} {vs : List Val} {ds : List D} {τ : Type} {ts : List τ} (F G : τ → D) (p : τ → Bool) (h1 : evs C env its h = .ok vs h) (h2 : dats vs h = some ds) (h3 : itemsD k ds = some (ts.map F)) (h4 : ts.length ≤ 100000)
    (hf : ∀ t ∈ ts, ∀ h' : IH, ∃ env1, bindT tg (F t) (wipeE env (tgs tg)) = some env1 ∧ cndP C env1 cond h' = .ok (p t) h' ∧ (p t = true → ev C env1 elt h' = .ok (.d (G t)) h')) : ev C env (.lc k its tg cond elt) h = .ok (.d (.list ((ts.filter p).map G))) h := by
  have key := lc_ts (C := C) (env := env) (tg := tg) (cond := cond) (elt := elt) F (fun t => if p t then some (G t) else none) h1 h2 h3 h4 fun t ht acc => by
    obtain ⟨env1, e1, e2, e3⟩ := hf t ht (h ++ [.lst acc])
    rw [q_turn1 (e := e1), e2]
    cases hp : p t with
    | false => simp
    | true => simp [e3 hp]
  rw [key]
  rw [fm_filter]
/-- items 0 .. m - 1 -/
theorem range_map (m : Nat) : rangeD 0 (m : Int) = (List.range m).map fun (t : Nat) => PyData.int (t : Int) := by
  unfold rangeD
  simp
theorem itemsR {m : Nat} (h : m ≤ 100000) : itemsD .range1 [.int (m : Int)] = some ((List.range m).map fun (t : Nat) => PyData.int (t : Int)) := by
  rw [items1 (by omega) (by omega), range_map]
/-- a for loop, by the number of its turns -/
theorem for_ix {tg : Tg} {body : Env → IH → Out} {τ : Type} {F : τ → D} (I : Nat → Env → IH → Prop) : ∀ {ts : List τ} {k : Nat} {env : Env} {h : IH}, I k env h → (∀ (i : Nat) (hi : i < ts.length), ∀ env h, I (k + i) env h → ∃ env1 env2 h2, bindT tg (F ts[i]) env = some env1 ∧ (body env1 h = .next env2 h2 ∨ body env1 h = .cont env2 h2) ∧ I (k + i + 1) env2 h2) → ∃ env' h', forLoop tg body (ts.map F) env h = .next env' h' ∧ I (k + ts.length) env' h'
  | [], k, env, h, i, _ => ⟨env, h, by rw [List.map_nil, forLoop], i⟩
  | t :: r, k, env, h, i, hf => by
    obtain ⟨env1, env2, h2, e1, e2, i2⟩ := hf 0 (by simp) env h i
    obtain ⟨env', h', e, i'⟩ := for_ix I (ts := r) (k := k + 1) i2 fun j hj env h q => by
      have := hf (j + 1) (by simp; omega) env h (by rw [show k + (j + 1) = k + 1 + j by omega]; exact q)
      rw [show k + (j + 1) + 1 = k + 1 + j + 1 by omega] at this
      exact this
    refine ⟨env', h', ?_, by rw [List.length_cons, show k + (r.length + 1) = k + 1 + r.length by omega]; exact i'⟩
    rw [List.map_cons, forLoop]
    have e1' : bindT tg (F t) env = some env1 := e1
    rw [e1']
    rcases e2 with e2 | e2 <;> simp only [e2, e]
theorem for_range {body : Env → IH → Out} {m v : Nat} {env : Env} {h : IH} (I : Nat → Env → IH → Prop) (h0 : I 0 env h) (hf : ∀ i, i < m → ∀ env h, I i env h → ∃ env1 env2 h2, env.set v (some (.d (.int (i : Int)))) = env1 ∧ (body env1 h = .next env2 h2 ∨ body env1 h = .cont env2 h2) ∧ I (i + 1) env2 h2) : ∃ env' h', forLoop (.one v) body ((List.range m).map fun (t : Nat) => PyData.int (t : Int)) env h = .next env' h' ∧ I m env' h' := by
  have := for_ix (tg := .one v) (body := body) (F := fun (t : Nat) => PyData.int (t : Int)) I (ts := List.range m) (k := 0) (env := env) (h := h) h0 fun i hi env h q => by
    rw [List.length_range] at hi
    rw [Nat.zero_add] at q ⊢
    obtain ⟨env1, env2, h2, e1, e2, q2⟩ := hf i hi env h q
    exact ⟨env1, env2, h2, by rw [List.getElem_range, q_b1, e1], e2, q2⟩
  rwa [List.length_range, Nat.zero_add] at this
/-! ### a law's windows -/
def fLWins : FDef := ⟨2, 4, [(.ret (.lc .range1 [(.bi .len [(.v 0)])] (.one 3) .nop (.bi .tuple [(.lc .range1 [(.v 1)] (.one 2) .nop (.ix (.v 0) (.bin .Mod (.bin .Add (.v 3) (.v 2)) (.bi .len [(.v 0)]))))])))]⟩
abbrev SLWins (C : Sem) (g : Nat) : Prop := ∀ (xs : List Int) (w : Nat) (h : IH), 1 ≤ xs.length → xs.length ≤ 1000 → w ≤ 1000 → C.call g [.d (tupI xs), .d (.int w)] h = .ok (.d (.list (wins xs w))) h
theorem lwins_ok (hf : P.defs[g]? = some fLWins) : SLWins (sem P (n + 1)) g := by
  intro xs w h h1 h2 hw
  have key := lc_range (C := sem P n) (env := [some (.d (tupI xs)), some (.d (.int w)), none, none]) (e := (.bi .len [(.v 0)])) (i := 3) (elt := (.bi .tuple [(.lc .range1 [(.v 1)] (.one 2) .nop (.ix (.v 0) (.bin .Mod (.bin .Add (.v 3) (.v 2)) (.bi .len [(.v 0)]))))])) (h := h) (fun t => tupI (win xs t w)) (lenI_ev h rfl) (by omega) fun p hp h' _ => by
    have k2 := lc_range (C := sem P n) (env := [some (.d (tupI xs)), some (.d (.int w)), none, some (.d (.int (p : Int)))]) (e := .v 1) (i := 2) (elt := (.ix (.v 0) (.bin .Mod (.bin .Add (.v 3) (.v 2)) (.bi .len [(.v 0)])))) (h := h') (fun t => .int (at_ xs (p + t))) (m := w) rfl (by omega) fun t ht h' _ => at_ev h' h1 rfl rfl rfl
    have e2 : (List.range w).map (fun t => PyData.int (at_ xs (p + t))) = (win xs p w).map .int := by
      unfold win
      rw [List.map_map]
      rfl
    simp only [List.set, q_bi _ _ _ .tuple, q_cons, q_nil, k2, e2, bind_ok, q_biP1, q_dat, Option.map, q_btp1, q_ofO]
    rfl
  refine callD hf (env := [some (.d (tupI xs)), some (.d (.int w)), none, none]) rfl rfl ?_
  unfold fLWins
  simp only [q_exs1, q_ret, key, then_ok, obind_ret]
  rfl
end
end RR.Q

-- RQ11
set_option maxHeartbeats 1000000
/-! A law's least apart. -/
namespace RR.Q
open PySem
section
variable {P : Prog} {n g : Nat}
def lapart (xs : List Int) (w a : Nat) : List Int := ((List.range xs.length).drop (a + 1)).map fun b => (apart (win xs a w) (win xs b w) : Int)
def laparts (xs : List Int) (w m : Nat) : List Int := (List.range m).flatMap (lapart xs w)
theorem drop_range_mem {m k x : Nat} : x ∈ (List.range m).drop k ↔ k ≤ x ∧ x < m := by
  rw [List.mem_iff_getElem]
  constructor
  · rintro ⟨i, hi, rfl⟩
    simp -implicitDefEqProofs only [List.length_drop, List.length_range] at hi
    simp -implicitDefEqProofs only [List.getElem_drop, List.getElem_range]
    omega
  · rintro ⟨h1, h2⟩
    exact ⟨x - k, by simp; omega, by simp; omega⟩
theorem laparts_mem {xs : List Int} {w : Nat} {x : Int} : x ∈ laparts xs w xs.length ↔ ∃ a b : Nat, a < b ∧ b < xs.length ∧ x = apart (win xs a w) (win xs b w) := by
  unfold laparts lapart
  simp -implicitDefEqProofs only [List.mem_flatMap, List.mem_range, List.mem_map, drop_range_mem]
  constructor
  · rintro ⟨a, ha, b, ⟨h1, h2⟩, rfl⟩
    exact ⟨a, b, by omega, h2, rfl⟩
  · rintro ⟨a, b, h1, h2, rfl⟩
    exact ⟨a, by omega, b, ⟨by omega, h2⟩, rfl⟩
theorem laparts_len (xs : List Int) (w m : Nat) : (laparts xs w m).length ≤ m * xs.length := by
  unfold laparts
  induction m with
  | zero => simp
  | succ m ih =>
    rw [List.range_succ, List.flatMap_append, List.length_append]
    have : (lapart xs w m).length ≤ xs.length := by
      unfold lapart
      simp
    simp -implicitDefEqProofs only [List.flatMap_cons, List.flatMap_nil, List.append_nil]
    rw [Nat.add_mul]
    omega
def fLLeast (c25 c26 : Nat) : FDef := ⟨2, 6, [(.set 2 (.call c25 [(.v 0), (.v 1)])), (.set 3 (.lst [(.c (.int 99))])), (.for_ .range1 [(.bi .len [(.v 2)])] (.one 4) [(.set 3 (.bin .Add (.v 3) (.lc .val [(.sl (.v 2) (.bin .Add (.v 4) (.c (.int 1))) .nop)] (.one 5) .nop (.call c26 [(.ix (.v 2) (.v 4)), (.v 5)]))))]), (.ret (.bi .min [(.v 3)]))]⟩
abbrev SLLeast (C : Sem) (g : Nat) : Prop := ∀ (xs : List Int) (w : Nat) (h : IH), 1 ≤ xs.length → xs.length ≤ 100 → w ≤ 1000 → C.call g [.d (tupI xs), .d (.int w)] h = .ok (.d (.int (least 99 (laparts xs w xs.length)))) h
theorem wins_len (xs : List Int) (w : Nat) : (wins xs w).length = xs.length := by simp [wins]
theorem add_lists {xs ys : List D} (h : xs.length + ys.length ≤ 100000) : binD .Add (.list xs) (.list ys) = some (.list (xs ++ ys)) := by
  show (if _ then _ else _) = _
  rw [if_pos (by unfold lim; omega)]
theorem add_tups {xs ys : List D} (h : xs.length + ys.length ≤ 100000) : binD .Add (.tuple xs) (.tuple ys) = some (.tuple (xs ++ ys)) := by
  show (if _ then _ else _) = _
  rw [if_pos (by unfold lim; omega)]
theorem lleast_ok {c25 c26 : Nat} (hf : P.defs[g]? = some (fLLeast c25 c26)) (c0 : SLWins (sem P n) c25) (c1 : SApart (sem P n) c26) : SLLeast (sem P (n + 1)) g := by
  intro xs w h h1 h2 hw
  obtain ⟨env', h', ef, e4, e5, hh', rfl⟩ := for_range (m := xs.length) (v := 4) (h := h) (env := [some (.d (tupI xs)), some (.d (.int w)), some (.d (.list (wins xs w))), some (.d (.list [.int 99])), none, none]) (body := fun env h => exs (sem P n) P.wf env [(.set 3 (.bin .Add (.v 3) (.lc .val [(.sl (.v 2) (.bin .Add (.v 4) (.c (.int 1))) .nop)] (.one 5) .nop (.call c26 [(.ix (.v 2) (.v 4)), (.v 5)]))))] h) (fun i env h' => ∃ e4 e5, h' = h ∧ env = [some (.d (tupI xs)), some (.d (.int w)), some (.d (.list (wins xs w))), some (.d (.list ((99 :: laparts xs w i).map .int))), e4, e5]) ⟨_, _, rfl, rfl⟩ (by
    intro a ha env hh ⟨e4, e5, eh, ee⟩
    subst eh ee
    have es : slD (.list (wins xs w)) (some ((a : Int) + 1)) none = some (.list (((List.range xs.length).drop (a + 1)).map fun b => tupI (win xs b w))) := by
      simp -implicitDefEqProofs only [slD]
      rw [cut_from _ (by omega), show ((a : Int) + 1).toNat = a + 1 by omega, List.map_drop]
      rfl
    have key := lc_map (C := sem P n) (env := [some (.d (tupI xs)), some (.d (.int w)), some (.d (.list (wins xs w))), some (.d (.list ((99 :: laparts xs w a).map .int))), some (.d (.int (a : Int))), e5]) (k := .val) (its := [(.sl (.v 2) (.bin .Add (.v 4) (.c (.int 1))) .nop)]) (tg := .one 5) (elt := (.call c26 [(.ix (.v 2) (.v 4)), (.v 5)])) (h := hh) (vs := [.d (.list (((List.range xs.length).drop (a + 1)).map fun b => tupI (win xs b w)))]) (ds := [.list (((List.range xs.length).drop (a + 1)).map fun b => tupI (win xs b w))]) (ts := (List.range xs.length).drop (a + 1))
      (fun b => tupI (win xs b w)) (fun b => .int (apart (win xs a w) (win xs b w) : Int)) (by simp [partOf, es]) rfl rfl (by simp; omega) fun b hb h' => ⟨_, rfl, by
        simp [ixD, wins_at (w := w) ha, c1 (win xs a w) (win xs b w) h' (by rw [win_length]; omega)]⟩
    refine ⟨_, [some (.d (tupI xs)), some (.d (.int w)), some (.d (.list (wins xs w))), some (.d (.list ((99 :: laparts xs w (a + 1)).map .int))), some (.d (.int (a : Int))), e5], hh, rfl, .inl ?_, _, _, rfl, rfl⟩
    have el : (99 :: laparts xs w (a + 1)).map PyData.int = (99 :: laparts xs w a).map .int ++ ((List.range xs.length).drop (a + 1)).map (fun b => .int (apart (win xs a w) (win xs b w) : Int)) := by
      unfold laparts
      rw [List.range_succ, List.flatMap_append]
      simp [lapart, Function.comp_def]
    have hl := laparts_len xs w a
    have hm : a * xs.length ≤ 100 * 100 := Nat.mul_le_mul (by omega) h2
    rw [el]
    simp -implicitDefEqProofs only [List.set, q_exs1, q_exs0, q_set, q_bin, q_v, q_get0, q_getS, q_ofO, key, bind_ok]
    rw [add_lists (by simp; omega)]
    simp)
  rw [hh'] at ef
  clear hh'
  refine callD hf (env := [some (.d (tupI xs)), some (.d (.int w)), none, none, none, none]) rfl rfl ?_
  unfold fLLeast
  have em : biD .min [.list ((99 :: laparts xs w xs.length).map .int)] = some (.int (least 99 (laparts xs w xs.length))) := by
    have := intsOf_map (99 :: laparts xs w xs.length)
    simp -implicitDefEqProofs only [biD, this]
  rw [q_exs1, q_set, q_call, q_cons]
  simp -implicitDefEqProofs only [q_cons, q_nil, q_v, q_get0, q_getS, q_ofO, bind_ok, c0 xs w h h1 (by omega) hw, then_ok, q_setV, obind_next, List.set]
  rw [q_exs1, q_set]
  simp -implicitDefEqProofs only [q_lst, q_cons, q_nil, q_c, bind_ok, q_dats1, q_dats0, Option.map, List.length_cons, List.length_nil, if_pos (q_lim 1 (by decide)), then_ok, q_setV, obind_next, List.set]
  rw [q_exs1, q_for]
  simp -implicitDefEqProofs only [q_cons, q_nil, q_bi, q_v, q_get0, q_getS, q_ofO, bind_ok, q_biP1, q_dat, Option.map, q_bl2, q_itr, q_dats1, q_dats0, wins_len, itemsR (m := xs.length) (by omega), then_ok, ef, obind_next]
  rw [q_exs1, q_ret]
  simp -implicitDefEqProofs only [q_cons, q_nil, q_bi, q_v, q_get0, q_getS, q_ofO, bind_ok, q_biP1, q_dat, Option.map, em, then_ok, obind_ret]
/-- the least of all pairs, found in either order -/
theorem least_due (xs : List Int) (w : Nat) (hw : w ≤ 6) : (if least 99 (laparts xs w xs.length) < 99 then PyData.int (least 99 (laparts xs w xs.length)) else .none) = leastD (aparts xs w) ∧ (leastD (aparts xs w) = .none ∨ ∃ k : Nat, k ≤ 6 ∧ leastD (aparts xs w) = .int k) := by
  have hm : ∀ x, x ∈ laparts xs w xs.length ↔ x ∈ aparts xs w := fun x => by rw [laparts_mem, aparts_mem]
  have hb : ∀ x ∈ aparts xs w, 0 ≤ x ∧ x ≤ 6 := fun x hx => by
    obtain ⟨a, b, _, _, rfl⟩ := aparts_mem.mp hx
    have := apart_le (win xs a w) (win xs b w)
    rw [win_length] at this
    omega
  cases ha : aparts xs w with
  | nil =>
    rw [ha] at hm
    have : laparts xs w xs.length = [] := List.eq_nil_iff_forall_not_mem.mpr fun x hx => by simpa using (hm x).mp hx
    rw [this]
    exact ⟨by simp [least, leastD], .inl rfl⟩
  | cons m r =>
    have q := least_spec m r
    rw [← ha] at q
    have hl : least 99 (laparts xs w xs.length) = least m r := least_eq (List.mem_cons_of_mem _ ((hm _).mpr q.1)) fun x hx => by
      rcases List.mem_cons.mp hx with rfl | hx
      · have := hb _ q.1
        omega
      · exact q.2 x ((hm x).mp hx)
    have hlt := hb _ q.1
    rw [hl, if_pos (by omega)]
    refine ⟨rfl, .inr ⟨(least m r).toNat, by omega, ?_⟩⟩
    show PyData.int _ = _
    rw [Int.toNat_of_nonneg hlt.1]
end
end RR.Q

-- RQ12
set_option maxHeartbeats 1000000
/-! How most laws begin: sorts, a ring; wide from 1 to 6. -/
namespace RR.Q
open PySem
section
variable {P : Prog} {n g : Nat}
theorem evs_ints (C : Sem) (env : Env) (h : IH) : ∀ Ls : List Int, evs C env (Ls.map fun i => .c (.int i)) h = .ok (Ls.map fun i => .d (.int i)) h
  | [] => by simp
  | i :: r => by simp [evs_ints C env h r]
theorem dats_ints (h : IH) : ∀ Ls : List Int, dats (Ls.map fun i => .d (.int i)) h = some (Ls.map .int)
  | [] => by simp
  | i :: r => by simp [dats_ints h r]
theorem lst_ints (C : Sem) (env : Env) (h : IH) (Ls : List Int) (hl : Ls.length ≤ 100000) : ev C env (.lst (Ls.map fun i => .c (.int i))) h = .ok (.d (.list (Ls.map .int))) h := by
  rw [q_lst, evs_ints]
  simp -implicitDefEqProofs only [bind_ok, dats_ints, List.length_map]
  rw [if_pos (q_lim _ hl)]
theorem pre_ok {C : Sem} {ct cr co : Nat} (c0 : STake C ct) (c1 : SRing C cr) (c2 : SOf C co) (Ls : List Int) (hL : ∀ l ∈ Ls, 1 ≤ l ∧ l ≤ 32) (hne : 1 ≤ Ls.length) (hl : Ls.length ≤ 100) (wf m : Nat) (h : IH) (p : Pool m h) (e1 e2 : Option Val) (re : Env) (rest : List IS) :
    ∃ (s : Int) (xs : List Int) (h' : IH), Rg s xs ∧ Dr m h h' ∧ exs C wf (some (.ref m) :: e1 :: e2 :: re) (.set 1 (.bin .Add (.c (.int 2)) (.call ct [(.v 0), (.c (.int 3))])) :: .set 2 (.call cr [(.v 0), (.v 1), (.call co [(.v 0), (.lst (Ls.map fun i => .c (.int i)))])]) :: rest) h = exs C wf (some (.ref m) :: some (.d (.int s)) :: some (.d (tupI xs)) :: re) rest h' := by
  obtain ⟨d, h1, hd, dr1, a1⟩ := c0 m 3 h p (by decide) (by decide)
  obtain ⟨x, h2, hx, dr2, a2⟩ := c2 m (.list (Ls.map .int)) (Ls.map .int) h1 rfl (dr1.pool p) (by simpa using hne) (by simp; omega)
  obtain ⟨l, hl', rfl⟩ := List.mem_map.mp hx
  have hb := hL l hl'
  obtain ⟨xs, h3, hm, l1, l2, dr3, a3⟩ := c1 m (2 + d) l h2 ((dr1.trans dr2).pool p) (by omega) (by omega) hb.1 (by omega)
  refine ⟨2 + d, xs, h3, ⟨by omega, by omega, hm, l1, by omega⟩, (dr1.trans dr2).trans dr3, ?_⟩
  rw [q_exs1, q_set]
  simp -implicitDefEqProofs only [q_bin, q_c, q_call, q_cons, q_nil, q_v, q_get0, q_ofO, bind_ok, a1, q_add, Option.map, then_ok, q_setV, obind_next, List.set]
  rw [q_exs1, q_set]
  simp -implicitDefEqProofs only [q_call, q_cons, q_nil, q_v, q_get0, q_getS, q_ofO, bind_ok, lst_ints C _ _ Ls (by omega), a2, a3, then_ok, q_setV, obind_next, List.set]
/-- for wide in range(1, 7) -/
theorem items17 : itemsD .range2 [.int 1, .int 7] = some ((List.range 6).map fun (t : Nat) => PyData.int ((t + 1 : Nat) : Int)) := by
  rw [items2 (by decide) (by decide) (by decide) (by decide)]
  unfold rangeD
  simp
  omega
theorem for_wide {C : Sem} {body : List IS} {wf v : Nat} {env : Env} {h : IH} (I : Env → IH → Prop) (h0 : I env h) (hf : ∀ w : Nat, 1 ≤ w → w ≤ 6 → ∀ env h, I env h → ∃ env1 env2 h2, env.set v (some (.d (.int (w : Int)))) = env1 ∧ (exs C wf env1 body h = .next env2 h2 ∨ exs C wf env1 body h = .cont env2 h2) ∧ I env2 h2) :
    ∃ env' h', ex1 C wf env (.for_ .range2 [(.c (.int 1)), (.c (.int 7))] (.one v) body) h = .next env' h' ∧ I env' h' := by
  obtain ⟨env', h', e, i⟩ := for_ix (tg := .one v) (body := fun env h => exs C wf env body h) (F := fun (t : Nat) => PyData.int ((t + 1 : Nat) : Int)) (fun _ => I) (ts := List.range 6) (k := 0) (env := env) (h := h) h0 fun i hi env h q => by
    rw [List.length_range] at hi
    obtain ⟨env1, env2, h2, e1, e2, q2⟩ := hf (i + 1) (by omega) (by omega) env h q
    exact ⟨env1, env2, h2, by rw [List.getElem_range, q_b1, e1], e2, q2⟩
  refine ⟨env', h', ?_, i⟩
  rw [q_for]
  simp -implicitDefEqProofs only [q_cons, q_nil, q_c, bind_ok, q_itr, q_dats1, q_dats0, Option.map, items17, q_ofO, then_ok, e]
/-- both ways of asking tell what is due -/
theorem chk2 {C : Sem} {wf : Nat} {env : Env} {h : IH} {a b L d : Nat} {x : D} {rest : List IS} {r : List IS} (s : SD L d x) (hL : L ≤ 100000) (hd : d < 40) (e1 : getS env a = some (.d (.list [x, x]))) (e2 : getS env b = some (.d x)) :
    exs C wf env (.ite (.cmp .NotEq (.bi .repr [(.v a)]) (.bi .repr [(.lst [(.v b), (.v b)])])) r [] :: rest) h = exs C wf env rest h := by
  rw [q_exs1, q_ite]
  simp -implicitDefEqProofs only [q_cmp, q_bi, q_lst, q_cons, q_nil, q_v, e1, e2, q_ofO, bind_ok, q_dats1, q_dats0, Option.map, List.length_cons, List.length_nil, if_pos (q_lim 2 (by decide)), q_biP1, q_dat, repr2 s hL hd, ne_str, then_ok, q_truth_b, q_exs0, obind_next, Nat.zero_add, Nat.reduceAdd]
end
end RR.Q

-- RQ13
set_option maxHeartbeats 1000000
/-! Equal rows; loops that look for something. -/
namespace RR.Q
open PySem
section
variable {P : Prog} {n g : Nat}
theorem eqvAll_ints : ∀ xs ys : List Int, PyData.eqvAll (xs.map .int) (ys.map .int) = decide (xs = ys)
  | [], [] => by simp [PyData.eqvAll]
  | [], _ :: _ => by simp [PyData.eqvAll]
  | _ :: _, [] => by simp [PyData.eqvAll]
  | a :: r, b :: t => by
    simp only [List.map_cons, PyData.eqvAll, eqv_int, eqvAll_ints r t]
    by_cases h1 : a = b <;> by_cases h2 : r = t <;> simp [h1, h2]
theorem eqv_tupI (xs ys : List Int) : PyData.eqv (tupI xs) (tupI ys) = decide (xs = ys) := by
  unfold tupI
  rw [PyData.eqv, eqvAll_ints]
theorem dep_tupI (xs : List Int) : dep (tupI xs) = true := by
  unfold dep tupI
  have : PyData.depthAll (xs.map .int) ≤ 0 := depthAll_of fun x hx => by
    obtain ⟨i, _, rfl⟩ := List.mem_map.mp hx
    simp [PyData.depth]
  simp only [PyData.depth]
  exact decide_eq_true (by omega)
@[simp] theorem eq_tupI (xs ys : List Int) : cmpD .Eq (tupI xs) (tupI ys) = some (decide (xs = ys)) := by
  simp only [cmpD, dep_tupI, Bool.true_or, if_true, eqv_tupI]
@[simp] theorem ne_tupI (xs ys : List Int) : cmpD .NotEq (tupI xs) (tupI ys) = some (!decide (xs = ys)) := by
  simp only [cmpD, dep_tupI, Bool.true_or, if_true, eqv_tupI]
@[simp] theorem eq_ints (i j : Int) : cmpD .Eq (.int i) (.int j) = some (decide (i = j)) := by
  simp [cmpD, dep, PyData.depth, eqv_int]
@[simp] theorem ne_ints (i j : Int) : cmpD .NotEq (.int i) (.int j) = some (!decide (i = j)) := by
  simp [cmpD, dep, PyData.depth, eqv_int]
theorem any_tupI (xs : List Int) (L : List (List Int)) : ((L.map tupI).any fun y => PyData.eqv y (tupI xs)) = decide (xs ∈ L) := by
  induction L with
  | nil => simp
  | cons y r ih =>
    rw [List.map_cons, List.any_cons, ih, eqv_tupI]
    by_cases h1 : y = xs
    · simp [h1]
    · have : ¬ xs = y := fun e => h1 e.symm
      simp [h1, this]
@[simp] theorem in_tupI (xs : List Int) (L : List (List Int)) : cmpD .In (tupI xs) (.list (L.map tupI)) = some (decide (xs ∈ L)) := by
  simp only [cmpD, dep_tupI, Bool.true_or, if_true, any_tupI]
@[simp] theorem in_tupIT (xs : List Int) (L : List (List Int)) : cmpD .In (tupI xs) (.tuple (L.map tupI)) = some (decide (xs ∈ L)) := by
  simp only [cmpD, dep_tupI, Bool.true_or, if_true, any_tupI]
theorem rev_tupI (C : Sem) (env : Env) (h h1 : IH) (a : IE) {xs : List Int} (e : ev C env a h = .ok (.d (tupI xs)) h1) : ev C env (.rev a) h = .ok (.d (tupI xs.reverse)) h1 := by
  rw [q_rev, e]
  simp [tupI]
/-! ### a loop that looks for something -/
theorem for_search {tg : Tg} {body : Env → IH → Out} {τ : Type} {F : τ → D} (I : Env → Prop) (N : τ → Prop) (V : τ → D → Prop) {h : IH} : ∀ {ts : List τ} {env : Env}, I env → (∀ t ∈ ts, ∀ env, I env → ∃ env1, bindT tg (F t) env = some env1 ∧ ((∃ v, V t v ∧ body env1 h = .ret (.d v) h) ∨ (N t ∧ ∃ env2, (body env1 h = .next env2 h ∨ body env1 h = .cont env2 h) ∧ I env2))) →
    (∃ pre t post v, ts = pre ++ t :: post ∧ (∀ u ∈ pre, N u) ∧ V t v ∧ forLoop tg body (ts.map F) env h = .ret (.d v) h) ∨ ((∀ t ∈ ts, N t) ∧ ∃ env', forLoop tg body (ts.map F) env h = .next env' h ∧ I env')
  | [], env, i, _ => .inr ⟨by simp, env, by rw [List.map_nil, forLoop], i⟩
  | t :: r, env, i, hf => by
    obtain ⟨env1, e1, q⟩ := hf t List.mem_cons_self env i
    rcases q with ⟨v, hp, e2⟩ | ⟨hp, env2, e2, i2⟩
    · refine .inl ⟨[], t, r, v, rfl, by simp, hp, ?_⟩
      rw [List.map_cons, forLoop, e1]
      simp -implicitDefEqProofs only [e2]
    · have e3 : forLoop tg body ((t :: r).map F) env h = forLoop tg body (r.map F) env2 h := by
        rw [List.map_cons, forLoop, e1]
        rcases e2 with e2 | e2 <;> simp -implicitDefEqProofs only [e2]
      rcases for_search I N V (ts := r) i2 fun z hz => hf z (List.mem_cons_of_mem _ hz) with ⟨pre, z, post, v, hz, hn, hp', e⟩ | ⟨ha, env', e, i'⟩
      · exact .inl ⟨t :: pre, z, post, v, by rw [hz]; rfl, fun u hu => by
          rcases List.mem_cons.mp hu with rfl | hu
          · exact hp
          · exact hn u hu, hp', by rw [e3, e]⟩
      · refine .inr ⟨fun z hz => ?_, env', by rw [e3, e], i'⟩
        rcases List.mem_cons.mp hz with rfl | hz
        · exact hp
        · exact ha z hz
theorem range2_map {a m : Nat} : rangeD (a : Int) (m : Int) = (List.range (m - a)).map fun (t : Nat) => PyData.int ((a + t : Nat) : Int) := by
  unfold rangeD
  rw [show ((m : Int) - (a : Int)).toNat = m - a by omega]
  simp
theorem itemsR2 {a m : Nat} (h : m ≤ 100000) (ha : a ≤ 100000) : itemsD .range2 [.int (a : Int), .int (m : Int)] = some ((List.range (m - a)).map fun (t : Nat) => PyData.int ((a + t : Nat) : Int)) := by
  rw [items2 (by omega) (by omega) (by omega) (by omega), range2_map]
/-! ### windows read either way -/
/-- two places whose windows are the same, either way -/
def wp (xs : List Int) (w a b : Nat) : Prop := win xs a w = (win xs b w).reverse ∨ (a ≠ b ∧ win xs a w = win xs b w)
instance (xs : List Int) (w a b : Nat) : Decidable (wp xs w a b) := by unfold wp; exact inferInstance
def fWayP (c : Nat) : FDef := ⟨4, 5, [(.set 4 (.call c [(.v 0), (.v 1)])), (.ret (.or_ (.cmp .Eq (.ix (.v 4) (.v 2)) (.rev (.ix (.v 4) (.v 3)))) (.and_ (.cmp .NotEq (.v 2) (.v 3)) (.cmp .Eq (.ix (.v 4) (.v 2)) (.ix (.v 4) (.v 3))))))]⟩
abbrev SWayP (C : Sem) (g : Nat) : Prop := ∀ (xs : List Int) (w a b : Nat) (h : IH), 1 ≤ xs.length → xs.length ≤ 1000 → w ≤ 1000 → a < xs.length → b < xs.length → C.call g [.d (tupI xs), .d (.int w), .d (.int a), .d (.int b)] h = .ok (.d (.bool (decide (wp xs w a b)))) h
theorem ix_wins {C : Sem} {env : Env} {i j : Nat} {xs : List Int} {w a : Nat} (h : IH) (ha : a < xs.length) (e1 : getS env i = some (.d (.tuple (wins xs w)))) (e2 : getS env j = some (.d (.int (a : Int)))) : ev C env (.ix (.v i) (.v j)) h = .ok (.d (tupI (win xs a w))) h := by
  simp [e1, e2, ixD, wins_at ha]
theorem ix_winsL {C : Sem} {env : Env} {i j : Nat} {xs : List Int} {w a : Nat} (h : IH) (ha : a < xs.length) (e1 : getS env i = some (.d (.list (wins xs w)))) (e2 : getS env j = some (.d (.int (a : Int)))) : ev C env (.ix (.v i) (.v j)) h = .ok (.d (tupI (win xs a w))) h := by
  simp [e1, e2, ixD, wins_at ha]
theorem wayP_ok {c : Nat} (hf : P.defs[g]? = some (fWayP c)) (c0 : SWins (sem P n) c) : SWayP (sem P (n + 1)) g := by
  intro xs w a b h h1 h2 hw ha hb
  refine callD hf (env := [some (.d (tupI xs)), some (.d (.int w)), some (.d (.int a)), some (.d (.int b)), none]) rfl rfl ?_
  unfold fWayP
  have k1 := ix_wins (C := sem P n) (env := [some (.d (tupI xs)), some (.d (.int w)), some (.d (.int a)), some (.d (.int b)), some (.d (.tuple (wins xs w)))]) (i := 4) (j := 2) h ha rfl rfl
  have k2 := ix_wins (C := sem P n) (env := [some (.d (tupI xs)), some (.d (.int w)), some (.d (.int a)), some (.d (.int b)), some (.d (.tuple (wins xs w)))]) (i := 4) (j := 3) h hb rfl rfl
  have k3 := rev_tupI _ _ _ _ _ k2
  rw [q_exs1, q_set]
  simp -implicitDefEqProofs only [q_call, q_cons, q_nil, q_v, q_get0, q_getS, q_ofO, bind_ok, c0 xs w h h1 h2 hw, then_ok, q_setV, obind_next, List.set]
  rw [q_exs1, q_ret]
  simp -implicitDefEqProofs only [q_or, q_cmp, k1, k2, k3, bind_ok, q_dat, eq_tupI, Option.map, q_ofO, q_truth_b, q_and, q_v, q_get0, q_getS, ne_ints]
  unfold wp
  by_cases e1 : win xs a w = (win xs b w).reverse
  · simp [e1]
  · by_cases e2 : a = b
    · subst e2
      simp [e1]
    · have e2' : ¬ ((a : Int) = b) := by omega
      simp [e1, e2, e2']
def fWayPair (c : Nat) : FDef := ⟨2, 4, [(.for_ .range1 [(.bi .len [(.v 0)])] (.one 2) [(.for_ .range2 [(.v 2), (.bi .len [(.v 0)])] (.one 3) [(.ite (.call c [(.v 0), (.v 1), (.v 2), (.v 3)]) [(.ret (.tup [(.v 2), (.v 3)]))] [])])]), (.ret (.c .none))]⟩
def wayE (xs : List Int) (w : Nat) : Prop := ∀ a b : Nat, a ≤ b → b < xs.length → ¬ wp xs w a b
abbrev SWayPair (C : Sem) (g : Nat) : Prop := ∀ (xs : List Int) (w : Nat) (h : IH), 1 ≤ xs.length → xs.length ≤ 1000 → w ≤ 1000 → ∃ r : D, C.call g [.d (tupI xs), .d (.int w)] h = .ok (.d r) h ∧ ((r = .none ∧ wayE xs w) ∨ (isNone (.d r) = false ∧ ¬ wayE xs w))
theorem wayPair_ok {c : Nat} (hf : P.defs[g]? = some (fWayPair c)) (c0 : SWayP (sem P n) c) : SWayPair (sem P (n + 1)) g := by
  intro xs w h h1 h2 hw
  have inner : ∀ (a : Nat) (e3 : Option Val), a < xs.length → (∃ b, a ≤ b ∧ b < xs.length ∧ wp xs w a b ∧ exs (sem P n) P.wf [some (.d (tupI xs)), some (.d (.int w)), some (.d (.int a)), e3] [(.for_ .range2 [(.v 2), (.bi .len [(.v 0)])] (.one 3) [(.ite (.call c [(.v 0), (.v 1), (.v 2), (.v 3)]) [(.ret (.tup [(.v 2), (.v 3)]))] [])])] h = .ret (.d (.tuple [.int a, .int b])) h) ∨
      ((∀ b, a ≤ b → b < xs.length → ¬ wp xs w a b) ∧ ∃ e3', exs (sem P n) P.wf [some (.d (tupI xs)), some (.d (.int w)), some (.d (.int a)), e3] [(.for_ .range2 [(.v 2), (.bi .len [(.v 0)])] (.one 3) [(.ite (.call c [(.v 0), (.v 1), (.v 2), (.v 3)]) [(.ret (.tup [(.v 2), (.v 3)]))] [])])] h = .next [some (.d (tupI xs)), some (.d (.int w)), some (.d (.int a)), e3'] h) := by
    intro a e3 ha
    have key := for_search (tg := .one 3) (body := fun env h => exs (sem P n) P.wf env [(.ite (.call c [(.v 0), (.v 1), (.v 2), (.v 3)]) [(.ret (.tup [(.v 2), (.v 3)]))] [])] h) (F := fun (t : Nat) => PyData.int ((a + t : Nat) : Int)) (fun env => ∃ e3, env = [some (.d (tupI xs)), some (.d (.int w)), some (.d (.int a)), e3]) (fun t => ¬ wp xs w a (a + t)) (fun t v => t < xs.length - a ∧ wp xs w a (a + t) ∧ v = .tuple [.int a, .int ((a + t : Nat) : Int)]) (h := h) (ts := List.range (xs.length - a)) (env := [some (.d (tupI xs)), some (.d (.int w)), some (.d (.int a)), e3]) ⟨_, rfl⟩ (by
      intro t ht env ⟨e3, ee⟩
      subst ee
      have ht := List.mem_range.mp ht
      refine ⟨[some (.d (tupI xs)), some (.d (.int w)), some (.d (.int a)), some (.d (.int ((a + t : Nat) : Int)))], rfl, ?_⟩
      have k := c0 xs w a (a + t) h h1 h2 hw ha (by omega)
      simp -implicitDefEqProofs only [q_exs1, q_exs0, q_ite, q_call, q_cons, q_nil, q_v, q_get0, q_getS, q_ofO, bind_ok, k, then_ok, q_truth_b]
      by_cases hp : wp xs w a (a + t)
      · refine .inl ⟨_, ⟨ht, hp, rfl⟩, ?_⟩
        simp [hp]
      · refine .inr ⟨hp, [some (.d (tupI xs)), some (.d (.int w)), some (.d (.int a)), some (.d (.int ((a + t : Nat) : Int)))], .inl ?_, _, rfl⟩
        simp -implicitDefEqProofs only [decide_eq_false hp, obind_next])
    have ei : ∀ env : Env, getS env 0 = some (.d (tupI xs)) → getS env 2 = some (.d (.int a)) → exs (sem P n) P.wf env [(.for_ .range2 [(.v 2), (.bi .len [(.v 0)])] (.one 3) [(.ite (.call c [(.v 0), (.v 1), (.v 2), (.v 3)]) [(.ret (.tup [(.v 2), (.v 3)]))] [])])] h = (forLoop (.one 3) (fun env h => exs (sem P n) P.wf env [(.ite (.call c [(.v 0), (.v 1), (.v 2), (.v 3)]) [(.ret (.tup [(.v 2), (.v 3)]))] [])] h) ((List.range (xs.length - a)).map fun (t : Nat) => PyData.int ((a + t : Nat) : Int)) env h).bind fun env1 h1 => .next env1 h1 := fun env g0 g2 => by
      rw [q_exs1, q_for]
      simp -implicitDefEqProofs only [q_cons, q_nil, q_v, g0, g2, q_bi, q_ofO, bind_ok, q_biP1, q_dat, Option.map, q_lenI, q_itr, q_dats1, q_dats0, itemsR2 (a := a) (m := xs.length) (by omega) (by omega), then_ok, q_exs0]
    rw [ei _ rfl rfl]
    rcases key with ⟨_, t, _, v, _, _, ⟨ht, hp, rfl⟩, e⟩ | ⟨ha', env', e, e3', rfl⟩
    · refine .inl ⟨a + t, by omega, by omega, hp, ?_⟩
      rw [e, obind_ret]
    · refine .inr ⟨fun b hb hb' => ?_, e3', by rw [e, obind_next]⟩
      have := ha' (b - a) (List.mem_range.mpr (by omega))
      rwa [show a + (b - a) = b by omega] at this
  have key := for_search (tg := .one 2) (body := fun env h => exs (sem P n) P.wf env [(.for_ .range2 [(.v 2), (.bi .len [(.v 0)])] (.one 3) [(.ite (.call c [(.v 0), (.v 1), (.v 2), (.v 3)]) [(.ret (.tup [(.v 2), (.v 3)]))] [])])] h) (F := fun (t : Nat) => PyData.int (t : Int)) (fun env => ∃ e2 e3, env = [some (.d (tupI xs)), some (.d (.int w)), e2, e3]) (fun a => ∀ b, a ≤ b → b < xs.length → ¬ wp xs w a b) (fun a v => isNone (.d v) = false ∧ ∃ b, a ≤ b ∧ b < xs.length ∧ wp xs w a b) (h := h) (ts := List.range xs.length) (env := [some (.d (tupI xs)), some (.d (.int w)), none, none]) ⟨_, _, rfl⟩ (by
    intro a ha env ⟨e2, e3, ee⟩
    subst ee
    refine ⟨[some (.d (tupI xs)), some (.d (.int w)), some (.d (.int a)), e3], rfl, ?_⟩
    rcases inner a e3 (List.mem_range.mp ha) with ⟨b, hb, hb', hp, e⟩ | ⟨hn, e3', e⟩
    · exact .inl ⟨_, ⟨rfl, b, hb, hb', hp⟩, e⟩
    · exact .inr ⟨hn, _, .inl e, _, _, rfl⟩)
  have ei : exs (sem P n) P.wf [some (.d (tupI xs)), some (.d (.int w)), none, none] (fWayPair c).body h = (forLoop (.one 2) (fun env h => exs (sem P n) P.wf env [(.for_ .range2 [(.v 2), (.bi .len [(.v 0)])] (.one 3) [(.ite (.call c [(.v 0), (.v 1), (.v 2), (.v 3)]) [(.ret (.tup [(.v 2), (.v 3)]))] [])])] h) ((List.range xs.length).map fun (t : Nat) => PyData.int (t : Int)) [some (.d (tupI xs)), some (.d (.int w)), none, none] h).bind fun env1 h1 => exs (sem P n) P.wf env1 [(.ret (.c .none))] h1 := by
    unfold fWayPair
    rw [q_exs1, q_for]
    simp -implicitDefEqProofs only [q_cons, q_nil, q_v, q_get0, q_bi, q_ofO, bind_ok, q_biP1, q_dat, Option.map, q_lenI, q_itr, q_dats1, q_dats0, itemsR (m := xs.length) (by omega), then_ok]
  rcases key with ⟨_, a, _, v, _, _, ⟨hv, b, hb, hb', hp⟩, e⟩ | ⟨hn, env', e, e2, e3, rfl⟩
  · refine ⟨v, callD hf (env := [some (.d (tupI xs)), some (.d (.int w)), none, none]) rfl rfl (by rw [ei, e, obind_ret]), .inr ⟨hv, fun z => z a b hb hb' hp⟩⟩
  · refine ⟨.none, callD hf (env := [some (.d (tupI xs)), some (.d (.int w)), none, none]) rfl rfl (by rw [ei, e, obind_next]; simp), .inl ⟨rfl, fun a b hab hb => hn a (List.mem_range.mpr (by omega)) b hab hb⟩⟩
def fTellsE (c d : Nat) : FDef := ⟨3, 3, [(.ex (.call c [(.v 0), (.v 1), (.v 2)])), (.ret (.isN true (.call d [(.v 1), (.v 2)])))]⟩
open Classical in
abbrev STellsE (C : Sem) (g : Nat) : Prop := ∀ (s : Int) (w : Nat) (xs : List Int) (h : IH), Rg s xs → 1 ≤ w → w ≤ 6 → C.call g [.d (.int s), .d (tupI xs), .d (.int w)] h = .ok (.d (.bool (decide (wayE xs w)))) h
theorem tellsE_ok {c d : Nat} (hf : P.defs[g]? = some (fTellsE c d)) (c0 : SRead (sem P n) c) (c1 : SWayPair (sem P n) d) : STellsE (sem P (n + 1)) g := by
  intro s w xs h r w1 w2
  refine callD hf (env := [some (.d (.int s)), some (.d (tupI xs)), some (.d (.int w))]) rfl rfl ?_
  have := r.most
  obtain ⟨v, e, q⟩ := c1 xs w h r.one (by omega) (by omega)
  unfold fTellsE
  rcases q with ⟨rfl, q⟩ | ⟨hv, q⟩
  · simp [c0 s w xs h r (by omega) (by omega), e, q]
  · simp [c0 s w xs h r (by omega) (by omega), e, q, hv]
end
end RR.Q

-- RQ14
set_option maxHeartbeats 1000000
/-! A law's look at windows either way. -/
namespace RR.Q
open PySem
section
variable {P : Prog} {n g : Nat}
/-- the windows of the other places -/
def othersW (xs : List Int) (w a : Nat) : List (List Int) := ((List.range xs.length).take a ++ (List.range xs.length).drop (a + 1)).map fun p => win xs p w
theorem othersW_mem {xs : List Int} {w a : Nat} (ha : a < xs.length) {ys : List Int} : ys ∈ othersW xs w a ↔ ∃ o, o < xs.length ∧ o ≠ a ∧ ys = win xs o w := by
  unfold othersW
  rw [List.mem_map]
  constructor
  · rintro ⟨o, ho, rfl⟩
    rcases List.mem_append.mp ho with h | h
    · obtain ⟨i, hi, rfl⟩ := List.mem_iff_getElem.mp h
      simp only [List.length_take, List.length_range] at hi
      simp only [List.getElem_take, List.getElem_range]
      exact ⟨i, by omega, by omega, rfl⟩
    · have := drop_range_mem.mp h
      exact ⟨o, by omega, by omega, rfl⟩
  · rintro ⟨o, h1, h2, rfl⟩
    refine ⟨o, ?_, rfl⟩
    rw [List.mem_append]
    by_cases hlt : o < a
    · refine .inl (List.mem_iff_getElem.mpr ⟨o, by simp; omega, by simp⟩)
    · exact .inr (drop_range_mem.mpr ⟨by omega, h1⟩)
def doesN (xs : List Int) (w a : Nat) : Prop := win xs a w ≠ (win xs a w).reverse ∧ win xs a w ∉ othersW xs w a ∧ (win xs a w).reverse ∉ othersW xs w a
theorem does_iff (xs : List Int) (w : Nat) : (∀ a, a < xs.length → doesN xs w a) ↔ wayE xs w := by
  constructor
  · intro h a b hab hb hp
    obtain ⟨d1, d2, d3⟩ := h a (by omega)
    rw [othersW_mem (by omega)] at d2 d3
    by_cases e : a = b
    · subst e
      rcases hp with hp | hp
      · exact d1 hp
      · exact hp.1 rfl
    · rcases hp with hp | hp
      · exact d3 ⟨b, hb, fun z => e z.symm, by rw [hp, List.reverse_reverse]⟩
      · exact d2 ⟨b, hb, fun z => e z.symm, hp.2⟩
  · intro h a ha
    refine ⟨fun e => h a a (Nat.le_refl _) ha (.inl e), fun hm => ?_, fun hm => ?_⟩
    · obtain ⟨o, ho, hne, e⟩ := (othersW_mem ha).mp hm
      by_cases hlt : a < o
      · exact h a o (by omega) ho (.inr ⟨by omega, e⟩)
      · exact h o a (by omega) ha (.inr ⟨hne, e.symm⟩)
    · obtain ⟨o, ho, hne, e⟩ := (othersW_mem ha).mp hm
      by_cases hlt : a < o
      · exact h a o (by omega) ho (.inl (by rw [← e, List.reverse_reverse]))
      · exact h o a (by omega) ha (.inl e.symm)
theorem way1 (xs : List Int) (h1 : 1 ≤ xs.length) : ¬ wayE xs 1 := fun h => h 0 0 (Nat.le_refl _) (by omega) (.inl (by simp [win]))
def fLDoes (c : Nat) : FDef := ⟨2, 5, [(.set 2 (.call c [(.v 0), (.v 1)])), (.for_ .range1 [(.bi .len [(.v 2)])] (.one 3) [(.ite (.cmp .Eq (.ix (.v 2) (.v 3)) (.rev (.ix (.v 2) (.v 3)))) [(.ret (.c (.bool false)))] []), (.set 4 (.bin .Add (.sl (.v 2) .nop (.v 3)) (.sl (.v 2) (.bin .Add (.v 3) (.c (.int 1))) .nop))), (.ite (.or_ (.cmp .In (.ix (.v 2) (.v 3)) (.v 4)) (.cmp .In (.rev (.ix (.v 2) (.v 3))) (.v 4))) [(.ret (.c (.bool false)))] [])]), (.ret (.c (.bool true)))]⟩
open Classical in
abbrev SLDoes (C : Sem) (g : Nat) : Prop := ∀ (xs : List Int) (w : Nat) (h : IH), 1 ≤ xs.length → xs.length ≤ 1000 → w ≤ 1000 → C.call g [.d (tupI xs), .d (.int w)] h = .ok (.d (.bool (decide (wayE xs w)))) h
theorem ldoes_ok {c : Nat} (hf : P.defs[g]? = some (fLDoes c)) (c0 : SLWins (sem P n) c) : SLDoes (sem P (n + 1)) g := by
  classical
  intro xs w h h1 h2 hw
  have key := for_search (tg := .one 3) (body := fun env h => exs (sem P n) P.wf env [(.ite (.cmp .Eq (.ix (.v 2) (.v 3)) (.rev (.ix (.v 2) (.v 3)))) [(.ret (.c (.bool false)))] []), (.set 4 (.bin .Add (.sl (.v 2) .nop (.v 3)) (.sl (.v 2) (.bin .Add (.v 3) (.c (.int 1))) .nop))), (.ite (.or_ (.cmp .In (.ix (.v 2) (.v 3)) (.v 4)) (.cmp .In (.rev (.ix (.v 2) (.v 3))) (.v 4))) [(.ret (.c (.bool false)))] [])] h) (F := fun (t : Nat) => PyData.int (t : Int)) (fun env => ∃ e3 e4, env = [some (.d (tupI xs)), some (.d (.int w)), some (.d (.list (wins xs w))), e3, e4]) (fun a => doesN xs w a) (fun a v => v = .bool false ∧ a < xs.length ∧ ¬ doesN xs w a) (h := h) (ts := List.range xs.length) (env := [some (.d (tupI xs)), some (.d (.int w)), some (.d (.list (wins xs w))), none, none]) ⟨_, _, rfl⟩ (by
    intro a ha env ⟨e3, e4, ee⟩
    subst ee
    have ha := List.mem_range.mp ha
    refine ⟨[some (.d (tupI xs)), some (.d (.int w)), some (.d (.list (wins xs w))), some (.d (.int (a : Int))), e4], rfl, ?_⟩
    have k1 : ∀ e4, ev (sem P n) [some (.d (tupI xs)), some (.d (.int w)), some (.d (.list (wins xs w))), some (.d (.int (a : Int))), e4] (.ix (.v 2) (.v 3)) h = .ok (.d (tupI (win xs a w))) h := fun e4 => ix_winsL h ha rfl rfl
    have k2 : ∀ e4, ev (sem P n) [some (.d (tupI xs)), some (.d (.int w)), some (.d (.list (wins xs w))), some (.d (.int (a : Int))), e4] (.rev (.ix (.v 2) (.v 3))) h = .ok (.d (tupI (win xs a w).reverse)) h := fun e4 => rev_tupI _ _ _ _ _ (k1 e4)
    have s1 : slD (.list (wins xs w)) none (some (a : Int)) = some (.list ((wins xs w).take a)) := by
      simp only [slD]
      rw [cut_to _ (by omega), Int.toNat_natCast]
    have s2 : slD (.list (wins xs w)) (some ((a : Int) + 1)) none = some (.list ((wins xs w).drop (a + 1))) := by
      simp only [slD]
      rw [cut_from _ (by omega), show ((a : Int) + 1).toNat = a + 1 by omega]
    have s3 : (wins xs w).take a ++ (wins xs w).drop (a + 1) = (othersW xs w a).map tupI := by
      unfold wins othersW
      rw [List.map_map, ← List.map_take, ← List.map_drop, ← List.map_append]
      rfl
    have e5 : ev (sem P n) [some (.d (tupI xs)), some (.d (.int w)), some (.d (.list (wins xs w))), some (.d (.int (a : Int))), e4] (.bin .Add (.sl (.v 2) .nop (.v 3)) (.sl (.v 2) (.bin .Add (.v 3) (.c (.int 1))) .nop)) h = .ok (.d (.list ((othersW xs w a).map tupI))) h := by
      simp [partOf, s1, s2, add_lists (xs := (wins xs w).take a) (ys := (wins xs w).drop (a + 1)) (by rw [List.length_take, List.length_drop, wins_len]; omega), s3]
    have b1 : exs (sem P n) P.wf [some (.d (tupI xs)), some (.d (.int w)), some (.d (.list (wins xs w))), some (.d (.int (a : Int))), e4] [(.ite (.cmp .Eq (.ix (.v 2) (.v 3)) (.rev (.ix (.v 2) (.v 3)))) [(.ret (.c (.bool false)))] []), (.set 4 (.bin .Add (.sl (.v 2) .nop (.v 3)) (.sl (.v 2) (.bin .Add (.v 3) (.c (.int 1))) .nop))), (.ite (.or_ (.cmp .In (.ix (.v 2) (.v 3)) (.v 4)) (.cmp .In (.rev (.ix (.v 2) (.v 3))) (.v 4))) [(.ret (.c (.bool false)))] [])] h = if doesN xs w a then .next [some (.d (tupI xs)), some (.d (.int w)), some (.d (.list (wins xs w))), some (.d (.int (a : Int))), some (.d (.list ((othersW xs w a).map tupI)))] h else .ret (.d (.bool false)) h := by
      rw [q_exs1, q_ite]
      simp -implicitDefEqProofs only [q_cmp, k1, k2, bind_ok, q_dat, eq_tupI, Option.map, q_ofO, then_ok, q_truth_b]
      by_cases hp : win xs a w = (win xs a w).reverse
      · rw [if_neg (fun z : doesN xs w a => z.1 hp)]
        simp [← hp]
      · simp -implicitDefEqProofs only [decide_eq_false hp, q_exs0, obind_next]
        rw [q_exs1, q_set, e5]
        simp -implicitDefEqProofs only [then_ok, q_setV, obind_next, List.set]
        rw [q_exs1, q_ite]
        simp -implicitDefEqProofs only [q_or, q_cmp, k1, k2, bind_ok, q_v, q_get0, q_getS, q_ofO, q_dat, in_tupI, Option.map, q_truth_b]
        by_cases m1 : win xs a w ∈ othersW xs w a
        · rw [if_neg (fun z : doesN xs w a => z.2.1 m1)]
          simp [m1]
        · simp -implicitDefEqProofs only [decide_eq_false m1]
          by_cases m2 : (win xs a w).reverse ∈ othersW xs w a
          · rw [if_neg (fun z : doesN xs w a => z.2.2 m2)]
            simp [m2]
          · rw [if_pos (show doesN xs w a from ⟨hp, m1, m2⟩)]
            simp [m2]
    by_cases hd : doesN xs w a
    · rw [if_pos hd] at b1
      exact .inr ⟨hd, _, .inl b1, _, _, rfl⟩
    · rw [if_neg hd] at b1
      exact .inl ⟨_, ⟨rfl, ha, hd⟩, b1⟩)
  refine callD hf (env := [some (.d (tupI xs)), some (.d (.int w)), none, none, none]) rfl rfl ?_
  unfold fLDoes
  rw [q_exs1, q_set]
  simp -implicitDefEqProofs only [q_call, q_cons, q_nil, q_v, q_get0, q_getS, q_ofO, bind_ok, c0 xs w h h1 h2 hw, then_ok, q_setV, obind_next, List.set]
  rw [q_exs1, q_for]
  simp -implicitDefEqProofs only [q_cons, q_nil, q_v, q_get0, q_getS, q_bi, q_ofO, bind_ok, q_biP1, q_dat, Option.map, q_bl2, wins_len, q_itr, q_dats1, q_dats0, itemsR (m := xs.length) (by omega), then_ok]
  rcases key with ⟨_, a, _, v, _, _, ⟨rfl, ha, hd⟩, e⟩ | ⟨hn, env', e, e3, e4, rfl⟩
  · rw [e, obind_ret]
    have : ¬ wayE xs w := fun z => hd ((does_iff xs w).mpr z a ha)
    simp [this]
  · rw [e, obind_next]
    have : wayE xs w := (does_iff xs w).mp fun a ha => hn a (List.mem_range.mpr ha)
    simp [this]
end
end RR.Q

-- RQ15
set_option maxHeartbeats 1000000
/-! Places for a read window; cells beside the pool. -/
namespace RR.Q
open PySem
section
variable {P : Prog} {n g : Nat}
/-- the pool has changed, cells have been put behind -/
def Dx (m : Nat) (h h' : IH) : Prop := ∃ h0 r, h' = h0 ++ r ∧ Dr m h h0
theorem Dx.here {m : Nat} {h : IH} : Dx m h h := ⟨h, [], by simp, .rfl'⟩
theorem Dr.x {m : Nat} {h h' : IH} (d : Dr m h h') : Dx m h h' := ⟨h', [], by simp, d⟩
theorem Dx.push {m : Nat} {h h' : IH} (d : Dx m h h') (r : IH) : Dx m h (h' ++ r) := by
  obtain ⟨h0, r0, rfl, q⟩ := d
  exact ⟨h0, r0 ++ r, by simp, q⟩
theorem Dx.pool {m : Nat} {h h' : IH} (p : Pool m h) (d : Dx m h h') : Pool m h' := by
  obtain ⟨h0, r0, rfl, q⟩ := d
  exact (q.pool p).app _
theorem Dx.draw {m : Nat} {h h1 h2 : IH} (p : Pool m h) (d : Dx m h h1) (e : Dr m h1 h2) : Dx m h h2 := by
  obtain ⟨h0, r0, rfl, q⟩ := d
  obtain ⟨h3, rfl, q3⟩ := Dr.app (q.pool p) e
  exact ⟨h3, r0, rfl, q.trans q3⟩
theorem Dx.set {m c : Nat} {h h1 : IH} {x : Cell} (d : Dx m h h1) (hc : h.length ≤ c) : Dx m h (h1.set c x) := by
  obtain ⟨h0, r0, rfl, q⟩ := d
  refine ⟨h0, r0.set (c - h0.length) x, ?_, q⟩
  rw [List.set_append_right _ _ (by rw [q.len]; exact hc)]
theorem Dx.take {m : Nat} {h h1 : IH} (d : Dx m h h1) : Dr m h (h1.take h.length) := by
  obtain ⟨h0, r0, rfl, q⟩ := d
  rw [← q.len, List.take_left']
  · exact q
  · rfl
theorem Dx.trans {m : Nat} {h h1 h2 : IH} (p : Pool m h) (d : Dx m h h1) (e : Dx m h1 h2) : Dx m h h2 := by
  obtain ⟨h3, r3, rfl, q3⟩ := e
  exact (d.draw p q3).push _
theorem Dx.le {m : Nat} {h h1 : IH} (d : Dx m h h1) : h.length ≤ h1.length := by
  obtain ⟨h0, r0, rfl, q⟩ := d
  rw [List.length_append, q.len]
  omega
theorem Dr.other {m c : Nat} {h h' : IH} (d : Dr m h h') (hc : c ≠ m) : h'[c]? = h[c]? := by
  rcases d with rfl | ⟨_, _, _, rfl, _⟩
  · rfl
  · rw [List.getElem?_set_ne (fun e => hc e.symm)]
/-! ### looks at windows -/
def fTupOf : FDef := ⟨2, 2, [(.ret (.and_ (.isI .tuple (.v 0)) (.cmp .Eq (.bi .len [(.v 0)]) (.v 1))))]⟩
abbrev STupOf (C : Sem) (g : Nat) : Prop := ∀ (xs : List Int) (k : Int) (h : IH), C.call g [.d (tupI xs), .d (.int k)] h = .ok (.d (.bool (decide ((xs.length : Int) = k)))) h
theorem tupOf_ok (hf : P.defs[g]? = some fTupOf) : STupOf (sem P (n + 1)) g := by
  intro xs k h
  refine callD hf (env := [some (.d (tupI xs)), some (.d (.int k))]) rfl rfl ?_
  unfold fTupOf
  have : hasTy .tuple (tupI xs) = true := rfl
  have : isDict (tupI xs) = false := rfl
  simp [*]
def fWindow (a b : Nat) : FDef := ⟨3, 3, [(.ret (.and_ (.call a [(.v 2), (.v 1)]) (.isN true (.call b [(.v 0), (.v 2)]))))]⟩
abbrev SWindow (C : Sem) (g : Nat) : Prop := ∀ (s : Int) (xs : List Int) (h : IH), Mk s xs → C.call g [.d (.int s), .d (.int xs.length), .d (tupI xs)] h = .ok (.d (.bool true)) h
theorem window_ok {a b : Nat} (hf : P.defs[g]? = some (fWindow a b)) (c0 : STupOf (sem P n) a) (c1 : SWrong (sem P n) b) : SWindow (sem P (n + 1)) g := by
  intro s xs h hm
  refine callD hf (env := [some (.d (.int s)), some (.d (.int xs.length)), some (.d (tupI xs))]) rfl rfl ?_
  have e0 := c0 xs xs.length h
  have e1 : (sem P n).call b [.d (.int s), .d (tupI xs)] h = _ := c1 s (xs.map .int) h (nodictI xs)
  rw [wrong_none hm] at e1
  unfold fWindow
  simp [e0, e1, optI]
def fAnyWin (a b : Nat) : FDef := ⟨2, 2, [(.ret (.and_ (.isI .tuple (.v 1)) (.and_ (.call a [(.bi .len [(.v 1)])]) (.call b [(.v 0), (.bi .len [(.v 1)]), (.v 1)]))))]⟩
abbrev SAnyWin (C : Sem) (g : Nat) : Prop := ∀ (s : Int) (xs : List Int) (h : IH), Mk s xs → 1 ≤ xs.length → xs.length ≤ 6 → C.call g [.d (.int s), .d (tupI xs)] h = .ok (.d (.bool true)) h
theorem anyWin_ok {a b : Nat} (hf : P.defs[g]? = some (fAnyWin a b)) (c0 : SFix 1 6 (sem P n) a) (c1 : SWindow (sem P n) b) : SAnyWin (sem P (n + 1)) g := by
  intro s xs h hm h1 h6
  refine callD hf (env := [some (.d (.int s)), some (.d (tupI xs))]) rfl rfl ?_
  have e0 := c0 (.int xs.length) h rfl
  rw [btw_yes (by omega) (by omega)] at e0
  have e1 := c1 s xs h hm
  unfold fAnyWin
  have : hasTy .tuple (tupI xs) = true := rfl
  have : isDict (tupI xs) = false := rfl
  simp [*]
/-! ### places -/
/-- the places whose window is near -/
def near (xs ys : List Int) (d : Int) : List D := ((List.range xs.length).filter fun t => decide ((apart (win xs t ys.length) ys : Int) ≤ d)).map fun (t : Nat) => PyData.int (t : Int)
theorem enum_wins (xs : List Int) (w : Nat) : enumD (wins xs w) = (List.range xs.length).map fun (t : Nat) => PyData.tuple [.int (t : Int), tupI (win xs t w)] := by
  unfold enumD
  apply List.ext_getElem
  · simp [wins]
  · intro i h1 h2
    simp [wins]
def fPlaces (a b : Nat) : FDef := ⟨3, 6, [(.set 3 (.call a [(.v 0), (.bi .len [(.v 1)])])), (.ret (.bi .tuple [(.lc .enum [(.v 3)] (.tup [4, 5]) (.cmp .LtE (.call b [(.v 5), (.v 1)]) (.v 2)) (.v 4))]))]⟩
abbrev SPlaces (C : Sem) (g : Nat) : Prop := ∀ (xs ys : List Int) (d : Int) (h : IH), 1 ≤ xs.length → xs.length ≤ 1000 → ys.length ≤ 1000 → C.call g [.d (tupI xs), .d (tupI ys), .d (.int d)] h = .ok (.d (.tuple (near xs ys d))) h
theorem places_ok {a b : Nat} (hf : P.defs[g]? = some (fPlaces a b)) (c0 : SWins (sem P n) a) (c1 : SApart (sem P n) b) : SPlaces (sem P (n + 1)) g := by
  intro xs ys d h h1 h2 hw
  have key := lc_filter (C := sem P n) (env := [some (.d (tupI xs)), some (.d (tupI ys)), some (.d (.int d)), some (.d (.tuple (wins xs ys.length))), none, none]) (k := .enum) (its := [.v 3]) (tg := .tup [4, 5]) (cond := (.cmp .LtE (.call b [(.v 5), (.v 1)]) (.v 2))) (elt := .v 4) (h := h) (vs := [.d (.tuple (wins xs ys.length))]) (ds := [.tuple (wins xs ys.length)]) (ts := List.range xs.length) (fun (t : Nat) => PyData.tuple [.int (t : Int), tupI (win xs t ys.length)]) (fun (t : Nat) => PyData.int (t : Int)) (fun t => decide ((apart (win xs t ys.length) ys : Int) ≤ d)) (by simp) (by simp) (by simp only [itemsD]; rw [enum_wins]) (by rw [List.length_range]; omega) fun t ht h' => ⟨[some (.d (tupI xs)), some (.d (tupI ys)), some (.d (.int d)), some (.d (.tuple (wins xs ys.length))), some (.d (.int (t : Int))), some (.d (tupI (win xs t ys.length)))], rfl, by
      simp [c1 (win xs t ys.length) ys h' (by rw [win_length]; omega)], fun _ => by simp⟩
  refine callD hf (env := [some (.d (tupI xs)), some (.d (tupI ys)), some (.d (.int d)), none, none, none]) rfl rfl ?_
  unfold fPlaces
  rw [q_exs1, q_set]
  simp -implicitDefEqProofs only [q_call, q_cons, q_nil, q_v, q_get0, q_getS, q_ofO, bind_ok, q_bi, q_biP1, q_dat, Option.map, q_lenI, c0 xs ys.length h h1 h2 hw, then_ok, q_setV, obind_next, List.set]
  rw [q_exs1, q_ret, q_bi, q_cons, key]
  simp -implicitDefEqProofs only [bind_ok, q_nil, q_biP1, q_dat, Option.map, q_btp1, q_ofO, then_ok, obind_ret]
  rfl
def fPlacesFor (a b c d : Nat) (r : IS) : FDef := ⟨4, 4, [(.ex (.call a [(.v 0), (.v 1)])), (.ite (.nt (.call b [(.v 0), (.v 2)])) [r] []), (.ex (.call c [(.v 3)])), (.ret (.call d [(.v 1), (.v 2), (.v 3)]))]⟩
abbrev SPlacesFor (C : Sem) (g : Nat) : Prop := ∀ (s d : Int) (xs ys : List Int) (h : IH), Rg s xs → Mk s ys → 1 ≤ ys.length → ys.length ≤ 6 → 0 ≤ d → d ≤ 3 → C.call g [.d (.int s), .d (tupI xs), .d (tupI ys), .d (.int d)] h = .ok (.d (.tuple (near xs ys d))) h
theorem placesFor_ok {a b c d : Nat} {r : IS} (hf : P.defs[g]? = some (fPlacesFor a b c d r)) (c0 : SSRing (sem P n) a) (c1 : SAnyWin (sem P n) b) (c2 : SChk 0 3 (sem P n) c) (c3 : SPlaces (sem P n) d) : SPlacesFor (sem P (n + 1)) g := by
  intro s d xs ys h rg hm y1 y6 d0 d3
  refine callD hf (env := [some (.d (.int s)), some (.d (tupI xs)), some (.d (tupI ys)), some (.d (.int d))]) rfl rfl ?_
  have := rg.most
  unfold fPlacesFor
  simp [c0 s xs h rg, c1 s ys h hm y1 y6, c2 d h d0 d3, c3 xs ys d h rg.one (by omega) (by omega)]
theorem near_sd (xs ys : List Int) (d : Int) (h : xs.length ≤ 1000) : SD 20000 2 (.tuple (near xs ys d)) := by
  have hl : (near xs ys d).length ≤ 1000 := by
    unfold near
    rw [List.length_map]
    exact Nat.le_trans (List.length_filter_le _ _) (by rw [List.length_range]; exact h)
  refine (SD.tup (L := 10) (d := 0) fun x hx => ?_).up (by omega) (by omega)
  obtain ⟨t, ht, rfl⟩ := List.mem_map.mp hx
  have := List.mem_range.mp (List.mem_filter.mp ht).1
  exact SD.int (by omega)
/-- both ways of asking tell what is due: a list that has grown -/
theorem chk2R {C : Sem} {wf : Nat} {env : Env} {h : IH} {a b c L d : Nat} {x : D} {rest : List IS} {r : List IS} (s : SD L d x) (hL : L ≤ 100000) (hd : d < 40) (e1 : getS env a = some (.ref c)) (e3 : h[c]? = some (.lst [x, x])) (e2 : getS env b = some (.d x)) :
    exs C wf env (.ite (.cmp .NotEq (.bi .repr [(.v a)]) (.bi .repr [(.lst [(.v b), (.v b)])])) r [] :: rest) h = exs C wf env rest h := by
  rw [q_exs1, q_ite]
  simp -implicitDefEqProofs only [q_cmp, q_bi, q_lst, q_cons, q_nil, q_v, e1, e2, dat_ref e3, q_ofO, bind_ok, q_dats1, q_dats0, Option.map, List.length_cons, List.length_nil, if_pos (q_lim 2 (by decide)), q_biP1, q_dat, repr2 s hL hd, ne_str, then_ok, q_truth_b, q_exs0, obind_next, Nat.zero_add, Nat.reduceAdd]
end
end RR.Q

-- RQ16
set_option maxHeartbeats 1000000
/-! Lists that change, step by step. -/
namespace RR.Q
open PySem
section
variable (C : Sem) (env : Env) (h : IH) (wf : Nat)
theorem q_mut (a : IE) : ev C env (.mut a) h = (ev C env a h).bind fun x h1 => match x with
    | .d (.list xs) => .ok (.ref h1.length) (h1 ++ [.lst xs])
    | _ => .stuck := by
  rw [ev] <;> rfl
theorem q_me (m : Me) (o : IE) (es : List IE) : ev C env (.me m o es) h = (ev C env o h).bind fun x h1 => if isLst x h1 then (evs C env es h1).bind fun xs h2 => match dats xs h2 with
    | some ds => meV m x ds h2
    | none => .stuck
    else .stuck := by
  rw [ev] <;> rfl
theorem q_st0 : storeT C env [] [] h = .next env h := by rw [storeT]
theorem q_st1 (i : Nat) (ts : List TE1) (x : D) (xs : List D) : storeT C env (.one i :: ts) (x :: xs) h = storeT C (env.set i (some (.d x))) ts xs h := by rw [storeT]
/-- one step of a text -/
theorem st_set {i : Nat} {e : IE} {x : D} {h1 : IH} {env1 : Env} (he : ev C env e h = .ok (.d x) h1) (hs : env.set i (some (.d x)) = env1) (rest : List IS) : exs C wf env (.set i e :: rest) h = exs C wf env1 rest h1 := by
  rw [q_exs1, q_set, he, then_ok, q_setV, obind_next, hs]
theorem st_setR {i : Nat} {e : IE} {x : Nat} {h1 : IH} {env1 : Env} (he : ev C env e h = .ok (.ref x) h1) (hs : env.set i (some (.ref x)) = env1) (rest : List IS) : exs C wf env (.set i e :: rest) h = exs C wf env1 rest h1 := by
  rw [q_exs1, q_set, he, then_ok, q_setVr, obind_next, hs]
theorem st_ex {e : IE} {x : Val} {h1 : IH} (he : ev C env e h = .ok x h1) (rest : List IS) : exs C wf env (.ex e :: rest) h = exs C wf env rest h1 := by
  rw [q_exs1, q_ex, he, then_ok, obind_next]
theorem st_one {s : IS} {env1 : Env} {h1 : IH} (he : ex1 C wf env s h = .next env1 h1) (rest : List IS) : exs C wf env (s :: rest) h = exs C wf env1 rest h1 := by
  rw [q_exs1, he, obind_next]
theorem st_iteF {t : IE} {a : List IS} {h1 : IH} (he : ev C env t h = .ok (.d (.bool false)) h1) (rest : List IS) : exs C wf env (.ite t a [] :: rest) h = exs C wf env rest h1 := by
  rw [q_exs1, q_ite, he, then_ok]
  simp -implicitDefEqProofs only [q_truth_b, q_exs0, obind_next]
/-- a new list -/
theorem ev_newl {e : IE} {xs : List D} {h1 : IH} (he : ev C env e h = .ok (.d (.list xs)) h1) : ev C env (.mut e) h = .ok (.ref h1.length) (h1 ++ [.lst xs]) := by
  rw [q_mut, he, bind_ok]
/-- an item put behind -/
theorem ev_append {o e : IE} {c : Nat} {xs : List D} {y : D} {h1 h2 : IH} (ho : ev C env o h = .ok (.ref c) h1) (hc : h1[c]? = some (.lst xs)) (he : ev C env e h1 = .ok (.d y) h2) (hc2 : h2[c]? = some (.lst xs)) (hl : xs.length ≤ 100000) : ev C env (.me .append o [e]) h = .ok (.d .none) (h2.set c (.lst (xs ++ [y]))) := by
  have e1 : isLst (.ref c) h1 = true := by simp only [isLst, hc]
  have e2 : meV .append (.ref c) [y] h2 = .ok (.d .none) (h2.set c (.lst (xs ++ [y]))) := by
    simp only [meV, hc2]
    rw [if_pos (by unfold lim; omega)]
  rw [q_me, ho, bind_ok, e1, if_pos rfl]
  simp -implicitDefEqProofs only [q_cons, q_nil, he, bind_ok, q_dats1, q_dats0, Option.map, e2]
end
section
variable {P : Prog} {n g : Nat}
theorem at_mem {xs : List Int} (h : 1 ≤ xs.length) (k : Nat) : at_ xs k ∈ xs := by
  unfold at_
  have hlt : k % xs.length < xs.length := Nat.mod_lt _ (by omega)
  rw [List.getD_eq_getElem?_getD, List.getElem?_eq_getElem hlt]
  exact List.getElem_mem hlt
theorem win_mk {s : Int} {xs : List Int} (h : 1 ≤ xs.length) (hm : Mk s xs) (p w : Nat) : Mk s (win xs p w) := fun x hx => by
  obtain ⟨t, _, rfl⟩ := List.mem_map.mp hx
  exact hm _ (at_mem h _)
theorem Mk.set {s : Int} {xs : List Int} (hm : Mk s xs) {k : Nat} {v : Int} (h0 : 0 ≤ v) (h1 : v < s) : Mk s (xs.set k v) := fun x hx => by
  rcases List.mem_or_eq_of_mem_set hx with h | rfl
  · exact hm x h
  · exact ⟨h0, h1⟩
/-- one turn of k42 -/
theorem turn42 {C : Sem} {ct co cp ca : Nat} (c0 : STake C ct) (c1 : SOf C co) (c2 : SPlacesFor C cp) (c3 : SApart C ca) {s : Int} {xs : List Int} (rg : Rg s xs) (w : Nat) (w1 : 1 ≤ w) (w6 : w ≤ 6) (wf m t : Nat) (ht : t < 4) (hh : IH) (pl : Pool m hh) (v6 v7 v8 v9 v10 v11 : Option Val) :
    ∃ u6 u7 u8 u9 u10 u11 h2, exs C wf [some (.ref m), some (.d (.int s)), some (.d (tupI xs)), some (.d (.int w)), some (.d (.list (wins xs w))), some (.d (.int t)), v6, v7, v8, v9, v10, v11] [(.set 6 (.mut (.bi .list [(.call co [(.v 0), (.v 4)])]))), (.for_ .range1 [(.v 5)] (.one 7) [(.setS (.v 6) (.call ct [(.v 0), (.v 3)]) (.call ct [(.v 0), (.v 1)]))]), (.setT [(.one 6), (.one 8)] (.tup [(.bi .tuple [(.v 6)]), (.call ct [(.v 0), (.c (.int 4))])])), (.set 9 (.bi .tuple [(.lc .range1 [(.bi .len [(.v 2)])] (.one 10) (.cmp .LtE (.call ca [(.ix (.v 4) (.v 10)), (.v 6)]) (.v 8)) (.v 10))])), (.set 11 (.mut (.lst [(.call cp [(.v 1), (.v 2), (.v 6), (.v 8)])]))), (.ex (.me .append (.v 11) [(.callK cp [3, 2, 1, 0] [(.v 8), (.v 6), (.v 2), (.v 1)])])), (.ite (.cmp .NotEq (.bi .repr [(.v 11)]) (.bi .repr [(.lst [(.v 9), (.v 9)])])) [(.ret (.c (.bool false)))] [])] hh = .next [some (.ref m), some (.d (.int s)), some (.d (tupI xs)), some (.d (.int w)), some (.d (.list (wins xs w))), some (.d (.int t)), u6, u7, u8, u9, u10, u11] h2 ∧ Dx m hh h2 := by
  have most := rg.most
  have one := rg.one
  have hi := rg.hi
  have lo := rg.lo
  -- read = list(..)
  obtain ⟨x, h1, hx, dr1, a1⟩ := c1 m (.list (wins xs w)) (wins xs w) hh rfl pl (by rw [wins_len]; exact one) (by rw [wins_len]; omega)
  obtain ⟨p, _, rfl⟩ := List.mem_map.mp hx
  have hcm : h1.length ≠ m := by
    have := pl.lt
    rw [dr1.len]
    omega
  have st1 := st_setR C [some (.ref m), some (.d (.int s)), some (.d (tupI xs)), some (.d (.int w)), some (.d (.list (wins xs w))), some (.d (.int t)), v6, v7, v8, v9, v10, v11] hh wf (env1 := [some (.ref m), some (.d (.int s)), some (.d (tupI xs)), some (.d (.int w)), some (.d (.list (wins xs w))), some (.d (.int t)), some (.ref h1.length), v7, v8, v9, v10, v11]) (i := 6) (e := (.mut (.bi .list [(.call co [(.v 0), (.v 4)])]))) (ev_newl C _ _ (xs := (win xs p w).map .int) (h1 := h1) (by
    simp -implicitDefEqProofs only [q_bi, q_cons, q_nil, q_call, q_v, q_get0, q_getS, q_ofO, bind_ok, a1, q_biP1, q_dat, Option.map, tupI, q_bls2])) rfl
  -- some marks otherwise
  obtain ⟨env', h3, ef, e7, ys, rfl, hl, hm, hc, dx⟩ := for_range (m := t) (v := 7) (h := h1 ++ [.lst ((win xs p w).map .int)]) (env := [some (.ref m), some (.d (.int s)), some (.d (tupI xs)), some (.d (.int w)), some (.d (.list (wins xs w))), some (.d (.int t)), some (.ref h1.length), v7, v8, v9, v10, v11]) (body := fun env h => exs C wf env [(.setS (.v 6) (.call ct [(.v 0), (.v 3)]) (.call ct [(.v 0), (.v 1)]))] h) (fun _ env H => ∃ (e7 : Option Val) (ys : List Int), env = [some (.ref m), some (.d (.int s)), some (.d (tupI xs)), some (.d (.int w)), some (.d (.list (wins xs w))), some (.d (.int t)), some (.ref h1.length), e7, v8, v9, v10, v11] ∧ ys.length = w ∧ Mk s ys ∧ H[h1.length]? = some (.lst (ys.map .int)) ∧ Dx m hh H) ⟨v7, win xs p w, rfl, win_length _ _ _, win_mk one rg.mks _ _, by simp, dr1.x.push _⟩ (by
    intro i hi' env H ⟨e7, ys, ee, hl, hm, hc, dx⟩
    subst ee
    obtain ⟨d1, H1, hd1, r1, b1⟩ := c0 m s H (dx.pool pl) (by omega) (by omega)
    obtain ⟨d2, H2, hd2, r2, b2⟩ := c0 m w H1 (r1.pool (dx.pool pl)) (by omega) (by omega)
    have hc2 : H2[h1.length]? = some (.lst (ys.map .int)) := by rw [r2.other hcm, r1.other hcm]; exact hc
    have hp : plc (ys.map PyData.int).length ((d2 : Nat) : Int) = some d2 := plc_nat (by rw [List.length_map]; omega)
    have e3 := st_ref (x := .int (d1 : Int)) hc2 hp
    rw [← List.map_set] at e3
    refine ⟨_, [some (.ref m), some (.d (.int s)), some (.d (tupI xs)), some (.d (.int w)), some (.d (.list (wins xs w))), some (.d (.int t)), some (.ref h1.length), some (.d (.int (i : Int))), v8, v9, v10, v11], H2.set h1.length (.lst ((ys.set d2 (d1 : Int)).map .int)), rfl, .inl ?_, _, ys.set d2 (d1 : Int), rfl, by rw [List.length_set]; exact hl, hm.set (by omega) hd1, by rw [List.getElem?_set_self (List.getElem?_eq_some_iff.mp hc2).1], ((dx.draw pl r1).draw pl r2).set (by rw [dr1.len]; exact Nat.le_refl _)⟩
    simp -implicitDefEqProofs only [List.set, q_exs1, q_exs0, q_setS, q_call, q_cons, q_nil, q_v, q_get0, q_getS, q_ofO, bind_ok, b1, b2, then_ok, e3, obind_next])
  have st2 : ∀ rest, exs C wf [some (.ref m), some (.d (.int s)), some (.d (tupI xs)), some (.d (.int w)), some (.d (.list (wins xs w))), some (.d (.int t)), some (.ref h1.length), v7, v8, v9, v10, v11] ((.for_ .range1 [(.v 5)] (.one 7) [(.setS (.v 6) (.call ct [(.v 0), (.v 3)]) (.call ct [(.v 0), (.v 1)]))]) :: rest) (h1 ++ [.lst ((win xs p w).map .int)]) = exs C wf [some (.ref m), some (.d (.int s)), some (.d (tupI xs)), some (.d (.int w)), some (.d (.list (wins xs w))), some (.d (.int t)), some (.ref h1.length), e7, v8, v9, v10, v11] rest h3 := fun rest => by
    rw [q_exs1, q_for]
    simp -implicitDefEqProofs only [q_cons, q_nil, q_v, q_get0, q_getS, q_ofO, bind_ok, q_itr, q_dats1, q_dats0, Option.map, itemsR (m := t) (by omega), then_ok, ef, obind_next]
  -- read, misread
  obtain ⟨d3, h4, hd3, dr4, a4⟩ := c0 m 4 h3 (dx.pool pl) (by decide) (by decide)
  have dx4 := dx.draw pl dr4
  have st3 : ∀ rest, exs C wf [some (.ref m), some (.d (.int s)), some (.d (tupI xs)), some (.d (.int w)), some (.d (.list (wins xs w))), some (.d (.int t)), some (.ref h1.length), e7, v8, v9, v10, v11] ((.setT [(.one 6), (.one 8)] (.tup [(.bi .tuple [(.v 6)]), (.call ct [(.v 0), (.c (.int 4))])])) :: rest) h3 = exs C wf [some (.ref m), some (.d (.int s)), some (.d (tupI xs)), some (.d (.int w)), some (.d (.list (wins xs w))), some (.d (.int t)), some (.d (tupI ys)), e7, some (.d (.int d3)), v9, v10, v11] rest h4 := fun rest => by
    rw [q_exs1, q_setT]
    simp -implicitDefEqProofs only [q_tup, q_cons, q_nil, q_bi, q_call, q_c, q_v, q_get0, q_getS, q_ofO, bind_ok, q_biP1, dat_ref hc, Option.map, q_btp1, a4, q_dats1, q_dats0, List.length_cons, List.length_nil, if_pos (q_lim 2 (by decide)), then_ok, Nat.zero_add, Nat.reduceAdd, if_true, q_st1, q_st0, obind_next, List.set]
    rfl
  -- due
  have key := lc_filter (C := C) (env := [some (.ref m), some (.d (.int s)), some (.d (tupI xs)), some (.d (.int w)), some (.d (.list (wins xs w))), some (.d (.int t)), some (.d (tupI ys)), e7, some (.d (.int d3)), v9, v10, v11]) (k := .range1) (its := [(.bi .len [(.v 2)])]) (tg := .one 10) (cond := (.cmp .LtE (.call ca [(.ix (.v 4) (.v 10)), (.v 6)]) (.v 8))) (elt := .v 10) (h := h4) (vs := [.d (.int xs.length)]) (ds := [.int xs.length]) (ts := List.range xs.length) (fun (t : Nat) => PyData.int (t : Int)) (fun (t : Nat) => PyData.int (t : Int)) (fun t => decide ((apart (win xs t w) ys : Int) ≤ d3)) (by simp) rfl (itemsR (by omega)) (by rw [List.length_range]; omega) fun a ha h' => ⟨[some (.ref m), some (.d (.int s)), some (.d (tupI xs)), some (.d (.int w)), some (.d (.list (wins xs w))), some (.d (.int t)), some (.d (tupI ys)), e7, some (.d (.int d3)), v9, some (.d (.int (a : Int))), v11], rfl, by
      have k1 := ix_winsL (C := C) (env := [some (.ref m), some (.d (.int s)), some (.d (tupI xs)), some (.d (.int w)), some (.d (.list (wins xs w))), some (.d (.int t)), some (.d (tupI ys)), e7, some (.d (.int d3)), v9, some (.d (.int (a : Int))), v11]) (i := 4) (j := 10) h' (List.mem_range.mp ha) rfl rfl
      simp -implicitDefEqProofs only [q_cnd_cmp, q_cmp, q_call, q_cons, q_nil, k1, q_v, q_get0, q_getS, q_ofO, bind_ok, c3 (win xs a w) ys h' (by rw [win_length]; omega), q_dat, q_le, Option.map, q_truth_b], fun _ => by simp⟩
  have en : ((List.range xs.length).filter fun t => decide ((apart (win xs t w) ys : Int) ≤ d3)).map (fun (t : Nat) => PyData.int (t : Int)) = near xs ys d3 := by
    unfold near
    rw [hl]
  rw [en] at key
  have st4 := st_set C [some (.ref m), some (.d (.int s)), some (.d (tupI xs)), some (.d (.int w)), some (.d (.list (wins xs w))), some (.d (.int t)), some (.d (tupI ys)), e7, some (.d (.int d3)), v9, v10, v11] h4 wf (env1 := [some (.ref m), some (.d (.int s)), some (.d (tupI xs)), some (.d (.int w)), some (.d (.list (wins xs w))), some (.d (.int t)), some (.d (tupI ys)), e7, some (.d (.int d3)), some (.d (.tuple (near xs ys d3))), v10, v11]) (i := 9) (e := (.bi .tuple [(.lc .range1 [(.bi .len [(.v 2)])] (.one 10) (.cmp .LtE (.call ca [(.ix (.v 4) (.v 10)), (.v 6)]) (.v 8)) (.v 10))])) (x := .tuple (near xs ys d3)) (h1 := h4) (by
    simp -implicitDefEqProofs only [q_bi _ _ _ .tuple, q_cons, q_nil, key, bind_ok, q_biP1, q_dat, Option.map, q_btp1, q_ofO]) rfl
  -- told
  have kp := c2 s d3 xs ys h4 rg hm (by omega) (by omega) (by omega) (by omega)
  have st5 := st_setR C [some (.ref m), some (.d (.int s)), some (.d (tupI xs)), some (.d (.int w)), some (.d (.list (wins xs w))), some (.d (.int t)), some (.d (tupI ys)), e7, some (.d (.int d3)), some (.d (.tuple (near xs ys d3))), v10, v11] h4 wf (env1 := [some (.ref m), some (.d (.int s)), some (.d (tupI xs)), some (.d (.int w)), some (.d (.list (wins xs w))), some (.d (.int t)), some (.d (tupI ys)), e7, some (.d (.int d3)), some (.d (.tuple (near xs ys d3))), v10, some (.ref h4.length)]) (i := 11) (e := (.mut (.lst [(.call cp [(.v 1), (.v 2), (.v 6), (.v 8)])]))) (ev_newl C _ _ (xs := [.tuple (near xs ys d3)]) (h1 := h4) (by
    simp -implicitDefEqProofs only [q_lst, q_call, q_cons, q_nil, q_v, q_get0, q_getS, q_ofO, bind_ok, kp, q_dats1, q_dats0, Option.map, List.length_cons, List.length_nil, if_pos (q_lim 1 (by decide)), Nat.zero_add])) rfl
  have kp2 := c2 s d3 xs ys (h4 ++ [.lst [.tuple (near xs ys d3)]]) rg hm (by omega) (by omega) (by omega) (by omega)
  have hcell : (h4 ++ [Cell.lst [.tuple (near xs ys d3)]])[h4.length]? = some (.lst [.tuple (near xs ys d3)]) := by simp
  have st6 := st_ex C [some (.ref m), some (.d (.int s)), some (.d (tupI xs)), some (.d (.int w)), some (.d (.list (wins xs w))), some (.d (.int t)), some (.d (tupI ys)), e7, some (.d (.int d3)), some (.d (.tuple (near xs ys d3))), v10, some (.ref h4.length)] (h4 ++ [.lst [.tuple (near xs ys d3)]]) wf (ev_append C _ _ (o := .v 11) (e := (.callK cp [3, 2, 1, 0] [(.v 8), (.v 6), (.v 2), (.v 1)])) (c := h4.length) (xs := [.tuple (near xs ys d3)]) (y := .tuple (near xs ys d3)) (h1 := h4 ++ [.lst [.tuple (near xs ys d3)]]) (h2 := h4 ++ [.lst [.tuple (near xs ys d3)]]) (by simp) hcell (by
    simp -implicitDefEqProofs only [q_callK, permV, List.length_cons, List.length_nil, if_true, q_cons, q_nil, q_v, q_get0, q_getS, q_ofO, bind_ok, kp2, List.getElem?_cons_succ, List.getElem?_cons_zero]) hcell (by simp))
  have eset : (h4 ++ [Cell.lst [.tuple (near xs ys d3)]]).set h4.length (.lst ([.tuple (near xs ys d3)] ++ [.tuple (near xs ys d3)])) = h4 ++ [.lst [.tuple (near xs ys d3), .tuple (near xs ys d3)]] := by simp
  rw [eset] at st6
  have st7 : ∀ rest, exs C wf [some (.ref m), some (.d (.int s)), some (.d (tupI xs)), some (.d (.int w)), some (.d (.list (wins xs w))), some (.d (.int t)), some (.d (tupI ys)), e7, some (.d (.int d3)), some (.d (.tuple (near xs ys d3))), v10, some (.ref h4.length)] ((.ite (.cmp .NotEq (.bi .repr [(.v 11)]) (.bi .repr [(.lst [(.v 9), (.v 9)])])) [(.ret (.c (.bool false)))] []) :: rest) (h4 ++ [.lst [.tuple (near xs ys d3), .tuple (near xs ys d3)]]) = exs C wf [some (.ref m), some (.d (.int s)), some (.d (tupI xs)), some (.d (.int w)), some (.d (.list (wins xs w))), some (.d (.int t)), some (.d (tupI ys)), e7, some (.d (.int d3)), some (.d (.tuple (near xs ys d3))), v10, some (.ref h4.length)] rest (h4 ++ [.lst [.tuple (near xs ys d3), .tuple (near xs ys d3)]]) := fun rest => chk2R (c := h4.length) (near_sd xs ys d3 (by omega)) (by decide) (by decide) rfl (by simp) rfl
  refine ⟨some (.d (tupI ys)), e7, some (.d (.int d3)), some (.d (.tuple (near xs ys d3))), v10, some (.ref h4.length), _, ?_, dx4.push [.lst [.tuple (near xs ys d3), .tuple (near xs ys d3)]]⟩
  rw [st1, st2, st3, st4, st5, st6, st7, q_exs0]
end
end RR.Q

-- RQ17
set_option maxHeartbeats 1000000
/-! True lengths of rings. -/
namespace RR.Q
open PySem
section
variable {P : Prog} {n g : Nat}
def per (xs : List Int) (k : Nat) : Prop := ∀ i, at_ xs (i + k) = at_ xs i
theorem at_lt {xs : List Int} {i : Nat} (h : i < xs.length) : xs[i]? = some (at_ xs i) := by
  unfold at_
  rw [Nat.mod_eq_of_lt h, List.getD_eq_getElem?_getD, List.getElem?_eq_getElem h]
  rfl
theorem at_mod (xs : List Int) (i : Nat) : at_ xs (i % xs.length) = at_ xs i := by
  unfold at_
  rw [Nat.mod_mod]
theorem at_congr {xs : List Int} {i j : Nat} (h : i % xs.length = j % xs.length) : at_ xs i = at_ xs j := by
  unfold at_
  rw [h]
theorem per_lt {xs : List Int} {k : Nat} (h : ∀ i, i < xs.length → at_ xs (i + k) = at_ xs i) (h1 : 1 ≤ xs.length) : per xs k := fun i => by
  have e := h (i % xs.length) (Nat.mod_lt _ (by omega))
  rw [at_mod] at e
  rw [← e]
  exact at_congr (by rw [Nat.mod_add_mod])
theorem per_len (xs : List Int) : per xs xs.length := fun i => at_congr (by rw [Nat.add_mod_right])
theorem per_mul {xs : List Int} {k : Nat} (h : per xs k) (q i : Nat) : at_ xs (i + q * k) = at_ xs i := by
  induction q with
  | zero => simp
  | succ q ih =>
    rw [Nat.add_mul, Nat.one_mul, ← Nat.add_assoc, h, ih]
/-- a turn by k places is the ring itself -/
theorem rot_iff {xs : List Int} {k : Nat} (hk : k ≤ xs.length) (h1 : 1 ≤ xs.length) : xs.drop k ++ xs.take k = xs ↔ per xs k := by
  have e : ∀ i, i < xs.length → (xs.drop k ++ xs.take k)[i]? = some (at_ xs (i + k)) := fun i hi => by
    by_cases h : i < xs.length - k
    · rw [List.getElem?_append_left (by rw [List.length_drop]; exact h), List.getElem?_drop, at_lt (by omega), Nat.add_comm]
    · rw [List.getElem?_append_right (by rw [List.length_drop]; omega), List.length_drop, List.getElem?_take_of_lt (by omega), at_lt (by omega)]
      refine congrArg some (at_congr ?_)
      rw [show i + k = (i - (xs.length - k)) + xs.length by omega, Nat.add_mod_right]
  constructor
  · intro h
    refine per_lt (fun i hi => ?_) h1
    have q := e i hi
    rw [h, at_lt hi] at q
    exact (Option.some.inj q).symm
  · intro h
    apply List.ext_getElem?
    intro i
    by_cases hi : i < xs.length
    · rw [e i hi, at_lt hi, h]
    · rw [List.getElem?_eq_none (by simp; omega), List.getElem?_eq_none (by omega)]
theorem rep_get (l : List Int) : ∀ (q i : Nat), i < q * l.length → (List.replicate q l).flatten[i]? = l[i % l.length]?
  | 0, i, h => by simp at h
  | q + 1, i, h => by
    rw [List.replicate_succ, List.flatten_cons]
    by_cases hi : i < l.length
    · rw [List.getElem?_append_left hi, Nat.mod_eq_of_lt hi]
    · rw [List.getElem?_append_right (by omega), rep_get l q (i - l.length) (by rw [Nat.add_mul] at h; omega)]
      rw [← Nat.mod_eq_sub_mod (by omega)]
/-- gone through again, its first k marks are the ring itself -/
theorem rep_iff {xs : List Int} {k q : Nat} (hk : 1 ≤ k) (hq : xs.length = q * k) (h1 : 1 ≤ xs.length) : (List.replicate q (xs.take k)).flatten = xs ↔ per xs k := by
  have hq1 : 1 ≤ q := by
    cases q with
    | zero => rw [Nat.zero_mul] at hq; omega
    | succ q => omega
  have hkn : k ≤ xs.length := by
    rw [hq]
    exact Nat.le_mul_of_pos_left k (by omega)
  have hl : (xs.take k).length = k := by rw [List.length_take]; omega
  have e : ∀ i, i < xs.length → (List.replicate q (xs.take k)).flatten[i]? = some (at_ xs (i % k)) := fun i hi => by
    have hm : i % k < k := Nat.mod_lt _ (by omega)
    rw [rep_get _ _ _ (by rw [hl, ← hq]; exact hi), hl, List.getElem?_take_of_lt hm, at_lt (by omega)]
  constructor
  · intro h
    have e2 : ∀ i, i < xs.length → at_ xs (i % k) = at_ xs i := fun i hi => by
      have z := e i hi
      rw [h, at_lt hi] at z
      exact (Option.some.inj z).symm
    refine per_lt (fun i hi => ?_) h1
    have hm : (i + k) % xs.length < xs.length := Nat.mod_lt _ (by omega)
    rw [← at_mod, ← e2 _ hm, ← e2 i hi]
    congr 1
    rw [hq, Nat.mod_mul_left_mod, Nat.add_mod_right]
  · intro h
    apply List.ext_getElem?
    intro i
    by_cases hi : i < xs.length
    · rw [e i hi, at_lt hi]
      have z := per_mul h (i / k) (i % k)
      rw [Nat.mul_comm, Nat.mod_add_div] at z
      rw [z]
    · rw [List.getElem?_eq_none (by simp [hl]; omega), List.getElem?_eq_none (by omega)]
/-- the true length of a ring -/
structure IsTrue (xs : List Int) (K : Nat) : Prop where
  lo : 1 ≤ K
  hi : K ≤ xs.length
  per : per xs K
  min : ∀ j, 1 ≤ j → j < K → ¬ RR.Q.per xs j
theorem IsTrue.uniq {xs : List Int} {K L : Nat} (a : IsTrue xs K) (b : IsTrue xs L) : K = L := by
  by_cases h : K < L
  · exact absurd a.per (b.min K a.lo h)
  · by_cases h2 : L < K
    · exact absurd b.per (a.min L b.lo h2)
    · omega
theorem IsTrue.dvd {xs : List Int} {K : Nat} (a : IsTrue xs K) : xs.length % K = 0 := by
  by_cases hr : xs.length % K = 0
  · exact hr
  · have hlt : xs.length % K < K := Nat.mod_lt _ a.lo
    refine absurd (fun i => ?_) (a.min (xs.length % K) (by omega) hlt)
    have z := per_mul a.per (xs.length / K) (i + xs.length % K)
    rw [Nat.add_assoc, Nat.mul_comm, Nat.mod_add_div] at z
    rw [← z]
    exact per_len xs i
theorem range_split {m a : Nat} {l1 l2 : List Nat} (h : List.range m = l1 ++ a :: l2) : a = l1.length ∧ a < m ∧ ∀ j, j < a → j ∈ l1 := by
  have hl : m = l1.length + (l2.length + 1) := by
    have := congrArg List.length h
    simpa using this
  have ha : a = l1.length := by
    have e : (List.range m)[l1.length]? = some a := by rw [h]; simp
    rw [List.getElem?_range (by omega)] at e
    exact (Option.some.inj e).symm
  refine ⟨ha, by omega, fun j hj => ?_⟩
  have e : (List.range m)[j]? = l1[j]? := by rw [h, List.getElem?_append_left (by omega)]
  rw [List.getElem?_range (by omega)] at e
  exact List.mem_of_getElem? e.symm
theorem slI_to {xs : List Int} {k : Nat} : slD (tupI xs) none (some (k : Int)) = some (tupI (xs.take k)) := by
  unfold tupI
  simp only [slD]
  rw [cut_to _ (by omega), Int.toNat_natCast, List.map_take]
theorem slI_from {xs : List Int} {k : Nat} : slD (tupI xs) (some (k : Int)) none = some (tupI (xs.drop k)) := by
  unfold tupI
  simp only [slD]
  rw [cut_from _ (by omega), Int.toNat_natCast, List.map_drop]
theorem addI {xs ys : List Int} (h : xs.length + ys.length ≤ 100000) : binD .Add (tupI xs) (tupI ys) = some (tupI (xs ++ ys)) := by
  unfold tupI
  rw [add_tups (by simpa using h), List.map_append]
theorem mulI {xs : List Int} {q : Nat} (h1 : 1 ≤ xs.length) (h2 : xs.length ≤ 1000) (q2 : 2 ≤ q) (q3 : q ≤ 1000) : binD .Mult (tupI xs) (.int (q : Int)) = some (tupI (List.replicate q xs).flatten) := by
  unfold tupI
  have hx : (xs.map PyData.int).isEmpty = false := by
    cases xs with
    | nil => simp at h1
    | cons _ _ => rfl
  have e1 : decide ((-1000 : Int) ≤ (q : Int)) = true := decide_eq_true (by omega)
  have e2 : decide ((q : Int) ≤ 1000) = true := decide_eq_true (by omega)
  have e3 : decide ((xs.map PyData.int).length ≤ 1000) = true := decide_eq_true (by rw [List.length_map]; exact h2)
  simp only [binD, hx, e1, e2, e3]
  simp only [Bool.not_false, Bool.and_self, if_true, Int.toNat_natCast]
  rw [List.map_flatten, List.map_replicate]
theorem fdivI {i j : Nat} (hj : 1 ≤ j) (hj2 : j ≤ 1000) : binD .FloorDiv (.int (i : Int)) (.int (j : Int)) = some (.int ((i / j : Nat) : Int)) := by
  show (if _ then _ else _) = _
  have hb : decide (big (j : Int) < 9000) = true := decide_eq_true (by
    unfold big
    have : (j : Int).natAbs.log2 ≤ j := by
      rw [Int.natAbs_natCast]
      exact Nat.log2_le_self _
    omega)
  rw [if_pos (by rw [hb]; simp; omega)]
  simp
theorem modI {i j : Nat} (hj : 1 ≤ j) : binD .Mod (.int (i : Int)) (.int (j : Int)) = some (.int ((i % j : Nat) : Int)) := by
  rw [mod_lit _ (by omega)]
  simp
/-! ### root_of -/
def fRoot : FDef := ⟨1, 2, [(.for_ .range2 [(.c (.int 1)), (.bi .len [(.v 0)])] (.one 1) [(.ite (.and_ (.cmp .Eq (.bin .Mod (.bi .len [(.v 0)]) (.v 1)) (.c (.int 0))) (.cmp .Eq (.v 0) (.bin .Mult (.sl (.v 0) .nop (.v 1)) (.bin .FloorDiv (.bi .len [(.v 0)]) (.v 1))))) [(.ret (.sl (.v 0) .nop (.v 1)))] [])]), (.ret (.v 0))]⟩
abbrev SRoot (C : Sem) (g : Nat) : Prop := ∀ (xs : List Int) (h : IH), 1 ≤ xs.length → xs.length ≤ 1000 → ∃ K, IsTrue xs K ∧ C.call g [.d (tupI xs)] h = .ok (.d (tupI (xs.take K))) h
/-- what root_of looks for -/
def rootP (xs : List Int) (k : Nat) : Prop := xs.length % k = 0 ∧ per xs k
theorem root_ok (hf : P.defs[g]? = some fRoot) : SRoot (sem P (n + 1)) g := by
  classical
  intro xs h h1 h2
  have key := for_search (tg := .one 1) (body := fun env h => exs (sem P n) P.wf env [(.ite (.and_ (.cmp .Eq (.bin .Mod (.bi .len [(.v 0)]) (.v 1)) (.c (.int 0))) (.cmp .Eq (.v 0) (.bin .Mult (.sl (.v 0) .nop (.v 1)) (.bin .FloorDiv (.bi .len [(.v 0)]) (.v 1))))) [(.ret (.sl (.v 0) .nop (.v 1)))] [])] h) (F := fun (t : Nat) => PyData.int ((1 + t : Nat) : Int)) (fun env => ∃ e1, env = [some (.d (tupI xs)), e1]) (fun t => ¬ rootP xs (1 + t)) (fun t v => v = tupI (xs.take (1 + t)) ∧ rootP xs (1 + t)) (h := h) (ts := List.range (xs.length - 1)) (env := [some (.d (tupI xs)), none]) ⟨_, rfl⟩ (by
    intro t ht env ⟨e1, ee⟩
    subst ee
    have ht := List.mem_range.mp ht
    refine ⟨[some (.d (tupI xs)), some (.d (.int ((1 + t : Nat) : Int)))], rfl, ?_⟩
    have a1 : ev (sem P n) [some (.d (tupI xs)), some (.d (.int ((1 + t : Nat) : Int)))] (.cmp .Eq (.bin .Mod (.bi .len [(.v 0)]) (.v 1)) (.c (.int 0))) h = .ok (.d (.bool (decide (xs.length % (1 + t) = 0)))) h := by
      rw [q_cmp, q_bin, lenI_ev h rfl]
      simp -implicitDefEqProofs only [bind_ok, q_v, q_get0, q_getS, q_ofO, modI (i := xs.length) (j := 1 + t) (by omega), Option.map, q_c, q_dat, eq_ints]
      congr 4
      exact propext ⟨fun z => by omega, fun z => by omega⟩
    by_cases hd : xs.length % (1 + t) = 0
    · have hq : xs.length = xs.length / (1 + t) * (1 + t) := by
        have := Nat.mod_add_div xs.length (1 + t)
        rw [Nat.mul_comm] at this
        omega
      have hq2 : 2 ≤ xs.length / (1 + t) := by
        by_cases z : xs.length / (1 + t) < 2
        · have : xs.length / (1 + t) * (1 + t) ≤ 1 * (1 + t) := Nat.mul_le_mul_right _ (by omega)
          omega
        · omega
      have hq3 : xs.length / (1 + t) ≤ 1000 := Nat.le_trans (Nat.div_le_self _ _) h2
      have a2 : ev (sem P n) [some (.d (tupI xs)), some (.d (.int ((1 + t : Nat) : Int)))] (.cmp .Eq (.v 0) (.bin .Mult (.sl (.v 0) .nop (.v 1)) (.bin .FloorDiv (.bi .len [(.v 0)]) (.v 1)))) h = .ok (.d (.bool (decide (per xs (1 + t))))) h := by
        simp -implicitDefEqProofs only [q_cmp, q_v, q_get0, q_getS, q_ofO, bind_ok, q_bin, q_sl, q_prt_nop, q_prt_v, partOf, q_dat, slI_to, Option.map, lenI_ev (env := [some (.d (tupI xs)), some (.d (.int ((1 + t : Nat) : Int)))]) (a := 0) h rfl, fdivI (i := xs.length) (j := 1 + t) (by omega) (by omega), mulI (xs := xs.take (1 + t)) (q := xs.length / (1 + t)) (by rw [List.length_take]; omega) (by rw [List.length_take]; omega) hq2 hq3, eq_tupI]
        congr 4
        have z := rep_iff (xs := xs) (k := 1 + t) (q := xs.length / (1 + t)) (by omega) hq h1
        exact propext ⟨fun e => z.mp e.symm, fun e => (z.mpr e).symm⟩
      by_cases hp : per xs (1 + t)
      · refine .inl ⟨_, ⟨rfl, hd, hp⟩, ?_⟩
        simp -implicitDefEqProofs only [q_exs1, q_ite, q_and, a1, a2, bind_ok, q_truth_b, decide_eq_true hd, decide_eq_true hp, then_ok, q_exs0, q_ret, q_sl, q_v, q_get0, q_getS, q_ofO, q_prt_nop, q_prt_v, partOf, q_dat, slI_to, Option.map, obind_ret]
      · refine .inr ⟨fun z => hp z.2, [some (.d (tupI xs)), some (.d (.int ((1 + t : Nat) : Int)))], .inl ?_, _, rfl⟩
        simp -implicitDefEqProofs only [q_exs1, q_ite, q_and, a1, a2, bind_ok, q_truth_b, decide_eq_true hd, decide_eq_false hp, then_ok, q_exs0, obind_next]
    · refine .inr ⟨fun z => hd z.1, [some (.d (tupI xs)), some (.d (.int ((1 + t : Nat) : Int)))], .inl ?_, _, rfl⟩
      simp -implicitDefEqProofs only [q_exs1, q_ite, q_and, a1, bind_ok, q_truth_b, decide_eq_false hd, then_ok, q_exs0, obind_next])
  have ei : exs (sem P n) P.wf [some (.d (tupI xs)), none] fRoot.body h = (forLoop (.one 1) (fun env h => exs (sem P n) P.wf env [(.ite (.and_ (.cmp .Eq (.bin .Mod (.bi .len [(.v 0)]) (.v 1)) (.c (.int 0))) (.cmp .Eq (.v 0) (.bin .Mult (.sl (.v 0) .nop (.v 1)) (.bin .FloorDiv (.bi .len [(.v 0)]) (.v 1))))) [(.ret (.sl (.v 0) .nop (.v 1)))] [])] h) ((List.range (xs.length - 1)).map fun (t : Nat) => PyData.int ((1 + t : Nat) : Int)) [some (.d (tupI xs)), none] h).bind fun env1 h1 => exs (sem P n) P.wf env1 [(.ret (.v 0))] h1 := by
    unfold fRoot
    rw [q_exs1, q_for]
    have it := itemsR2 (a := 1) (m := xs.length) (by omega) (by omega)
    simp only [Int.cast_ofNat_Int] at it
    simp -implicitDefEqProofs only [q_cons, q_nil, q_c, q_v, q_get0, q_bi, q_ofO, bind_ok, q_biP1, q_dat, Option.map, q_lenI, q_itr, q_dats1, q_dats0, it, then_ok]
  -- the least period
  have ex : ∃ K, IsTrue xs K := by
    have : ∀ m, (∃ k, 1 ≤ k ∧ k ≤ m ∧ per xs k) → m ≤ xs.length → ∃ K, IsTrue xs K := fun m => by
      induction m with
      | zero => rintro ⟨k, h1, h2, _⟩; omega
      | succ m ih =>
        rintro ⟨k, k1, k2, kp⟩ hm
        by_cases hlow : ∃ k, 1 ≤ k ∧ k ≤ m ∧ per xs k
        · exact ih hlow (by omega)
        · have : k = m + 1 := by
            by_cases hk : k ≤ m
            · exact absurd ⟨k, k1, hk, kp⟩ hlow
            · omega
          subst this
          exact ⟨m + 1, k1, hm, kp, fun j j1 j2 jp => hlow ⟨j, j1, by omega, jp⟩⟩
    exact this xs.length ⟨xs.length, h1, Nat.le_refl _, per_len xs⟩ (Nat.le_refl _)
  obtain ⟨K, hK⟩ := ex
  refine ⟨K, hK, callD hf (env := [some (.d (tupI xs)), none]) rfl rfl ?_⟩
  rw [ei]
  have hlo := hK.lo
  have hhi := hK.hi
  rcases key with ⟨pre, t, post, v, hs, hn, ⟨rfl, hp⟩, e⟩ | ⟨hn, env', e, e1, rfl⟩
  · obtain ⟨t1, t2, t3⟩ := range_split hs
    have e2 : 1 + t = K := by
      by_cases z : K < 1 + t
      · refine absurd (show rootP xs (1 + (K - 1)) from ?_) (hn (K - 1) (t3 _ (by omega)))
        rw [show 1 + (K - 1) = K by omega]
        exact ⟨hK.dvd, hK.per⟩
      · by_cases z2 : 1 + t < K
        · exact absurd hp.2 (hK.min _ (by omega) z2)
        · omega
    rw [e, obind_ret, e2]
  · have e2 : K = xs.length := by
      by_cases z : K < xs.length
      · refine absurd (show rootP xs (1 + (K - 1)) from ?_) (hn (K - 1) (List.mem_range.mpr (by omega)))
        rw [show 1 + (K - 1) = K by omega]
        exact ⟨hK.dvd, hK.per⟩
      · omega
    rw [e, obind_next, e2, List.take_length]
    simp
def fTrueLen (a b : Nat) : FDef := ⟨2, 2, [(.ex (.call a [(.v 0), (.v 1)])), (.ret (.bi .len [(.call b [(.v 1)])]))]⟩
abbrev STrueLen (C : Sem) (g : Nat) : Prop := ∀ (s : Int) (xs : List Int) (h : IH), Rg s xs → ∃ K : Nat, IsTrue xs K ∧ C.call g [.d (.int s), .d (tupI xs)] h = .ok (.d (.int (K : Int))) h
theorem trueLen_ok {a b : Nat} (hf : P.defs[g]? = some (fTrueLen a b)) (c0 : SSRing (sem P n) a) (c1 : SRoot (sem P n) b) : STrueLen (sem P (n + 1)) g := by
  intro s xs h rg
  obtain ⟨K, hK, e⟩ := c1 xs h rg.one (by have := rg.most; omega)
  refine ⟨K, hK, callD hf (env := [some (.d (.int s)), some (.d (tupI xs))]) rfl rfl ?_⟩
  have hl : (xs.take K).length = K := by rw [List.length_take]; have := hK.hi; omega
  unfold fTrueLen
  simp [c0 s xs h rg, e]
  have := hK.hi
  omega
def fLTrue : FDef := ⟨1, 2, [(.ret (.ix (.lc .range2 [(.c (.int 1)), (.bin .Add (.bi .len [(.v 0)]) (.c (.int 1)))] (.one 1) (.cmp .Eq (.bin .Add (.sl (.v 0) (.v 1) .nop) (.sl (.v 0) .nop (.v 1))) (.v 0)) (.v 1)) (.c (.int 0))))]⟩
abbrev SLTrue (C : Sem) (g : Nat) : Prop := ∀ (xs : List Int) (h : IH), 1 ≤ xs.length → xs.length ≤ 1000 → ∃ K : Nat, IsTrue xs K ∧ C.call g [.d (tupI xs)] h = .ok (.d (.int (K : Int))) h
theorem ltrue_ok (hf : P.defs[g]? = some fLTrue) : SLTrue (sem P (n + 1)) g := by
  classical
  intro xs h h1 h2
  have key := lc_filter (C := sem P n) (env := [some (.d (tupI xs)), none]) (k := .range2) (its := [(.c (.int 1)), (.bin .Add (.bi .len [(.v 0)]) (.c (.int 1)))]) (tg := .one 1) (cond := (.cmp .Eq (.bin .Add (.sl (.v 0) (.v 1) .nop) (.sl (.v 0) .nop (.v 1))) (.v 0))) (elt := .v 1) (h := h) (vs := [.d (.int 1), .d (.int ((xs.length + 1 : Nat) : Int))]) (ds := [.int ((1 : Nat) : Int), .int ((xs.length + 1 : Nat) : Int)]) (ts := List.range (xs.length + 1 - 1)) (fun (t : Nat) => PyData.int ((1 + t : Nat) : Int)) (fun (t : Nat) => PyData.int ((1 + t : Nat) : Int)) (fun t => decide (per xs (1 + t))) (by simp) (by simp) (itemsR2 (by omega) (by omega)) (by rw [List.length_range]; omega) fun t ht h' => ⟨[some (.d (tupI xs)), some (.d (.int ((1 + t : Nat) : Int)))], rfl, by
      have ht := List.mem_range.mp ht
      have z := rot_iff (xs := xs) (k := 1 + t) (by omega) h1
      simp -implicitDefEqProofs only [q_cnd_cmp, q_cmp, q_bin, q_sl, q_v, q_get0, q_getS, q_ofO, bind_ok, q_prt_nop, q_prt_v, partOf, q_dat, slI_to, slI_from, Option.map, addI (xs := xs.drop (1 + t)) (ys := xs.take (1 + t)) (by rw [List.length_drop, List.length_take]; omega), eq_tupI, q_truth_b]
      congr 2
      exact propext z, fun _ => by simp⟩
  have hne : (List.range (xs.length + 1 - 1)).filter (fun t => decide (per xs (1 + t))) ≠ [] := fun e => by
    have := List.filter_eq_nil_iff.mp e (xs.length - 1) (List.mem_range.mpr (by omega))
    rw [show 1 + (xs.length - 1) = xs.length by omega] at this
    exact this (decide_eq_true (per_len xs))
  cases hc : (List.range (xs.length + 1 - 1)).filter (fun t => decide (per xs (1 + t))) with
  | nil => exact absurd hc hne
  | cons t r =>
    obtain ⟨l1, l2, hs, hn, hp, _⟩ := List.filter_eq_cons_iff.mp hc
    obtain ⟨t1, t2, t3⟩ := range_split hs
    refine ⟨1 + t, ⟨by omega, by omega, of_decide_eq_true hp, fun j j1 j2 jp => ?_⟩, callD hf (env := [some (.d (tupI xs)), none]) rfl rfl ?_⟩
    · have := hn (j - 1) (t3 _ (by omega))
      rw [show 1 + (j - 1) = j by omega] at this
      exact this (decide_eq_true jp)
    · unfold fLTrue
      rw [hc] at key
      rw [q_exs1, q_ret, q_ix, key]
      simp [ixD, atD, plc]
end
end RR.Q

-- RQ18
set_option maxHeartbeats 1000000
/-! Rings side by side. -/
namespace RR.Q
open PySem
section
variable {P : Prog} {n g : Nat}
def fIsRing (a b : Nat) : FDef := ⟨3, 3, [(.ret (.and_ (.call a [(.v 1), (.c (.int 1)), (.v 2)]) (.isN true (.call b [(.v 0), (.v 1)]))))]⟩
abbrev SIsRing (C : Sem) (g : Nat) : Prop := ∀ (s m : Int) (xs : List Int) (h : IH), Mk s xs → 1 ≤ xs.length → (xs.length : Int) ≤ m → C.call g [.d (.int s), .d (tupI xs), .d (.int m)] h = .ok (.d (.bool true)) h
theorem isRing_ok {a b : Nat} (hf : P.defs[g]? = some (fIsRing a b)) (c0 : SRow (sem P n) a) (c1 : SWrong (sem P n) b) : SIsRing (sem P (n + 1)) g := by
  intro s m xs h hm h1 h2
  refine callD hf (env := [some (.d (.int s)), some (.d (tupI xs)), some (.d (.int m))]) rfl rfl ?_
  have e0 := c0 (tupI xs) 1 m h rfl
  have e1 : (sem P n).call b [.d (.int s), .d (tupI xs)] h = _ := c1 s (xs.map .int) h (nodictI xs)
  rw [wrong_none hm] at e1
  rw [show tlen (tupI xs) 1 m = true from tlen_yes (by rw [List.length_map]; omega) (by rw [List.length_map]; exact h2)] at e0
  unfold fIsRing
  simp [e0, e1, optI]
@[simp] theorem q_callD (C : Sem) (env : Env) (h : IH) (g : Nat) (es : List IE) (ks : List Int) : ev C env (.callD g es ks) h = (evs C env es h).bind fun xs h1 => C.call g (xs ++ ks.map fun i => .d (.int i)) h1 := by
  rw [ev] <;> rfl
def lRing (c : Nat) : LDef := ⟨1, 2, (.callD c [(.v 0), (.v 1)] [32])⟩
abbrev SLRing (C : Sem) (g : Nat) : Prop := ∀ (s : Int) (xs : List Int) (y : D) (h : IH), Mk s xs → 1 ≤ xs.length → xs.length ≤ 32 → C.lam g [.int s] [tupI xs, y] h = .ok (.d (.bool true)) h
theorem lring_ok {c : Nat} (hf : P.lams[g]? = some (lRing c)) (c0 : SIsRing (sem P n) c) : SLRing (sem P (n + 1)) g := by
  intro s xs y h hm h1 h2
  rw [lamP hf]
  simp [lRing, c0 s 32 xs h hm h1 (by omega)]
/-- rings side by side -/
structure Rgs (s : Int) (rs : List (List Int)) : Prop where
  lo : 2 ≤ s
  hi : s ≤ 4
  all : ∀ xs ∈ rs, Mk s xs ∧ 1 ≤ xs.length ∧ xs.length ≤ 32
  one : 1 ≤ rs.length
  most : rs.length ≤ 4
def ringsD (rs : List (List Int)) : D := .tuple (rs.map tupI)
abbrev SWrongR (C : Sem) (g : Nat) : Prop := ∀ (s : Int) (rs : List (List Int)) (h : IH), (∀ xs ∈ rs, Mk s xs ∧ 1 ≤ xs.length ∧ xs.length ≤ 32) → C.call g [.d (.int s), .d (ringsD rs)] h = .ok (.d .none) h
theorem wrongR_ok {c l : Nat} (hf : P.defs[g]? = some (fWrong c l)) (c0 : SFirst (sem P (n + 1)) (sem P n) c) (c1 : SLRing (sem P n) l) : SWrongR (sem P (n + 2)) g := by
  intro s rs h hr
  refine callD hf (env := [some (.d (.int s)), some (.d (ringsD rs))]) rfl rfl ?_
  have e := c0 (fun _ => true) (rs.map tupI) l [.int s] h fun x hx y => by
    obtain ⟨xs, hxs, rfl⟩ := List.mem_map.mp hx
    obtain ⟨h1, h2, h3⟩ := hr xs hxs
    exact c1 s xs y h h1 h2 h3
  rw [fstW_none (fun _ _ => rfl)] at e
  unfold fWrong
  simp [capsOf, ringsD, e, optI]
def fChkRings (a b c : Nat) (r q : IS) : FDef := ⟨2, 3, [(.ex (.call a [(.v 0)])), (.ite (.nt (.call b [(.v 1), (.c (.int 1)), (.c (.int 4))])) [r] []), (.set 2 (.call c [(.v 0), (.v 1)])), (.ite (.isN false (.v 2)) [q] [])]⟩
abbrev SChkRings (C : Sem) (g : Nat) : Prop := ∀ (s : Int) (rs : List (List Int)) (h : IH), Rgs s rs → C.call g [.d (.int s), .d (ringsD rs)] h = .ok (.d .none) h
theorem chkRings_ok {a b c : Nat} {r q : IS} (hf : P.defs[g]? = some (fChkRings a b c r q)) (c0 : SChk 2 4 (sem P n) a) (c1 : SRow (sem P n) b) (c2 : SWrongR (sem P n) c) : SChkRings (sem P (n + 1)) g := by
  intro s rs h rg
  have e1 := c1 (ringsD rs) 1 4 h rfl
  have o := rg.one
  have m := rg.most
  rw [show tlen (ringsD rs) 1 4 = true from tlen_yes (by rw [List.length_map]; omega) (by rw [List.length_map]; omega)] at e1
  rw [callP hf]
  simp [fChkRings, begin_, c0 s h rg.lo rg.hi, e1, c2 s rs h rg.all]
/-- what is shown at a step -/
def shownD (rs : List (List Int)) (w step : Nat) : D := .tuple (rs.map fun xs => tupI (win xs (step % xs.length) w))
def fShownBy (c : Nat) : FDef := ⟨3, 4, [(.ret (.bi .tuple [(.lc .val [(.v 0)] (.one 3) .nop (.call c [(.v 3), (.bin .Mod (.v 2) (.bi .len [(.v 3)])), (.v 1)]))]))]⟩
abbrev SShownBy (C : Sem) (g : Nat) : Prop := ∀ (rs : List (List Int)) (w step : Nat) (h : IH), (∀ xs ∈ rs, 1 ≤ xs.length) → rs.length ≤ 1000 → w ≤ 1000 → C.call g [.d (ringsD rs), .d (.int w), .d (.int step)] h = .ok (.d (shownD rs w step)) h
theorem shownBy_ok {c : Nat} (hf : P.defs[g]? = some (fShownBy c)) (c0 : SWin (sem P n) c) : SShownBy (sem P (n + 1)) g := by
  intro rs w step h hr hl hw
  have key := lc_map (C := sem P n) (env := [some (.d (ringsD rs)), some (.d (.int w)), some (.d (.int step)), none]) (k := .val) (its := [(.v 0)]) (tg := .one 3) (elt := (.call c [(.v 3), (.bin .Mod (.v 2) (.bi .len [(.v 3)])), (.v 1)])) (h := h) (vs := [.d (ringsD rs)]) (ds := [ringsD rs]) (ts := rs) tupI (fun xs => tupI (win xs (step % xs.length) w)) (by simp) (by simp) rfl (by omega) fun xs hx h' => ⟨[some (.d (ringsD rs)), some (.d (.int w)), some (.d (.int step)), some (.d (tupI xs))], rfl, by
      have h1 := hr xs hx
      simp -implicitDefEqProofs only [q_call, q_cons, q_nil, q_v, q_get0, q_getS, q_ofO, bind_ok, q_bin, lenI_ev (C := sem P n) (env := [some (.d (ringsD rs)), some (.d (.int w)), some (.d (.int step)), some (.d (tupI xs))]) (a := 3) h' rfl, modI (i := step) (j := xs.length) h1, Option.map, c0 xs (step % xs.length) w h' h1 hw]⟩
  refine callD hf (env := [some (.d (ringsD rs)), some (.d (.int w)), some (.d (.int step)), none]) rfl rfl ?_
  unfold fShownBy
  rw [q_exs1, q_ret, q_bi, q_cons, key]
  simp -implicitDefEqProofs only [bind_ok, q_nil, q_biP1, q_dat, Option.map, q_btp1, q_ofO, then_ok, obind_ret]
  rfl
def fShown (a b c d : Nat) (r : IS) : FDef := ⟨4, 4, [(.ex (.call a [(.v 0), (.v 1)])), (.ex (.call b [(.v 2)])), (.ite (.nt (.call c [(.v 3), (.c (.int 0)), (.c (.int 999999))])) [r] []), (.ret (.call d [(.v 1), (.v 2), (.v 3)]))]⟩
abbrev SShown (C : Sem) (g : Nat) : Prop := ∀ (s : Int) (rs : List (List Int)) (w step : Nat) (h : IH), Rgs s rs → 1 ≤ w → w ≤ 6 → step ≤ 999999 → C.call g [.d (.int s), .d (ringsD rs), .d (.int w), .d (.int step)] h = .ok (.d (shownD rs w step)) h
theorem shown_ok {a b c d : Nat} {r : IS} (hf : P.defs[g]? = some (fShown a b c d r)) (c0 : SChkRings (sem P n) a) (c1 : SChk 1 6 (sem P n) b) (c2 : SBtw (sem P n) c) (c3 : SShownBy (sem P n) d) : SShown (sem P (n + 1)) g := by
  intro s rs w step h rg w1 w6 st
  refine callD hf (env := [some (.d (.int s)), some (.d (ringsD rs)), some (.d (.int w)), some (.d (.int step))]) rfl rfl ?_
  have e2 := c2 (.int step) 0 999999 h rfl
  rw [btw_yes (by omega) (by omega)] at e2
  have m := rg.most
  unfold fShown
  simp [c0 s rs h rg, c1 w h (by omega) (by omega), e2, c3 rs w step h (fun xs hx => (rg.all xs hx).2.1) (by omega) (by omega)]
theorem shown_sd (rs : List (List Int)) (w step : Nat) (s : Int) (hs : s ≤ 4) (hr : ∀ xs ∈ rs, Mk s xs ∧ 1 ≤ xs.length) (hl : rs.length ≤ 10) (hw : w ≤ 6) : SD 10000 3 (shownD rs w step) := by
  unfold shownD
  refine (SD.tup (L := 200) (d := 2) fun x hx => ?_).up (by simp; omega) (by omega)
  obtain ⟨xs, hxs, rfl⟩ := List.mem_map.mp hx
  unfold tupI
  refine (SD.tup (L := 10) (d := 0) fun y hy => ?_).up (by rw [List.length_map, win_length]; omega) (by omega)
  obtain ⟨i, hi, rfl⟩ := List.mem_map.mp hy
  have := win_mk (hr xs hxs).2 (hr xs hxs).1 _ _ i hi
  exact SD.int (by omega)
end
end RR.Q

-- RQ19
set_option maxHeartbeats 1000000
/-! Rings turned, from behind, with marks exchanged. -/
namespace RR.Q
open PySem
theorem win_ext {xs ys : List Int} {p q w : Nat} (h : ∀ t, t < w → at_ xs (p + t) = at_ ys (q + t)) : win xs p w = win ys q w := by
  unfold win
  apply List.map_congr_left
  intro t ht
  exact h t (List.mem_range.mp ht)
theorem win_at {xs : List Int} {p w t : Nat} (h : t < w) : (win xs p w)[t]? = some (at_ xs (p + t)) := by
  unfold win
  rw [List.getElem?_map, List.getElem?_range h]
  rfl
theorem win_rev_at {xs : List Int} {q w t : Nat} (h : t < w) : (win xs q w).reverse[t]? = some (at_ xs (q + (w - 1 - t))) := by
  rw [List.getElem?_reverse (by rw [win_length]; exact h), win_length, win_at (by omega)]
theorem win_eq_at {xs ys : List Int} {p q w : Nat} (h : win xs p w = win ys q w) {t : Nat} (ht : t < w) : at_ xs (p + t) = at_ ys (q + t) := by
  have e := win_at (xs := xs) (p := p) ht
  rw [h, win_at ht] at e
  exact (Option.some.inj e).symm
theorem win_eqR_at {xs ys : List Int} {p q w : Nat} (h : win xs p w = (win ys q w).reverse) {t : Nat} (ht : t < w) : at_ xs (p + t) = at_ ys (q + (w - 1 - t)) := by
  have e := win_at (xs := xs) (p := p) ht
  rw [h, win_rev_at ht] at e
  exact (Option.some.inj e).symm
theorem win_extR {xs ys : List Int} {p q w : Nat} (h : ∀ t, t < w → at_ xs (p + t) = at_ ys (q + (w - 1 - t))) : win xs p w = (win ys q w).reverse := by
  apply List.ext_getElem?
  intro t
  by_cases ht : t < w
  · rw [win_at ht, win_rev_at ht, h t ht]
  · rw [List.getElem?_eq_none (by rw [win_length]; omega), List.getElem?_eq_none (by rw [List.length_reverse, win_length]; omega)]
theorem win_mod (xs : List Int) (p w : Nat) : win xs (p % xs.length) w = win xs p w := win_ext fun t _ => at_congr (by rw [Nat.mod_add_mod])
/-- no two places with the same window -/
def tellsP (xs : List Int) (w : Nat) : Prop := ∀ a b, win xs a w = win xs b w → a % xs.length = b % xs.length
/-- no window is one from behind -/
def noRev (xs : List Int) (w : Nat) : Prop := ∀ a b, win xs a w ≠ (win xs b w).reverse
theorem wayE_iff {xs : List Int} {w : Nat} (h1 : 1 ≤ xs.length) : wayE xs w ↔ tellsP xs w ∧ noRev xs w := by
  have hm : ∀ a, a % xs.length < xs.length := fun a => Nat.mod_lt _ (by omega)
  constructor
  · intro h
    constructor
    · intro a b e
      rw [← win_mod, ← win_mod xs b] at e
      by_cases q : a % xs.length = b % xs.length
      · exact q
      · by_cases q2 : a % xs.length ≤ b % xs.length
        · exact absurd (.inr ⟨q, e⟩) (h _ _ q2 (hm b))
        · exact absurd (.inr ⟨fun z => q z.symm, e.symm⟩) (h _ _ (by omega) (hm a))
    · intro a b e
      rw [← win_mod, ← win_mod xs b] at e
      by_cases q2 : a % xs.length ≤ b % xs.length
      · exact h _ _ q2 (hm b) (.inl e)
      · exact h (b % xs.length) (a % xs.length) (by omega) (hm a) (.inl (by rw [e, List.reverse_reverse]))
  · rintro ⟨h1, h2⟩ a b hab hb hp
    rcases hp with e | ⟨hne, e⟩
    · exact h2 a b e
    · have := h1 a b e
      rw [Nat.mod_eq_of_lt (by omega), Nat.mod_eq_of_lt hb] at this
      exact hne this
/-- wider windows tell, too -/
theorem wayE_succ {xs : List Int} {w : Nat} (h1 : 1 ≤ xs.length) (h : wayE xs w) : wayE xs (w + 1) := by
  rw [wayE_iff h1] at h ⊢
  refine ⟨fun a b e => h.1 a b (win_ext fun t ht => win_eq_at e (by omega)), fun a b e => h.2 a (b + 1) (win_extR fun t ht => ?_)⟩
  rw [win_eqR_at e (t := t) (by omega)]
  congr 1
  omega
/-! ### turned -/
theorem at_rot {xs : List Int} {k : Nat} (hk : k ≤ xs.length) (h1 : 1 ≤ xs.length) (i : Nat) : at_ (xs.drop k ++ xs.take k) i = at_ xs (i + k) := by
  have hl : (xs.drop k ++ xs.take k).length = xs.length := by simp; omega
  have hm : i % xs.length < xs.length := Nat.mod_lt _ (by omega)
  have e : (xs.drop k ++ xs.take k)[i % xs.length]? = some (at_ xs (i % xs.length + k)) := by
    by_cases h : i % xs.length < xs.length - k
    · rw [List.getElem?_append_left (by rw [List.length_drop]; exact h), List.getElem?_drop, at_lt (by omega), Nat.add_comm]
    · rw [List.getElem?_append_right (by rw [List.length_drop]; omega), List.length_drop, List.getElem?_take_of_lt (by omega), at_lt (by omega)]
      refine congrArg some (at_congr ?_)
      rw [show i % xs.length + k = (i % xs.length - (xs.length - k)) + xs.length by omega, Nat.add_mod_right]
  rw [← at_mod, hl]
  have e2 := at_lt (xs := xs.drop k ++ xs.take k) (i := i % xs.length) (by rw [hl]; exact hm)
  rw [e] at e2
  rw [← Option.some.inj e2]
  exact at_congr (by rw [Nat.mod_add_mod])
theorem win_rot {xs : List Int} {k : Nat} (hk : k ≤ xs.length) (h1 : 1 ≤ xs.length) (p w : Nat) : win (xs.drop k ++ xs.take k) p w = win xs (p + k) w := win_ext fun t _ => by
  rw [at_rot hk h1]
  congr 1
  omega
theorem modc {n x y z : Nat} (h1 : n ∣ x + z) (h2 : n ∣ y + z) : x % n = y % n := by
  obtain ⟨a, ha⟩ := h1
  obtain ⟨b, hb⟩ := h2
  by_cases h : x ≤ y
  · have hab : a ≤ b ∨ n = 0 := by
      by_cases hn : n = 0
      · exact .inr hn
      · refine .inl (Nat.le_of_mul_le_mul_left (show n * a ≤ n * b by omega) (by omega))
    rcases hab with hab | rfl
    · have : y = x + n * (b - a) := by rw [Nat.mul_sub]; omega
      rw [this, Nat.add_mul_mod_self_left]
    · simp at ha hb
      omega
  · have hab : b ≤ a ∨ n = 0 := by
      by_cases hn : n = 0
      · exact .inr hn
      · refine .inl (Nat.le_of_mul_le_mul_left (show n * b ≤ n * a by omega) (by omega))
    rcases hab with hab | rfl
    · have : x = y + n * (a - b) := by rw [Nat.mul_sub]; omega
      rw [this, Nat.add_mul_mod_self_left]
    · simp at ha hb
      omega
/-- a number that brings another round -/
theorem round_up {n : Nat} (h : 1 ≤ n) (k : Nat) : n ∣ k + k * (n - 1) := by
  refine ⟨k, ?_⟩
  rw [show k + k * (n - 1) = k * (n - 1) + k by omega, ← Nat.mul_succ, Nat.mul_comm]
  congr 1
  omega
theorem mod_cancel {n a b k : Nat} (h : 1 ≤ n) (e : (a + k) % n = (b + k) % n) : a % n = b % n := by
  have r := round_up h (a + k)
  refine modc (z := k + (a + k) * (n - 1)) (by rw [← Nat.add_assoc]; exact r) ?_
  rw [← Nat.add_assoc]
  apply Nat.dvd_of_mod_eq_zero
  rw [Nat.add_mod, ← e, ← Nat.add_mod]
  exact Nat.mod_eq_zero_of_dvd r
theorem wayE_rot {xs : List Int} {k : Nat} (hk : k ≤ xs.length) (h1 : 1 ≤ xs.length) (w : Nat) : wayE (xs.drop k ++ xs.take k) w ↔ wayE xs w := by
  have hl : (xs.drop k ++ xs.take k).length = xs.length := by simp; omega
  rw [wayE_iff (by omega), wayE_iff h1]
  have back : ∀ a, win xs a w = win (xs.drop k ++ xs.take k) (a + k * (xs.length - 1)) w := fun a => by
    rw [win_rot hk h1, ← win_mod, ← win_mod xs (a + k * (xs.length - 1) + k)]
    obtain ⟨c, hc⟩ := round_up h1 k
    rw [show a + k * (xs.length - 1) + k = a + (k + k * (xs.length - 1)) by omega, hc, Nat.add_mul_mod_self_left]
  constructor
  · rintro ⟨t, r⟩
    refine ⟨fun a b e => ?_, fun a b e => ?_⟩
    · rw [back a, back b] at e
      have := t _ _ e
      rw [hl] at this
      exact mod_cancel h1 this
    · rw [back a, back b] at e
      exact r _ _ e
  · rintro ⟨t, r⟩
    refine ⟨fun a b e => ?_, fun a b e => ?_⟩
    · rw [win_rot hk h1, win_rot hk h1] at e
      rw [hl]
      exact mod_cancel h1 (t _ _ e)
    · rw [win_rot hk h1, win_rot hk h1] at e
      exact r _ _ e
/-! ### from behind -/
theorem at_back {xs : List Int} {i j : Nat} (h1 : 1 ≤ xs.length) (h : xs.length ∣ i + j + 1) : at_ xs.reverse i = at_ xs j := by
  have hm : i % xs.length < xs.length := Nat.mod_lt _ (by omega)
  have e := at_lt (xs := xs.reverse) (i := i % xs.length) (by rw [List.length_reverse]; exact hm)
  rw [List.getElem?_reverse hm, at_lt (by omega)] at e
  rw [← at_mod, List.length_reverse, ← Option.some.inj e]
  refine at_congr (modc (z := i + 1) ?_ (by rw [show j + (i + 1) = i + j + 1 by omega]; exact h))
  have := Nat.mod_add_div i xs.length
  refine ⟨1 + i / xs.length, ?_⟩
  rw [Nat.mul_add, Nat.mul_one]
  omega
theorem win_back {xs : List Int} {p q w : Nat} (h1 : 1 ≤ xs.length) (h : xs.length ∣ p + q + w) : win xs.reverse p w = (win xs q w).reverse := win_extR fun t ht => at_back h1 (by rw [show p + t + (q + (w - 1 - t)) + 1 = p + q + w by omega]; exact h)
theorem back_place {n : Nat} (h : 1 ≤ n) (p w : Nat) : ∃ q, n ∣ p + q + w := ⟨(p + w) * (n - 1), by
  rw [show p + (p + w) * (n - 1) + w = (p + w) + (p + w) * (n - 1) by omega]
  exact round_up h _⟩
theorem wayE_back1 {xs : List Int} (h1 : 1 ≤ xs.length) {w : Nat} (h : wayE xs w) : wayE xs.reverse w := by
  rw [wayE_iff (by simpa using h1)]
  obtain ⟨t, r⟩ := (wayE_iff h1).mp h
  refine ⟨fun a b e => ?_, fun a b e => ?_⟩
  · obtain ⟨qa, ha⟩ := back_place h1 a w
    obtain ⟨qb, hb⟩ := back_place h1 b w
    rw [win_back h1 ha, win_back h1 hb] at e
    have z := t _ _ (List.reverse_inj.mp e)
    rw [List.length_reverse]
    refine modc (z := qa + w) (by rw [← Nat.add_assoc]; exact ha) ?_
    rw [← Nat.add_assoc]
    apply Nat.dvd_of_mod_eq_zero
    have hb' := Nat.mod_eq_zero_of_dvd hb
    rw [show b + qb + w = qb + (b + w) by omega, Nat.add_mod, ← z, ← Nat.add_mod] at hb'
    rw [show b + qa + w = qa + (b + w) by omega]
    exact hb'
  · obtain ⟨qa, ha⟩ := back_place h1 a w
    obtain ⟨qb, hb⟩ := back_place h1 b w
    rw [win_back h1 ha, win_back h1 hb, List.reverse_reverse] at e
    exact r qb qa e.symm
theorem wayE_back {xs : List Int} (h1 : 1 ≤ xs.length) (w : Nat) : wayE xs.reverse w ↔ wayE xs w := ⟨fun h => by
  have := wayE_back1 (by simpa using h1) h
  rwa [List.reverse_reverse] at this, wayE_back1 h1⟩
/-! ### marks exchanged -/
theorem at_map {f : Int → Int} {xs : List Int} (h1 : 1 ≤ xs.length) (i : Nat) : at_ (xs.map f) i = f (at_ xs i) := by
  have hm : i % xs.length < xs.length := Nat.mod_lt _ (by omega)
  have e := at_lt (xs := xs.map f) (i := i % xs.length) (by simpa using hm)
  rw [List.getElem?_map, at_lt hm] at e
  have e2 := Option.some.inj e
  rw [at_mod] at e2
  rw [← at_mod, List.length_map]
  exact e2.symm
theorem wayE_map {f : Int → Int} (hf : ∀ x y, f x = f y → x = y) {xs : List Int} (h1 : 1 ≤ xs.length) (w : Nat) : wayE (xs.map f) w ↔ wayE xs w := by
  rw [wayE_iff (by simpa using h1), wayE_iff h1]
  constructor
  · rintro ⟨t, r⟩
    refine ⟨fun a b e => ?_, fun a b e => ?_⟩
    · have := t a b (win_ext fun t ht => by rw [at_map h1, at_map h1, win_eq_at e ht])
      rwa [List.length_map] at this
    · exact r a b (win_extR fun t ht => by rw [at_map h1, at_map h1, win_eqR_at e ht])
  · rintro ⟨t, r⟩
    refine ⟨fun a b e => ?_, fun a b e => ?_⟩
    · rw [List.length_map]
      exact t a b (win_ext fun t ht => by
        have := win_eq_at e ht
        rw [at_map h1, at_map h1] at this
        exact hf _ _ this)
    · exact r a b (win_extR fun t ht => by
        have := win_eqR_at e ht
        rw [at_map h1, at_map h1] at this
        exact hf _ _ this)
/-- a turn of the ring is none of it from behind -/
theorem turns_differ {xs : List Int} (h1 : 1 ≤ xs.length) {w k j : Nat} (h : wayE xs w) (hk : k ≤ xs.length) (hj : j ≤ xs.length) : xs.drop k ++ xs.take k ≠ xs.reverse.drop j ++ xs.reverse.take j := fun e => by
  obtain ⟨t, r⟩ := (wayE_iff h1).mp h
  have e1 := win_rot hk h1 0 w
  rw [e, win_rot (by simpa using hj) (by simpa using h1)] at e1
  obtain ⟨q, hq⟩ := back_place h1 (0 + j) w
  rw [win_back h1 hq] at e1
  exact r _ _ e1.symm
theorem apart_zero : ∀ {xs ys : List Int}, xs.length = ys.length → (apart xs ys = 0 ↔ xs = ys)
  | [], [], _ => by simp [apart]
  | a :: r, b :: t, h => by
    have ih := apart_zero (xs := r) (ys := t) (by simpa using h)
    simp only [apart]
    by_cases e : a = b
    · simp [e, ih]
    · simp [e]
/-- the one place for an own window -/
theorem near_own {xs : List Int} {w a : Nat} (h1 : 1 ≤ xs.length) (ha : a < xs.length) (h : wayE xs w) : near xs (win xs a w) 0 = [.int (a : Int)] := by
  obtain ⟨t, r⟩ := (wayE_iff h1).mp h
  unfold near
  rw [win_length]
  have e : (List.range xs.length).filter (fun t => decide ((apart (win xs t w) (win xs a w) : Int) ≤ 0)) = [a] := by
    have hp : ∀ b, b ∈ List.range xs.length → (decide ((apart (win xs b w) (win xs a w) : Int) ≤ 0)) = (b == a) := fun b hb => by
      have hb := List.mem_range.mp hb
      by_cases e : b = a
      · subst e
        have := (apart_zero (xs := win xs b w) (ys := win xs b w) rfl).mpr rfl
        simp [this]
      · have hne : apart (win xs b w) (win xs a w) ≠ 0 := fun z => by
          have := t b a ((apart_zero (by rw [win_length, win_length])).mp z)
          rw [Nat.mod_eq_of_lt hb, Nat.mod_eq_of_lt ha] at this
          exact e this
        have : ¬ ((apart (win xs b w) (win xs a w) : Int) ≤ 0) := by omega
        rw [decide_eq_false this]
        simp [e]
    rw [List.filter_congr hp, List.filter_beq]
    simp [List.count_range, ha]
  rw [e]
  rfl
theorem near_none {xs : List Int} {w a : Nat} (h1 : 1 ≤ xs.length) (h : wayE xs w) : near xs.reverse (win xs a w) 0 = [] := by
  obtain ⟨t, r⟩ := (wayE_iff h1).mp h
  unfold near
  rw [win_length]
  have e : (List.range xs.reverse.length).filter (fun t => decide ((apart (win xs.reverse t w) (win xs a w) : Int) ≤ 0)) = [] := by
    apply List.filter_eq_nil_iff.mpr
    intro b _ hb
    have hb := of_decide_eq_true hb
    have z : apart (win xs.reverse b w) (win xs a w) = 0 := by omega
    have e := (apart_zero (by rw [win_length, win_length])).mp z
    obtain ⟨q, hq⟩ := back_place h1 b w
    rw [win_back h1 hq] at e
    exact r _ _ e.symm
  rw [e]
  rfl
end RR.Q

-- RQ20
set_option maxHeartbeats 1000000
/-! Telling rings, windows asked for, least turns. -/
namespace RR.Q
open PySem
section
variable {P : Prog} {n g : Nat}
/-- windows no two of which are alike -/
def unlike (L : List (List Int)) : Prop := ∀ a b, a < b → b < L.length → L[a]? ≠ L[b]?
def fFirstTwice : FDef := ⟨1, 5, [(.for_ .enum [(.v 0)] (.tup [1, 2]) [(.set 3 (.lc .range2 [(.bin .Add (.v 1) (.c (.int 1))), (.bi .len [(.v 0)])] (.one 4) (.cmp .Eq (.ix (.v 0) (.v 4)) (.v 2)) (.v 4))), (.ite (.cmp .NotEq (.v 3) (.lst [])) [(.ret (.tup [(.v 1), (.ix (.v 3) (.c (.int 0)))]))] [])]), (.ret (.c .none))]⟩
abbrev SFirstTwice (C : Sem) (g : Nat) : Prop := ∀ (L : List (List Int)) (h : IH), L.length ≤ 1000 → ∃ r : D, C.call g [.d (.tuple (L.map tupI))] h = .ok (.d r) h ∧ ((r = .none ∧ unlike L) ∨ (isNone (.d r) = false ∧ ¬ unlike L))
theorem ne_nil (xs : List D) : cmpD .NotEq (.list xs) (.list []) = some (!xs.isEmpty) := by
  have : dep (.list []) = true := rfl
  simp only [cmpD, this, Bool.or_true, if_true, PyData.eqv]
  cases xs <;> simp [PyData.eqvAll]
theorem eq_nil (xs : List D) : cmpD .Eq (.list xs) (.list []) = some xs.isEmpty := by
  have : dep (.list []) = true := rfl
  simp only [cmpD, this, Bool.or_true, if_true, PyData.eqv]
  cases xs <;> simp [PyData.eqvAll]
theorem enum_map (L : List (List Int)) : enumD (L.map tupI) = (List.range L.length).map fun (t : Nat) => PyData.tuple [.int (t : Int), tupI (L.getD t [])] := by
  unfold enumD
  apply List.ext_getElem
  · simp
  · intro i h1 h2
    have hi : i < L.length := by simpa using h1
    simp [hi]
theorem firstTwice_ok (hf : P.defs[g]? = some fFirstTwice) : SFirstTwice (sem P (n + 1)) g := by
  intro L h hl
  have key := for_search (tg := .tup [1, 2]) (body := fun env h => exs (sem P n) P.wf env [(.set 3 (.lc .range2 [(.bin .Add (.v 1) (.c (.int 1))), (.bi .len [(.v 0)])] (.one 4) (.cmp .Eq (.ix (.v 0) (.v 4)) (.v 2)) (.v 4))), (.ite (.cmp .NotEq (.v 3) (.lst [])) [(.ret (.tup [(.v 1), (.ix (.v 3) (.c (.int 0)))]))] [])] h) (F := fun (t : Nat) => PyData.tuple [.int (t : Int), tupI (L.getD t [])]) (fun env => ∃ e1 e2 e3 e4, env = [some (.d (.tuple (L.map tupI))), e1, e2, e3, e4]) (fun a => ∀ b, a < b → b < L.length → L[a]? ≠ L[b]?) (fun a v => isNone (.d v) = false ∧ ∃ b, a < b ∧ b < L.length ∧ L[a]? = L[b]?) (h := h) (ts := List.range L.length) (env := [some (.d (.tuple (L.map tupI))), none, none, none, none]) ⟨_, _, _, _, rfl⟩ (by
    intro a ha env ⟨e1, e2, e3, e4, ee⟩
    subst ee
    have ha := List.mem_range.mp ha
    refine ⟨[some (.d (.tuple (L.map tupI))), some (.d (.int (a : Int))), some (.d (tupI (L.getD a []))), e3, e4], rfl, ?_⟩
    have k1 := lc_filter (C := sem P n) (env := [some (.d (.tuple (L.map tupI))), some (.d (.int (a : Int))), some (.d (tupI (L.getD a []))), e3, e4]) (k := .range2) (its := [(.bin .Add (.v 1) (.c (.int 1))), (.bi .len [(.v 0)])]) (tg := .one 4) (cond := (.cmp .Eq (.ix (.v 0) (.v 4)) (.v 2))) (elt := .v 4) (h := h) (vs := [.d (.int ((a + 1 : Nat) : Int)), .d (.int (L.length : Int))]) (ds := [.int ((a + 1 : Nat) : Int), .int (L.length : Int)]) (ts := List.range (L.length - (a + 1))) (fun (t : Nat) => PyData.int ((a + 1 + t : Nat) : Int)) (fun (t : Nat) => PyData.int ((a + 1 + t : Nat) : Int)) (fun t => decide (L.getD (a + 1 + t) [] = L.getD a [])) (by simp) (by simp) (itemsR2 (by omega) (by omega)) (by rw [List.length_range]; omega) fun t ht h' => ⟨[some (.d (.tuple (L.map tupI))), some (.d (.int (a : Int))), some (.d (tupI (L.getD a []))), e3, some (.d (.int ((a + 1 + t : Nat) : Int)))], rfl, by
        have ht := List.mem_range.mp ht
        have hix : ixD (.tuple (L.map tupI)) (.int ((a + 1 + t : Nat) : Int)) = some (tupI (L.getD (a + 1 + t) [])) := by
          show atD _ _ = _
          rw [at_nat (by rw [List.length_map]; omega)]
          have : a + 1 + t < L.length := by omega
          simp [this]
        simp -implicitDefEqProofs only [q_cnd_cmp, q_cmp, q_ix, q_v, q_get0, q_getS, q_ofO, bind_ok, q_dat, hix, Option.map, eq_tupI, q_truth_b], fun _ => by simp⟩
    have st1 := st_set (sem P n) [some (.d (.tuple (L.map tupI))), some (.d (.int (a : Int))), some (.d (tupI (L.getD a []))), e3, e4] h P.wf (env1 := [some (.d (.tuple (L.map tupI))), some (.d (.int (a : Int))), some (.d (tupI (L.getD a []))), some (.d (.list (((List.range (L.length - (a + 1))).filter fun t => decide (L.getD (a + 1 + t) [] = L.getD a [])).map fun (t : Nat) => PyData.int ((a + 1 + t : Nat) : Int)))), e4]) (i := 3) k1 rfl
    have getE : ∀ i, i < L.length → L[i]? = some (L.getD i []) := fun i hi => by
      rw [List.getD_eq_getElem?_getD, List.getElem?_eq_getElem hi]
      rfl
    cases hc : (List.range (L.length - (a + 1))).filter (fun t => decide (L.getD (a + 1 + t) [] = L.getD a [])) with
    | nil =>
      rw [hc] at st1
      refine .inr ⟨fun b hab hb e => ?_, [some (.d (.tuple (L.map tupI))), some (.d (.int (a : Int))), some (.d (tupI (L.getD a []))), some (.d (.list [])), e4], .inl ?_, _, _, _, _, rfl⟩
      · have z := List.filter_eq_nil_iff.mp hc (b - (a + 1)) (List.mem_range.mpr (by omega))
        rw [show a + 1 + (b - (a + 1)) = b by omega] at z
        rw [getE a ha, getE b hb] at e
        exact z (decide_eq_true (Option.some.inj e).symm)
      · rw [st1, q_exs1, q_ite]
        simp -implicitDefEqProofs only [q_cmp, q_v, q_get0, q_getS, q_ofO, bind_ok, q_lst, q_nil, q_dats0, List.length_nil, if_pos (q_lim 0 (by decide)), q_dat, ne_nil, Option.map, List.map_nil, List.isEmpty_nil, Bool.not_true, then_ok, q_truth_b, q_exs0, obind_next]
    | cons t r =>
      have hm : t ∈ (List.range (L.length - (a + 1))).filter (fun t => decide (L.getD (a + 1 + t) [] = L.getD a [])) := by rw [hc]; exact List.mem_cons_self
      obtain ⟨hm1, hm2⟩ := List.mem_filter.mp hm
      have hm1 := List.mem_range.mp hm1
      rw [hc] at st1
      have hix0 : ∀ ys : List D, ixD (.list (PyData.int ((a + 1 + t : Nat) : Int) :: ys)) (.int 0) = some (.int ((a + 1 + t : Nat) : Int)) := fun ys => at_nat (k := 0) (xs := PyData.int ((a + 1 + t : Nat) : Int) :: ys) (by simp)
      refine .inl ⟨.tuple [.int (a : Int), .int ((a + 1 + t : Nat) : Int)], ⟨rfl, a + 1 + t, by omega, by omega, ?_⟩, ?_⟩
      · rw [getE a ha, getE _ (by omega)]
        exact congrArg some (of_decide_eq_true hm2).symm
      · rw [st1, q_exs1, q_ite]
        simp -implicitDefEqProofs only [q_cmp, q_v, q_get0, q_getS, q_ofO, bind_ok, q_lst, q_nil, q_dats0, List.length_nil, if_pos (q_lim 0 (by decide)), q_dat, ne_nil, Option.map, List.map_cons, List.isEmpty_cons, Bool.not_false, then_ok, q_truth_b, q_exs1, q_ret, q_tup, q_cons, q_ix, q_c, hix0, q_dats1, List.length_cons, if_pos (q_lim 2 (by decide)), Nat.zero_add, Nat.reduceAdd, obind_ret])
  have ei : exs (sem P n) P.wf [some (.d (.tuple (L.map tupI))), none, none, none, none] fFirstTwice.body h = (forLoop (.tup [1, 2]) (fun env h => exs (sem P n) P.wf env [(.set 3 (.lc .range2 [(.bin .Add (.v 1) (.c (.int 1))), (.bi .len [(.v 0)])] (.one 4) (.cmp .Eq (.ix (.v 0) (.v 4)) (.v 2)) (.v 4))), (.ite (.cmp .NotEq (.v 3) (.lst [])) [(.ret (.tup [(.v 1), (.ix (.v 3) (.c (.int 0)))]))] [])] h) ((List.range L.length).map fun (t : Nat) => PyData.tuple [.int (t : Int), tupI (L.getD t [])]) [some (.d (.tuple (L.map tupI))), none, none, none, none] h).bind fun env1 h1 => exs (sem P n) P.wf env1 [(.ret (.c .none))] h1 := by
    unfold fFirstTwice
    rw [q_exs1, q_for]
    simp -implicitDefEqProofs only [q_cons, q_nil, q_v, q_get0, q_ofO, bind_ok, q_itr, q_dats1, q_dats0, Option.map, itemsD, enum_map, then_ok]
  rcases key with ⟨_, a, _, v, _, _, ⟨hv, b, hb, hb', hp⟩, e⟩ | ⟨hn, env', e, e1, e2, e3, e4, rfl⟩
  · exact ⟨v, callD hf (env := [some (.d (.tuple (L.map tupI))), none, none, none, none]) rfl rfl (by rw [ei, e, obind_ret]), .inr ⟨hv, fun z => z a b hb hb' hp⟩⟩
  · exact ⟨.none, callD hf (env := [some (.d (.tuple (L.map tupI))), none, none, none, none]) rfl rfl (by rw [ei, e, obind_next]; simp), .inl ⟨rfl, fun a b hab hb => hn a (List.mem_range.mpr (by omega)) b hab hb⟩⟩
theorem unlike_wins {xs : List Int} {w : Nat} (h1 : 1 ≤ xs.length) : unlike ((List.range xs.length).map fun p => win xs p w) ↔ tellsP xs w := by
  have hg : ∀ i, i < xs.length → ((List.range xs.length).map fun p => win xs p w)[i]? = some (win xs i w) := fun i hi => by
    rw [List.getElem?_map, List.getElem?_range hi]
    rfl
  have hl : ((List.range xs.length).map fun p => win xs p w).length = xs.length := by simp
  constructor
  · intro h a b e
    have ha : a % xs.length < xs.length := Nat.mod_lt _ (by omega)
    have hb : b % xs.length < xs.length := Nat.mod_lt _ (by omega)
    rw [← win_mod, ← win_mod xs b] at e
    by_cases q : a % xs.length < b % xs.length
    · exact absurd (by rw [hg _ ha, hg _ hb, e]) (h _ _ q (by rw [hl]; exact hb))
    · by_cases q2 : b % xs.length < a % xs.length
      · exact absurd (by rw [hg _ ha, hg _ hb, e]) (h _ _ q2 (by rw [hl]; exact ha))
      · omega
  · intro h a b hab hb e
    rw [hl] at hb
    rw [hg a (by omega), hg b hb] at e
    have := h a b (Option.some.inj e)
    rw [Nat.mod_eq_of_lt (by omega), Nat.mod_eq_of_lt hb] at this
    omega
def fGainsayBy (a b : Nat) : FDef := ⟨2, 2, [(.ret (.call a [(.call b [(.v 0), (.v 1)])]))]⟩
abbrev SGainsayBy (C : Sem) (g : Nat) : Prop := ∀ (xs : List Int) (w : Nat) (h : IH), 1 ≤ xs.length → xs.length ≤ 1000 → w ≤ 1000 → ∃ r : D, C.call g [.d (tupI xs), .d (.int w)] h = .ok (.d r) h ∧ ((r = .none ∧ tellsP xs w) ∨ (isNone (.d r) = false ∧ ¬ tellsP xs w))
theorem gainsayBy_ok {a b : Nat} (hf : P.defs[g]? = some (fGainsayBy a b)) (c0 : SFirstTwice (sem P n) a) (c1 : SWins (sem P n) b) : SGainsayBy (sem P (n + 1)) g := by
  intro xs w h h1 h2 hw
  obtain ⟨r, e, q⟩ := c0 ((List.range xs.length).map fun p => win xs p w) h (by simpa using h2)
  rw [unlike_wins h1] at q
  have ew : ((List.range xs.length).map fun p => win xs p w).map tupI = wins xs w := by
    unfold wins
    rw [List.map_map]
    rfl
  rw [ew] at e
  refine ⟨r, callD hf (env := [some (.d (tupI xs)), some (.d (.int w))]) rfl rfl ?_, q⟩
  unfold fGainsayBy
  simp [c1 xs w h h1 h2 hw, e]
def fTellsBy (a : Nat) : FDef := ⟨2, 2, [(.ret (.isN true (.call a [(.v 0), (.v 1)])))]⟩
open Classical in
abbrev STellsBy (C : Sem) (g : Nat) : Prop := ∀ (xs : List Int) (w : Nat) (h : IH), 1 ≤ xs.length → xs.length ≤ 1000 → w ≤ 1000 → C.call g [.d (tupI xs), .d (.int w)] h = .ok (.d (.bool (decide (tellsP xs w)))) h
theorem tellsBy_ok {a : Nat} (hf : P.defs[g]? = some (fTellsBy a)) (c0 : SGainsayBy (sem P n) a) : STellsBy (sem P (n + 1)) g := by
  intro xs w h h1 h2 hw
  obtain ⟨r, e, q⟩ := c0 xs w h h1 h2 hw
  refine callD hf (env := [some (.d (tupI xs)), some (.d (.int w))]) rfl rfl ?_
  unfold fTellsBy
  rcases q with ⟨rfl, q⟩ | ⟨hv, q⟩
  · simp [e, q]
  · simp [e, q, hv]
def fAsk (a b : Nat) : FDef := ⟨3, 3, [(.ex (.call a [(.v 0), (.v 1), (.v 2)])), (.ret (.call b [(.v 1), (.v 2)]))]⟩
abbrev SWindows (C : Sem) (g : Nat) : Prop := ∀ (s : Int) (w : Nat) (xs : List Int) (h : IH), Rg s xs → 1 ≤ w → w ≤ 6 → C.call g [.d (.int s), .d (tupI xs), .d (.int w)] h = .ok (.d (.tuple (wins xs w))) h
theorem windows_ok {a b : Nat} (hf : P.defs[g]? = some (fAsk a b)) (c0 : SRead (sem P n) a) (c1 : SWins (sem P n) b) : SWindows (sem P (n + 1)) g := by
  intro s w xs h r w1 w2
  refine callD hf (env := [some (.d (.int s)), some (.d (tupI xs)), some (.d (.int w))]) rfl rfl ?_
  have := r.most
  unfold fAsk
  simp [c0 s w xs h r (by omega) (by omega), c1 xs w h r.one (by omega) (by omega)]
open Classical in
abbrev STells (C : Sem) (g : Nat) : Prop := ∀ (s : Int) (w : Nat) (xs : List Int) (h : IH), Rg s xs → 1 ≤ w → w ≤ 6 → C.call g [.d (.int s), .d (tupI xs), .d (.int w)] h = .ok (.d (.bool (decide (tellsP xs w)))) h
theorem tells_ok {a b : Nat} (hf : P.defs[g]? = some (fAsk a b)) (c0 : SRead (sem P n) a) (c1 : STellsBy (sem P n) b) : STells (sem P (n + 1)) g := by
  intro s w xs h r w1 w2
  refine callD hf (env := [some (.d (.int s)), some (.d (tupI xs)), some (.d (.int w))]) rfl rfl ?_
  have := r.most
  unfold fAsk
  simp [c0 s w xs h r (by omega) (by omega), c1 xs w h r.one (by omega) (by omega)]
/-! ### least turns -/
theorem minD_mem : ∀ (r : List D) (x : D), PySem.W.minD x r ∈ x :: r
  | [], x => by simp [PySem.W.minD]
  | y :: r, x => by
    have e : PySem.W.minD x (y :: r) = PySem.W.minD (if PySem.W.dataLt y x then y else x) r := rfl
    rw [e]
    have ih := minD_mem r (if PySem.W.dataLt y x then y else x)
    rcases List.mem_cons.mp ih with h | h
    · rw [h]
      split <;> simp
    · exact List.mem_cons_of_mem _ (List.mem_cons_of_mem _ h)
theorem min_tups {L : List (List Int)} (h : 1 ≤ L.length) : ∃ m ∈ L, biD .min [.list (L.map tupI)] = some (tupI m) := by
  cases L with
  | nil => simp at h
  | cons x r =>
    have ht : tupsB ((x :: r).map tupI) = true := by
      unfold tupsB
      rw [List.all_eq_true]
      intro y hy
      obtain ⟨z, _, rfl⟩ := List.mem_map.mp hy
      unfold tupI
      simp [intsOf_map]
    have hm := minD_mem (r.map tupI) (tupI x)
    rw [← List.map_cons] at hm
    obtain ⟨m, hm, e⟩ := List.mem_map.mp hm
    refine ⟨m, hm, ?_⟩
    rw [e]
    rw [List.map_cons] at ht ⊢
    have hi : intsOf (tupI x :: r.map tupI) = none := rfl
    simp only [biD, hi, ht, if_true]
def fLeastTurnBy : FDef := ⟨1, 2, [(.ret (.bi .min [(.lc .range1 [(.bi .len [(.v 0)])] (.one 1) .nop (.bin .Add (.sl (.v 0) (.v 1) .nop) (.sl (.v 0) .nop (.v 1))))]))]⟩
abbrev SLeastTurnBy (C : Sem) (g : Nat) : Prop := ∀ (xs : List Int) (h : IH), 1 ≤ xs.length → xs.length ≤ 1000 → ∃ k, k < xs.length ∧ C.call g [.d (tupI xs)] h = .ok (.d (tupI (xs.drop k ++ xs.take k))) h
theorem leastTurnBy_ok (hf : P.defs[g]? = some fLeastTurnBy) : SLeastTurnBy (sem P (n + 1)) g := by
  intro xs h h1 h2
  have key := lc_range (C := sem P n) (env := [some (.d (tupI xs)), none]) (e := (.bi .len [(.v 0)])) (i := 1) (elt := (.bin .Add (.sl (.v 0) (.v 1) .nop) (.sl (.v 0) .nop (.v 1)))) (h := h) (fun k => tupI (xs.drop k ++ xs.take k)) (lenI_ev h rfl) (by omega) fun k hk h' _ => by
    simp -implicitDefEqProofs only [List.set, q_bin, q_sl, q_v, q_get0, q_getS, q_ofO, bind_ok, q_prt_nop, q_prt_v, partOf, q_dat, slI_to, slI_from, Option.map, addI (xs := xs.drop k) (ys := xs.take k) (by rw [List.length_drop, List.length_take]; omega)]
  obtain ⟨m, hm, e⟩ := min_tups (L := (List.range xs.length).map fun k => xs.drop k ++ xs.take k) (by simpa using h1)
  obtain ⟨k, hk, rfl⟩ := List.mem_map.mp hm
  refine ⟨k, List.mem_range.mp hk, callD hf (env := [some (.d (tupI xs)), none]) rfl rfl ?_⟩
  rw [List.map_map] at e
  have e' : biD .min [.list ((List.range xs.length).map fun k => tupI (xs.drop k ++ xs.take k))] = some (tupI (xs.drop k ++ xs.take k)) := e
  unfold fLeastTurnBy
  rw [q_exs1, q_ret, q_bi, q_cons, key]
  simp -implicitDefEqProofs only [bind_ok, q_nil, q_biP1, q_dat, Option.map, e', q_ofO, then_ok, obind_ret]
def fLeastTurn (a b : Nat) : FDef := ⟨2, 2, [(.ex (.call a [(.v 0), (.v 1)])), (.ret (.call b [(.v 1)]))]⟩
abbrev SLeastTurn (C : Sem) (g : Nat) : Prop := ∀ (s : Int) (xs : List Int) (h : IH), Rg s xs → ∃ k, k < xs.length ∧ C.call g [.d (.int s), .d (tupI xs)] h = .ok (.d (tupI (xs.drop k ++ xs.take k))) h
theorem leastTurn_ok {a b : Nat} (hf : P.defs[g]? = some (fLeastTurn a b)) (c0 : SSRing (sem P n) a) (c1 : SLeastTurnBy (sem P n) b) : SLeastTurn (sem P (n + 1)) g := by
  intro s xs h r
  have := r.most
  obtain ⟨k, hk, e⟩ := c1 xs h r.one (by omega)
  refine ⟨k, hk, callD hf (env := [some (.d (.int s)), some (.d (tupI xs))]) rfl rfl ?_⟩
  unfold fLeastTurn
  simp [c0 s xs h r, e]
end
end RR.Q

-- RQ21
set_option maxHeartbeats 1000000
/-! A ring of bounded length; turns that are counted; comparisons. -/
namespace RR.Q
open PySem
theorem pre_okB {C : Sem} {ct cr co : Nat} (c0 : STake C ct) (c1 : SRing C cr) (c2 : SOf C co) (Ls : List Int) (B : Nat) (hB : B ≤ 32) (hL : ∀ l ∈ Ls, 1 ≤ l ∧ l ≤ (B : Int)) (hne : 1 ≤ Ls.length) (hl : Ls.length ≤ 100) (wf m : Nat) (h : IH) (p : Pool m h) (e1 e2 : Option Val) (re : Env) (rest : List IS) :
    ∃ (s : Int) (xs : List Int) (h' : IH), Rg s xs ∧ xs.length ≤ B ∧ Dr m h h' ∧ exs C wf (some (.ref m) :: e1 :: e2 :: re) (.set 1 (.bin .Add (.c (.int 2)) (.call ct [(.v 0), (.c (.int 3))])) :: .set 2 (.call cr [(.v 0), (.v 1), (.call co [(.v 0), (.lst (Ls.map fun i => .c (.int i)))])]) :: rest) h = exs C wf (some (.ref m) :: some (.d (.int s)) :: some (.d (tupI xs)) :: re) rest h' := by
  obtain ⟨d, h1, hd, dr1, a1⟩ := c0 m 3 h p (by decide) (by decide)
  obtain ⟨x, h2, hx, dr2, a2⟩ := c2 m (.list (Ls.map .int)) (Ls.map .int) h1 rfl (dr1.pool p) (by simpa using hne) (by simp; omega)
  obtain ⟨l, hl', rfl⟩ := List.mem_map.mp hx
  have hb := hL l hl'
  obtain ⟨xs, h3, hm, l1, l2, dr3, a3⟩ := c1 m (2 + d) l h2 ((dr1.trans dr2).pool p) (by omega) (by omega) hb.1 (by omega)
  refine ⟨2 + d, xs, h3, ⟨by omega, by omega, hm, l1, by omega⟩, by omega, (dr1.trans dr2).trans dr3, ?_⟩
  rw [q_exs1, q_set]
  simp -implicitDefEqProofs only [q_bin, q_c, q_call, q_cons, q_nil, q_v, q_get0, q_ofO, bind_ok, a1, q_add, Option.map, then_ok, q_setV, obind_next, List.set]
  rw [q_exs1, q_set]
  simp -implicitDefEqProofs only [q_call, q_cons, q_nil, q_v, q_get0, q_getS, q_ofO, bind_ok, lst_ints C _ _ Ls (by omega), a2, a3, then_ok, q_setV, obind_next, List.set]
theorem for_wideI {C : Sem} {body : List IS} {wf v : Nat} {env : Env} {h : IH} (I : Nat → Env → IH → Prop) (h0 : I 0 env h) (hf : ∀ w : Nat, w < 6 → ∀ env h, I w env h → ∃ env1 env2 h2, env.set v (some (.d (.int ((w + 1 : Nat) : Int)))) = env1 ∧ (exs C wf env1 body h = .next env2 h2 ∨ exs C wf env1 body h = .cont env2 h2) ∧ I (w + 1) env2 h2) :
    ∃ env' h', ex1 C wf env (.for_ .range2 [(.c (.int 1)), (.c (.int 7))] (.one v) body) h = .next env' h' ∧ I 6 env' h' := by
  obtain ⟨env', h', e, i⟩ := for_ix (tg := .one v) (body := fun env h => exs C wf env body h) (F := fun (t : Nat) => PyData.int ((t + 1 : Nat) : Int)) I (ts := List.range 6) (k := 0) (env := env) (h := h) h0 fun i hi env h q => by
    rw [List.length_range] at hi
    rw [Nat.zero_add] at q ⊢
    obtain ⟨env1, env2, h2, e1, e2, q2⟩ := hf i hi env h q
    exact ⟨env1, env2, h2, by rw [List.getElem_range, q_b1, e1], e2, q2⟩
  refine ⟨env', h', ?_, by simpa using i⟩
  rw [q_for]
  simp -implicitDefEqProofs only [q_cons, q_nil, q_c, bind_ok, q_itr, q_dats1, q_dats0, Option.map, items17, q_ofO, then_ok, e]
theorem repr_bool (b : Bool) : biD .repr [.bool b] = some (.str (PyData.shown (.bool b))) := by
  have h := SD.bool b
  have hd := h.dp
  have hl := h.ln
  show (if _ then _ else _) = _
  rw [if_pos]
  rw [h.sh, h.nd, decide_eq_true (show (PyData.bool b).depth < 50 by omega), decide_eq_true (show (PyData.bool b).shown.length ≤ lim by unfold lim; omega)]
  rfl
theorem nin_bools (b : Bool) : cmpD .NotIn (.str (PyData.shown (.bool b))) (.list [.str "True", .str "False"]) = some false := by
  have : dep (.str (PyData.shown (.bool b))) = true := by simp [dep, PyData.depth]
  simp only [cmpD, this, Bool.true_or, if_true, List.any_cons, List.any_nil, PyData.eqv]
  cases b <;> simp [PyData.shown]
theorem ne_bools (a b : Bool) : cmpD .NotEq (.bool a) (.bool b) = some (a != b) := by
  have : dep (.bool a) = true := by simp [dep, PyData.depth]
  simp only [cmpD, this, Bool.true_or, if_true, PyData.eqv]
  cases a <;> cases b <;> rfl
theorem ne_one (i : Int) : cmpD .NotEq (.tuple [.int i]) (.tuple [.int i]) = some false := by
  have := ne_tupI [i] [i]
  simpa [tupI] using this
theorem ne_empty : cmpD .NotEq (.tuple []) (.tuple []) = some false := by
  have := ne_tupI [] []
  simpa [tupI] using this
theorem rg_rot {s : Int} {xs : List Int} (r : Rg s xs) (k : Nat) : Rg s (xs.drop k ++ xs.take k) := ⟨r.lo, r.hi, fun x hx => by
  rcases List.mem_append.mp hx with h | h
  · exact r.mks x (List.mem_of_mem_drop h)
  · exact r.mks x (List.mem_of_mem_take h), by have := r.one; simp; omega, by have := r.most; simp; omega⟩
theorem rg_rev {s : Int} {xs : List Int} (r : Rg s xs) : Rg s xs.reverse := ⟨r.lo, r.hi, fun x hx => r.mks x (List.mem_reverse.mp hx), by rw [List.length_reverse]; exact r.one, by rw [List.length_reverse]; exact r.most⟩
theorem rg_map {s : Int} {xs : List Int} (r : Rg s xs) : Rg s (xs.map fun x => s - 1 - x) := ⟨r.lo, r.hi, fun x hx => by
  obtain ⟨y, hy, rfl⟩ := List.mem_map.mp hx
  have := r.mks y hy
  omega, by rw [List.length_map]; exact r.one, by rw [List.length_map]; exact r.most⟩
end RR.Q

-- RQ22
set_option maxHeartbeats 1000000
/-! How far windows are apart: turned, from behind, exchanged, wider. -/
namespace RR.Q
open PySem
theorem apart_comm : ∀ xs ys : List Int, apart xs ys = apart ys xs
  | [], [] => rfl
  | [], _ :: _ => rfl
  | _ :: _, [] => rfl
  | a :: r, b :: t => by
    simp only [apart, apart_comm r t]
    by_cases h : a = b
    · simp [h]
    · have : ¬ b = a := fun e => h e.symm
      simp [h, this]
theorem apart_append : ∀ {a b c d : List Int}, a.length = b.length → apart (a ++ c) (b ++ d) = apart a b + apart c d
  | [], [], c, d, _ => by simp [apart]
  | x :: a, y :: b, c, d, h => by
    simp only [List.cons_append, apart, apart_append (a := a) (b := b) (c := c) (d := d) (by simpa using h)]
    omega
theorem apart_rev : ∀ {xs ys : List Int}, xs.length = ys.length → apart xs.reverse ys.reverse = apart xs ys
  | [], [], _ => rfl
  | x :: a, y :: b, h => by
    rw [List.reverse_cons, List.reverse_cons, apart_append (by simpa using h), apart_rev (xs := a) (ys := b) (by simpa using h)]
    simp only [apart]
    omega
theorem apart_map {f : Int → Int} (hf : ∀ x y, f x = f y → x = y) : ∀ xs ys : List Int, apart (xs.map f) (ys.map f) = apart xs ys
  | [], _ => by simp [apart]
  | _ :: _, [] => by simp [apart]
  | a :: r, b :: t => by
    simp only [List.map_cons, apart, apart_map hf r t]
    by_cases h : a = b
    · simp [h]
    · have : ¬ f a = f b := fun e => h (hf _ _ e)
      simp [h, this]
/-- the numbers of marks at which two places' windows differ -/
def farM (xs : List Int) (w : Nat) (x : Nat) : Prop := ∃ a b, a % xs.length ≠ b % xs.length ∧ x = apart (win xs a w) (win xs b w)
theorem aparts_far {xs : List Int} {w : Nat} (h1 : 1 ≤ xs.length) {x : Int} : x ∈ aparts xs w ↔ ∃ k : Nat, x = k ∧ farM xs w k := by
  rw [aparts_mem]
  have hm : ∀ a, a % xs.length < xs.length := fun a => Nat.mod_lt _ (by omega)
  constructor
  · rintro ⟨a, b, h1, h2, rfl⟩
    exact ⟨_, rfl, a, b, by rw [Nat.mod_eq_of_lt (by omega), Nat.mod_eq_of_lt h2]; omega, rfl⟩
  · rintro ⟨k, rfl, a, b, hne, rfl⟩
    by_cases h : a % xs.length < b % xs.length
    · exact ⟨_, _, h, hm b, by rw [win_mod, win_mod]⟩
    · exact ⟨b % xs.length, a % xs.length, by omega, hm a, by rw [win_mod, win_mod, apart_comm]⟩
theorem farM_le {xs : List Int} {w x : Nat} (h : farM xs w x) : x ≤ w := by
  obtain ⟨a, b, _, rfl⟩ := h
  have := apart_le (win xs a w) (win xs b w)
  rwa [win_length] at this
theorem leastD_congr {A B : List Int} (h : ∀ x, x ∈ A ↔ x ∈ B) : leastD A = leastD B := by
  cases A with
  | nil =>
    have : B = [] := List.eq_nil_iff_forall_not_mem.mpr fun x hx => by simpa using (h x).mpr hx
    rw [this]
  | cons m r =>
    cases B with
    | nil => exact absurd ((h m).mp List.mem_cons_self) (by simp)
    | cons m2 r2 =>
      have q := least_spec m r
      have : least m2 r2 = least m r := least_eq ((h _).mp q.1) fun x hx => q.2 x ((h x).mpr hx)
      simp only [leastD, this]
/-- None, or the least one -/
theorem leastD_cases (A : List Int) : (A = [] ∧ leastD A = .none) ∨ (∃ m ∈ A, leastD A = .int m ∧ ∀ x ∈ A, m ≤ x) := by
  cases A with
  | nil => exact .inl ⟨rfl, rfl⟩
  | cons m r =>
    have q := least_spec m r
    exact .inr ⟨_, q.1, rfl, q.2⟩
theorem far_congr {xs ys : List Int} {w : Nat} (h1 : 1 ≤ xs.length) (h2 : 1 ≤ ys.length) (h : ∀ x, farM xs w x ↔ farM ys w x) : ∀ x, x ∈ aparts xs w ↔ x ∈ aparts ys w := fun x => by
  rw [aparts_far h1, aparts_far h2]
  exact ⟨fun ⟨k, e, q⟩ => ⟨k, e, (h k).mp q⟩, fun ⟨k, e, q⟩ => ⟨k, e, (h k).mpr q⟩⟩
theorem farM_rot {xs : List Int} {k : Nat} (hk : k ≤ xs.length) (h1 : 1 ≤ xs.length) (w x : Nat) : farM (xs.drop k ++ xs.take k) w x ↔ farM xs w x := by
  have hl : (xs.drop k ++ xs.take k).length = xs.length := by simp; omega
  unfold farM
  rw [hl]
  constructor
  · rintro ⟨a, b, hne, rfl⟩
    exact ⟨a + k, b + k, fun e => hne (mod_cancel h1 e), by rw [win_rot hk h1, win_rot hk h1]⟩
  · rintro ⟨a, b, hne, rfl⟩
    have back : ∀ a, win (xs.drop k ++ xs.take k) (a + k * (xs.length - 1)) w = win xs a w := fun a => by
      rw [win_rot hk h1, ← win_mod, ← win_mod xs a]
      obtain ⟨c, hc⟩ := round_up h1 k
      rw [show a + k * (xs.length - 1) + k = a + (k + k * (xs.length - 1)) by omega, hc, Nat.add_mul_mod_self_left]
    exact ⟨a + k * (xs.length - 1), b + k * (xs.length - 1), fun e => hne (mod_cancel h1 e), by rw [back, back]⟩
theorem farM_back1 {xs : List Int} (h1 : 1 ≤ xs.length) {w x : Nat} (h : farM xs w x) : farM xs.reverse w x := by
  obtain ⟨a, b, hne, rfl⟩ := h
  obtain ⟨qa, ha⟩ := back_place h1 a w
  obtain ⟨qb, hb⟩ := back_place h1 b w
  refine ⟨qa, qb, fun e => hne ?_, ?_⟩
  · rw [List.length_reverse] at e
    refine modc (z := qa + w) (by rw [← Nat.add_assoc]; exact ha) ?_
    rw [← Nat.add_assoc]
    apply Nat.dvd_of_mod_eq_zero
    have hb' := Nat.mod_eq_zero_of_dvd hb
    rw [show b + qb + w = qb + (b + w) by omega, Nat.add_mod, ← e, ← Nat.add_mod] at hb'
    rw [show b + qa + w = qa + (b + w) by omega]
    exact hb'
  · rw [win_back h1 (q := a) (by rw [show qa + a + w = a + qa + w by omega]; exact ha), win_back h1 (q := b) (by rw [show qb + b + w = b + qb + w by omega]; exact hb), apart_rev (by rw [win_length, win_length])]
theorem farM_back {xs : List Int} (h1 : 1 ≤ xs.length) (w x : Nat) : farM xs.reverse w x ↔ farM xs w x := ⟨fun h => by
  have := farM_back1 (by simpa using h1) h
  rwa [List.reverse_reverse] at this, farM_back1 h1⟩
theorem win_map {f : Int → Int} {xs : List Int} (h1 : 1 ≤ xs.length) (p w : Nat) : win (xs.map f) p w = (win xs p w).map f := by
  apply List.ext_getElem?
  intro t
  by_cases ht : t < w
  · rw [win_at ht, List.getElem?_map, win_at ht, at_map h1]
    rfl
  · rw [List.getElem?_eq_none (by rw [win_length]; omega), List.getElem?_eq_none (by rw [List.length_map, win_length]; omega)]
theorem farM_map {f : Int → Int} (hf : ∀ x y, f x = f y → x = y) {xs : List Int} (h1 : 1 ≤ xs.length) (w x : Nat) : farM (xs.map f) w x ↔ farM xs w x := by
  unfold farM
  simp only [List.length_map, win_map h1, apart_map hf]
theorem win_succ (xs : List Int) (p w : Nat) : win xs p (w + 1) = win xs p w ++ [at_ xs (p + w)] := by
  unfold win
  rw [List.range_succ, List.map_append]
  rfl
/-- wider windows are no nearer -/
theorem far_wider {xs : List Int} {w : Nat} {a b : Nat} : apart (win xs a w) (win xs b w) ≤ apart (win xs a (w + 1)) (win xs b (w + 1)) := by
  rw [win_succ, win_succ, apart_append (by rw [win_length, win_length])]
  omega
theorem leastD_wider {xs : List Int} {w : Nat} (h1 : 1 ≤ xs.length) : ∀ m m' : Int, leastD (aparts xs w) = .int m → leastD (aparts xs (w + 1)) = .int m' → m ≤ m' := fun m m' e e' => by
  rcases leastD_cases (aparts xs w) with ⟨_, q⟩ | ⟨k, _, q, ql⟩
  · rw [q] at e; cases e
  · rw [q] at e
    cases e
    rcases leastD_cases (aparts xs (w + 1)) with ⟨_, q'⟩ | ⟨k', hk', q', _⟩
    · rw [q'] at e'; cases e'
    · rw [q'] at e'
      cases e'
      obtain ⟨z, rfl, a, b, hne, rfl⟩ := (aparts_far h1).mp hk'
      have := ql _ ((aparts_far h1).mpr ⟨_, rfl, a, b, hne, rfl⟩)
      have := far_wider (xs := xs) (w := w) (a := a) (b := b)
      omega
/-- all windows of two places are more than so many marks apart -/
def farther (xs : List Int) (w : Nat) (d : Int) : Prop := ∀ x ∈ aparts xs w, d < x
theorem farther_iff {xs : List Int} {w : Nat} {d : Int} (h1 : 1 ≤ xs.length) : farther xs w d ↔ ∀ a b, a % xs.length ≠ b % xs.length → d < apart (win xs a w) (win xs b w) := by
  unfold farther
  constructor
  · intro h a b hne
    exact h _ ((aparts_far h1).mpr ⟨_, rfl, a, b, hne, rfl⟩)
  · intro h x hx
    obtain ⟨k, rfl, a, b, hne, rfl⟩ := (aparts_far h1).mp hx
    exact h a b hne
theorem far_none {xs : List Int} {w : Nat} (h1 : 1 ≤ xs.length) : leastD (aparts xs w) = .none ↔ xs.length = 1 := by
  rcases leastD_cases (aparts xs w) with ⟨q, e⟩ | ⟨m, hm, e, _⟩
  · rw [e]
    refine ⟨fun _ => ?_, fun _ => rfl⟩
    by_cases h : xs.length = 1
    · exact h
    · have : (apart (win xs 0 w) (win xs 1 w) : Int) ∈ aparts xs w := aparts_mem.mpr ⟨0, 1, by omega, by omega, rfl⟩
      rw [q] at this
      cases this
  · rw [e]
    refine ⟨fun z => (by cases z), fun z => ?_⟩
    obtain ⟨a, b, h1, h2, _⟩ := aparts_mem.mp hm
    omega
theorem far_gt {xs : List Int} {w : Nat} {m d : Int} (e : leastD (aparts xs w) = .int m) : d < m ↔ farther xs w d := by
  rcases leastD_cases (aparts xs w) with ⟨q, e'⟩ | ⟨k, hk, e', ql⟩
  · rw [e'] at e; cases e
  · rw [e'] at e
    cases e
    exact ⟨fun h x hx => by have := ql x hx; omega, fun h => h _ hk⟩
theorem far_nil {xs : List Int} {w : Nat} {d : Int} (e : leastD (aparts xs w) = .none) : farther xs w d := by
  rcases leastD_cases (aparts xs w) with ⟨q, e'⟩ | ⟨k, hk, e', ql⟩
  · intro x hx
    rw [q] at hx
    cases hx
  · rw [e'] at e; cases e
theorem tells_far {xs : List Int} {w : Nat} (h1 : 1 ≤ xs.length) : tellsP xs w ↔ farther xs w 0 := by
  rw [farther_iff h1]
  constructor
  · intro h a b hne
    have : apart (win xs a w) (win xs b w) ≠ 0 := fun z => hne (h a b ((apart_zero (by rw [win_length, win_length])).mp z))
    omega
  · intro h a b e
    by_cases q : a % xs.length = b % xs.length
    · exact q
    · have := h a b q
      rw [(apart_zero (by rw [win_length, win_length])).mpr e] at this
      omega
/-- two windows near a third are near one another -/
theorem apart_tri {c : List Int} : ∀ {a b : List Int}, a.length = c.length → b.length = c.length → apart a b ≤ apart a c + apart c b := by
  induction c with
  | nil =>
    intro a b h1 h2
    rw [List.length_eq_zero_iff.mp h1]
    simp [apart]
  | cons z c ih =>
    intro a b h1 h2
    cases a with
    | nil => simp at h1
    | cons x a =>
      cases b with
      | nil => simp at h2
      | cons y b =>
        have ih := ih (a := a) (b := b) (by simpa using h1) (by simpa using h2)
        simp only [apart]
        by_cases e1 : x = z
        · subst e1
          simp only [if_true]
          omega
        · simp only [if_neg e1]
          split <;> omega
/-- the places for an own window -/
theorem near_mem {xs : List Int} {w a : Nat} {d : Int} (ha : a < xs.length) (hd : 0 ≤ d) : PyData.int (a : Int) ∈ near xs (win xs a w) d := by
  unfold near
  refine List.mem_map.mpr ⟨a, List.mem_filter.mpr ⟨List.mem_range.mpr ha, decide_eq_true ?_⟩, rfl⟩
  rw [win_length, (apart_zero rfl).mpr rfl]
  exact hd
theorem near_sure {xs : List Int} {w a : Nat} {d : Int} (h1 : 1 ≤ xs.length) (ha : a < xs.length) (hd : 0 ≤ d) (h : farther xs w d) : near xs (win xs a w) d = [.int (a : Int)] := by
  rw [farther_iff h1] at h
  unfold near
  rw [win_length]
  have e : (List.range xs.length).filter (fun t => decide ((apart (win xs t w) (win xs a w) : Int) ≤ d)) = [a] := by
    have hp : ∀ b, b ∈ List.range xs.length → (decide ((apart (win xs b w) (win xs a w) : Int) ≤ d)) = (b == a) := fun b hb => by
      have hb := List.mem_range.mp hb
      by_cases e : b = a
      · subst e
        have := (apart_zero (xs := win xs b w) (ys := win xs b w) rfl).mpr rfl
        simp [this, hd]
      · have := h b a (by rw [Nat.mod_eq_of_lt hb, Nat.mod_eq_of_lt ha]; exact e)
        rw [decide_eq_false (by omega)]
        simp [e]
    rw [List.filter_congr hp, List.filter_beq]
    simp [List.count_range, ha]
  rw [e]
  rfl
end RR.Q

-- RQ23
set_option maxHeartbeats 1000000
/-! Who tells surely, notices; combs; least wide. -/
namespace RR.Q
open PySem
section
variable {P : Prog} {n g : Nat}
abbrev SFirstTwiceV (C : Sem) (g : Nat) : Prop := ∀ (L : List (List Int)) (v0 : D) (h : IH), seqOf v0 = some (L.map tupI) → L.length ≤ 1000 → ∃ r : D, C.call g [.d v0] h = .ok (.d r) h ∧ ((r = .none ∧ unlike L) ∨ (isNone (.d r) = false ∧ ¬ unlike L))
theorem firstTwiceV_ok (hf : P.defs[g]? = some fFirstTwice) : SFirstTwiceV (sem P (n + 1)) g := by
  intro L v0 h hv hl
  have hlen : biD .len [v0] = some (.int (L.length : Int)) := by
    cases v0 <;> first | (cases hv; done) | skip
    all_goals
      cases hv
      simp [biD]
  have hen : itemsD .enum [v0] = some (enumD (L.map tupI)) := by
    cases v0 <;> first | (cases hv; done) | skip
    all_goals
      cases hv
      rfl
  have hixV : ∀ i : Int, ixD v0 (.int i) = atD (L.map tupI) i := fun i => by
    cases v0 <;> first | (cases hv; done) | skip
    all_goals
      cases hv
      rfl
  have key := for_search (tg := .tup [1, 2]) (body := fun env h => exs (sem P n) P.wf env [(.set 3 (.lc .range2 [(.bin .Add (.v 1) (.c (.int 1))), (.bi .len [(.v 0)])] (.one 4) (.cmp .Eq (.ix (.v 0) (.v 4)) (.v 2)) (.v 4))), (.ite (.cmp .NotEq (.v 3) (.lst [])) [(.ret (.tup [(.v 1), (.ix (.v 3) (.c (.int 0)))]))] [])] h) (F := fun (t : Nat) => PyData.tuple [.int (t : Int), tupI (L.getD t [])]) (fun env => ∃ e1 e2 e3 e4, env = [some (.d v0), e1, e2, e3, e4]) (fun a => ∀ b, a < b → b < L.length → L[a]? ≠ L[b]?) (fun a v => isNone (.d v) = false ∧ ∃ b, a < b ∧ b < L.length ∧ L[a]? = L[b]?) (h := h) (ts := List.range L.length) (env := [some (.d v0), none, none, none, none]) ⟨_, _, _, _, rfl⟩ (by
    intro a ha env ⟨e1, e2, e3, e4, ee⟩
    subst ee
    have ha := List.mem_range.mp ha
    refine ⟨[some (.d v0), some (.d (.int (a : Int))), some (.d (tupI (L.getD a []))), e3, e4], rfl, ?_⟩
    have k1 := lc_filter (C := sem P n) (env := [some (.d v0), some (.d (.int (a : Int))), some (.d (tupI (L.getD a []))), e3, e4]) (k := .range2) (its := [(.bin .Add (.v 1) (.c (.int 1))), (.bi .len [(.v 0)])]) (tg := .one 4) (cond := (.cmp .Eq (.ix (.v 0) (.v 4)) (.v 2))) (elt := .v 4) (h := h) (vs := [.d (.int ((a + 1 : Nat) : Int)), .d (.int (L.length : Int))]) (ds := [.int ((a + 1 : Nat) : Int), .int (L.length : Int)]) (ts := List.range (L.length - (a + 1))) (fun (t : Nat) => PyData.int ((a + 1 + t : Nat) : Int)) (fun (t : Nat) => PyData.int ((a + 1 + t : Nat) : Int)) (fun t => decide (L.getD (a + 1 + t) [] = L.getD a [])) (by simp [hlen]) (by simp) (itemsR2 (by omega) (by omega)) (by rw [List.length_range]; omega) fun t ht h' => ⟨[some (.d v0), some (.d (.int (a : Int))), some (.d (tupI (L.getD a []))), e3, some (.d (.int ((a + 1 + t : Nat) : Int)))], rfl, by
        have ht := List.mem_range.mp ht
        have hix : ixD v0 (.int ((a + 1 + t : Nat) : Int)) = some (tupI (L.getD (a + 1 + t) [])) := by
          rw [hixV, at_nat (by rw [List.length_map]; omega)]
          have : a + 1 + t < L.length := by omega
          simp [this]
        simp -implicitDefEqProofs only [q_cnd_cmp, q_cmp, q_ix, q_v, q_get0, q_getS, q_ofO, bind_ok, q_dat, hix, Option.map, eq_tupI, q_truth_b], fun _ => by simp⟩
    have st1 := st_set (sem P n) [some (.d v0), some (.d (.int (a : Int))), some (.d (tupI (L.getD a []))), e3, e4] h P.wf (env1 := [some (.d v0), some (.d (.int (a : Int))), some (.d (tupI (L.getD a []))), some (.d (.list (((List.range (L.length - (a + 1))).filter fun t => decide (L.getD (a + 1 + t) [] = L.getD a [])).map fun (t : Nat) => PyData.int ((a + 1 + t : Nat) : Int)))), e4]) (i := 3) k1 rfl
    have getE : ∀ i, i < L.length → L[i]? = some (L.getD i []) := fun i hi => by
      rw [List.getD_eq_getElem?_getD, List.getElem?_eq_getElem hi]
      rfl
    cases hc : (List.range (L.length - (a + 1))).filter (fun t => decide (L.getD (a + 1 + t) [] = L.getD a [])) with
    | nil =>
      rw [hc] at st1
      refine .inr ⟨fun b hab hb e => ?_, [some (.d v0), some (.d (.int (a : Int))), some (.d (tupI (L.getD a []))), some (.d (.list [])), e4], .inl ?_, _, _, _, _, rfl⟩
      · have z := List.filter_eq_nil_iff.mp hc (b - (a + 1)) (List.mem_range.mpr (by omega))
        rw [show a + 1 + (b - (a + 1)) = b by omega] at z
        rw [getE a ha, getE b hb] at e
        exact z (decide_eq_true (Option.some.inj e).symm)
      · rw [st1, q_exs1, q_ite]
        simp -implicitDefEqProofs only [q_cmp, q_v, q_get0, q_getS, q_ofO, bind_ok, q_lst, q_nil, q_dats0, List.length_nil, if_pos (q_lim 0 (by decide)), q_dat, ne_nil, Option.map, List.map_nil, List.isEmpty_nil, Bool.not_true, then_ok, q_truth_b, q_exs0, obind_next]
    | cons t r =>
      have hm : t ∈ (List.range (L.length - (a + 1))).filter (fun t => decide (L.getD (a + 1 + t) [] = L.getD a [])) := by rw [hc]; exact List.mem_cons_self
      obtain ⟨hm1, hm2⟩ := List.mem_filter.mp hm
      have hm1 := List.mem_range.mp hm1
      rw [hc] at st1
      have hix0 : ∀ ys : List D, ixD (.list (PyData.int ((a + 1 + t : Nat) : Int) :: ys)) (.int 0) = some (.int ((a + 1 + t : Nat) : Int)) := fun ys => at_nat (k := 0) (xs := PyData.int ((a + 1 + t : Nat) : Int) :: ys) (by simp)
      refine .inl ⟨.tuple [.int (a : Int), .int ((a + 1 + t : Nat) : Int)], ⟨rfl, a + 1 + t, by omega, by omega, ?_⟩, ?_⟩
      · rw [getE a ha, getE _ (by omega)]
        exact congrArg some (of_decide_eq_true hm2).symm
      · rw [st1, q_exs1, q_ite]
        simp -implicitDefEqProofs only [q_cmp, q_v, q_get0, q_getS, q_ofO, bind_ok, q_lst, q_nil, q_dats0, List.length_nil, if_pos (q_lim 0 (by decide)), q_dat, ne_nil, Option.map, List.map_cons, List.isEmpty_cons, Bool.not_false, then_ok, q_truth_b, q_exs1, q_ret, q_tup, q_cons, q_ix, q_c, hix0, q_dats1, List.length_cons, if_pos (q_lim 2 (by decide)), Nat.zero_add, Nat.reduceAdd, obind_ret])
  have ei : exs (sem P n) P.wf [some (.d v0), none, none, none, none] fFirstTwice.body h = (forLoop (.tup [1, 2]) (fun env h => exs (sem P n) P.wf env [(.set 3 (.lc .range2 [(.bin .Add (.v 1) (.c (.int 1))), (.bi .len [(.v 0)])] (.one 4) (.cmp .Eq (.ix (.v 0) (.v 4)) (.v 2)) (.v 4))), (.ite (.cmp .NotEq (.v 3) (.lst [])) [(.ret (.tup [(.v 1), (.ix (.v 3) (.c (.int 0)))]))] [])] h) ((List.range L.length).map fun (t : Nat) => PyData.tuple [.int (t : Int), tupI (L.getD t [])]) [some (.d v0), none, none, none, none] h).bind fun env1 h1 => exs (sem P n) P.wf env1 [(.ret (.c .none))] h1 := by
    unfold fFirstTwice
    rw [q_exs1, q_for]
    simp -implicitDefEqProofs only [q_cons, q_nil, q_v, q_get0, q_ofO, bind_ok, q_itr, q_dats1, q_dats0, Option.map, hen, enum_map, then_ok]
  rcases key with ⟨_, a, _, v, _, _, ⟨hv, b, hb, hb', hp⟩, e⟩ | ⟨hn, env', e, e1, e2, e3, e4, rfl⟩
  · exact ⟨v, callD hf (env := [some (.d v0), none, none, none, none]) rfl rfl (by rw [ei, e, obind_ret]), .inr ⟨hv, fun z => z a b hb hb' hp⟩⟩
  · exact ⟨.none, callD hf (env := [some (.d v0), none, none, none, none]) rfl rfl (by rw [ei, e, obind_next]; simp), .inl ⟨rfl, fun a b hab hb => hn a (List.mem_range.mpr (by omega)) b hab hb⟩⟩
/-! ### surely, noticing -/
def fSurelyBy (c : Nat) : FDef := ⟨3, 4, [(.set 3 (.call c [(.v 0), (.v 1)])), (.ret (.or_ (.isN true (.v 3)) (.cmp .Gt (.v 3) (.bin .Mult (.c (.int 2)) (.v 2)))))]⟩
open Classical in
abbrev SSurelyBy (C : Sem) (g : Nat) : Prop := ∀ (xs : List Int) (w : Nat) (d : Int) (h : IH), 1 ≤ xs.length → xs.length ≤ 100 → w ≤ 1000 → C.call g [.d (tupI xs), .d (.int w), .d (.int d)] h = .ok (.d (.bool (decide (farther xs w (2 * d))))) h
theorem surelyBy_ok {c : Nat} (hf : P.defs[g]? = some (fSurelyBy c)) (c0 : SApartBy (sem P n) c) : SSurelyBy (sem P (n + 1)) g := by
  intro xs w d h h1 h2 hw
  refine callD hf (env := [some (.d (tupI xs)), some (.d (.int w)), some (.d (.int d)), none]) rfl rfl ?_
  have k := c0 xs w h h1 h2 hw
  have m2 : binD .Mult (.int 2) (.int d) = some (.int (2 * d)) := mul_small (by decide) (by decide)
  unfold fSurelyBy
  rcases leastD_cases (aparts xs w) with ⟨_, e⟩ | ⟨m, _, e, _⟩
  · rw [e] at k
    have := far_nil (d := 2 * d) e
    simp [k, this]
  · rw [e] at k
    have := far_gt (d := 2 * d) e
    by_cases hd : farther xs w (2 * d)
    · simp [k, hd, m2, this.mpr hd]
    · have z : ¬ 2 * d < m := fun q => hd (this.mp q)
      simp [k, hd, m2, z]
/-- no windows are some marks apart, so many at most -/
def notices (xs : List Int) (w : Nat) (d : Int) : Prop := ∀ x ∈ aparts xs w, ¬ (1 ≤ x ∧ x ≤ d)
def fNoticesBy (c : Nat) : FDef := ⟨3, 4, [(.ret (.nt (.bi .any [(.lc .val [(.call c [(.v 0), (.v 1)])] (.one 3) .nop (.chain .LtE .LtE (.c (.int 1)) (.v 3) (.v 2)))])))]⟩
open Classical in
abbrev SNoticesBy (C : Sem) (g : Nat) : Prop := ∀ (xs : List Int) (w : Nat) (d : Int) (h : IH), 1 ≤ xs.length → xs.length ≤ 100 → w ≤ 1000 → C.call g [.d (tupI xs), .d (.int w), .d (.int d)] h = .ok (.d (.bool (decide (notices xs w d)))) h
theorem boolsOf_map {τ : Type} (f : τ → Bool) (l : List τ) : boolsOf (l.map fun x => .bool (f x)) = some (l.map f) := by
  induction l with
  | nil => rfl
  | cons x r ih => simp [boolsOf, ih]
theorem aparts_len (xs : List Int) (w : Nat) : (aparts xs w).length ≤ xs.length * xs.length := by
  unfold aparts
  exact Nat.le_trans (List.length_filterMap_le _ _) (pairs_len _)
theorem noticesBy_ok {c : Nat} (hf : P.defs[g]? = some (fNoticesBy c)) (c0 : SAparts (sem P n) c) : SNoticesBy (sem P (n + 1)) g := by
  classical
  intro xs w d h h1 h2 hw
  have key := lc_map (C := sem P n) (env := [some (.d (tupI xs)), some (.d (.int w)), some (.d (.int d)), none]) (k := .val) (its := [(.call c [(.v 0), (.v 1)])]) (tg := .one 3) (elt := (.chain .LtE .LtE (.c (.int 1)) (.v 3) (.v 2))) (h := h) (vs := [.d (.list ((aparts xs w).map .int))]) (ds := [.list ((aparts xs w).map .int)]) (ts := aparts xs w) PyData.int (fun x => .bool (decide (1 ≤ x) && decide (x ≤ d))) (by simp [c0 xs w h h1 h2 hw]) rfl rfl (by
    have h3 := aparts_len xs w
    have h4 : xs.length * xs.length ≤ 100 * 100 := Nat.mul_le_mul h2 h2
    omega) fun x hx h' => ⟨[some (.d (tupI xs)), some (.d (.int w)), some (.d (.int d)), some (.d (.int x))], rfl, by
      by_cases q : 1 ≤ x <;> simp [q]⟩
  have ea : biD .any [.list ((aparts xs w).map fun x => .bool (decide (1 ≤ x) && decide (x ≤ d)))] = some (.bool (!decide (notices xs w d))) := by
    simp only [biD, boolsOf_map]
    congr 2
    by_cases hn : notices xs w d
    · rw [decide_eq_true hn]
      rw [List.any_eq_false.mpr]
      · rfl
      · intro b hb
        obtain ⟨x, hx, rfl⟩ := List.mem_map.mp hb
        have := hn x hx
        by_cases q : 1 ≤ x <;> by_cases q2 : x ≤ d <;> simp [q, q2]
        exact this ⟨q, q2⟩
    · rw [decide_eq_false hn]
      rw [List.any_eq_true.mpr]
      · rfl
      · have : ∃ x ∈ aparts xs w, 1 ≤ x ∧ x ≤ d := Classical.byContradiction fun z => hn fun x hx q => z ⟨x, hx, q⟩
        obtain ⟨x, hx, q1, q2⟩ := this
        exact ⟨_, List.mem_map.mpr ⟨x, hx, rfl⟩, by simp [q1, q2]⟩
  refine callD hf (env := [some (.d (tupI xs)), some (.d (.int w)), some (.d (.int d)), none]) rfl rfl ?_
  unfold fNoticesBy
  rw [q_exs1, q_ret, q_nt, q_bi, q_cons, key]
  simp -implicitDefEqProofs only [bind_ok, q_nil, q_biP1, q_dat, Option.map, ea, q_ofO, q_truth_b, then_ok, obind_ret, Bool.not_not]
def fChkMis (a b : Nat) : FDef := ⟨4, 4, [(.ex (.call a [(.v 0), (.v 1), (.v 2)])), (.ex (.call b [(.v 3)]))]⟩
abbrev SChkMis (C : Sem) (g : Nat) : Prop := ∀ (s : Int) (w : Nat) (d : Int) (xs : List Int) (h : IH), Rg s xs → 1 ≤ w → w ≤ 6 → 0 ≤ d → d ≤ 3 → C.call g [.d (.int s), .d (tupI xs), .d (.int w), .d (.int d)] h = .ok (.d .none) h
theorem chkMis_ok {a b : Nat} (hf : P.defs[g]? = some (fChkMis a b)) (c0 : SRead (sem P n) a) (c1 : SChk 0 3 (sem P n) b) : SChkMis (sem P (n + 1)) g := by
  intro s w d xs h r w1 w2 d0 d3
  rw [callP hf]
  simp [fChkMis, begin_, c0 s w xs h r (by omega) (by omega), c1 d h d0 d3]
def fAsk4 (a b : Nat) : FDef := ⟨4, 4, [(.ex (.call a [(.v 0), (.v 1), (.v 2), (.v 3)])), (.ret (.call b [(.v 1), (.v 2), (.v 3)]))]⟩
open Classical in
abbrev SSurely (C : Sem) (g : Nat) : Prop := ∀ (s : Int) (w : Nat) (d : Int) (xs : List Int) (h : IH), Rg s xs → 1 ≤ w → w ≤ 6 → 0 ≤ d → d ≤ 3 → C.call g [.d (.int s), .d (tupI xs), .d (.int w), .d (.int d)] h = .ok (.d (.bool (decide (farther xs w (2 * d))))) h
theorem surely_ok {a b : Nat} (hf : P.defs[g]? = some (fAsk4 a b)) (c0 : SChkMis (sem P n) a) (c1 : SSurelyBy (sem P n) b) : SSurely (sem P (n + 1)) g := by
  intro s w d xs h r w1 w2 d0 d3
  refine callD hf (env := [some (.d (.int s)), some (.d (tupI xs)), some (.d (.int w)), some (.d (.int d))]) rfl rfl ?_
  have := r.most
  unfold fAsk4
  simp [c0 s w d xs h r w1 w2 d0 d3, c1 xs w d h r.one (by omega) (by omega)]
open Classical in
abbrev SNotice (C : Sem) (g : Nat) : Prop := ∀ (s : Int) (w : Nat) (d : Int) (xs : List Int) (h : IH), Rg s xs → 1 ≤ w → w ≤ 6 → 0 ≤ d → d ≤ 3 → C.call g [.d (.int s), .d (tupI xs), .d (.int w), .d (.int d)] h = .ok (.d (.bool (decide (notices xs w d)))) h
theorem notice_ok {a b : Nat} (hf : P.defs[g]? = some (fAsk4 a b)) (c0 : SChkMis (sem P n) a) (c1 : SNoticesBy (sem P n) b) : SNotice (sem P (n + 1)) g := by
  intro s w d xs h r w1 w2 d0 d3
  refine callD hf (env := [some (.d (.int s)), some (.d (tupI xs)), some (.d (.int w)), some (.d (.int d))]) rfl rfl ?_
  have := r.most
  unfold fAsk4
  simp [c0 s w d xs h r w1 w2 d0 d3, c1 xs w d h r.one (by omega) (by omega)]
abbrev SGainsay (C : Sem) (g : Nat) : Prop := ∀ (s : Int) (w : Nat) (xs : List Int) (h : IH), Rg s xs → 1 ≤ w → w ≤ 6 → ∃ r : D, C.call g [.d (.int s), .d (tupI xs), .d (.int w)] h = .ok (.d r) h ∧ ((r = .none ∧ tellsP xs w) ∨ (isNone (.d r) = false ∧ ¬ tellsP xs w))
theorem gainsay_ok {a b : Nat} (hf : P.defs[g]? = some (fAsk a b)) (c0 : SRead (sem P n) a) (c1 : SGainsayBy (sem P n) b) : SGainsay (sem P (n + 1)) g := by
  intro s w xs h r w1 w2
  have := r.most
  obtain ⟨v, e, q⟩ := c1 xs w h r.one (by omega) (by omega)
  refine ⟨v, callD hf (env := [some (.d (.int s)), some (.d (tupI xs)), some (.d (.int w))]) rfl rfl ?_, q⟩
  unfold fAsk
  simp [c0 s w xs h r (by omega) (by omega), e]
end
end RR.Q

-- RQ24
set_option maxHeartbeats 1000000
/-! Combs; the least wide. -/
namespace RR.Q
open PySem
section
variable {P : Prog} {n g : Nat}
@[simp] theorem q_tupR (C : Sem) (env : Env) (h : IH) (a : IE) : ev C env (.tupR a) h = (ev C env a h).bind fun x h1 => match x with
    | .d (.int i) => if decide (0 ≤ i) && decide (i ≤ 1000) then .ok (.d (.tuple (rangeD 0 i))) h1 else .stuck
    | _ => .stuck := by
  rw [ev] <;> rfl
def combL (w : Nat) : List Int := (List.range w).map fun (t : Nat) => (t : Int)
theorem comb_range (w : Nat) : PyData.tuple (rangeD 0 (w : Int)) = tupI (combL w) := by
  unfold tupI combL
  rw [range_map, List.map_map]
  rfl
def fMarksShown : FDef := ⟨3, 4, [(.ret (.bi .tuple [(.lc .val [(.v 1)] (.one 3) .nop (.ix (.v 0) (.bin .Mod (.bin .Add (.v 2) (.v 3)) (.bi .len [(.v 0)]))))]))]⟩
abbrev SMarksShown (C : Sem) (g : Nat) : Prop := ∀ (xs : List Int) (w p : Nat) (h : IH), 1 ≤ xs.length → w ≤ 1000 → C.call g [.d (tupI xs), .d (tupI (combL w)), .d (.int p)] h = .ok (.d (tupI (win xs p w))) h
theorem marksShown_ok (hf : P.defs[g]? = some fMarksShown) : SMarksShown (sem P (n + 1)) g := by
  intro xs w p h h1 hw
  have hi : tupI (combL w) = .tuple ((List.range w).map fun (t : Nat) => PyData.int (t : Int)) := by
    unfold tupI combL
    rw [List.map_map]
    rfl
  have key := lc_map (C := sem P n) (env := [some (.d (tupI xs)), some (.d (tupI (combL w))), some (.d (.int p)), none]) (k := .val) (its := [(.v 1)]) (tg := .one 3) (elt := (.ix (.v 0) (.bin .Mod (.bin .Add (.v 2) (.v 3)) (.bi .len [(.v 0)])))) (h := h) (vs := [.d (tupI (combL w))]) (ds := [tupI (combL w)]) (ts := List.range w) (fun (t : Nat) => PyData.int (t : Int)) (fun t => .int (at_ xs (p + t))) (by simp) (by simp) (by rw [hi]; rfl) (by rw [List.length_range]; omega) fun t ht h' => ⟨[some (.d (tupI xs)), some (.d (tupI (combL w))), some (.d (.int p)), some (.d (.int (t : Int)))], rfl, at_ev h' h1 rfl rfl rfl⟩
  have e2 : (List.range w).map (fun t => PyData.int (at_ xs (p + t))) = (win xs p w).map .int := by
    unfold win
    rw [List.map_map]
    rfl
  refine callD hf (env := [some (.d (tupI xs)), some (.d (tupI (combL w))), some (.d (.int p)), none]) rfl rfl ?_
  unfold fMarksShown
  rw [q_exs1, q_ret, q_bi, q_cons, key]
  simp -implicitDefEqProofs only [bind_ok, q_nil, q_biP1, q_dat, Option.map, q_btp1, q_ofO, then_ok, obind_ret, e2]
  rfl
def fAllShown (c : Nat) : FDef := ⟨2, 3, [(.ret (.lc .range1 [(.bi .len [(.v 0)])] (.one 2) .nop (.call c [(.v 0), (.v 1), (.v 2)])))]⟩
abbrev SAllShown (C : Sem) (g : Nat) : Prop := ∀ (xs : List Int) (w : Nat) (h : IH), 1 ≤ xs.length → xs.length ≤ 1000 → w ≤ 1000 → C.call g [.d (tupI xs), .d (tupI (combL w))] h = .ok (.d (.list (wins xs w))) h
theorem allShown_ok {c : Nat} (hf : P.defs[g]? = some (fAllShown c)) (c0 : SMarksShown (sem P n) c) : SAllShown (sem P (n + 1)) g := by
  intro xs w h h1 h2 hw
  have key := lc_range (C := sem P n) (env := [some (.d (tupI xs)), some (.d (tupI (combL w))), none]) (e := (.bi .len [(.v 0)])) (i := 2) (elt := (.call c [(.v 0), (.v 1), (.v 2)])) (h := h) (fun t => tupI (win xs t w)) (lenI_ev h rfl) (by omega) fun t ht h' _ => by
    simp [c0 xs w t h' h1 hw]
  refine callD hf (env := [some (.d (tupI xs)), some (.d (tupI (combL w))), none]) rfl rfl ?_
  unfold fAllShown
  simp -implicitDefEqProofs only [q_exs1, q_ret, key, then_ok, obind_ret]
  rfl
abbrev SCombGain (C : Sem) (g : Nat) : Prop := ∀ (xs : List Int) (w : Nat) (h : IH), 1 ≤ xs.length → xs.length ≤ 1000 → w ≤ 1000 → ∃ r : D, C.call g [.d (tupI xs), .d (tupI (combL w))] h = .ok (.d r) h ∧ ((r = .none ∧ tellsP xs w) ∨ (isNone (.d r) = false ∧ ¬ tellsP xs w))
theorem combGain_ok {a b : Nat} (hf : P.defs[g]? = some (fGainsayBy a b)) (c0 : SFirstTwiceV (sem P n) a) (c1 : SAllShown (sem P n) b) : SCombGain (sem P (n + 1)) g := by
  intro xs w h h1 h2 hw
  have ew : ((List.range xs.length).map fun p => win xs p w).map tupI = wins xs w := by
    unfold wins
    rw [List.map_map]
    rfl
  obtain ⟨r, e, q⟩ := c0 ((List.range xs.length).map fun p => win xs p w) (.list (wins xs w)) h (by rw [ew]; rfl) (by simpa using h2)
  rw [unlike_wins h1] at q
  refine ⟨r, callD hf (env := [some (.d (tupI xs)), some (.d (tupI (combL w)))]) rfl rfl ?_, q⟩
  unfold fGainsayBy
  simp [c1 xs w h h1 h2 hw, e]
/-! ### combs' apart -/
def prs (m : Nat) : List (Nat × Nat) := (List.range m).flatMap fun b => (List.range b).map fun a => (a, b)
theorem prs_mem {m : Nat} {p : Nat × Nat} : p ∈ prs m ↔ p.1 < p.2 ∧ p.2 < m := by
  unfold prs
  simp only [List.mem_flatMap, List.mem_range, List.mem_map]
  constructor
  · rintro ⟨b, hb, a, ha, rfl⟩
    exact ⟨ha, hb⟩
  · rintro ⟨h1, h2⟩
    exact ⟨p.2, h2, p.1, h1, rfl⟩
theorem pairs_prs (m : Nat) : pairs m = (prs m).map fun p => PyData.tuple [.int (p.1 : Int), .int (p.2 : Int)] := by
  unfold pairs prs
  rw [List.map_flatMap]
  simp [Function.comp_def]
theorem aparts_prs (xs : List Int) (w : Nat) : aparts xs w = (prs xs.length).map fun p => (apart (win xs p.1 w) (win xs p.2 w) : Int) := by
  unfold aparts
  rw [pairs_prs, List.filterMap_map, ← List.filterMap_eq_map]
  refine congrArg (fun f => List.filterMap f (prs xs.length)) ?_
  funext p
  simp
theorem prs_len (m : Nat) : (prs m).length ≤ m * m := by
  have := pairs_len m
  rwa [pairs_prs, List.length_map] at this
def fCombApart (a b : Nat) : FDef := ⟨2, 7, [(.set 2 (.call a [(.v 0), (.v 1)])), (.set 3 (.lc2 .enum [(.v 2)] (.tup [4, 5]) .val [(.sl (.v 2) .nop (.v 4))] (.one 6) .nop (.tup [(.v 6), (.v 5)]))), (.ret (.bi .minD [(.lc .val [(.v 3)] (.tup [6, 5]) .nop (.call b [(.v 6), (.v 5)]))]))]⟩
abbrev SCombApartBy (C : Sem) (g : Nat) : Prop := ∀ (xs : List Int) (w : Nat) (h : IH), 1 ≤ xs.length → xs.length ≤ 100 → w ≤ 1000 → C.call g [.d (tupI xs), .d (tupI (combL w))] h = .ok (.d (leastD (aparts xs w))) h
theorem combApartBy_ok {a b : Nat} (hf : P.defs[g]? = some (fCombApart a b)) (c0 : SAllShown (sem P n) a) (c1 : SApart (sem P n) b) : SCombApartBy (sem P (n + 1)) g := by
  intro xs w h h1 h2 hw
  have hsq : xs.length * xs.length ≤ 100 * 100 := Nat.mul_le_mul h2 h2
  have hpl := prs_len xs.length
  have er : (enumD (wins xs w)).flatMap (fun x => match x with | .tuple [.int b, y] => (List.range b.toNat).map fun a => PyData.tuple [tupI (win xs a w), y] | _ => []) = (prs xs.length).map fun p => PyData.tuple [tupI (win xs p.1 w), tupI (win xs p.2 w)] := by
    rw [enum_wins, List.flatMap_map]
    unfold prs
    rw [List.map_flatMap]
    simp [Function.comp_def]
  have key := lc2_eval (C := sem P n) (env := [some (.d (tupI xs)), some (.d (tupI (combL w))), some (.d (.list (wins xs w))), none, none, none, none]) (k := .enum) (its := [(.v 2)]) (tg := .tup [4, 5]) (k2 := .val) (its2 := [(.sl (.v 2) .nop (.v 4))]) (tg2 := .one 6) (cond := .nop) (elt := (.tup [(.v 6), (.v 5)])) (h := h) (vs := [.d (.list (wins xs w))]) (ds := [.list (wins xs w)]) (items := enumD (wins xs w))
    (fun x => match x with | .tuple [.int b, y] => (List.range b.toNat).map fun a => PyData.tuple [tupI (win xs a w), y] | _ => []) (by simp) (by simp) rfl (by rw [er, List.length_map]; unfold lim; omega) fun x hx acc ha => by
      rw [enum_wins] at hx
      obtain ⟨b, hb, rfl⟩ := List.mem_map.mp hx
      have hb := List.mem_range.mp hb
      have es : slD (.list (wins xs w)) none (some (b : Int)) = some (.list ((List.range b).map fun a => tupI (win xs a w))) := by
        simp only [slD]
        rw [cut_to _ (by omega), Int.toNat_natCast]
        unfold wins
        rw [← List.map_take, List.take_range, Nat.min_eq_left (by omega)]
      have ht := turn2_pure (C := sem P n) (env0 := [some (.d (tupI xs)), some (.d (tupI (combL w))), some (.d (.list (wins xs w))), none, none, none, none]) (env1 := [some (.d (tupI xs)), some (.d (tupI (combL w))), some (.d (.list (wins xs w))), none, some (.d (.int (b : Int))), some (.d (tupI (win xs b w))), none]) (tg := .tup [4, 5]) (tg2 := .one 6) (k2 := .val) (its2 := [(.sl (.v 2) .nop (.v 4))]) (cond := .nop) (elt := (.tup [(.v 6), (.v 5)])) (x := .tuple [.int (b : Int), tupI (win xs b w)]) (h0 := h) (acc := acc) (vs := [.d (.list ((List.range b).map fun a => tupI (win xs a w)))]) (ds := [.list ((List.range b).map fun a => tupI (win xs a w))]) (items2 := (List.range b).map fun a => tupI (win xs a w)) (fun y => some (PyData.tuple [y, tupI (win xs b w)])) rfl (by simp [partOf, es]) (by simp) rfl (by
          simp only [List.length_map, List.length_range] at ha ⊢
          simpa using ha) fun y hy acc => by
        simp [turnP]
      have hw : wipeE [some (.d (tupI xs)), some (.d (tupI (combL w))), some (.d (.list (wins xs w))), none, none, none, none] (tgs (.tup [4, 5]) ++ tgs (.one 6)) = [some (.d (tupI xs)), some (.d (tupI (combL w))), some (.d (.list (wins xs w))), none, none, none, none] := rfl
      have e9 : (((List.range b).map fun a => tupI (win xs a w)).filterMap fun y => some (PyData.tuple [y, tupI (win xs b w)])) = (List.range (b : Int).toNat).map fun a => PyData.tuple [tupI (win xs a w), tupI (win xs b w)] := by
        rw [List.filterMap_eq_map', List.map_map]
        rfl
      rw [hw, ht, e9]
  rw [er] at key
  have k2 := lc_map (C := sem P n) (env := [some (.d (tupI xs)), some (.d (tupI (combL w))), some (.d (.list (wins xs w))), some (.d (.list ((prs xs.length).map fun p => PyData.tuple [tupI (win xs p.1 w), tupI (win xs p.2 w)]))), none, none, none]) (k := .val) (its := [(.v 3)]) (tg := .tup [6, 5]) (elt := (.call b [(.v 6), (.v 5)])) (h := h) (vs := [.d (.list ((prs xs.length).map fun p => PyData.tuple [tupI (win xs p.1 w), tupI (win xs p.2 w)]))]) (ds := [.list ((prs xs.length).map fun p => PyData.tuple [tupI (win xs p.1 w), tupI (win xs p.2 w)])]) (ts := prs xs.length) (fun p => PyData.tuple [tupI (win xs p.1 w), tupI (win xs p.2 w)]) (fun p => .int (apart (win xs p.1 w) (win xs p.2 w) : Int)) (by simp) (by simp) rfl (by omega) fun p hp h' => ⟨[some (.d (tupI xs)), some (.d (tupI (combL w))), some (.d (.list (wins xs w))), some (.d (.list ((prs xs.length).map fun p => PyData.tuple [tupI (win xs p.1 w), tupI (win xs p.2 w)]))), none, some (.d (tupI (win xs p.2 w))), some (.d (tupI (win xs p.1 w)))], rfl, by
      simp [c1 (win xs p.1 w) (win xs p.2 w) h' (by rw [win_length]; omega)]⟩
  have e3 : (prs xs.length).map (fun p => PyData.int (apart (win xs p.1 w) (win xs p.2 w) : Int)) = (aparts xs w).map .int := by
    rw [aparts_prs, List.map_map]
    rfl
  rw [e3] at k2
  have st1 := st_set (sem P n) [some (.d (tupI xs)), some (.d (tupI (combL w))), none, none, none, none, none] h P.wf (env1 := [some (.d (tupI xs)), some (.d (tupI (combL w))), some (.d (.list (wins xs w))), none, none, none, none]) (i := 2) (e := (.call a [(.v 0), (.v 1)])) (x := .list (wins xs w)) (h1 := h) (by simp [c0 xs w h h1 (by omega) hw]) rfl
  have st2 := st_set (sem P n) [some (.d (tupI xs)), some (.d (tupI (combL w))), some (.d (.list (wins xs w))), none, none, none, none] h P.wf (env1 := [some (.d (tupI xs)), some (.d (tupI (combL w))), some (.d (.list (wins xs w))), some (.d (.list ((prs xs.length).map fun p => PyData.tuple [tupI (win xs p.1 w), tupI (win xs p.2 w)]))), none, none, none]) (i := 3) key rfl
  refine callD hf (env := [some (.d (tupI xs)), some (.d (tupI (combL w))), none, none, none, none, none]) rfl rfl ?_
  unfold fCombApart
  rw [st1, st2, q_exs1, q_ret, q_bi, q_cons, k2]
  simp -implicitDefEqProofs only [bind_ok, q_nil, q_biP1, q_dat, Option.map, minD_ints, q_ofO, then_ok, obind_ret]
def fBearsBy (c : Nat) : FDef := ⟨3, 4, [(.set 3 (.call c [(.v 0), (.v 1)])), (.ret (.or_ (.isN true (.v 3)) (.cmp .Gt (.v 3) (.v 2))))]⟩
open Classical in
abbrev SBearsBy (C : Sem) (g : Nat) : Prop := ∀ (xs : List Int) (w : Nat) (d : Int) (h : IH), 1 ≤ xs.length → xs.length ≤ 100 → w ≤ 1000 → C.call g [.d (tupI xs), .d (tupI (combL w)), .d (.int d)] h = .ok (.d (.bool (decide (farther xs w d)))) h
theorem bearsBy_ok {c : Nat} (hf : P.defs[g]? = some (fBearsBy c)) (c0 : SCombApartBy (sem P n) c) : SBearsBy (sem P (n + 1)) g := by
  intro xs w d h h1 h2 hw
  refine callD hf (env := [some (.d (tupI xs)), some (.d (tupI (combL w))), some (.d (.int d)), none]) rfl rfl ?_
  have k := c0 xs w h h1 h2 hw
  unfold fBearsBy
  rcases leastD_cases (aparts xs w) with ⟨_, e⟩ | ⟨m, _, e, _⟩
  · rw [e] at k
    have := far_nil (d := d) e
    simp [k, this]
  · rw [e] at k
    have := far_gt (d := d) e
    by_cases hd : farther xs w d
    · simp [k, hd, this.mpr hd]
    · have z : ¬ d < m := fun q => hd (this.mp q)
      simp [k, hd, z]
/-! ### looks at combs -/
def fHead (c : Nat) : FDef := ⟨2, 2, [(.ret (.and_ (.call c [(.v 1), (.c (.int 0)), (.c (.int 31))]) (.ifx (.cmp .Eq (.v 0) (.tup [])) (.cmp .Eq (.v 1) (.c (.int 0))) (.cmp .Lt (.ix (.v 0) (.neg (.c (.int 1)))) (.v 1)))))]⟩
abbrev SHead (C : Sem) (g : Nat) : Prop := ∀ (k : Nat) (h : IH), k ≤ 31 → C.call g [.d (tupI (combL k)), .d (.int (k : Int))] h = .ok (.d (.bool true)) h
theorem head_ok {c : Nat} (hf : P.defs[g]? = some (fHead c)) (c0 : SBtw (sem P n) c) : SHead (sem P (n + 1)) g := by
  intro k h hk
  refine callD hf (env := [some (.d (tupI (combL k))), some (.d (.int (k : Int)))]) rfl rfl ?_
  have e0 := c0 (.int (k : Int)) 0 31 h rfl
  rw [btw_yes (by omega) (by omega)] at e0
  have eq0 : cmpD .Eq (tupI (combL k)) (.tuple []) = some (decide (combL k = [])) := eq_tupI (combL k) []
  unfold fHead
  cases k with
  | zero =>
    have e0z : (sem P n).call c [.d (.int 0), .d (.int 0), .d (.int 31)] h = .ok (.d (.bool true)) h := e0
    have eqz : cmpD .Eq (tupI []) (.tuple []) = some true := eq_tupI [] []
    have : combL 0 = [] := rfl
    simp [this, e0z, eqz]
  | succ k =>
    have hne : combL (k + 1) ≠ [] := by simp [combL]
    have hix : ixD (tupI (combL (k + 1))) (.int (-1)) = some (.int (k : Int)) := by
      unfold tupI
      show atD _ _ = _
      have hl : ((combL (k + 1)).map PyData.int).length = k + 1 := by simp [combL]
      unfold atD plc
      rw [hl, if_neg (by omega), if_pos (by omega), show ((-1 : Int) + ((k + 1 : Nat) : Int)).toNat = k by omega]
      simp [combL]
    have e0' := e0
    simp only [Int.natCast_add, Int.cast_ofNat_Int] at e0'
    simp [e0', eq0, hne, hix]
    omega
def lHead (c : Nat) : LDef := ⟨0, 2, (.call c [(.v 1), (.v 0)])⟩
abbrev SLHead (C : Sem) (g : Nat) : Prop := ∀ (k : Nat) (h : IH), k ≤ 31 → C.lam g [] [.int (k : Int), tupI (combL k)] h = .ok (.d (.bool true)) h
theorem lhead_ok {c : Nat} (hf : P.lams[g]? = some (lHead c)) (c0 : SHead (sem P n) c) : SLHead (sem P (n + 1)) g := by
  intro k h hk
  rw [lamP hf]
  simp [lHead, c0 k h hk]
theorem fw_loop2 (C : Sem) (wf : Nat) (xs : List D) (l : Nat) (cs : List D) (h : IH) (hc : ∀ k x, xs[k]? = some x → C.lam l cs [x, .tuple (xs.take k)] h = .ok (.d (.bool true)) h) : ∀ (ys : List D) (k : Nat) (e2 e3 : Option Val), (∀ j y, ys[j]? = some y → xs[k + j]? = some y) →
    ∃ e2' e3', forLoop (.tup [2, 3]) (fun env h => exs C wf env [(.ite (.nt (.callV 1 [(.v 3), (.sl (.v 0) .nop (.v 2))])) [(.ret (.v 2))] [])] h) (numb k ys) [some (.d (.tuple xs)), some (.clo l cs), e2, e3] h = .next [some (.d (.tuple xs)), some (.clo l cs), e2', e3'] h
  | [], k, e2, e3, _ => ⟨e2, e3, by simp [forLoop, numb]⟩
  | y :: ys, k, e2, e3, hm => by
    obtain ⟨a, b, ih⟩ := fw_loop2 C wf xs l cs h hc ys (k + 1) (some (.d (.int k))) (some (.d y)) fun j z hz => by
      have := hm (j + 1) z (by simpa using hz)
      rw [show k + 1 + j = k + (j + 1) by omega]
      exact this
    refine ⟨a, b, ?_⟩
    rw [← ih, numb_cons]
    have hy := hc k y (by simpa using hm 0 y rfl)
    have hs : slD (.tuple xs) none (some (k : Int)) = some (.tuple (xs.take k)) := by
      simp only [slD]
      rw [cut_to _ (by omega), Int.toNat_natCast]
    simp [forLoop, partOf, hs, hy]
def fWrongHead (c l : Nat) : FDef := ⟨1, 1, [(.ret (.callL c [(.v 0)] l []))]⟩
abbrev SWrongHead (C : Sem) (g : Nat) : Prop := ∀ (w : Nat) (h : IH), w ≤ 32 → C.call g [.d (tupI (combL w))] h = .ok (.d .none) h
theorem wrongHead_ok {c l : Nat} (hf : P.defs[g]? = some (fWrongHead c l)) (hc : P.defs[c]? = some fFirst) (c1 : SLHead (sem P n) l) : SWrongHead (sem P (n + 2)) g := by
  intro w h hw
  have cget : ∀ k x, ((combL w).map PyData.int)[k]? = some x → k < w ∧ x = .int (k : Int) := fun k x e => by
    obtain ⟨hk, e⟩ := List.getElem?_eq_some_iff.mp e
    have hk' : k < w := by simpa [combL] using hk
    refine ⟨hk', ?_⟩
    rw [← e]
    simp [combL]
  have ctake : ∀ k, k < w → ((combL w).map PyData.int).take k = (combL k).map .int := fun k hk => by
    unfold combL
    rw [← List.map_take, ← List.map_take, List.take_range, Nat.min_eq_left (by omega)]
  have e : (sem P (n + 1)).call c [.d (tupI (combL w)), .clo l []] h = .ok (.d .none) h := by
    obtain ⟨a, b, e⟩ := fw_loop2 (sem P n) P.wf ((combL w).map .int) l [] h (fun k x ex => by
      obtain ⟨hk, rfl⟩ := cget k x ex
      rw [ctake k hk]
      exact c1 k h (by omega)) ((combL w).map .int) 0 none none fun j y z => by rw [Nat.zero_add]; exact z
    refine callD hc (env := [some (.d (tupI (combL w))), some (.clo l []), none, none]) rfl rfl ?_
    unfold fFirst tupI
    rw [exs, ex1]
    have en : enumD ((combL w).map PyData.int) = numb 0 ((combL w).map .int) := rfl
    simp -implicitDefEqProofs only [q_cons, q_nil, q_v, q_get0, q_ofO, bind_ok, q_itr, q_dats1, q_dats0, Option.map, itemsD, en, then_ok, e]
    simp
  refine callD hf (env := [some (.d (tupI (combL w)))]) rfl rfl ?_
  unfold fWrongHead
  simp [capsOf, e]
def fChkComb (a b : Nat) (r q : IS) : FDef := ⟨1, 2, [(.ite (.nt (.call a [(.v 0), (.c (.int 1)), (.c (.int 6))])) [r] []), (.set 1 (.call b [(.v 0)])), (.ite (.isN false (.v 1)) [q] [])]⟩
abbrev SChkComb (C : Sem) (g : Nat) : Prop := ∀ (w : Nat) (h : IH), 1 ≤ w → w ≤ 6 → C.call g [.d (tupI (combL w))] h = .ok (.d .none) h
theorem chkComb_ok {a b : Nat} {r q : IS} (hf : P.defs[g]? = some (fChkComb a b r q)) (c0 : SRow (sem P n) a) (c1 : SWrongHead (sem P n) b) : SChkComb (sem P (n + 1)) g := by
  intro w h w1 w6
  have e0 := c0 (tupI (combL w)) 1 6 h rfl
  rw [show tlen (tupI (combL w)) 1 6 = true from tlen_yes (by simp [combL]; omega) (by simp [combL]; omega)] at e0
  rw [callP hf]
  simp [fChkComb, begin_, e0, c1 w h (by omega)]
def fChkCombed (a b : Nat) : FDef := ⟨3, 3, [(.ex (.call a [(.v 0), (.v 1)])), (.ex (.call b [(.v 2)]))]⟩
abbrev SChkCombed (C : Sem) (g : Nat) : Prop := ∀ (s : Int) (xs : List Int) (w : Nat) (h : IH), Rg s xs → 1 ≤ w → w ≤ 6 → C.call g [.d (.int s), .d (tupI xs), .d (tupI (combL w))] h = .ok (.d .none) h
theorem chkCombed_ok {a b : Nat} (hf : P.defs[g]? = some (fChkCombed a b)) (c0 : SSRing (sem P n) a) (c1 : SChkComb (sem P n) b) : SChkCombed (sem P (n + 1)) g := by
  intro s xs w h r w1 w6
  rw [callP hf]
  simp [fChkCombed, begin_, c0 s xs h r, c1 w h w1 w6]
def fTellsComb (a b : Nat) : FDef := ⟨3, 3, [(.ex (.call a [(.v 0), (.v 1), (.v 2)])), (.ret (.isN true (.call b [(.v 1), (.v 2)])))]⟩
open Classical in
abbrev STellsComb (C : Sem) (g : Nat) : Prop := ∀ (s : Int) (xs : List Int) (w : Nat) (h : IH), Rg s xs → 1 ≤ w → w ≤ 6 → C.call g [.d (.int s), .d (tupI xs), .d (tupI (combL w))] h = .ok (.d (.bool (decide (tellsP xs w)))) h
theorem tellsComb_ok {a b : Nat} (hf : P.defs[g]? = some (fTellsComb a b)) (c0 : SChkCombed (sem P n) a) (c1 : SCombGain (sem P n) b) : STellsComb (sem P (n + 1)) g := by
  intro s xs w h r w1 w6
  have := r.most
  obtain ⟨v, e, q⟩ := c1 xs w h r.one (by omega) (by omega)
  refine callD hf (env := [some (.d (.int s)), some (.d (tupI xs)), some (.d (tupI (combL w)))]) rfl rfl ?_
  unfold fTellsComb
  rcases q with ⟨rfl, q⟩ | ⟨hv, q⟩
  · simp [c0 s xs w h r w1 w6, e, q]
  · simp [c0 s xs w h r w1 w6, e, q, hv]
abbrev SCombApart (C : Sem) (g : Nat) : Prop := ∀ (s : Int) (xs : List Int) (w : Nat) (h : IH), Rg s xs → 1 ≤ w → w ≤ 6 → C.call g [.d (.int s), .d (tupI xs), .d (tupI (combL w))] h = .ok (.d (leastD (aparts xs w))) h
theorem combApart_ok {a b : Nat} (hf : P.defs[g]? = some (fAsk a b)) (c0 : SChkCombed (sem P n) a) (c1 : SCombApartBy (sem P n) b) : SCombApart (sem P (n + 1)) g := by
  intro s xs w h r w1 w6
  have := r.most
  refine callD hf (env := [some (.d (.int s)), some (.d (tupI xs)), some (.d (tupI (combL w)))]) rfl rfl ?_
  unfold fAsk
  simp [c0 s xs w h r w1 w6, c1 xs w h r.one (by omega) (by omega)]
def fChkLost (a b : Nat) (r : IS) : FDef := ⟨4, 4, [(.ex (.call a [(.v 0), (.v 1), (.v 2)])), (.ite (.nt (.call b [(.v 3)])) [r] [])]⟩
abbrev SChkLost (C : Sem) (g : Nat) : Prop := ∀ (s : Int) (xs : List Int) (w : Nat) (d : Int) (h : IH), Rg s xs → 1 ≤ w → w ≤ 6 → 0 ≤ d → d ≤ 3 → C.call g [.d (.int s), .d (tupI xs), .d (tupI (combL w)), .d (.int d)] h = .ok (.d .none) h
theorem chkLost_ok {a b : Nat} {r : IS} (hf : P.defs[g]? = some (fChkLost a b r)) (c0 : SChkCombed (sem P n) a) (c1 : SFix 0 3 (sem P n) b) : SChkLost (sem P (n + 1)) g := by
  intro s xs w d h rg w1 w6 d0 d3
  have e := c1 (.int d) h rfl
  rw [btw_yes d0 d3] at e
  rw [callP hf]
  simp [fChkLost, begin_, c0 s xs w h rg w1 w6, e]
open Classical in
abbrev SBears (C : Sem) (g : Nat) : Prop := ∀ (s : Int) (xs : List Int) (w : Nat) (d : Int) (h : IH), Rg s xs → 1 ≤ w → w ≤ 6 → 0 ≤ d → d ≤ 3 → C.call g [.d (.int s), .d (tupI xs), .d (tupI (combL w)), .d (.int d)] h = .ok (.d (.bool (decide (farther xs w d)))) h
theorem bears_ok {a b : Nat} (hf : P.defs[g]? = some (fAsk4 a b)) (c0 : SChkLost (sem P n) a) (c1 : SBearsBy (sem P n) b) : SBears (sem P (n + 1)) g := by
  intro s xs w d h r w1 w6 d0 d3
  have := r.most
  refine callD hf (env := [some (.d (.int s)), some (.d (tupI xs)), some (.d (tupI (combL w))), some (.d (.int d))]) rfl rfl ?_
  unfold fAsk4
  simp [c0 s xs w d h r w1 w6 d0 d3, c1 xs w d h r.one (by omega) (by omega)]
end
end RR.Q

-- RQ25
set_option maxHeartbeats 1000000
/-! The least wide. -/
namespace RR.Q
open PySem
section
variable {P : Prog} {n g : Nat}
theorem tells_mono {xs : List Int} {w v : Nat} (h : tellsP xs w) (hv : w ≤ v) : tellsP xs v := fun a b e => h a b (win_ext fun t ht => win_eq_at e (by omega))
/-- a ring that is its own true one tells by all its marks -/
theorem tells_full {xs : List Int} (h1 : 1 ≤ xs.length) (hT : IsTrue xs xs.length) : tellsP xs xs.length := by
  have ext : ∀ a b, win xs a xs.length = win xs b xs.length → ∀ j, at_ xs (a + j) = at_ xs (b + j) := fun a b e j => by
    have hm : j % xs.length < xs.length := Nat.mod_lt _ (by omega)
    have z := win_eq_at e hm
    rw [at_congr (j := a + j) (by rw [Nat.add_mod_mod]), at_congr (i := b + j % xs.length) (j := b + j) (by rw [Nat.add_mod_mod])] at z
    exact z
  have main : ∀ a b, a < xs.length → b < xs.length → a < b → win xs a xs.length = win xs b xs.length → False := fun a b ha hb hab e => by
    refine hT.min (b - a) (by omega) (by omega) fun i => ?_
    have z := ext a b e (i + xs.length - a)
    rw [show a + (i + xs.length - a) = i + xs.length by omega, show b + (i + xs.length - a) = i + (b - a) + xs.length by omega] at z
    rw [per_len xs i, per_len xs (i + (b - a))] at z
    exact z.symm
  intro a b e
  have ha : a % xs.length < xs.length := Nat.mod_lt _ (by omega)
  have hb : b % xs.length < xs.length := Nat.mod_lt _ (by omega)
  rw [← win_mod, ← win_mod xs b] at e
  by_cases q : a % xs.length < b % xs.length
  · exact (main _ _ ha hb q e).elim
  · by_cases q2 : b % xs.length < a % xs.length
    · exact (main _ _ hb ha q2 e.symm).elim
    · omega
/-- a shorter one gone through again never tells -/
theorem tells_never {xs : List Int} {K : Nat} (hT : IsTrue xs K) (hK : K < xs.length) (w : Nat) : ¬ tellsP xs w := fun h => by
  have := h 0 K (win_ext fun t _ => by rw [Nat.zero_add, Nat.add_comm K, hT.per])
  rw [Nat.zero_mod, Nat.mod_eq_of_lt hK] at this
  have := hT.lo
  omega
theorem while_tells {C : Sem} {a : Nat} {wf : Nat} {xs : List Int} {K : Nat} {h : IH} (h1 : 1 ≤ xs.length) (h2 : xs.length ≤ 1000) (hK : K ≤ 1000) (c0 : STellsBy C a) (hlow : ∀ v, v < K → 1 ≤ v → ¬ tellsP xs v) (hK2 : tellsP xs K) : ∀ (d f m : Nat), f + d = K → 1 ≤ f → d < m →
    whileLoop (fun env h => (ev C env (.nt (.call a [(.v 0), (.v 1)])) h).bind fun x h1 => ofO (truth x h1) h1) (fun env h => exs C wf env [(.set 1 (.bin .Add (.v 1) (.c (.int 1))))] h) m [some (.d (tupI xs)), some (.d (.int (f : Int)))] h = .next [some (.d (tupI xs)), some (.d (.int (K : Int)))] h := by
  classical
  intro d
  induction d with
  | zero =>
    intro f m hf f1 hm
    have : f = K := by omega
    subst this
    obtain ⟨m, rfl⟩ : ∃ k, m = k + 1 := ⟨m - 1, by omega⟩
    have k := c0 xs f h h1 h2 hK
    rw [decide_eq_true hK2] at k
    rw [whileLoop]
    simp -implicitDefEqProofs only [q_nt, q_call, q_cons, q_nil, q_v, q_get0, q_getS, q_ofO, bind_ok, k, q_truth_b, Bool.not_true, then_ok]
    simp
  | succ d ih =>
    intro f m hf f1 hm
    obtain ⟨m, rfl⟩ : ∃ k, m = k + 1 := ⟨m - 1, by omega⟩
    have k := c0 xs f h h1 h2 (by omega)
    rw [decide_eq_false (hlow f (by omega) f1)] at k
    have hx : exs C wf [some (.d (tupI xs)), some (.d (.int (f : Int)))] [(.set 1 (.bin .Add (.v 1) (.c (.int 1))))] h = .next [some (.d (tupI xs)), some (.d (.int ((f + 1 : Nat) : Int)))] h := by
      rw [st_set C _ _ wf (env1 := [some (.d (tupI xs)), some (.d (.int ((f + 1 : Nat) : Int)))]) (i := 1) (e := (.bin .Add (.v 1) (.c (.int 1)))) (x := .int ((f + 1 : Nat) : Int)) (h1 := h) (by simp) rfl, q_exs0]
    rw [whileLoop]
    simp -implicitDefEqProofs only [q_nt, q_call, q_cons, q_nil, q_v, q_get0, q_getS, q_ofO, bind_ok, k, q_truth_b, Bool.not_false, then_ok, if_true, hx]
    exact ih (f + 1) m (by omega) (by omega) (by omega)
theorem q_while (C : Sem) (env : Env) (h : IH) (wf : Nat) (t : IE) (body : List IS) : ex1 C wf env (.while_ t body) h = whileLoop (fun env h => (ev C env t h).bind fun x h1 => ofO (truth x h1) h1) (fun env h => exs C wf env body h) wf env h := by rw [ex1]
def fLeastWideBy (a b : Nat) : FDef := ⟨1, 2, [(.ite (.cmp .NotEq (.call a [(.v 0)]) (.v 0)) [(.ret (.c .none))] []), (.set 1 (.c (.int 1))), (.while_ (.nt (.call b [(.v 0), (.v 1)])) [(.set 1 (.bin .Add (.v 1) (.c (.int 1))))]), (.ret (.v 1))]⟩
/-- what is told of the least wide -/
def LeastW (xs : List Int) (r : D) : Prop := (r = .none ∧ ∀ w, ¬ tellsP xs w) ∨ ∃ K : Nat, r = .int (K : Int) ∧ 1 ≤ K ∧ ∀ w, 1 ≤ w → (tellsP xs w ↔ K ≤ w)
abbrev SLeastWideBy (C : Sem) (g : Nat) : Prop := ∀ (xs : List Int) (h : IH), 1 ≤ xs.length → xs.length ≤ 1000 → ∃ r : D, LeastW xs r ∧ C.call g [.d (tupI xs)] h = .ok (.d r) h
theorem leastWideBy_ok {a b : Nat} (hwf : 2000 ≤ P.wf) (hf : P.defs[g]? = some (fLeastWideBy a b)) (c0 : SRoot (sem P n) a) (c1 : STellsBy (sem P n) b) : SLeastWideBy (sem P (n + 1)) g := by
  classical
  intro xs h h1 h2
  obtain ⟨T, hT, e0⟩ := c0 xs h h1 h2
  by_cases hlt : T < xs.length
  · refine ⟨.none, .inl ⟨rfl, tells_never hT hlt⟩, callD hf (env := [some (.d (tupI xs)), none]) rfl rfl ?_⟩
    have hne : xs.take T ≠ xs := fun z => by
      have := congrArg List.length z
      rw [List.length_take] at this
      omega
    unfold fLeastWideBy
    simp [e0, hne]
  · have hTn : T = xs.length := by have := hT.hi; omega
    subst hTn
    rw [List.take_length] at e0
    have hfull := tells_full h1 hT
    have hex : ∀ m, tellsP xs m → 1 ≤ m → ∃ K, 1 ≤ K ∧ K ≤ m ∧ tellsP xs K ∧ ∀ v, v < K → 1 ≤ v → ¬ tellsP xs v := fun m => by
      induction m with
      | zero => intro _ h; omega
      | succ m ih =>
        intro hm _
        by_cases q : 1 ≤ m ∧ tellsP xs m
        · obtain ⟨K, k1, k2, k3, k4⟩ := ih q.2 q.1
          exact ⟨K, k1, by omega, k3, k4⟩
        · refine ⟨m + 1, by omega, by omega, hm, fun v hv v1 hv2 => q ⟨by omega, tells_mono hv2 (by omega)⟩⟩
    obtain ⟨K, k1, k2, k3, k4⟩ := hex xs.length hfull h1
    refine ⟨.int (K : Int), .inr ⟨K, rfl, k1, fun w w1 => ⟨fun hw => ?_, fun hw => tells_mono k3 hw⟩⟩, callD hf (env := [some (.d (tupI xs)), none]) rfl rfl ?_⟩
    · by_cases q : K ≤ w
      · exact q
      · exact absurd hw (k4 w (by omega) w1)
    · have wl := while_tells (C := sem P n) (wf := P.wf) (h := h) h1 h2 (by omega) c1 k4 k3 (K - 1) 1 P.wf (by omega) (by omega) (by omega)
      simp only [Int.cast_ofNat_Int] at wl
      have st1 := st_iteF (sem P n) [some (.d (tupI xs)), none] h P.wf (t := (.cmp .NotEq (.call a [(.v 0)]) (.v 0))) (a := [(.ret (.c .none))]) (h1 := h) (by
        simp -implicitDefEqProofs only [q_cmp, q_call, q_cons, q_nil, q_v, q_get0, q_ofO, bind_ok, e0, q_dat, ne_tupI, decide_true, Bool.not_true, Option.map])
      have st2 := st_set (sem P n) [some (.d (tupI xs)), none] h P.wf (env1 := [some (.d (tupI xs)), some (.d (.int 1))]) (i := 1) (e := (.c (.int 1))) (x := .int 1) (h1 := h) (by simp) rfl
      have st3 := st_one (sem P n) [some (.d (tupI xs)), some (.d (.int 1))] h P.wf (s := (.while_ (.nt (.call b [(.v 0), (.v 1)])) [(.set 1 (.bin .Add (.v 1) (.c (.int 1))))])) (env1 := [some (.d (tupI xs)), some (.d (.int (K : Int)))]) (h1 := h) (by rw [q_while]; exact wl)
      unfold fLeastWideBy
      rw [st1, st2, st3]
      simp
abbrev SLeastWide (C : Sem) (g : Nat) : Prop := ∀ (s : Int) (xs : List Int) (h : IH), Rg s xs → ∃ r : D, LeastW xs r ∧ C.call g [.d (.int s), .d (tupI xs)] h = .ok (.d r) h
theorem leastWide_ok {a b : Nat} (hf : P.defs[g]? = some (fLeastTurn a b)) (c0 : SSRing (sem P n) a) (c1 : SLeastWideBy (sem P n) b) : SLeastWide (sem P (n + 1)) g := by
  intro s xs h r
  have := r.most
  obtain ⟨v, q, e⟩ := c1 xs h r.one (by omega)
  refine ⟨v, q, callD hf (env := [some (.d (.int s)), some (.d (tupI xs))]) rfl rfl ?_⟩
  unfold fLeastTurn
  simp [c0 s xs h r, e]
end
end RR.Q

-- RQ30
set_option maxHeartbeats 1000000
/-! Another family of laws: its drawn numbers, its frame. -/
namespace RR.Q
open PySem
section
variable {P : Prog} {n g : Nat}
@[simp] theorem q_md (C : Sem) (env : Env) (h : IH) (m : Me) (o : IE) (es : List IE) : ev C env (.md m o es) h = (ev C env o h).bind fun x h1 => if isSeq x h1 then (evs C env es h1).bind fun xs h2 => match dat x h2, dats xs h2 with
    | some d, some ds => ofO ((meD m d ds).map .d) h2
    | _, _ => .stuck
    else .stuck := by
  rw [ev] <;> rfl
theorem mul_smallR {i j : Int} (h : -1000000000000 < j) (h' : j < 1000000000000) : binD .Mult (.int i) (.int j) = some (.int (i * j)) := by
  show (if mulOk i j = true then _ else _) = _
  rw [if_pos]
  have e : (2 : Int) ^ 64 = 18446744073709551616 := by decide
  unfold mulOk
  rw [e]
  have h1 : decide (-18446744073709551616 < j) = true := decide_eq_true (by omega)
  have h2 : decide (j < 18446744073709551616) = true := decide_eq_true (by omega)
  rw [h1, h2]
  simp
theorem div_128 {i : Int} : binD .FloorDiv (.int i) (.int 128) = some (.int (i / 128)) := rfl
theorem div_many {i j : Int} (h1 : 1 ≤ j) (h2 : j ≤ 1000000000) : binD .FloorDiv (.int i) (.int j) = some (.int (i / j)) := by
  show (if _ then _ else _) = _
  have hb : decide (big j < 9000) = true := decide_eq_true (by
    unfold big
    by_cases hz : j.natAbs = 0
    · rw [hz]; decide
    · have e60 : (2 : Nat) ^ 60 = 1152921504606846976 := by decide
      have l60 : j.natAbs < 2 ^ 60 := by omega
      exact (Nat.log2_lt hz).mpr (Nat.lt_of_lt_of_le l60 (Nat.pow_le_pow_right (by decide) (by decide))))
  have hp : decide (0 < j) = true := decide_eq_true (by omega)
  rw [if_pos (by rw [hb, hp]; rfl)]
theorem int_i (i : Int) : biD .int [.int i] = some (.int i) := rfl
def fTake2 : FDef := ⟨2, 5, [(.setT [(.one 2), (.one 3), (.one 4)] (.v 0)), (.setS (.v 0) (.c (.int 1)) (.bin .Mod (.bi .int [(.bin .Add (.bin .Add (.bin .Mult (.v 3) (.bin .Add (.c (.int 46021)) (.bin .Mult (.c (.int 6)) (.v 4)))) (.bin .Mult (.c (.int 18013)) (.v 4))) (.c (.int 6637)))]) (.c (.int 2147483549)))), (.setS (.v 0) (.c (.int 2)) (.bin .Add (.v 4) (.c (.int 1)))), (.ite (.cmp .Gt (.v 2) (.c (.int 0))) [(.setS (.v 0) (.c (.int 0)) (.bin .FloorDiv (.bi .int [(.v 2)]) (.v 1))), (.ret (.bin .Mod (.bi .int [(.v 2)]) (.v 1)))] []), (.ret (.bin .Mod (.bi .int [(.bin .FloorDiv (.ix (.v 0) (.c (.int 1))) (.c (.int 128)))]) (.v 1)))]⟩
theorem take2_ok (hf : P.defs[g]? = some fTake2) : STake (sem P (n + 1)) g := by
  intro m many h ⟨a, b, c, e, hb, hb'⟩ h1 h2
  have hm : m < h.length := (List.getElem?_eq_some_iff.mp e).1
  generalize hs : (b * (46021 + 6 * c) + 18013 * c + 6637) % 2147483549 = s
  have hs1 : 0 ≤ s := by rw [← hs]; exact Int.emod_nonneg _ (by decide)
  have hs2 : s < 2147483549 := by rw [← hs]; exact Int.emod_lt_of_pos _ (by decide)
  have s1 := st_ref (i := 1) (x := .int s) (j := 1) e rfl
  have e1 : (h.set m (cell3 a s c))[m]? = some (cell3 a s c) := List.getElem?_set_self hm
  have s2 := st_ref (i := 2) (x := .int (c + 1)) (j := 2) e1 rfl
  have e2 : (h.set m (cell3 a s (c + 1)))[m]? = some (cell3 a s (c + 1)) := List.getElem?_set_self hm
  simp only [List.set_set, List.set] at s2 s1
  have run : ∀ rest, exs (sem P n) P.wf [some (.ref m), some (.d (.int many)), none, none, none] ((.setT [(.one 2), (.one 3), (.one 4)] (.v 0)) :: (.setS (.v 0) (.c (.int 1)) (.bin .Mod (.bi .int [(.bin .Add (.bin .Add (.bin .Mult (.v 3) (.bin .Add (.c (.int 46021)) (.bin .Mult (.c (.int 6)) (.v 4)))) (.bin .Mult (.c (.int 18013)) (.v 4))) (.c (.int 6637)))]) (.c (.int 2147483549)))) :: (.setS (.v 0) (.c (.int 2)) (.bin .Add (.v 4) (.c (.int 1)))) :: rest) h = exs (sem P n) P.wf [some (.ref m), some (.d (.int many)), some (.d (.int a)), some (.d (.int b)), some (.d (.int c))] rest (h.set m (cell3 a s (c + 1))) := fun rest => by
    rw [q_exs1, q_setT]
    simp only [q_c, q_v, q_fn, q_bin, q_neg, q_nt, q_cmp, q_chain, q_isN, q_and, q_or, q_ifx, q_tup, q_lst, q_ix, q_sl, q_prt_nop, q_prt_v, q_prt_c, q_prt_bin, q_prt_neg, q_prt_bi, q_prt_call, q_rev, q_call, q_callK, q_bi, q_isI, q_mut_lst, q_md, q_nil, q_cons, q_get0, q_getS, q_ofO, bind_ok, q_truth_b, q_truth_i, q_dat, q_dats0, q_dats1, q_biP0, q_biP1, q_biP2, Option.map, partOf, List.length_cons, List.length_nil, Nat.zero_add, Nat.reduceAdd, if_pos (q_lim 0 (by decide)), if_pos (q_lim 1 (by decide)), if_pos (q_lim 2 (by decide)), if_pos (q_lim 3 (by decide)), if_pos (q_lim 4 (by decide)), q_add, q_sub, q_le, q_lt, q_ge, q_gt, eq_ints, ne_ints, q_lenI, q_bl1, q_bl2, q_btp1, q_btp2, then_ok, q_setV, q_setVr, obind_next, obind_ret, List.set, if_true, Bool.not_true, Bool.not_false, dat_ref e, q_st1, q_st0]
    rw [q_exs1, q_setS]
    simp only [q_c, q_v, q_fn, q_bin, q_neg, q_nt, q_cmp, q_chain, q_isN, q_and, q_or, q_ifx, q_tup, q_lst, q_ix, q_sl, q_prt_nop, q_prt_v, q_prt_c, q_prt_bin, q_prt_neg, q_prt_bi, q_prt_call, q_rev, q_call, q_callK, q_bi, q_isI, q_mut_lst, q_md, q_nil, q_cons, q_get0, q_getS, q_ofO, bind_ok, q_truth_b, q_truth_i, q_dat, q_dats0, q_dats1, q_biP0, q_biP1, q_biP2, Option.map, partOf, List.length_cons, List.length_nil, Nat.zero_add, Nat.reduceAdd, if_pos (q_lim 0 (by decide)), if_pos (q_lim 1 (by decide)), if_pos (q_lim 2 (by decide)), if_pos (q_lim 3 (by decide)), if_pos (q_lim 4 (by decide)), q_add, q_sub, q_le, q_lt, q_ge, q_gt, eq_ints, ne_ints, q_lenI, q_bl1, q_bl2, q_btp1, q_btp2, then_ok, q_setV, q_setVr, obind_next, obind_ret, List.set, if_true, Bool.not_true, Bool.not_false, int_i, mul_small (i := b) (by omega) (by omega), mul_small (i := 6) (by decide) (by decide), mul_small (i := 18013) (by decide) (by decide), mod_lit 2147483549 (by decide), hs, s1]
    rw [q_exs1, q_setS]
    simp only [q_c, q_v, q_fn, q_bin, q_neg, q_nt, q_cmp, q_chain, q_isN, q_and, q_or, q_ifx, q_tup, q_lst, q_ix, q_sl, q_prt_nop, q_prt_v, q_prt_c, q_prt_bin, q_prt_neg, q_prt_bi, q_prt_call, q_rev, q_call, q_callK, q_bi, q_isI, q_mut_lst, q_md, q_nil, q_cons, q_get0, q_getS, q_ofO, bind_ok, q_truth_b, q_truth_i, q_dat, q_dats0, q_dats1, q_biP0, q_biP1, q_biP2, Option.map, partOf, List.length_cons, List.length_nil, Nat.zero_add, Nat.reduceAdd, if_pos (q_lim 0 (by decide)), if_pos (q_lim 1 (by decide)), if_pos (q_lim 2 (by decide)), if_pos (q_lim 3 (by decide)), if_pos (q_lim 4 (by decide)), q_add, q_sub, q_le, q_lt, q_ge, q_gt, eq_ints, ne_ints, q_lenI, q_bl1, q_bl2, q_btp1, q_btp2, then_ok, q_setV, q_setVr, obind_next, obind_ret, List.set, if_true, Bool.not_true, Bool.not_false, s2]
  by_cases ha : 0 < a
  · have q1 := Int.emod_nonneg a (show many ≠ 0 by omega)
    have q2 := Int.emod_lt_of_pos a (show 0 < many by omega)
    have ed : ((a % many).toNat : Int) = a % many := Int.toNat_of_nonneg q1
    refine ⟨(a % many).toNat, h.set m (cell3 (a / many) s (c + 1)), by omega, .inr ⟨_, _, _, rfl, hs1, by omega⟩, ?_⟩
    refine (callR hf (env := [some (.ref m), some (.d (.int many)), none, none, none]) (o := .ret (.d (.int (a % many))) (h.set m (cell3 (a / many) s (c + 1)))) rfl rfl ?_).trans ?_
    · have s0 := st_ref (i := 0) (x := .int (a / many)) (j := 0) e2 rfl
      simp only [List.set_set, List.set] at s0
      unfold fTake2
      rw [run, q_exs1, q_ite]
      simp only [q_c, q_v, q_fn, q_bin, q_neg, q_nt, q_cmp, q_chain, q_isN, q_and, q_or, q_ifx, q_tup, q_lst, q_ix, q_sl, q_prt_nop, q_prt_v, q_prt_c, q_prt_bin, q_prt_neg, q_prt_bi, q_prt_call, q_rev, q_call, q_callK, q_bi, q_isI, q_mut_lst, q_md, q_nil, q_cons, q_get0, q_getS, q_ofO, bind_ok, q_truth_b, q_truth_i, q_dat, q_dats0, q_dats1, q_biP0, q_biP1, q_biP2, Option.map, partOf, List.length_cons, List.length_nil, Nat.zero_add, Nat.reduceAdd, if_pos (q_lim 0 (by decide)), if_pos (q_lim 1 (by decide)), if_pos (q_lim 2 (by decide)), if_pos (q_lim 3 (by decide)), if_pos (q_lim 4 (by decide)), q_add, q_sub, q_le, q_lt, q_ge, q_gt, eq_ints, ne_ints, q_lenI, q_bl1, q_bl2, q_btp1, q_btp2, then_ok, q_setV, q_setVr, obind_next, obind_ret, List.set, if_true, Bool.not_true, Bool.not_false, ha, decide_true]
      rw [q_exs1, q_setS]
      simp only [q_c, q_v, q_fn, q_bin, q_neg, q_nt, q_cmp, q_chain, q_isN, q_and, q_or, q_ifx, q_tup, q_lst, q_ix, q_sl, q_prt_nop, q_prt_v, q_prt_c, q_prt_bin, q_prt_neg, q_prt_bi, q_prt_call, q_rev, q_call, q_callK, q_bi, q_isI, q_mut_lst, q_md, q_nil, q_cons, q_get0, q_getS, q_ofO, bind_ok, q_truth_b, q_truth_i, q_dat, q_dats0, q_dats1, q_biP0, q_biP1, q_biP2, Option.map, partOf, List.length_cons, List.length_nil, Nat.zero_add, Nat.reduceAdd, if_pos (q_lim 0 (by decide)), if_pos (q_lim 1 (by decide)), if_pos (q_lim 2 (by decide)), if_pos (q_lim 3 (by decide)), if_pos (q_lim 4 (by decide)), q_add, q_sub, q_le, q_lt, q_ge, q_gt, eq_ints, ne_ints, q_lenI, q_bl1, q_bl2, q_btp1, q_btp2, then_ok, q_setV, q_setVr, obind_next, obind_ret, List.set, if_true, Bool.not_true, Bool.not_false, int_i, div_many h1 h2, s0]
      rw [q_exs1, q_ret]
      simp only [q_c, q_v, q_fn, q_bin, q_neg, q_nt, q_cmp, q_chain, q_isN, q_and, q_or, q_ifx, q_tup, q_lst, q_ix, q_sl, q_prt_nop, q_prt_v, q_prt_c, q_prt_bin, q_prt_neg, q_prt_bi, q_prt_call, q_rev, q_call, q_callK, q_bi, q_isI, q_mut_lst, q_md, q_nil, q_cons, q_get0, q_getS, q_ofO, bind_ok, q_truth_b, q_truth_i, q_dat, q_dats0, q_dats1, q_biP0, q_biP1, q_biP2, Option.map, partOf, List.length_cons, List.length_nil, Nat.zero_add, Nat.reduceAdd, if_pos (q_lim 0 (by decide)), if_pos (q_lim 1 (by decide)), if_pos (q_lim 2 (by decide)), if_pos (q_lim 3 (by decide)), if_pos (q_lim 4 (by decide)), q_add, q_sub, q_le, q_lt, q_ge, q_gt, eq_ints, ne_ints, q_lenI, q_bl1, q_bl2, q_btp1, q_btp2, then_ok, q_setV, q_setVr, obind_next, obind_ret, List.set, if_true, Bool.not_true, Bool.not_false, int_i, mod_lit many (by omega)]
    · rw [q_fin, ed, List.take_of_length_le (by rw [List.length_set]; exact Nat.le_refl _)]
  · have q1 := Int.emod_nonneg (s / 128) (show many ≠ 0 by omega)
    have q2 := Int.emod_lt_of_pos (s / 128) (show 0 < many by omega)
    have ed : ((s / 128 % many).toNat : Int) = s / 128 % many := Int.toNat_of_nonneg q1
    refine ⟨(s / 128 % many).toNat, h.set m (cell3 a s (c + 1)), by omega, .inr ⟨_, _, _, rfl, hs1, by omega⟩, ?_⟩
    refine (callR hf (env := [some (.ref m), some (.d (.int many)), none, none, none]) (o := .ret (.d (.int (s / 128 % many))) (h.set m (cell3 a s (c + 1)))) rfl rfl ?_).trans ?_
    · have c1 := cell_ix (C := sem P n) (env := [some (.ref m), some (.d (.int many)), some (.d (.int a)), some (.d (.int b)), some (.d (.int c))]) (v := 0) (m := m) (h := h.set m (cell3 a s (c + 1))) (k := 1) (x := .int s) rfl e2 rfl
      simp only [Int.cast_ofNat_Int] at c1
      unfold fTake2
      rw [run, q_exs1, q_ite]
      simp only [q_c, q_v, q_fn, q_bin, q_neg, q_nt, q_cmp, q_chain, q_isN, q_and, q_or, q_ifx, q_tup, q_lst, q_ix, q_sl, q_prt_nop, q_prt_v, q_prt_c, q_prt_bin, q_prt_neg, q_prt_bi, q_prt_call, q_rev, q_call, q_callK, q_bi, q_isI, q_mut_lst, q_md, q_nil, q_cons, q_get0, q_getS, q_ofO, bind_ok, q_truth_b, q_truth_i, q_dat, q_dats0, q_dats1, q_biP0, q_biP1, q_biP2, Option.map, partOf, List.length_cons, List.length_nil, Nat.zero_add, Nat.reduceAdd, if_pos (q_lim 0 (by decide)), if_pos (q_lim 1 (by decide)), if_pos (q_lim 2 (by decide)), if_pos (q_lim 3 (by decide)), if_pos (q_lim 4 (by decide)), q_add, q_sub, q_le, q_lt, q_ge, q_gt, eq_ints, ne_ints, q_lenI, q_bl1, q_bl2, q_btp1, q_btp2, then_ok, q_setV, q_setVr, obind_next, obind_ret, List.set, if_true, Bool.not_true, Bool.not_false, ha, decide_false, q_exs0]
      rw [q_exs1, q_ret, q_bin, q_bi, q_cons, q_bin, c1]
      simp only [q_c, q_v, q_fn, q_bin, q_neg, q_nt, q_cmp, q_chain, q_isN, q_and, q_or, q_ifx, q_tup, q_lst, q_ix, q_sl, q_prt_nop, q_prt_v, q_prt_c, q_prt_bin, q_prt_neg, q_prt_bi, q_prt_call, q_rev, q_call, q_callK, q_bi, q_isI, q_mut_lst, q_md, q_nil, q_cons, q_get0, q_getS, q_ofO, bind_ok, q_truth_b, q_truth_i, q_dat, q_dats0, q_dats1, q_biP0, q_biP1, q_biP2, Option.map, partOf, List.length_cons, List.length_nil, Nat.zero_add, Nat.reduceAdd, if_pos (q_lim 0 (by decide)), if_pos (q_lim 1 (by decide)), if_pos (q_lim 2 (by decide)), if_pos (q_lim 3 (by decide)), if_pos (q_lim 4 (by decide)), q_add, q_sub, q_le, q_lt, q_ge, q_gt, eq_ints, ne_ints, q_lenI, q_bl1, q_bl2, q_btp1, q_btp2, then_ok, q_setV, q_setVr, obind_next, obind_ret, List.set, if_true, Bool.not_true, Bool.not_false, int_i, div_128, mod_lit many (by omega)]
    · rw [q_fin, ed, List.take_of_length_le (by rw [List.length_set]; exact Nat.le_refl _)]
def fPurse : FDef := ⟨2, 5, [(.set 2 (.ifx (.cmp .Lt (.v 1) (.bi .len [(.v 0)])) (.ix (.v 0) (.v 1)) (.c (.int 0)))), (.set 3 (.bin .Mod (.bi .int [(.bin .Add (.bin .Add (.bin .Mult (.v 2) (.c (.int 43201))) (.bin .Mult (.v 1) (.c (.int 52027)))) (.c (.int 41017)))]) (.c (.int 2147483549)))), (.for_ .val [(.ifx (.cmp .GtE (.v 1) (.bi .len [(.v 0)])) (.sl (.v 0) .nop (.c (.int 4))) (.lst []))] (.one 4) [(.set 3 (.bin .Mod (.bi .int [(.bin .Add (.bin .Mult (.v 3) (.c (.int 36007))) (.v 4))]) (.c (.int 2147483549))))]), (.ret (.mut (.lst [(.ifx (.cmp .GtE (.bi .abs [(.v 2)]) (.bin .Pow (.c (.int 10)) (.c (.int 18)))) (.bi .abs [(.v 2)]) (.c (.int 0))), (.v 3), (.c (.int 0))])))]⟩
abbrev SPurse (C : Sem) (g : Nat) : Prop := ∀ (ns : List Int) (k : Nat) (h : IH), k ≤ 10 → ∃ a b c : Int, 0 ≤ b ∧ b < 2147483549 ∧ C.call g [.d (.list (ns.map .int)), .d (.int k)] h = .ok (.ref h.length) (h ++ [cell3 a b c])
theorem abs_i (i : Int) : biD .abs [.int i] = some (.int (if i < 0 then -i else i)) := rfl
theorem purse_ok (hf : P.defs[g]? = some fPurse) : SPurse (sem P (n + 1)) g := by
  intro ns k h hk
  -- the cell
  have c0 : ∃ cell : Int, ev (sem P n) [some (.d (.list (ns.map .int))), some (.d (.int k)), none, none, none] (.ifx (.cmp .Lt (.v 1) (.bi .len [(.v 0)])) (.ix (.v 0) (.v 1)) (.c (.int 0))) h = .ok (.d (.int cell)) h := by
    by_cases hl : (k : Int) < (ns.length : Int)
    · refine ⟨ns[k]'(by omega), ?_⟩
      have hix : ixD (.list (ns.map .int)) (.int (k : Int)) = some (.int (ns[k]'(by omega))) := by
        show atD _ _ = _
        rw [at_nat (by rw [List.length_map]; omega)]
        simp
      simp only [q_c, q_v, q_fn, q_bin, q_neg, q_nt, q_cmp, q_chain, q_isN, q_and, q_or, q_ifx, q_tup, q_lst, q_ix, q_sl, q_prt_nop, q_prt_v, q_prt_c, q_prt_bin, q_prt_neg, q_prt_bi, q_prt_call, q_rev, q_call, q_callK, q_bi, q_isI, q_mut_lst, q_md, q_nil, q_cons, q_get0, q_getS, q_ofO, bind_ok, q_truth_b, q_truth_i, q_dat, q_dats0, q_dats1, q_biP0, q_biP1, q_biP2, Option.map, partOf, List.length_cons, List.length_nil, Nat.zero_add, Nat.reduceAdd, if_pos (q_lim 0 (by decide)), if_pos (q_lim 1 (by decide)), if_pos (q_lim 2 (by decide)), if_pos (q_lim 3 (by decide)), if_pos (q_lim 4 (by decide)), q_add, q_sub, q_le, q_lt, q_ge, q_gt, eq_ints, ne_ints, q_lenI, q_bl1, q_bl2, q_btp1, q_btp2, then_ok, q_setV, q_setVr, obind_next, obind_ret, List.set, if_true, Bool.not_true, Bool.not_false, List.length_map, hl, decide_true, hix]
    · refine ⟨0, ?_⟩
      simp only [q_c, q_v, q_fn, q_bin, q_neg, q_nt, q_cmp, q_chain, q_isN, q_and, q_or, q_ifx, q_tup, q_lst, q_ix, q_sl, q_prt_nop, q_prt_v, q_prt_c, q_prt_bin, q_prt_neg, q_prt_bi, q_prt_call, q_rev, q_call, q_callK, q_bi, q_isI, q_mut_lst, q_md, q_nil, q_cons, q_get0, q_getS, q_ofO, bind_ok, q_truth_b, q_truth_i, q_dat, q_dats0, q_dats1, q_biP0, q_biP1, q_biP2, Option.map, partOf, List.length_cons, List.length_nil, Nat.zero_add, Nat.reduceAdd, if_pos (q_lim 0 (by decide)), if_pos (q_lim 1 (by decide)), if_pos (q_lim 2 (by decide)), if_pos (q_lim 3 (by decide)), if_pos (q_lim 4 (by decide)), q_add, q_sub, q_le, q_lt, q_ge, q_gt, eq_ints, ne_ints, q_lenI, q_bl1, q_bl2, q_btp1, q_btp2, then_ok, q_setV, q_setVr, obind_next, obind_ret, List.set, if_true, Bool.not_true, Bool.not_false, List.length_map, hl, decide_false]
  obtain ⟨cell, hc⟩ := c0
  generalize hs : (cell * 43201 + (k : Int) * 52027 + 41017) % 2147483549 = s
  have hs1 : 0 ≤ s := by rw [← hs]; exact Int.emod_nonneg _ (by decide)
  have hs2 : s < 2147483549 := by rw [← hs]; exact Int.emod_lt_of_pos _ (by decide)
  obtain ⟨ds, hds⟩ : ∃ ds : List Int, ev (sem P n) [some (.d (.list (ns.map .int))), some (.d (.int k)), some (.d (.int cell)), some (.d (.int s)), none] (.ifx (.cmp .GtE (.v 1) (.bi .len [(.v 0)])) (.sl (.v 0) .nop (.c (.int 4))) (.lst [])) h = .ok (.d (.list (ds.map .int))) h := by
    obtain ⟨ds, ed⟩ := cutD_map ns none (some 4)
    by_cases hl : (ns.length : Int) ≤ (k : Int)
    · refine ⟨ds, ?_⟩
      simp only [q_c, q_v, q_fn, q_bin, q_neg, q_nt, q_cmp, q_chain, q_isN, q_and, q_or, q_ifx, q_tup, q_lst, q_ix, q_sl, q_prt_nop, q_prt_v, q_prt_c, q_prt_bin, q_prt_neg, q_prt_bi, q_prt_call, q_rev, q_call, q_callK, q_bi, q_isI, q_mut_lst, q_md, q_nil, q_cons, q_get0, q_getS, q_ofO, bind_ok, q_truth_b, q_truth_i, q_dat, q_dats0, q_dats1, q_biP0, q_biP1, q_biP2, Option.map, partOf, List.length_cons, List.length_nil, Nat.zero_add, Nat.reduceAdd, if_pos (q_lim 0 (by decide)), if_pos (q_lim 1 (by decide)), if_pos (q_lim 2 (by decide)), if_pos (q_lim 3 (by decide)), if_pos (q_lim 4 (by decide)), q_add, q_sub, q_le, q_lt, q_ge, q_gt, eq_ints, ne_ints, q_lenI, q_bl1, q_bl2, q_btp1, q_btp2, then_ok, q_setV, q_setVr, obind_next, obind_ret, List.set, if_true, Bool.not_true, Bool.not_false, List.length_map, hl, decide_true, slD, ed]
    · refine ⟨[], ?_⟩
      simp only [q_c, q_v, q_fn, q_bin, q_neg, q_nt, q_cmp, q_chain, q_isN, q_and, q_or, q_ifx, q_tup, q_lst, q_ix, q_sl, q_prt_nop, q_prt_v, q_prt_c, q_prt_bin, q_prt_neg, q_prt_bi, q_prt_call, q_rev, q_call, q_callK, q_bi, q_isI, q_mut_lst, q_md, q_nil, q_cons, q_get0, q_getS, q_ofO, bind_ok, q_truth_b, q_truth_i, q_dat, q_dats0, q_dats1, q_biP0, q_biP1, q_biP2, Option.map, partOf, List.length_cons, List.length_nil, Nat.zero_add, Nat.reduceAdd, if_pos (q_lim 0 (by decide)), if_pos (q_lim 1 (by decide)), if_pos (q_lim 2 (by decide)), if_pos (q_lim 3 (by decide)), if_pos (q_lim 4 (by decide)), q_add, q_sub, q_le, q_lt, q_ge, q_gt, eq_ints, ne_ints, q_lenI, q_bl1, q_bl2, q_btp1, q_btp2, then_ok, q_setV, q_setVr, obind_next, obind_ret, List.set, if_true, Bool.not_true, Bool.not_false, List.length_map, hl, decide_false, List.map_nil]
  obtain ⟨env', h', ef, v3, v4, rfl, rfl, q1, q2⟩ := for_inv (tg := .one 4) (body := fun env h => exs (sem P n) P.wf env [(.set 3 (.bin .Mod (.bi .int [(.bin .Add (.bin .Mult (.v 3) (.c (.int 36007))) (.v 4))]) (.c (.int 2147483549))))] h) (items := ds.map .int) (env := [some (.d (.list (ns.map .int))), some (.d (.int k)), some (.d (.int cell)), some (.d (.int s)), none]) (h := h) (I := fun env h' => ∃ (v3 : Int) (v4 : Option Val), h' = h ∧ env = [some (.d (.list (ns.map .int))), some (.d (.int k)), some (.d (.int cell)), some (.d (.int v3)), v4] ∧ 0 ≤ v3 ∧ v3 < 2147483549) ⟨s, none, rfl, rfl, hs1, hs2⟩ (by
    intro x hx env h' ⟨v3, v4, hh, he, q1, q2⟩
    subst hh he
    obtain ⟨i, _, rfl⟩ := List.mem_map.mp hx
    refine ⟨_, [some (.d (.list (ns.map .int))), some (.d (.int k)), some (.d (.int cell)), some (.d (.int ((v3 * 36007 + i) % 2147483549))), some (.d (.int i))], h', rfl, ?_, _, _, rfl, rfl, Int.emod_nonneg _ (by decide), Int.emod_lt_of_pos _ (by decide)⟩
    simp only [q_c, q_v, q_fn, q_bin, q_neg, q_nt, q_cmp, q_chain, q_isN, q_and, q_or, q_ifx, q_tup, q_lst, q_ix, q_sl, q_prt_nop, q_prt_v, q_prt_c, q_prt_bin, q_prt_neg, q_prt_bi, q_prt_call, q_rev, q_call, q_callK, q_bi, q_isI, q_mut_lst, q_md, q_nil, q_cons, q_get0, q_getS, q_ofO, bind_ok, q_truth_b, q_truth_i, q_dat, q_dats0, q_dats1, q_biP0, q_biP1, q_biP2, Option.map, partOf, List.length_cons, List.length_nil, Nat.zero_add, Nat.reduceAdd, if_pos (q_lim 0 (by decide)), if_pos (q_lim 1 (by decide)), if_pos (q_lim 2 (by decide)), if_pos (q_lim 3 (by decide)), if_pos (q_lim 4 (by decide)), q_add, q_sub, q_le, q_lt, q_ge, q_gt, eq_ints, ne_ints, q_lenI, q_bl1, q_bl2, q_btp1, q_btp2, then_ok, q_setV, q_setVr, obind_next, obind_ret, List.set, if_true, Bool.not_true, Bool.not_false, q_exs0, q_exs1, q_set, q_ite, q_ret, q_ex, int_i, mul_smallR (j := 36007) (by decide) (by decide), mod_lit 2147483549 (by decide)])
  have key : ∃ a : Int, ev (sem P n) [some (.d (.list (ns.map .int))), some (.d (.int k)), some (.d (.int cell)), some (.d (.int v3)), v4] (.ifx (.cmp .GtE (.bi .abs [(.v 2)]) (.bin .Pow (.c (.int 10)) (.c (.int 18)))) (.bi .abs [(.v 2)]) (.c (.int 0))) h' = .ok (.d (.int a)) h' := by
    generalize hV : (10 : Int) ^ 18 = V
    by_cases c2 : V ≤ (if cell < 0 then -cell else cell)
    · exact ⟨if cell < 0 then -cell else cell, by simp only [q_c, q_v, q_fn, q_bin, q_neg, q_nt, q_cmp, q_chain, q_isN, q_and, q_or, q_ifx, q_tup, q_lst, q_ix, q_sl, q_prt_nop, q_prt_v, q_prt_c, q_prt_bin, q_prt_neg, q_prt_bi, q_prt_call, q_rev, q_call, q_callK, q_bi, q_isI, q_mut_lst, q_md, q_nil, q_cons, q_get0, q_getS, q_ofO, bind_ok, q_truth_b, q_truth_i, q_dat, q_dats0, q_dats1, q_biP0, q_biP1, q_biP2, Option.map, partOf, List.length_cons, List.length_nil, Nat.zero_add, Nat.reduceAdd, if_pos (q_lim 0 (by decide)), if_pos (q_lim 1 (by decide)), if_pos (q_lim 2 (by decide)), if_pos (q_lim 3 (by decide)), if_pos (q_lim 4 (by decide)), q_add, q_sub, q_le, q_lt, q_ge, q_gt, eq_ints, ne_ints, q_lenI, q_bl1, q_bl2, q_btp1, q_btp2, then_ok, q_setV, q_setVr, obind_next, obind_ret, List.set, if_true, Bool.not_true, Bool.not_false, abs_i, pow18, hV, c2, decide_true]⟩
    · exact ⟨0, by simp only [q_c, q_v, q_fn, q_bin, q_neg, q_nt, q_cmp, q_chain, q_isN, q_and, q_or, q_ifx, q_tup, q_lst, q_ix, q_sl, q_prt_nop, q_prt_v, q_prt_c, q_prt_bin, q_prt_neg, q_prt_bi, q_prt_call, q_rev, q_call, q_callK, q_bi, q_isI, q_mut_lst, q_md, q_nil, q_cons, q_get0, q_getS, q_ofO, bind_ok, q_truth_b, q_truth_i, q_dat, q_dats0, q_dats1, q_biP0, q_biP1, q_biP2, Option.map, partOf, List.length_cons, List.length_nil, Nat.zero_add, Nat.reduceAdd, if_pos (q_lim 0 (by decide)), if_pos (q_lim 1 (by decide)), if_pos (q_lim 2 (by decide)), if_pos (q_lim 3 (by decide)), if_pos (q_lim 4 (by decide)), q_add, q_sub, q_le, q_lt, q_ge, q_gt, eq_ints, ne_ints, q_lenI, q_bl1, q_bl2, q_btp1, q_btp2, then_ok, q_setV, q_setVr, obind_next, obind_ret, List.set, if_true, Bool.not_true, Bool.not_false, abs_i, pow18, hV, c2, decide_false]⟩
  obtain ⟨a, ea⟩ := key
  refine ⟨a, v3, 0, q1, q2, (callR hf (env := [some (.d (.list (ns.map .int))), some (.d (.int k)), none, none, none]) (o := .ret (.ref h'.length) (h' ++ [cell3 a v3 0])) rfl rfl ?_).trans ?_⟩
  · unfold fPurse
    rw [q_exs1, q_set, hc]
    simp only [q_c, q_v, q_fn, q_bin, q_neg, q_nt, q_cmp, q_chain, q_isN, q_and, q_or, q_ifx, q_tup, q_lst, q_ix, q_sl, q_prt_nop, q_prt_v, q_prt_c, q_prt_bin, q_prt_neg, q_prt_bi, q_prt_call, q_rev, q_call, q_callK, q_bi, q_isI, q_mut_lst, q_md, q_nil, q_cons, q_get0, q_getS, q_ofO, bind_ok, q_truth_b, q_truth_i, q_dat, q_dats0, q_dats1, q_biP0, q_biP1, q_biP2, Option.map, partOf, List.length_cons, List.length_nil, Nat.zero_add, Nat.reduceAdd, if_pos (q_lim 0 (by decide)), if_pos (q_lim 1 (by decide)), if_pos (q_lim 2 (by decide)), if_pos (q_lim 3 (by decide)), if_pos (q_lim 4 (by decide)), q_add, q_sub, q_le, q_lt, q_ge, q_gt, eq_ints, ne_ints, q_lenI, q_bl1, q_bl2, q_btp1, q_btp2, then_ok, q_setV, q_setVr, obind_next, obind_ret, List.set, if_true, Bool.not_true, Bool.not_false]
    rw [q_exs1, q_set]
    simp only [q_c, q_v, q_fn, q_bin, q_neg, q_nt, q_cmp, q_chain, q_isN, q_and, q_or, q_ifx, q_tup, q_lst, q_ix, q_sl, q_prt_nop, q_prt_v, q_prt_c, q_prt_bin, q_prt_neg, q_prt_bi, q_prt_call, q_rev, q_call, q_callK, q_bi, q_isI, q_mut_lst, q_md, q_nil, q_cons, q_get0, q_getS, q_ofO, bind_ok, q_truth_b, q_truth_i, q_dat, q_dats0, q_dats1, q_biP0, q_biP1, q_biP2, Option.map, partOf, List.length_cons, List.length_nil, Nat.zero_add, Nat.reduceAdd, if_pos (q_lim 0 (by decide)), if_pos (q_lim 1 (by decide)), if_pos (q_lim 2 (by decide)), if_pos (q_lim 3 (by decide)), if_pos (q_lim 4 (by decide)), q_add, q_sub, q_le, q_lt, q_ge, q_gt, eq_ints, ne_ints, q_lenI, q_bl1, q_bl2, q_btp1, q_btp2, then_ok, q_setV, q_setVr, obind_next, obind_ret, List.set, if_true, Bool.not_true, Bool.not_false, int_i, mul_smallR (j := 43201) (by decide) (by decide), mul_smallR (j := 52027) (by decide) (by decide), mod_lit 2147483549 (by decide), hs]
    rw [q_exs1, q_for, q_cons, hds]
    simp only [q_c, q_v, q_fn, q_bin, q_neg, q_nt, q_cmp, q_chain, q_isN, q_and, q_or, q_ifx, q_tup, q_lst, q_ix, q_sl, q_prt_nop, q_prt_v, q_prt_c, q_prt_bin, q_prt_neg, q_prt_bi, q_prt_call, q_rev, q_call, q_callK, q_bi, q_isI, q_mut_lst, q_md, q_nil, q_cons, q_get0, q_getS, q_ofO, bind_ok, q_truth_b, q_truth_i, q_dat, q_dats0, q_dats1, q_biP0, q_biP1, q_biP2, Option.map, partOf, List.length_cons, List.length_nil, Nat.zero_add, Nat.reduceAdd, if_pos (q_lim 0 (by decide)), if_pos (q_lim 1 (by decide)), if_pos (q_lim 2 (by decide)), if_pos (q_lim 3 (by decide)), if_pos (q_lim 4 (by decide)), q_add, q_sub, q_le, q_lt, q_ge, q_gt, eq_ints, ne_ints, q_lenI, q_bl1, q_bl2, q_btp1, q_btp2, then_ok, q_setV, q_setVr, obind_next, obind_ret, List.set, if_true, Bool.not_true, Bool.not_false, q_itr, itemsD]
    rw [ef]
    simp only [obind_next]
    rw [q_exs1, q_ret, q_mut_lst, q_lst, q_cons, ea]
    simp only [q_c, q_v, q_fn, q_bin, q_neg, q_nt, q_cmp, q_chain, q_isN, q_and, q_or, q_ifx, q_tup, q_lst, q_ix, q_sl, q_prt_nop, q_prt_v, q_prt_c, q_prt_bin, q_prt_neg, q_prt_bi, q_prt_call, q_rev, q_call, q_callK, q_bi, q_isI, q_mut_lst, q_md, q_nil, q_cons, q_get0, q_getS, q_ofO, bind_ok, q_truth_b, q_truth_i, q_dat, q_dats0, q_dats1, q_biP0, q_biP1, q_biP2, Option.map, partOf, List.length_cons, List.length_nil, Nat.zero_add, Nat.reduceAdd, if_pos (q_lim 0 (by decide)), if_pos (q_lim 1 (by decide)), if_pos (q_lim 2 (by decide)), if_pos (q_lim 3 (by decide)), if_pos (q_lim 4 (by decide)), q_add, q_sub, q_le, q_lt, q_ge, q_gt, eq_ints, ne_ints, q_lenI, q_bl1, q_bl2, q_btp1, q_btp2, then_ok, q_setV, q_setVr, obind_next, obind_ret, List.set, if_true, Bool.not_true, Bool.not_false]
  · simp [finish]
/-! ### the frame -/
def fLaw2 (a b : Nat) : FDef := ⟨1, 2, [(.ret (.bi .all [(.lc .range1 [(.bi .max [(.c (.int 2)), (.bi .min [(.bi .len [(.v 0)]), (.c (.int 3))])])] (.one 1) .nop (.call b [(.call a [(.v 0), (.v 1)])]))]))]⟩
theorem lcLoop_grow {f : D → IH → Res (Option D)} {k : Nat} : ∀ {items acc : List D} {h : IH}, h[k]? = some (.lst acc) → (∀ x ∈ items, ∀ h acc, h[k]? = some (.lst acc) → ∃ h2, f x h = .ok (some (.bool true)) h2 ∧ h2[k]? = some (.lst acc)) → acc.length + items.length ≤ 1000 →
    ∃ ys h2, (∀ y ∈ ys, y = .bool true) ∧ lcLoop k f items h = .ok () h2 ∧ h2[k]? = some (.lst (acc ++ ys))
  | [], acc, h, e, _, _ => ⟨[], h, by simp, by rw [lcLoop], by simpa using e⟩
  | x :: r, acc, h, e, hf, hl => by
    simp only [List.length_cons] at hl
    obtain ⟨h2, e2, q2⟩ := hf x List.mem_cons_self h acc e
    have hk : k < h2.length := (List.getElem?_eq_some_iff.mp q2).1
    have ep : pushC k (.bool true) h2 = some (h2.set k (.lst (acc ++ [.bool true]))) := by
      unfold pushC
      simp only [q2]
      rw [if_pos (by unfold lim; omega)]
    obtain ⟨ys, h3, qs, e3, q3⟩ := lcLoop_grow (items := r) (acc := acc ++ [.bool true]) (h := h2.set k (.lst (acc ++ [.bool true]))) (List.getElem?_set_self hk) (fun z hz => hf z (List.mem_cons_of_mem _ hz)) (by rw [List.length_append]; simp; omega)
    refine ⟨.bool true :: ys, h3, ?_, ?_, by rw [q3]; simp⟩
    · intro y hy
      rcases List.mem_cons.mp hy with rfl | hy
      · rfl
      · exact qs y hy
    · rw [lcLoop, e2]
      simp only [bind_ok, ep, e3]
theorem law2_ok {a b : Nat} (hf : P.defs[g]? = some (fLaw2 a b)) (c0 : SPurse (sem P n) a) (c1 : SRight (sem P n) b) (ns : List Int) : ∃ h', (sem P (n + 1)).call g [.d (.list (ns.map .int))] [] = .ok (.d (.bool true)) h' := by
  let lst : D := .list (ns.map .int)
  have em : ∃ r : Int, 0 ≤ r ∧ r ≤ 3 ∧ ∀ h, ev (sem P n) [some (.d lst), none] (.bi .max [(.c (.int 2)), (.bi .min [(.bi .len [(.v 0)]), (.c (.int 3))])]) h = .ok (.d (.int r)) h := by
    by_cases q : (3 : Int) < ns.length
    · exact ⟨3, by decide, by decide, fun h => by simp [lst, biD, q]⟩
    · by_cases q2 : (2 : Int) < ns.length
      · exact ⟨ns.length, by omega, by omega, fun h => by simp [lst, biD, q, q2]⟩
      · exact ⟨2, by decide, by decide, fun h => by simp [lst, biD, q, q2]⟩
  obtain ⟨r, r0, r3, er⟩ := em
  obtain ⟨ys, h2, hy, e2, q2⟩ := lcLoop_grow (f := turnP (sem P n) (wipeE [some (.d lst), none] (tgs (.one 1))) (.one 1) .nop (.call b [(.call a [(.v 0), (.v 1)])])) (k := 0) (items := rangeD 0 r) (acc := []) (h := [.lst []]) rfl (fun x hx h acc hh => by
    obtain ⟨k, hk, rfl⟩ := rangeD_mem.mp hx
    have e0 : (0 : Int) + (k : Int) = k := by omega
    rw [e0]
    obtain ⟨pa, pb, pc, b1, b2, ep⟩ := c0 ns k h (by omega)
    have pl : Pool h.length (h ++ [cell3 pa pb pc]) := ⟨pa, pb, pc, by simp, b1, by omega⟩
    obtain ⟨h4, d4, e4⟩ := c1 h.length _ pl
    have hl : 0 < h.length := (List.getElem?_eq_some_iff.mp hh).1
    refine ⟨h4, ?_, ?_⟩
    · rw [q_turn1 (e := rfl), q_cnd0]
      simp only [q_c, q_v, q_fn, q_bin, q_neg, q_nt, q_cmp, q_chain, q_isN, q_and, q_or, q_ifx, q_tup, q_lst, q_ix, q_sl, q_prt_nop, q_prt_v, q_prt_c, q_prt_bin, q_prt_neg, q_prt_bi, q_prt_call, q_rev, q_call, q_callK, q_bi, q_isI, q_mut_lst, q_md, q_nil, q_cons, q_get0, q_getS, q_ofO, bind_ok, q_truth_b, q_truth_i, q_dat, q_dats0, q_dats1, q_biP0, q_biP1, q_biP2, Option.map, partOf, List.length_cons, List.length_nil, Nat.zero_add, Nat.reduceAdd, if_pos (q_lim 0 (by decide)), if_pos (q_lim 1 (by decide)), if_pos (q_lim 2 (by decide)), if_pos (q_lim 3 (by decide)), if_pos (q_lim 4 (by decide)), q_add, q_sub, q_le, q_lt, q_ge, q_gt, eq_ints, ne_ints, q_lenI, q_bl1, q_bl2, q_btp1, q_btp2, then_ok, q_setV, q_setVr, obind_next, obind_ret, List.set, if_true, Bool.not_true, Bool.not_false, q_tgs1, q_w1, q_w0, lst, ep, e4, q_asD]
    · rw [d4.other (by omega), List.getElem?_append_left hl, hh]) (by rw [rangeD_length]; simp; omega)
  have hl : 0 < h2.length := (List.getElem?_eq_some_iff.mp q2).1
  refine ⟨[], (callR hf (env := [some (.d lst), none]) (o := .ret (.d (.bool true)) (h2.take 0)) rfl rfl ?_).trans ?_⟩
  · unfold fLaw2
    have ee : ev (sem P n) [some (.d lst), none] (.lc .range1 [(.bi .max [(.c (.int 2)), (.bi .min [(.bi .len [(.v 0)]), (.c (.int 3))])])] (.one 1) .nop (.call b [(.call a [(.v 0), (.v 1)])])) [] = .ok (.d (.list ys)) (h2.take 0) := by
      rw [evP_lc, q_cons, er]
      simp only [q_c, q_v, q_fn, q_bin, q_neg, q_nt, q_cmp, q_chain, q_isN, q_and, q_or, q_ifx, q_tup, q_lst, q_ix, q_sl, q_prt_nop, q_prt_v, q_prt_c, q_prt_bin, q_prt_neg, q_prt_bi, q_prt_call, q_rev, q_call, q_callK, q_bi, q_isI, q_mut_lst, q_md, q_nil, q_cons, q_get0, q_getS, q_ofO, bind_ok, q_truth_b, q_truth_i, q_dat, q_dats0, q_dats1, q_biP0, q_biP1, q_biP2, Option.map, partOf, List.length_cons, List.length_nil, Nat.zero_add, Nat.reduceAdd, if_pos (q_lim 0 (by decide)), if_pos (q_lim 1 (by decide)), if_pos (q_lim 2 (by decide)), if_pos (q_lim 3 (by decide)), if_pos (q_lim 4 (by decide)), q_add, q_sub, q_le, q_lt, q_ge, q_gt, eq_ints, ne_ints, q_lenI, q_bl1, q_bl2, q_btp1, q_btp2, then_ok, q_setV, q_setVr, obind_next, obind_ret, List.set, if_true, Bool.not_true, Bool.not_false, q_itr, items1 (i := r) (by omega) (by omega), List.length_nil, List.nil_append]
      rw [e2]
      simp only [calm_ok, bind_ok]
      unfold lcEnd
      simp only [q2, List.nil_append]
    rw [q_exs1, q_ret, q_bi, q_cons, ee]
    simp only [q_c, q_v, q_fn, q_bin, q_neg, q_nt, q_cmp, q_chain, q_isN, q_and, q_or, q_ifx, q_tup, q_lst, q_ix, q_sl, q_prt_nop, q_prt_v, q_prt_c, q_prt_bin, q_prt_neg, q_prt_bi, q_prt_call, q_rev, q_call, q_callK, q_bi, q_isI, q_mut_lst, q_md, q_nil, q_cons, q_get0, q_getS, q_ofO, bind_ok, q_truth_b, q_truth_i, q_dat, q_dats0, q_dats1, q_biP0, q_biP1, q_biP2, Option.map, partOf, List.length_cons, List.length_nil, Nat.zero_add, Nat.reduceAdd, if_pos (q_lim 0 (by decide)), if_pos (q_lim 1 (by decide)), if_pos (q_lim 2 (by decide)), if_pos (q_lim 3 (by decide)), if_pos (q_lim 4 (by decide)), q_add, q_sub, q_le, q_lt, q_ge, q_gt, eq_ints, ne_ints, q_lenI, q_bl1, q_bl2, q_btp1, q_btp2, then_ok, q_setV, q_setVr, obind_next, obind_ret, List.set, if_true, Bool.not_true, Bool.not_false, bools_true hy]
  · rw [q_fin]
    simp
/-! ### what is shown alike -/
def fSame : FDef := ⟨2, 2, [(.ret (.cmp .Eq (.bi .repr [(.v 0)]) (.bi .repr [(.v 1)])))]⟩
abbrev SSame (C : Sem) (g : Nat) : Prop := ∀ (x : D) (L d : Nat) (h : IH), SD L d x → L ≤ 1000000 → d < 50 → C.call g [.d x, .d x] h = .ok (.d (.bool true)) h
theorem reprX {L d : Nat} {x : D} (h : SD L d x) (hL : L ≤ 1000000) (hd : d < 50) : biD .repr [x] = some (.str (PyData.shown x)) := by
  have hd' := h.dp
  have hl := h.ln
  have : biD .repr [x] = if x.showable && !x.hasDict && decide (x.depth < 50) && decide (x.shown.length ≤ lim) then some (.str x.shown) else none := by
    cases x <;> rfl
  rw [this, if_pos]
  rw [h.sh, h.nd, decide_eq_true (show x.depth < 50 by omega), decide_eq_true (show x.shown.length ≤ lim by unfold lim; omega)]
  rfl
theorem same_ok (hf : P.defs[g]? = some fSame) : SSame (sem P (n + 1)) g := by
  intro x L d h s hL hd
  refine callD hf (env := [some (.d x), some (.d x)]) rfl rfl ?_
  unfold fSame
  simp only [q_c, q_v, q_fn, q_bin, q_neg, q_nt, q_cmp, q_chain, q_isN, q_and, q_or, q_ifx, q_tup, q_lst, q_ix, q_sl, q_prt_nop, q_prt_v, q_prt_c, q_prt_bin, q_prt_neg, q_prt_bi, q_prt_call, q_rev, q_call, q_callK, q_bi, q_isI, q_mut_lst, q_md, q_nil, q_cons, q_get0, q_getS, q_ofO, bind_ok, q_truth_b, q_truth_i, q_dat, q_dats0, q_dats1, q_biP0, q_biP1, q_biP2, Option.map, partOf, List.length_cons, List.length_nil, Nat.zero_add, Nat.reduceAdd, if_pos (q_lim 0 (by decide)), if_pos (q_lim 1 (by decide)), if_pos (q_lim 2 (by decide)), if_pos (q_lim 3 (by decide)), if_pos (q_lim 4 (by decide)), q_add, q_sub, q_le, q_lt, q_ge, q_gt, eq_ints, ne_ints, q_lenI, q_bl1, q_bl2, q_btp1, q_btp2, then_ok, q_setV, q_setVr, obind_next, obind_ret, List.set, if_true, Bool.not_true, Bool.not_false, q_exs0, q_exs1, q_set, q_ite, q_ret, q_ex, reprX s hL hd, eq_str]
end
end RR.Q

-- RQ31
set_option maxHeartbeats 1000000
/-! Another family of laws: its rings, its windows, rows. -/
namespace RR.Q
open PySem
section
variable {P : Prog} {n g : Nat}
def fRing2 (t : Nat) : FDef := ⟨3, 9, [(.set 3 (.bin .Add (.c (.int 1)) (.call t [(.v 0), (.v 2)]))), (.set 4 (.bi .tuple [(.lc .range1 [(.v 3)] (.one 5) .nop (.call t [(.v 0), (.v 1)]))])), (.set 6 (.call t [(.v 0), (.c (.int 4))])), (.ite (.cmp .Eq (.v 6) (.c (.int 0))) [(.set 7 (.sl (.v 4) .nop (.bin .Add (.c (.int 1)) (.call t [(.v 0), (.c (.int 4))])))), (.set 4 (.bin .Mult (.v 7) (.bi .max [(.c (.int 1)), (.bin .FloorDiv (.v 3) (.bi .len [(.v 7)]))])))] []), (.ite (.cmp .Eq (.v 6) (.c (.int 1))) [(.set 4 (.bi .tuple [(.lc .val [(.v 4)] (.one 8) .nop (.ifx (.cmp .Gt (.call t [(.v 0), (.c (.int 4))]) (.c (.int 0))) (.c (.int 0)) (.v 8)))]))] []), (.ret (.v 4))]⟩
theorem mulI0 {xs : List Int} {q : Nat} (h1 : 1 ≤ xs.length) (h2 : xs.length ≤ 1000) (q3 : q ≤ 1000) : binD .Mult (tupI xs) (.int (q : Int)) = some (tupI (List.replicate q xs).flatten) := by
  unfold tupI
  have hx : (xs.map PyData.int).isEmpty = false := by
    cases xs with
    | nil => simp at h1
    | cons _ _ => rfl
  have e1 : decide ((-1000 : Int) ≤ (q : Int)) = true := decide_eq_true (by omega)
  have e2 : decide ((q : Int) ≤ 1000) = true := decide_eq_true (by omega)
  have e3 : decide ((xs.map PyData.int).length ≤ 1000) = true := decide_eq_true (by rw [List.length_map]; exact h2)
  simp only [binD, hx, e1, e2, e3]
  simp only [Bool.not_false, Bool.and_self, if_true, Int.toNat_natCast]
  rw [List.map_flatten, List.map_replicate]
theorem max1 (q : Nat) : biD .max [.int 1, .int (q : Int)] = some (.int ((max 1 q : Nat) : Int)) := by
  show some (PyData.int (if (q : Int) > 1 then (q : Int) else 1)) = _
  by_cases h : (q : Int) > 1
  · rw [if_pos h]
    congr 2
    omega
  · rw [if_neg h]
    congr 2
    omega
theorem btI (zs : List Int) : biD .tuple [.list (zs.map .int)] = some (tupI zs) := rfl
theorem ring2_ok {t : Nat} (hf : P.defs[g]? = some (fRing2 t)) (c0 : STake (sem P n) t) : SRing (sem P (n + 1)) g := by
  intro m s most h p s1 s2 m1 m2
  obtain ⟨d, h0, hd, dr, e⟩ := c0 m most h p m1 (by omega)
  have e1d : (1 : Int) + (d : Int) = ((1 + d : Nat) : Int) := by omega
  obtain ⟨ys, h1, yl, yq, dr1, e1⟩ := lc_drawR (C := sem P n) (env := [some (.ref m), some (.d (.int s)), some (.d (.int most)), some (.d (.int ((1 + d : Nat) : Int))), none, none, none, none, none]) (e := .v 3) (i := 5) (elt := (.call t [(.v 0), (.v 1)])) (h := h0) (h0 := h0) (k := 1 + d) (m := m) (fun y => ∃ i : Int, y = .int i ∧ 0 ≤ i ∧ i < s) (dr.pool p) (by simp -implicitDefEqProofs only [q_c, q_v, q_fn, q_bin, q_neg, q_nt, q_cmp, q_chain, q_isN, q_and, q_or, q_ifx, q_tup, q_lst, q_ix, q_sl, q_prt_nop, q_prt_v, q_prt_c, q_prt_bin, q_prt_neg, q_prt_bi, q_prt_call, q_rev, q_call, q_callK, q_bi, q_isI, q_mut_lst, q_md, q_nil, q_cons, q_get0, q_getS, q_ofO, bind_ok, q_truth_b, q_truth_i, q_dat, q_dats0, q_dats1, q_biP0, q_biP1, q_biP2, Option.map, partOf, List.length_cons, List.length_nil, Nat.zero_add, Nat.reduceAdd, if_pos (q_lim 0 (by decide)), if_pos (q_lim 1 (by decide)), if_pos (q_lim 2 (by decide)), if_pos (q_lim 3 (by decide)), if_pos (q_lim 4 (by decide)), q_add, q_sub, q_le, q_lt, q_ge, q_gt, eq_ints, ne_ints, q_lenI, q_bl1, q_bl2, q_btp1, q_btp2, then_ok, q_setV, q_setVr, obind_next, obind_ret, List.set, if_true, Bool.not_true, Bool.not_false]) .rfl' (by omega) fun u hu h' p' => by
    obtain ⟨d', h2, hd', dr', e'⟩ := c0 m s h' p' s1 (by omega)
    exact ⟨.int d', h2, ⟨d', rfl, by omega, hd'⟩, dr', by simp -implicitDefEqProofs only [q_c, q_v, q_fn, q_bin, q_neg, q_nt, q_cmp, q_chain, q_isN, q_and, q_or, q_ifx, q_tup, q_lst, q_ix, q_sl, q_prt_nop, q_prt_v, q_prt_c, q_prt_bin, q_prt_neg, q_prt_bi, q_prt_call, q_rev, q_call, q_callK, q_bi, q_isI, q_mut_lst, q_md, q_nil, q_cons, q_get0, q_getS, q_ofO, bind_ok, q_truth_b, q_truth_i, q_dat, q_dats0, q_dats1, q_biP0, q_biP1, q_biP2, Option.map, partOf, List.length_cons, List.length_nil, Nat.zero_add, Nat.reduceAdd, if_pos (q_lim 0 (by decide)), if_pos (q_lim 1 (by decide)), if_pos (q_lim 2 (by decide)), if_pos (q_lim 3 (by decide)), if_pos (q_lim 4 (by decide)), q_add, q_sub, q_le, q_lt, q_ge, q_gt, eq_ints, ne_ints, q_lenI, q_bl1, q_bl2, q_btp1, q_btp2, then_ok, q_setV, q_setVr, obind_next, obind_ret, List.set, if_true, Bool.not_true, Bool.not_false, e']⟩
  obtain ⟨zs, rfl, qs⟩ := ints_of yq
  rw [List.length_map] at yl
  have p1 := (dr.trans dr1).pool p
  obtain ⟨d2, h2, hd2, dr2, e2⟩ := c0 m 4 h1 p1 (by decide) (by decide)
  have dr3 := (dr.trans dr1).trans dr2
  have p3 := dr3.pool p
  have run : ∀ rest, exs (sem P n) P.wf [some (.ref m), some (.d (.int s)), some (.d (.int most)), none, none, none, none, none, none] ((.set 3 (.bin .Add (.c (.int 1)) (.call t [(.v 0), (.v 2)]))) :: (.set 4 (.bi .tuple [(.lc .range1 [(.v 3)] (.one 5) .nop (.call t [(.v 0), (.v 1)]))])) :: (.set 6 (.call t [(.v 0), (.c (.int 4))])) :: rest) h = exs (sem P n) P.wf [some (.ref m), some (.d (.int s)), some (.d (.int most)), some (.d (.int ((1 + d : Nat) : Int))), some (.d (tupI zs)), none, some (.d (.int (d2 : Int))), none, none] rest h2 := fun rest => by
    rw [q_exs1, q_set]
    simp -implicitDefEqProofs only [q_c, q_v, q_fn, q_bin, q_neg, q_nt, q_cmp, q_chain, q_isN, q_and, q_or, q_ifx, q_tup, q_lst, q_ix, q_sl, q_prt_nop, q_prt_v, q_prt_c, q_prt_bin, q_prt_neg, q_prt_bi, q_prt_call, q_rev, q_call, q_callK, q_bi, q_isI, q_mut_lst, q_md, q_nil, q_cons, q_get0, q_getS, q_ofO, bind_ok, q_truth_b, q_truth_i, q_dat, q_dats0, q_dats1, q_biP0, q_biP1, q_biP2, Option.map, partOf, List.length_cons, List.length_nil, Nat.zero_add, Nat.reduceAdd, if_pos (q_lim 0 (by decide)), if_pos (q_lim 1 (by decide)), if_pos (q_lim 2 (by decide)), if_pos (q_lim 3 (by decide)), if_pos (q_lim 4 (by decide)), q_add, q_sub, q_le, q_lt, q_ge, q_gt, eq_ints, ne_ints, q_lenI, q_bl1, q_bl2, q_btp1, q_btp2, then_ok, q_setV, q_setVr, obind_next, obind_ret, List.set, if_true, Bool.not_true, Bool.not_false, e, e1d]
    rw [q_exs1, q_set, q_bi, q_cons, e1]
    simp -implicitDefEqProofs only [q_c, q_v, q_fn, q_bin, q_neg, q_nt, q_cmp, q_chain, q_isN, q_and, q_or, q_ifx, q_tup, q_lst, q_ix, q_sl, q_prt_nop, q_prt_v, q_prt_c, q_prt_bin, q_prt_neg, q_prt_bi, q_prt_call, q_rev, q_call, q_callK, q_bi, q_isI, q_mut_lst, q_md, q_nil, q_cons, q_get0, q_getS, q_ofO, bind_ok, q_truth_b, q_truth_i, q_dat, q_dats0, q_dats1, q_biP0, q_biP1, q_biP2, Option.map, partOf, List.length_cons, List.length_nil, Nat.zero_add, Nat.reduceAdd, if_pos (q_lim 0 (by decide)), if_pos (q_lim 1 (by decide)), if_pos (q_lim 2 (by decide)), if_pos (q_lim 3 (by decide)), if_pos (q_lim 4 (by decide)), q_add, q_sub, q_le, q_lt, q_ge, q_gt, eq_ints, ne_ints, q_lenI, q_bl1, q_bl2, q_btp1, q_btp2, then_ok, q_setV, q_setVr, obind_next, obind_ret, List.set, if_true, Bool.not_true, Bool.not_false, btI]
    rw [q_exs1, q_set]
    simp -implicitDefEqProofs only [q_c, q_v, q_fn, q_bin, q_neg, q_nt, q_cmp, q_chain, q_isN, q_and, q_or, q_ifx, q_tup, q_lst, q_ix, q_sl, q_prt_nop, q_prt_v, q_prt_c, q_prt_bin, q_prt_neg, q_prt_bi, q_prt_call, q_rev, q_call, q_callK, q_bi, q_isI, q_mut_lst, q_md, q_nil, q_cons, q_get0, q_getS, q_ofO, bind_ok, q_truth_b, q_truth_i, q_dat, q_dats0, q_dats1, q_biP0, q_biP1, q_biP2, Option.map, partOf, List.length_cons, List.length_nil, Nat.zero_add, Nat.reduceAdd, if_pos (q_lim 0 (by decide)), if_pos (q_lim 1 (by decide)), if_pos (q_lim 2 (by decide)), if_pos (q_lim 3 (by decide)), if_pos (q_lim 4 (by decide)), q_add, q_sub, q_le, q_lt, q_ge, q_gt, eq_ints, ne_ints, q_lenI, q_bl1, q_bl2, q_btp1, q_btp2, then_ok, q_setV, q_setVr, obind_next, obind_ret, List.set, if_true, Bool.not_true, Bool.not_false, e2]
    rfl
  by_cases hz : d2 = 0
  · subst hz
    obtain ⟨d4, h4, hd4, dr4, e4⟩ := c0 m 4 h2 p3 (by decide) (by decide)
    have dr5 := dr3.trans dr4
    have e4d : (1 : Int) + (d4 : Int) = ((1 + d4 : Nat) : Int) := by omega
    have pl : (zs.take (1 + d4)).length = min (1 + d4) (1 + d) := by rw [List.length_take, yl]
    generalize hp : min (1 + d4) (1 + d) = pp at pl
    have hpp : 1 ≤ pp ∧ pp ≤ 4 ∧ pp ≤ 1 + d := by omega
    have hq : max 1 ((1 + d) / pp) ≤ 1000 := by
      have := Nat.div_le_self (1 + d) pp
      omega
    have hlen : ((List.replicate (max 1 ((1 + d) / pp)) (zs.take (1 + d4))).flatten).length = max 1 ((1 + d) / pp) * pp := by simp [pl]
    have hle : max 1 ((1 + d) / pp) * pp ≤ 1 + d := by
      by_cases hx : (1 + d) / pp ≤ 1
      · rw [Nat.max_eq_left hx]
        omega
      · rw [Nat.max_eq_right (by omega)]
        exact Nat.div_mul_le_self _ _
    have hge : 1 * 1 ≤ max 1 ((1 + d) / pp) * pp := Nat.mul_le_mul (Nat.le_max_left _ _) hpp.1
    refine ⟨_, h4, fun x hx => ?_, by rw [hlen]; omega, by rw [hlen]; omega, dr5, (callR hf (env := [some (.ref m), some (.d (.int s)), some (.d (.int most)), none, none, none, none, none, none]) (o := .ret (.d (tupI (List.replicate (max 1 ((1 + d) / pp)) (zs.take (1 + d4))).flatten)) h4) rfl rfl ?_).trans (by rw [q_fin, dr5.take])⟩
    · obtain ⟨l, hl, hx⟩ := List.mem_flatten.mp hx
      rw [(List.mem_replicate.mp hl).2] at hx
      exact qs x (List.mem_of_mem_take hx)
    · unfold fRing2
      rw [run]
      rw [q_exs1, q_ite]
      simp -implicitDefEqProofs only [q_c, q_v, q_fn, q_bin, q_neg, q_nt, q_cmp, q_chain, q_isN, q_and, q_or, q_ifx, q_tup, q_lst, q_ix, q_sl, q_prt_nop, q_prt_v, q_prt_c, q_prt_bin, q_prt_neg, q_prt_bi, q_prt_call, q_rev, q_call, q_callK, q_bi, q_isI, q_mut_lst, q_md, q_nil, q_cons, q_get0, q_getS, q_ofO, bind_ok, q_truth_b, q_truth_i, q_dat, q_dats0, q_dats1, q_biP0, q_biP1, q_biP2, Option.map, partOf, List.length_cons, List.length_nil, Nat.zero_add, Nat.reduceAdd, if_pos (q_lim 0 (by decide)), if_pos (q_lim 1 (by decide)), if_pos (q_lim 2 (by decide)), if_pos (q_lim 3 (by decide)), if_pos (q_lim 4 (by decide)), q_add, q_sub, q_le, q_lt, q_ge, q_gt, eq_ints, ne_ints, q_lenI, q_bl1, q_bl2, q_btp1, q_btp2, then_ok, q_setV, q_setVr, obind_next, obind_ret, List.set, if_true, Bool.not_true, Bool.not_false, show (((0 : Nat) : Int) = 0) = True by simp, decide_true]
      rw [q_exs1, q_set]
      simp -implicitDefEqProofs only [q_c, q_v, q_fn, q_bin, q_neg, q_nt, q_cmp, q_chain, q_isN, q_and, q_or, q_ifx, q_tup, q_lst, q_ix, q_sl, q_prt_nop, q_prt_v, q_prt_c, q_prt_bin, q_prt_neg, q_prt_bi, q_prt_call, q_rev, q_call, q_callK, q_bi, q_isI, q_mut_lst, q_md, q_nil, q_cons, q_get0, q_getS, q_ofO, bind_ok, q_truth_b, q_truth_i, q_dat, q_dats0, q_dats1, q_biP0, q_biP1, q_biP2, Option.map, partOf, List.length_cons, List.length_nil, Nat.zero_add, Nat.reduceAdd, if_pos (q_lim 0 (by decide)), if_pos (q_lim 1 (by decide)), if_pos (q_lim 2 (by decide)), if_pos (q_lim 3 (by decide)), if_pos (q_lim 4 (by decide)), q_add, q_sub, q_le, q_lt, q_ge, q_gt, eq_ints, ne_ints, q_lenI, q_bl1, q_bl2, q_btp1, q_btp2, then_ok, q_setV, q_setVr, obind_next, obind_ret, List.set, if_true, Bool.not_true, Bool.not_false, e4, e4d, slI_to]
      rw [q_exs1, q_set]
      simp -implicitDefEqProofs only [q_c, q_v, q_fn, q_bin, q_neg, q_nt, q_cmp, q_chain, q_isN, q_and, q_or, q_ifx, q_tup, q_lst, q_ix, q_sl, q_prt_nop, q_prt_v, q_prt_c, q_prt_bin, q_prt_neg, q_prt_bi, q_prt_call, q_rev, q_call, q_callK, q_bi, q_isI, q_mut_lst, q_md, q_nil, q_cons, q_get0, q_getS, q_ofO, bind_ok, q_truth_b, q_truth_i, q_dat, q_dats0, q_dats1, q_biP0, q_biP1, q_biP2, Option.map, partOf, List.length_cons, List.length_nil, Nat.zero_add, Nat.reduceAdd, if_pos (q_lim 0 (by decide)), if_pos (q_lim 1 (by decide)), if_pos (q_lim 2 (by decide)), if_pos (q_lim 3 (by decide)), if_pos (q_lim 4 (by decide)), q_add, q_sub, q_le, q_lt, q_ge, q_gt, eq_ints, ne_ints, q_lenI, q_bl1, q_bl2, q_btp1, q_btp2, then_ok, q_setV, q_setVr, obind_next, obind_ret, List.set, if_true, Bool.not_true, Bool.not_false, pl, fdivI (i := 1 + d) (j := pp) (by omega) (by omega), max1, mulI0 (xs := zs.take (1 + d4)) (q := max 1 ((1 + d) / pp)) (by rw [pl]; omega) (by rw [pl]; omega) hq]
      rw [q_exs0]
      simp -implicitDefEqProofs only [q_c, q_v, q_fn, q_bin, q_neg, q_nt, q_cmp, q_chain, q_isN, q_and, q_or, q_ifx, q_tup, q_lst, q_ix, q_sl, q_prt_nop, q_prt_v, q_prt_c, q_prt_bin, q_prt_neg, q_prt_bi, q_prt_call, q_rev, q_call, q_callK, q_bi, q_isI, q_mut_lst, q_md, q_nil, q_cons, q_get0, q_getS, q_ofO, bind_ok, q_truth_b, q_truth_i, q_dat, q_dats0, q_dats1, q_biP0, q_biP1, q_biP2, Option.map, partOf, List.length_cons, List.length_nil, Nat.zero_add, Nat.reduceAdd, if_pos (q_lim 0 (by decide)), if_pos (q_lim 1 (by decide)), if_pos (q_lim 2 (by decide)), if_pos (q_lim 3 (by decide)), if_pos (q_lim 4 (by decide)), q_add, q_sub, q_le, q_lt, q_ge, q_gt, eq_ints, ne_ints, q_lenI, q_bl1, q_bl2, q_btp1, q_btp2, then_ok, q_setV, q_setVr, obind_next, obind_ret, List.set, if_true, Bool.not_true, Bool.not_false]
      rw [q_exs1, q_ite]
      simp -implicitDefEqProofs only [q_c, q_v, q_fn, q_bin, q_neg, q_nt, q_cmp, q_chain, q_isN, q_and, q_or, q_ifx, q_tup, q_lst, q_ix, q_sl, q_prt_nop, q_prt_v, q_prt_c, q_prt_bin, q_prt_neg, q_prt_bi, q_prt_call, q_rev, q_call, q_callK, q_bi, q_isI, q_mut_lst, q_md, q_nil, q_cons, q_get0, q_getS, q_ofO, bind_ok, q_truth_b, q_truth_i, q_dat, q_dats0, q_dats1, q_biP0, q_biP1, q_biP2, Option.map, partOf, List.length_cons, List.length_nil, Nat.zero_add, Nat.reduceAdd, if_pos (q_lim 0 (by decide)), if_pos (q_lim 1 (by decide)), if_pos (q_lim 2 (by decide)), if_pos (q_lim 3 (by decide)), if_pos (q_lim 4 (by decide)), q_add, q_sub, q_le, q_lt, q_ge, q_gt, eq_ints, ne_ints, q_lenI, q_bl1, q_bl2, q_btp1, q_btp2, then_ok, q_setV, q_setVr, obind_next, obind_ret, List.set, if_true, Bool.not_true, Bool.not_false, show (((0 : Nat) : Int) = 1) = False by simp, decide_false]
      simp -implicitDefEqProofs only [q_c, q_v, q_fn, q_bin, q_neg, q_nt, q_cmp, q_chain, q_isN, q_and, q_or, q_ifx, q_tup, q_lst, q_ix, q_sl, q_prt_nop, q_prt_v, q_prt_c, q_prt_bin, q_prt_neg, q_prt_bi, q_prt_call, q_rev, q_call, q_callK, q_bi, q_isI, q_mut_lst, q_md, q_nil, q_cons, q_get0, q_getS, q_ofO, bind_ok, q_truth_b, q_truth_i, q_dat, q_dats0, q_dats1, q_biP0, q_biP1, q_biP2, Option.map, partOf, List.length_cons, List.length_nil, Nat.zero_add, Nat.reduceAdd, if_pos (q_lim 0 (by decide)), if_pos (q_lim 1 (by decide)), if_pos (q_lim 2 (by decide)), if_pos (q_lim 3 (by decide)), if_pos (q_lim 4 (by decide)), q_add, q_sub, q_le, q_lt, q_ge, q_gt, eq_ints, ne_ints, q_lenI, q_bl1, q_bl2, q_btp1, q_btp2, then_ok, q_setV, q_setVr, obind_next, obind_ret, List.set, if_true, Bool.not_true, Bool.not_false, q_exs0, q_exs1, q_set, q_ite, q_ret, q_ex]
  · have hz' : ((d2 : Int) = 0) = False := by simp [hz]
    by_cases h1z : d2 = 1
    · subst h1z
      obtain ⟨ws, h4, wq, dr4, e4⟩ := lc_draw (C := sem P n) (env := [some (.ref m), some (.d (.int s)), some (.d (.int most)), some (.d (.int ((1 + d : Nat) : Int))), some (.d (tupI zs)), none, some (.d (.int ((1 : Nat) : Int))), none, none]) (k := .val) (its := [.v 4]) (tg := .one 8) (elt := (.ifx (.cmp .Gt (.call t [(.v 0), (.c (.int 4))]) (.c (.int 0))) (.c (.int 0)) (.v 8))) (vs := [.d (tupI zs)]) (ds := [tupI zs]) (items := zs.map .int) (h := h2) (h0 := h2) (fun x y => ∃ i : Int, y = .int i ∧ 0 ≤ i ∧ i < s) p3 (by simp -implicitDefEqProofs only [q_c, q_v, q_fn, q_bin, q_neg, q_nt, q_cmp, q_chain, q_isN, q_and, q_or, q_ifx, q_tup, q_lst, q_ix, q_sl, q_prt_nop, q_prt_v, q_prt_c, q_prt_bin, q_prt_neg, q_prt_bi, q_prt_call, q_rev, q_call, q_callK, q_bi, q_isI, q_mut_lst, q_md, q_nil, q_cons, q_get0, q_getS, q_ofO, bind_ok, q_truth_b, q_truth_i, q_dat, q_dats0, q_dats1, q_biP0, q_biP1, q_biP2, Option.map, partOf, List.length_cons, List.length_nil, Nat.zero_add, Nat.reduceAdd, if_pos (q_lim 0 (by decide)), if_pos (q_lim 1 (by decide)), if_pos (q_lim 2 (by decide)), if_pos (q_lim 3 (by decide)), if_pos (q_lim 4 (by decide)), q_add, q_sub, q_le, q_lt, q_ge, q_gt, eq_ints, ne_ints, q_lenI, q_bl1, q_bl2, q_btp1, q_btp2, then_ok, q_setV, q_setVr, obind_next, obind_ret, List.set, if_true, Bool.not_true, Bool.not_false]) .rfl' rfl rfl (by rw [List.length_map]; unfold lim; omega) fun x hx h' p' => by
        obtain ⟨i, hi, rfl⟩ := List.mem_map.mp hx
        have hi := qs i hi
        obtain ⟨d5, h5, hd5, dr5, e5⟩ := c0 m 4 h' p' (by decide) (by decide)
        by_cases h0 : (0 : Int) < (d5 : Int)
        · exact ⟨.int 0, h5, _, rfl, ⟨0, rfl, by omega, by omega⟩, dr5, by simp -implicitDefEqProofs only [q_c, q_v, q_fn, q_bin, q_neg, q_nt, q_cmp, q_chain, q_isN, q_and, q_or, q_ifx, q_tup, q_lst, q_ix, q_sl, q_prt_nop, q_prt_v, q_prt_c, q_prt_bin, q_prt_neg, q_prt_bi, q_prt_call, q_rev, q_call, q_callK, q_bi, q_isI, q_mut_lst, q_md, q_nil, q_cons, q_get0, q_getS, q_ofO, bind_ok, q_truth_b, q_truth_i, q_dat, q_dats0, q_dats1, q_biP0, q_biP1, q_biP2, Option.map, partOf, List.length_cons, List.length_nil, Nat.zero_add, Nat.reduceAdd, if_pos (q_lim 0 (by decide)), if_pos (q_lim 1 (by decide)), if_pos (q_lim 2 (by decide)), if_pos (q_lim 3 (by decide)), if_pos (q_lim 4 (by decide)), q_add, q_sub, q_le, q_lt, q_ge, q_gt, eq_ints, ne_ints, q_lenI, q_bl1, q_bl2, q_btp1, q_btp2, then_ok, q_setV, q_setVr, obind_next, obind_ret, List.set, if_true, Bool.not_true, Bool.not_false, e5, h0, decide_true, q_w1, q_w0, q_tgs1]⟩
        · exact ⟨.int i, h5, _, rfl, ⟨i, rfl, hi.1, hi.2⟩, dr5, by simp -implicitDefEqProofs only [q_c, q_v, q_fn, q_bin, q_neg, q_nt, q_cmp, q_chain, q_isN, q_and, q_or, q_ifx, q_tup, q_lst, q_ix, q_sl, q_prt_nop, q_prt_v, q_prt_c, q_prt_bin, q_prt_neg, q_prt_bi, q_prt_call, q_rev, q_call, q_callK, q_bi, q_isI, q_mut_lst, q_md, q_nil, q_cons, q_get0, q_getS, q_ofO, bind_ok, q_truth_b, q_truth_i, q_dat, q_dats0, q_dats1, q_biP0, q_biP1, q_biP2, Option.map, partOf, List.length_cons, List.length_nil, Nat.zero_add, Nat.reduceAdd, if_pos (q_lim 0 (by decide)), if_pos (q_lim 1 (by decide)), if_pos (q_lim 2 (by decide)), if_pos (q_lim 3 (by decide)), if_pos (q_lim 4 (by decide)), q_add, q_sub, q_le, q_lt, q_ge, q_gt, eq_ints, ne_ints, q_lenI, q_bl1, q_bl2, q_btp1, q_btp2, then_ok, q_setV, q_setVr, obind_next, obind_ret, List.set, if_true, Bool.not_true, Bool.not_false, e5, h0, decide_false, q_w1, q_w0, q_tgs1]⟩
      have wl : ∀ {Q : D → D → Prop} {a b : List D}, Paired Q a b → b.length = a.length := fun z => by
        induction z with
        | nil => rfl
        | cons _ _ ih => simp [ih]
      have wm : ∀ {a b : List D}, Paired (fun _ y => ∃ i : Int, y = .int i ∧ 0 ≤ i ∧ i < s) a b → ∀ y ∈ b, ∃ i : Int, y = .int i ∧ 0 ≤ i ∧ i < s := fun z => by
        induction z with
        | nil => simp
        | cons q _ ih =>
          intro y hy
          rcases List.mem_cons.mp hy with rfl | hy
          · exact q
          · exact ih y hy
      obtain ⟨us, rfl, qu⟩ := ints_of (wm wq)
      have ul := wl wq
      rw [List.length_map, List.length_map, yl] at ul
      have dr5 := dr3.trans dr4
      refine ⟨us, h4, qu, by omega, by omega, dr5, (callR hf (env := [some (.ref m), some (.d (.int s)), some (.d (.int most)), none, none, none, none, none, none]) (o := .ret (.d (tupI us)) h4) rfl rfl ?_).trans (by rw [q_fin, dr5.take])⟩
      unfold fRing2
      rw [run]
      rw [q_exs1, q_ite]
      simp -implicitDefEqProofs only [q_c, q_v, q_fn, q_bin, q_neg, q_nt, q_cmp, q_chain, q_isN, q_and, q_or, q_ifx, q_tup, q_lst, q_ix, q_sl, q_prt_nop, q_prt_v, q_prt_c, q_prt_bin, q_prt_neg, q_prt_bi, q_prt_call, q_rev, q_call, q_callK, q_bi, q_isI, q_mut_lst, q_md, q_nil, q_cons, q_get0, q_getS, q_ofO, bind_ok, q_truth_b, q_truth_i, q_dat, q_dats0, q_dats1, q_biP0, q_biP1, q_biP2, Option.map, partOf, List.length_cons, List.length_nil, Nat.zero_add, Nat.reduceAdd, if_pos (q_lim 0 (by decide)), if_pos (q_lim 1 (by decide)), if_pos (q_lim 2 (by decide)), if_pos (q_lim 3 (by decide)), if_pos (q_lim 4 (by decide)), q_add, q_sub, q_le, q_lt, q_ge, q_gt, eq_ints, ne_ints, q_lenI, q_bl1, q_bl2, q_btp1, q_btp2, then_ok, q_setV, q_setVr, obind_next, obind_ret, List.set, if_true, Bool.not_true, Bool.not_false, show (((1 : Nat) : Int) = 0) = False by simp, decide_false, q_exs0]
      rw [q_exs1, q_ite]
      simp -implicitDefEqProofs only [q_c, q_v, q_fn, q_bin, q_neg, q_nt, q_cmp, q_chain, q_isN, q_and, q_or, q_ifx, q_tup, q_lst, q_ix, q_sl, q_prt_nop, q_prt_v, q_prt_c, q_prt_bin, q_prt_neg, q_prt_bi, q_prt_call, q_rev, q_call, q_callK, q_bi, q_isI, q_mut_lst, q_md, q_nil, q_cons, q_get0, q_getS, q_ofO, bind_ok, q_truth_b, q_truth_i, q_dat, q_dats0, q_dats1, q_biP0, q_biP1, q_biP2, Option.map, partOf, List.length_cons, List.length_nil, Nat.zero_add, Nat.reduceAdd, if_pos (q_lim 0 (by decide)), if_pos (q_lim 1 (by decide)), if_pos (q_lim 2 (by decide)), if_pos (q_lim 3 (by decide)), if_pos (q_lim 4 (by decide)), q_add, q_sub, q_le, q_lt, q_ge, q_gt, eq_ints, ne_ints, q_lenI, q_bl1, q_bl2, q_btp1, q_btp2, then_ok, q_setV, q_setVr, obind_next, obind_ret, List.set, if_true, Bool.not_true, Bool.not_false, show (((1 : Nat) : Int) = 1) = True by simp, decide_true]
      rw [q_exs1, q_set, q_bi, q_cons, e4]
      simp -implicitDefEqProofs only [q_c, q_v, q_fn, q_bin, q_neg, q_nt, q_cmp, q_chain, q_isN, q_and, q_or, q_ifx, q_tup, q_lst, q_ix, q_sl, q_prt_nop, q_prt_v, q_prt_c, q_prt_bin, q_prt_neg, q_prt_bi, q_prt_call, q_rev, q_call, q_callK, q_bi, q_isI, q_mut_lst, q_md, q_nil, q_cons, q_get0, q_getS, q_ofO, bind_ok, q_truth_b, q_truth_i, q_dat, q_dats0, q_dats1, q_biP0, q_biP1, q_biP2, Option.map, partOf, List.length_cons, List.length_nil, Nat.zero_add, Nat.reduceAdd, if_pos (q_lim 0 (by decide)), if_pos (q_lim 1 (by decide)), if_pos (q_lim 2 (by decide)), if_pos (q_lim 3 (by decide)), if_pos (q_lim 4 (by decide)), q_add, q_sub, q_le, q_lt, q_ge, q_gt, eq_ints, ne_ints, q_lenI, q_bl1, q_bl2, q_btp1, q_btp2, then_ok, q_setV, q_setVr, obind_next, obind_ret, List.set, if_true, Bool.not_true, Bool.not_false, btI, q_exs0]
      simp -implicitDefEqProofs only [q_c, q_v, q_fn, q_bin, q_neg, q_nt, q_cmp, q_chain, q_isN, q_and, q_or, q_ifx, q_tup, q_lst, q_ix, q_sl, q_prt_nop, q_prt_v, q_prt_c, q_prt_bin, q_prt_neg, q_prt_bi, q_prt_call, q_rev, q_call, q_callK, q_bi, q_isI, q_mut_lst, q_md, q_nil, q_cons, q_get0, q_getS, q_ofO, bind_ok, q_truth_b, q_truth_i, q_dat, q_dats0, q_dats1, q_biP0, q_biP1, q_biP2, Option.map, partOf, List.length_cons, List.length_nil, Nat.zero_add, Nat.reduceAdd, if_pos (q_lim 0 (by decide)), if_pos (q_lim 1 (by decide)), if_pos (q_lim 2 (by decide)), if_pos (q_lim 3 (by decide)), if_pos (q_lim 4 (by decide)), q_add, q_sub, q_le, q_lt, q_ge, q_gt, eq_ints, ne_ints, q_lenI, q_bl1, q_bl2, q_btp1, q_btp2, then_ok, q_setV, q_setVr, obind_next, obind_ret, List.set, if_true, Bool.not_true, Bool.not_false, q_exs0, q_exs1, q_set, q_ite, q_ret, q_ex]
      rfl
    · have h1z' : ((d2 : Int) = 1) = False := by simp; omega
      refine ⟨zs, h2, qs, by omega, by omega, dr3, (callR hf (env := [some (.ref m), some (.d (.int s)), some (.d (.int most)), none, none, none, none, none, none]) (o := .ret (.d (tupI zs)) h2) rfl rfl ?_).trans (by rw [q_fin, dr3.take])⟩
      unfold fRing2
      rw [run]
      simp -implicitDefEqProofs only [q_c, q_v, q_fn, q_bin, q_neg, q_nt, q_cmp, q_chain, q_isN, q_and, q_or, q_ifx, q_tup, q_lst, q_ix, q_sl, q_prt_nop, q_prt_v, q_prt_c, q_prt_bin, q_prt_neg, q_prt_bi, q_prt_call, q_rev, q_call, q_callK, q_bi, q_isI, q_mut_lst, q_md, q_nil, q_cons, q_get0, q_getS, q_ofO, bind_ok, q_truth_b, q_truth_i, q_dat, q_dats0, q_dats1, q_biP0, q_biP1, q_biP2, Option.map, partOf, List.length_cons, List.length_nil, Nat.zero_add, Nat.reduceAdd, if_pos (q_lim 0 (by decide)), if_pos (q_lim 1 (by decide)), if_pos (q_lim 2 (by decide)), if_pos (q_lim 3 (by decide)), if_pos (q_lim 4 (by decide)), q_add, q_sub, q_le, q_lt, q_ge, q_gt, eq_ints, ne_ints, q_lenI, q_bl1, q_bl2, q_btp1, q_btp2, then_ok, q_setV, q_setVr, obind_next, obind_ret, List.set, if_true, Bool.not_true, Bool.not_false, q_exs0, q_exs1, q_set, q_ite, q_ret, q_ex, hz', h1z', decide_false]
/-! ### windows -/
theorem slI_mid {xs : List Int} {a b : Nat} (h1 : a ≤ b) (h2 : b ≤ xs.length) : slD (tupI xs) (some (a : Int)) (some (b : Int)) = some (tupI ((xs.drop a).take (b - a))) := by
  unfold tupI
  simp only [slD, cutD]
  rw [bnd_i (by omega), bnd_i (by omega), Int.toNat_natCast, Int.toNat_natCast, List.length_map, Nat.min_eq_left h2, Nat.min_eq_left (by omega), List.map_take, List.map_drop]
def fLWin (u : Unit) : FDef := ⟨3, 4, [(.set 3 (.bin .Mult (.v 0) (.bin .Add (.c (.int 1)) (.bin .FloorDiv (.bin .Add (.v 1) (.v 2)) (.bi .len [(.v 0)]))))), (.ret (.sl (.v 3) (.v 1) (.bin .Add (.v 1) (.v 2))))]⟩
abbrev SLWin (C : Sem) (g : Nat) : Prop := ∀ (xs : List Int) (a w : Nat) (h : IH), 1 ≤ xs.length → xs.length ≤ 1000 → a + w ≤ 900 → C.call g [.d (tupI xs), .d (.int a), .d (.int w)] h = .ok (.d (tupI (win xs a w))) h
theorem rep_win {xs : List Int} {a w : Nat} (h1 : 1 ≤ xs.length) : ((List.replicate (1 + (a + w) / xs.length) xs).flatten.drop a).take w = win xs a w := by
  have hq : a + w < (1 + (a + w) / xs.length) * xs.length := by
    have := Nat.lt_div_mul_add (a := a + w) (b := xs.length) (by omega)
    rw [Nat.add_mul, Nat.one_mul]
    omega
  apply List.ext_getElem?
  intro i
  by_cases hi : i < w
  · rw [List.getElem?_take_of_lt hi, List.getElem?_drop, rep_get _ _ _ (by omega)]
    unfold win
    rw [List.getElem?_map, List.getElem?_range hi]
    have hlt : (a + i) % xs.length < xs.length := Nat.mod_lt _ (by omega)
    unfold at_
    rw [Option.map_some, List.getD_eq_getElem?_getD, List.getElem?_eq_getElem hlt]
    rfl
  · rw [List.getElem?_eq_none (by rw [List.length_take]; omega), List.getElem?_eq_none (by rw [win_length]; omega)]
theorem lwin_ok (hf : P.defs[g]? = some (fLWin ())) : SLWin (sem P (n + 1)) g := by
  intro xs a w h h1 h2 hw
  have e1 : (a : Int) + (w : Int) = ((a + w : Nat) : Int) := by omega
  have e2 : (1 : Int) + (((a + w) / xs.length : Nat) : Int) = ((1 + (a + w) / xs.length : Nat) : Int) := by omega
  have hd : (a + w) / xs.length ≤ 900 := Nat.le_trans (Nat.div_le_self _ _) hw
  have hl : a + w ≤ ((List.replicate (1 + (a + w) / xs.length) xs).flatten).length := by
    simp only [List.length_flatten, List.map_replicate, List.sum_replicate_nat]
    have := Nat.lt_div_mul_add (a := a + w) (b := xs.length) (by omega)
    rw [Nat.add_mul, Nat.one_mul]
    omega
  have e3 := slI_mid (xs := (List.replicate (1 + (a + w) / xs.length) xs).flatten) (a := a) (b := a + w) (by omega) hl
  rw [show a + w - a = w by omega, rep_win h1] at e3
  refine callD hf (env := [some (.d (tupI xs)), some (.d (.int a)), some (.d (.int w)), none]) rfl rfl ?_
  unfold fLWin
  simp -implicitDefEqProofs only [q_c, q_v, q_fn, q_bin, q_neg, q_nt, q_cmp, q_chain, q_isN, q_and, q_or, q_ifx, q_tup, q_lst, q_ix, q_sl, q_prt_nop, q_prt_v, q_prt_c, q_prt_bin, q_prt_neg, q_prt_bi, q_prt_call, q_rev, q_call, q_callK, q_bi, q_isI, q_mut_lst, q_md, q_nil, q_cons, q_get0, q_getS, q_ofO, bind_ok, q_truth_b, q_truth_i, q_dat, q_dats0, q_dats1, q_biP0, q_biP1, q_biP2, Option.map, partOf, List.length_cons, List.length_nil, Nat.zero_add, Nat.reduceAdd, if_pos (q_lim 0 (by decide)), if_pos (q_lim 1 (by decide)), if_pos (q_lim 2 (by decide)), if_pos (q_lim 3 (by decide)), if_pos (q_lim 4 (by decide)), q_add, q_sub, q_le, q_lt, q_ge, q_gt, eq_ints, ne_ints, q_lenI, q_bl1, q_bl2, q_btp1, q_btp2, then_ok, q_setV, q_setVr, obind_next, obind_ret, List.set, if_true, Bool.not_true, Bool.not_false, q_exs0, q_exs1, q_set, q_ite, q_ret, q_ex, e1, fdivI (i := a + w) (j := xs.length) h1 h2, e2, mulI0 (xs := xs) (q := 1 + (a + w) / xs.length) h1 h2 (by omega), e3]
/-! ### windows of a row -/
def rowW (xs : List Int) (w : Nat) : List (List Int) := (List.range (xs.length + 1 - w)).map fun p => (xs.drop p).take w
theorem rowW_len (xs : List Int) (w : Nat) : (rowW xs w).length = xs.length + 1 - w := by simp [rowW]
theorem itemsZ {i : Int} (h0 : -1000 ≤ i) (h1 : i ≤ 100000) : itemsD .range1 [.int i] = some ((List.range i.toNat).map fun (t : Nat) => PyData.int (t : Int)) := by
  rw [items1 (by omega) (by omega)]
  unfold rangeD
  simp
theorem rowW_ev {C : Sem} {env : Env} {a b i : Nat} {xs : List Int} {w : Nat} (h : IH) (hx : xs.length ≤ 900) (hw : w ≤ 900) (ea : ∀ v, getS ((env.set i none).set i v) a = some (.d (tupI xs))) (eb : ∀ v, getS ((env.set i none).set i v) b = some (.d (.int (w : Int)))) (ea' : getS env a = some (.d (tupI xs))) (eb' : getS env b = some (.d (.int (w : Int)))) (ei : ∀ v, getS ((env.set i none).set i (some v)) i = some v) :
    ev C env (.bi .tuple [(.lc .range1 [(.bin .Add (.bin .Sub (.bi .len [(.v a)]) (.v b)) (.c (.int 1)))] (.one i) .nop (.sl (.v a) (.v i) (.bin .Add (.v i) (.v b))))]) h = .ok (.d (.tuple ((rowW xs w).map tupI))) h := by
  have k := lc_map (C := C) (env := env) (k := .range1) (its := [(.bin .Add (.bin .Sub (.bi .len [(.v a)]) (.v b)) (.c (.int 1)))]) (tg := .one i) (elt := (.sl (.v a) (.v i) (.bin .Add (.v i) (.v b)))) (h := h) (vs := [.d (.int ((xs.length : Int) - w + 1))]) (ds := [.int ((xs.length : Int) - w + 1)]) (ts := List.range (xs.length + 1 - w)) (fun (t : Nat) => PyData.int (t : Int)) (fun p => tupI ((xs.drop p).take w)) (by simp -implicitDefEqProofs only [q_c, q_v, q_fn, q_bin, q_neg, q_nt, q_cmp, q_chain, q_isN, q_and, q_or, q_ifx, q_tup, q_lst, q_ix, q_sl, q_prt_nop, q_prt_v, q_prt_c, q_prt_bin, q_prt_neg, q_prt_bi, q_prt_call, q_rev, q_call, q_callK, q_bi, q_isI, q_mut_lst, q_md, q_nil, q_cons, q_get0, q_getS, q_ofO, bind_ok, q_truth_b, q_truth_i, q_dat, q_dats0, q_dats1, q_biP0, q_biP1, q_biP2, Option.map, partOf, List.length_cons, List.length_nil, Nat.zero_add, Nat.reduceAdd, if_pos (q_lim 0 (by decide)), if_pos (q_lim 1 (by decide)), if_pos (q_lim 2 (by decide)), if_pos (q_lim 3 (by decide)), if_pos (q_lim 4 (by decide)), q_add, q_sub, q_le, q_lt, q_ge, q_gt, eq_ints, ne_ints, q_lenI, q_bl1, q_bl2, q_btp1, q_btp2, then_ok, q_setV, q_setVr, obind_next, obind_ret, List.set, if_true, Bool.not_true, Bool.not_false, ea', eb']) rfl (by rw [itemsZ (by omega) (by omega), show ((xs.length : Int) - w + 1).toNat = xs.length + 1 - w by omega]) (by rw [List.length_range]; omega) fun t ht h' => by
    have ht := List.mem_range.mp ht
    refine ⟨_, rfl, ?_⟩
    have e1 : (t : Int) + (w : Int) = ((t + w : Nat) : Int) := by omega
    have e3 := slI_mid (xs := xs) (a := t) (b := t + w) (by omega) (by omega)
    rw [show t + w - t = w by omega] at e3
    simp only [q_tgs1, q_w1, q_w0, q_sl, q_prt_v, q_prt_bin, q_v, q_bin, ea, eb, ei, q_ofO, bind_ok, partOf, q_add, Option.map, e1, q_dat, e3]
  rw [q_bi, q_cons, k]
  simp -implicitDefEqProofs only [q_c, q_v, q_fn, q_bin, q_neg, q_nt, q_cmp, q_chain, q_isN, q_and, q_or, q_ifx, q_tup, q_lst, q_ix, q_sl, q_prt_nop, q_prt_v, q_prt_c, q_prt_bin, q_prt_neg, q_prt_bi, q_prt_call, q_rev, q_call, q_callK, q_bi, q_isI, q_mut_lst, q_md, q_nil, q_cons, q_get0, q_getS, q_ofO, bind_ok, q_truth_b, q_truth_i, q_dat, q_dats0, q_dats1, q_biP0, q_biP1, q_biP2, Option.map, partOf, List.length_cons, List.length_nil, Nat.zero_add, Nat.reduceAdd, if_pos (q_lim 0 (by decide)), if_pos (q_lim 1 (by decide)), if_pos (q_lim 2 (by decide)), if_pos (q_lim 3 (by decide)), if_pos (q_lim 4 (by decide)), q_add, q_sub, q_le, q_lt, q_ge, q_gt, eq_ints, ne_ints, q_lenI, q_bl1, q_bl2, q_btp1, q_btp2, then_ok, q_setV, q_setVr, obind_next, obind_ret, List.set, if_true, Bool.not_true, Bool.not_false]
  unfold rowW
  rw [List.map_map]
  rfl
def fRowW (u : Unit) : FDef := ⟨2, 3, [(.ret (.bi .tuple [(.lc .range1 [(.bin .Add (.bin .Sub (.bi .len [(.v 0)]) (.v 1)) (.c (.int 1)))] (.one 2) .nop (.sl (.v 0) (.v 2) (.bin .Add (.v 2) (.v 1))))]))]⟩
abbrev SRowW (C : Sem) (g : Nat) : Prop := ∀ (xs : List Int) (w : Nat) (h : IH), xs.length ≤ 900 → w ≤ 900 → C.call g [.d (tupI xs), .d (.int w)] h = .ok (.d (.tuple ((rowW xs w).map tupI))) h
theorem rowW_ok (hf : P.defs[g]? = some (fRowW ())) : SRowW (sem P (n + 1)) g := by
  intro xs w h h1 h2
  refine callD hf (env := [some (.d (tupI xs)), some (.d (.int w)), none]) rfl rfl ?_
  unfold fRowW
  rw [q_exs1, q_ret, rowW_ev (xs := xs) (w := w) h h1 h2 (fun v => rfl) (fun v => rfl) rfl rfl (fun v => rfl)]
  simp -implicitDefEqProofs only [q_c, q_v, q_fn, q_bin, q_neg, q_nt, q_cmp, q_chain, q_isN, q_and, q_or, q_ifx, q_tup, q_lst, q_ix, q_sl, q_prt_nop, q_prt_v, q_prt_c, q_prt_bin, q_prt_neg, q_prt_bi, q_prt_call, q_rev, q_call, q_callK, q_bi, q_isI, q_mut_lst, q_md, q_nil, q_cons, q_get0, q_getS, q_ofO, bind_ok, q_truth_b, q_truth_i, q_dat, q_dats0, q_dats1, q_biP0, q_biP1, q_biP2, Option.map, partOf, List.length_cons, List.length_nil, Nat.zero_add, Nat.reduceAdd, if_pos (q_lim 0 (by decide)), if_pos (q_lim 1 (by decide)), if_pos (q_lim 2 (by decide)), if_pos (q_lim 3 (by decide)), if_pos (q_lim 4 (by decide)), q_add, q_sub, q_le, q_lt, q_ge, q_gt, eq_ints, ne_ints, q_lenI, q_bl1, q_bl2, q_btp1, q_btp2, then_ok, q_setV, q_setVr, obind_next, obind_ret, List.set, if_true, Bool.not_true, Bool.not_false]
def fRowWin (a b c d : Nat) : FDef := ⟨3, 3, [(.ex (.call a [(.v 0)])), (.ex (.call b [(.v 0), (.v 1)])), (.ex (.call c [(.v 2)])), (.ret (.call d [(.v 1), (.v 2)]))]⟩
structure Rw (s : Int) (xs : List Int) : Prop where
  lo : 2 ≤ s
  hi : s ≤ 4
  mks : Mk s xs
  most : xs.length ≤ 40
abbrev SRowWin (C : Sem) (g : Nat) : Prop := ∀ (s : Int) (xs : List Int) (w : Nat) (h : IH), Rw s xs → 1 ≤ w → w ≤ 6 → C.call g [.d (.int s), .d (tupI xs), .d (.int w)] h = .ok (.d (.tuple ((rowW xs w).map tupI))) h
theorem rowWin_ok {a b c d : Nat} (hf : P.defs[g]? = some (fRowWin a b c d)) (c0 : SChk 2 4 (sem P n) a) (c1 : SChkM 0 40 (sem P n) b) (c2 : SChk 1 6 (sem P n) c) (c3 : SRowW (sem P n) d) : SRowWin (sem P (n + 1)) g := by
  intro s xs w h r w1 w6
  have := r.most
  refine callD hf (env := [some (.d (.int s)), some (.d (tupI xs)), some (.d (.int w))]) rfl rfl ?_
  unfold fRowWin
  simp -implicitDefEqProofs only [q_c, q_v, q_fn, q_bin, q_neg, q_nt, q_cmp, q_chain, q_isN, q_and, q_or, q_ifx, q_tup, q_lst, q_ix, q_sl, q_prt_nop, q_prt_v, q_prt_c, q_prt_bin, q_prt_neg, q_prt_bi, q_prt_call, q_rev, q_call, q_callK, q_bi, q_isI, q_mut_lst, q_md, q_nil, q_cons, q_get0, q_getS, q_ofO, bind_ok, q_truth_b, q_truth_i, q_dat, q_dats0, q_dats1, q_biP0, q_biP1, q_biP2, Option.map, partOf, List.length_cons, List.length_nil, Nat.zero_add, Nat.reduceAdd, if_pos (q_lim 0 (by decide)), if_pos (q_lim 1 (by decide)), if_pos (q_lim 2 (by decide)), if_pos (q_lim 3 (by decide)), if_pos (q_lim 4 (by decide)), q_add, q_sub, q_le, q_lt, q_ge, q_gt, eq_ints, ne_ints, q_lenI, q_bl1, q_bl2, q_btp1, q_btp2, then_ok, q_setV, q_setVr, obind_next, obind_ret, List.set, if_true, Bool.not_true, Bool.not_false, q_exs0, q_exs1, q_set, q_ite, q_ret, q_ex, c0 s h r.lo r.hi, c1 s xs h r.mks (by omega) (by omega), c2 w h (by omega) (by omega), c3 xs w h (by omega) (by omega)]
def fRowTells (a b : Nat) : FDef := ⟨3, 3, [(.ret (.isN true (.call a [(.call b [(.v 0), (.v 1), (.v 2)])])))]⟩
open Classical in
abbrev SRowTells (C : Sem) (g : Nat) : Prop := ∀ (s : Int) (xs : List Int) (w : Nat) (h : IH), Rw s xs → 1 ≤ w → w ≤ 6 → C.call g [.d (.int s), .d (tupI xs), .d (.int w)] h = .ok (.d (.bool (decide (unlike (rowW xs w))))) h
theorem rowTells_ok {a b : Nat} (hf : P.defs[g]? = some (fRowTells a b)) (c0 : SFirstTwice (sem P n) a) (c1 : SRowWin (sem P n) b) : SRowTells (sem P (n + 1)) g := by
  intro s xs w h r w1 w6
  have := r.most
  obtain ⟨v, e, q⟩ := c0 (rowW xs w) h (by rw [rowW_len]; omega)
  refine callD hf (env := [some (.d (.int s)), some (.d (tupI xs)), some (.d (.int w))]) rfl rfl ?_
  unfold fRowTells
  rcases q with ⟨rfl, q⟩ | ⟨hv, q⟩
  · simp [c1 s xs w h r w1 w6, e, q]
  · simp [c1 s xs w h r w1 w6, e, q, hv]
/-! ### a law's own look for two alike -/
def fLGain (u : Unit) : FDef := ⟨1, 2, [(.for_ .range1 [(.bi .len [(.v 0)])] (.one 1) [(.ite (.cmp .In (.ix (.v 0) (.v 1)) (.sl (.v 0) (.bin .Add (.v 1) (.c (.int 1))) .nop)) [(.ret (.tup [(.v 1), (.md .index (.v 0) [(.ix (.v 0) (.v 1)), (.bin .Add (.v 1) (.c (.int 1)))])]))] [])]), (.ret (.c .none))]⟩
theorem findD_mem {L : List (List Int)} {y : List Int} : ∀ {lo i : Nat}, (∃ j, lo ≤ i + j ∧ L[j]? = some y) → ∃ k, findD (tupI y) (L.map tupI) lo i = some k := by
  induction L with
  | nil => rintro lo i ⟨j, _, h⟩; simp at h
  | cons x r ih =>
    rintro lo i ⟨j, h1, h2⟩
    rw [List.map_cons, findD]
    by_cases hc : lo ≤ i ∧ PyData.eqv (tupI x) (tupI y) = true
    · exact ⟨i, by rw [if_pos hc]⟩
    · rw [if_neg hc]
      cases j with
      | zero =>
        simp at h2
        subst h2
        exact absurd ⟨by omega, by rw [eqv_tupI]; simp⟩ hc
      | succ j => exact ih ⟨j, by omega, by simpa using h2⟩
theorem slV_from {L : List (List Int)} {k : Nat} : slD (.tuple (L.map tupI)) (some (k : Int)) none = some (.tuple ((L.drop k).map tupI)) := by
  simp only [slD]
  rw [cut_from _ (by omega), Int.toNat_natCast, List.map_drop]
theorem lgain_ok (hf : P.defs[g]? = some (fLGain ())) : SFirstTwice (sem P (n + 1)) g := by
  intro L h hl
  have getE : ∀ i, i < L.length → L[i]? = some (L.getD i []) := fun i hi => by
    rw [List.getD_eq_getElem?_getD, List.getElem?_eq_getElem hi]
    rfl
  have key := for_search (tg := .one 1) (body := fun env h => exs (sem P n) P.wf env [(.ite (.cmp .In (.ix (.v 0) (.v 1)) (.sl (.v 0) (.bin .Add (.v 1) (.c (.int 1))) .nop)) [(.ret (.tup [(.v 1), (.md .index (.v 0) [(.ix (.v 0) (.v 1)), (.bin .Add (.v 1) (.c (.int 1)))])]))] [])] h) (F := fun (t : Nat) => PyData.int (t : Int)) (fun env => ∃ e1, env = [some (.d (.tuple (L.map tupI))), e1]) (fun a => ∀ b, a < b → b < L.length → L[a]? ≠ L[b]?) (fun a v => isNone (.d v) = false ∧ ∃ b, a < b ∧ b < L.length ∧ L[a]? = L[b]?) (h := h) (ts := List.range L.length) (env := [some (.d (.tuple (L.map tupI))), none]) ⟨_, rfl⟩ (by
    intro a ha env ⟨e1, ee⟩
    subst ee
    have ha := List.mem_range.mp ha
    refine ⟨[some (.d (.tuple (L.map tupI))), some (.d (.int (a : Int)))], rfl, ?_⟩
    have hix : ixD (.tuple (L.map tupI)) (.int (a : Int)) = some (tupI (L.getD a [])) := by
      show atD _ _ = _
      rw [at_nat (by rw [List.length_map]; omega)]
      simp [ha]
    have e1' : (a : Int) + 1 = ((a + 1 : Nat) : Int) := by omega
    have hmem : L.getD a [] ∈ L.drop (a + 1) ↔ ∃ b, a < b ∧ b < L.length ∧ L[a]? = L[b]? := by
      rw [List.mem_iff_getElem?]
      constructor
      · rintro ⟨j, hj⟩
        rw [List.getElem?_drop] at hj
        exact ⟨a + 1 + j, by omega, (List.getElem?_eq_some_iff.mp hj).1, by rw [getE a ha, hj]⟩
      · rintro ⟨b, h1, h2, h3⟩
        refine ⟨b - (a + 1), ?_⟩
        rw [List.getElem?_drop, show a + 1 + (b - (a + 1)) = b by omega, ← h3, getE a ha]
    by_cases hm : L.getD a [] ∈ L.drop (a + 1)
    · obtain ⟨b, h1, h2, h3⟩ := hmem.mp hm
      obtain ⟨k, hk⟩ := findD_mem (L := L) (y := L.getD a []) (lo := a + 1) (i := 0) ⟨b, by omega, by rw [← h3, getE a ha]⟩
      have hidx : meD .index (.tuple (L.map tupI)) [tupI (L.getD a []), .int ((a + 1 : Nat) : Int)] = some (.int (k : Int)) := by
        simp only [meD, dep_tupI, Bool.or_true, Bool.true_and]
        rw [if_pos (decide_eq_true (by omega)), Int.toNat_natCast, hk]
        rfl
      refine .inl ⟨.tuple [.int (a : Int), .int (k : Int)], ⟨rfl, b, h1, h2, h3⟩, ?_⟩
      rw [q_exs1, q_ite]
      simp -implicitDefEqProofs only [q_c, q_v, q_fn, q_bin, q_neg, q_nt, q_cmp, q_chain, q_isN, q_and, q_or, q_ifx, q_tup, q_lst, q_ix, q_sl, q_prt_nop, q_prt_v, q_prt_c, q_prt_bin, q_prt_neg, q_prt_bi, q_prt_call, q_rev, q_call, q_callK, q_bi, q_isI, q_mut_lst, q_md, q_nil, q_cons, q_get0, q_getS, q_ofO, bind_ok, q_truth_b, q_truth_i, q_dat, q_dats0, q_dats1, q_biP0, q_biP1, q_biP2, Option.map, partOf, List.length_cons, List.length_nil, Nat.zero_add, Nat.reduceAdd, if_pos (q_lim 0 (by decide)), if_pos (q_lim 1 (by decide)), if_pos (q_lim 2 (by decide)), if_pos (q_lim 3 (by decide)), if_pos (q_lim 4 (by decide)), q_add, q_sub, q_le, q_lt, q_ge, q_gt, eq_ints, ne_ints, q_lenI, q_bl1, q_bl2, q_btp1, q_btp2, then_ok, q_setV, q_setVr, obind_next, obind_ret, List.set, if_true, Bool.not_true, Bool.not_false, hix, e1', slV_from, in_tupIT, hm, decide_true]
      rw [q_exs1, q_ret]
      simp -implicitDefEqProofs only [q_c, q_v, q_fn, q_bin, q_neg, q_nt, q_cmp, q_chain, q_isN, q_and, q_or, q_ifx, q_tup, q_lst, q_ix, q_sl, q_prt_nop, q_prt_v, q_prt_c, q_prt_bin, q_prt_neg, q_prt_bi, q_prt_call, q_rev, q_call, q_callK, q_bi, q_isI, q_mut_lst, q_md, q_nil, q_cons, q_get0, q_getS, q_ofO, bind_ok, q_truth_b, q_truth_i, q_dat, q_dats0, q_dats1, q_biP0, q_biP1, q_biP2, Option.map, partOf, List.length_cons, List.length_nil, Nat.zero_add, Nat.reduceAdd, if_pos (q_lim 0 (by decide)), if_pos (q_lim 1 (by decide)), if_pos (q_lim 2 (by decide)), if_pos (q_lim 3 (by decide)), if_pos (q_lim 4 (by decide)), q_add, q_sub, q_le, q_lt, q_ge, q_gt, eq_ints, ne_ints, q_lenI, q_bl1, q_bl2, q_btp1, q_btp2, then_ok, q_setV, q_setVr, obind_next, obind_ret, List.set, if_true, Bool.not_true, Bool.not_false, hix, e1', isSeq, hidx]
    · refine .inr ⟨fun b h1 h2 h3 => hm (hmem.mpr ⟨b, h1, h2, h3⟩), [some (.d (.tuple (L.map tupI))), some (.d (.int (a : Int)))], .inl ?_, _, rfl⟩
      rw [q_exs1, q_ite]
      simp -implicitDefEqProofs only [q_c, q_v, q_fn, q_bin, q_neg, q_nt, q_cmp, q_chain, q_isN, q_and, q_or, q_ifx, q_tup, q_lst, q_ix, q_sl, q_prt_nop, q_prt_v, q_prt_c, q_prt_bin, q_prt_neg, q_prt_bi, q_prt_call, q_rev, q_call, q_callK, q_bi, q_isI, q_mut_lst, q_md, q_nil, q_cons, q_get0, q_getS, q_ofO, bind_ok, q_truth_b, q_truth_i, q_dat, q_dats0, q_dats1, q_biP0, q_biP1, q_biP2, Option.map, partOf, List.length_cons, List.length_nil, Nat.zero_add, Nat.reduceAdd, if_pos (q_lim 0 (by decide)), if_pos (q_lim 1 (by decide)), if_pos (q_lim 2 (by decide)), if_pos (q_lim 3 (by decide)), if_pos (q_lim 4 (by decide)), q_add, q_sub, q_le, q_lt, q_ge, q_gt, eq_ints, ne_ints, q_lenI, q_bl1, q_bl2, q_btp1, q_btp2, then_ok, q_setV, q_setVr, obind_next, obind_ret, List.set, if_true, Bool.not_true, Bool.not_false, hix, e1', slV_from, in_tupIT, hm, decide_false, q_exs0])
  have ei : exs (sem P n) P.wf [some (.d (.tuple (L.map tupI))), none] (fLGain ()).body h = (forLoop (.one 1) (fun env h => exs (sem P n) P.wf env [(.ite (.cmp .In (.ix (.v 0) (.v 1)) (.sl (.v 0) (.bin .Add (.v 1) (.c (.int 1))) .nop)) [(.ret (.tup [(.v 1), (.md .index (.v 0) [(.ix (.v 0) (.v 1)), (.bin .Add (.v 1) (.c (.int 1)))])]))] [])] h) ((List.range L.length).map fun (t : Nat) => PyData.int (t : Int)) [some (.d (.tuple (L.map tupI))), none] h).bind fun env1 h1 => exs (sem P n) P.wf env1 [(.ret (.c .none))] h1 := by
    unfold fLGain
    rw [q_exs1, q_for]
    simp -implicitDefEqProofs only [q_c, q_v, q_fn, q_bin, q_neg, q_nt, q_cmp, q_chain, q_isN, q_and, q_or, q_ifx, q_tup, q_lst, q_ix, q_sl, q_prt_nop, q_prt_v, q_prt_c, q_prt_bin, q_prt_neg, q_prt_bi, q_prt_call, q_rev, q_call, q_callK, q_bi, q_isI, q_mut_lst, q_md, q_nil, q_cons, q_get0, q_getS, q_ofO, bind_ok, q_truth_b, q_truth_i, q_dat, q_dats0, q_dats1, q_biP0, q_biP1, q_biP2, Option.map, partOf, List.length_cons, List.length_nil, Nat.zero_add, Nat.reduceAdd, if_pos (q_lim 0 (by decide)), if_pos (q_lim 1 (by decide)), if_pos (q_lim 2 (by decide)), if_pos (q_lim 3 (by decide)), if_pos (q_lim 4 (by decide)), q_add, q_sub, q_le, q_lt, q_ge, q_gt, eq_ints, ne_ints, q_lenI, q_bl1, q_bl2, q_btp1, q_btp2, then_ok, q_setV, q_setVr, obind_next, obind_ret, List.set, if_true, Bool.not_true, Bool.not_false, List.length_map, q_itr, itemsR (m := L.length) (by omega)]
  rcases key with ⟨_, a, _, v, _, _, ⟨hv, b, hb, hb', hp⟩, e⟩ | ⟨hn, env', e, e1, rfl⟩
  · exact ⟨v, callD hf (env := [some (.d (.tuple (L.map tupI))), none]) rfl rfl (by rw [ei, e, obind_ret]), .inr ⟨hv, fun z => z a b hb hb' hp⟩⟩
  · exact ⟨.none, callD hf (env := [some (.d (.tuple (L.map tupI))), none]) rfl rfl (by rw [ei, e, obind_next]; simp), .inl ⟨rfl, fun a b hab hb => hn a (List.mem_range.mpr (by omega)) b hab hb⟩⟩
end
end RR.Q

-- RQ32
set_option maxHeartbeats 1000000
/-! Change rows, change rings: plain. -/
namespace RR.Q
open PySem
/-- each row is one mark away from the next -/
def stepsP (L : List (List Int)) : Prop := ∀ i, i + 1 < L.length → apart (L.getD i []) (L.getD (i + 1) []) = 1
def rowP (L : List (List Int)) : Prop := L.Nodup ∧ stepsP L
def ringP (L : List (List Int)) : Prop := rowP L ∧ 1 < L.length ∧ apart (L.getD 0 []) (L.getD (L.length - 1) []) = 1
/-- round and round -/
def cyc (L : List (List Int)) (i : Nat) : List Int := L.getD (i % L.length) []
def cycP (L : List (List Int)) : Prop := ∀ i, apart (cyc L i) (cyc L (i + 1)) = 1
theorem cyc_lt {L : List (List Int)} {i : Nat} (h : i < L.length) : cyc L i = L.getD i [] := by
  unfold cyc
  rw [Nat.mod_eq_of_lt h]
theorem cyc_congr {L : List (List Int)} {i j : Nat} (h : i % L.length = j % L.length) : cyc L i = cyc L j := by
  unfold cyc
  rw [h]
theorem ringP_iff (L : List (List Int)) : ringP L ↔ L.Nodup ∧ 1 < L.length ∧ cycP L := by
  constructor
  · rintro ⟨⟨nd, st⟩, hl, he⟩
    refine ⟨nd, hl, fun i => ?_⟩
    have hi : i % L.length < L.length := Nat.mod_lt _ (by omega)
    by_cases h : i % L.length + 1 < L.length
    · rw [cyc_congr (j := i % L.length) (by rw [Nat.mod_mod]), cyc_congr (i := i + 1) (j := i % L.length + 1) (by rw [Nat.mod_add_mod]), cyc_lt hi, cyc_lt h]
      exact st _ h
    · have e : i % L.length = L.length - 1 := by omega
      rw [cyc_congr (j := L.length - 1) (by rw [e, Nat.mod_eq_of_lt (by omega)]), cyc_congr (i := i + 1) (j := 0) (by rw [← Nat.mod_add_mod, e, show L.length - 1 + 1 = L.length by omega, Nat.mod_self, Nat.zero_mod]), cyc_lt (by omega), cyc_lt (by omega), apart_comm]
      exact he
  · rintro ⟨nd, hl, hc⟩
    refine ⟨⟨nd, fun i hi => ?_⟩, hl, ?_⟩
    · have := hc i
      rwa [cyc_lt (by omega), cyc_lt hi] at this
    · have := hc (L.length - 1)
      rw [cyc_lt (by omega), cyc_congr (j := 0) (by rw [show L.length - 1 + 1 = L.length by omega, Nat.mod_self, Nat.zero_mod]), cyc_lt (by omega), apart_comm] at this
      exact this
theorem cyc_rot {L : List (List Int)} {k : Nat} (hk : k < L.length) (i : Nat) : cyc (L.drop k ++ L.take k) i = cyc L (i + k) := by
  have hl : (L.drop k ++ L.take k).length = L.length := by
    rw [List.length_append, List.length_drop, List.length_take]
    omega
  have hi : i % L.length < L.length := Nat.mod_lt _ (by omega)
  unfold cyc
  rw [hl, ← Nat.mod_add_mod i L.length k]
  generalize i % L.length = j at hi
  rw [List.getD_eq_getElem?_getD, List.getD_eq_getElem?_getD]
  congr 1
  by_cases h : j < L.length - k
  · rw [List.getElem?_append_left (by rw [List.length_drop]; exact h), List.getElem?_drop, Nat.mod_eq_of_lt (by omega), Nat.add_comm]
  · rw [List.getElem?_append_right (by rw [List.length_drop]; omega), List.length_drop, List.getElem?_take_of_lt (by omega), Nat.mod_eq_sub_mod (by omega), Nat.mod_eq_of_lt (by omega)]
    congr 1
    omega
theorem ring_rot {L : List (List Int)} {k : Nat} (hk : k < L.length) : ringP (L.drop k ++ L.take k) ↔ ringP L := by
  have hl : (L.drop k ++ L.take k).length = L.length := by
    rw [List.length_append, List.length_drop, List.length_take]
    omega
  have hn : (L.drop k ++ L.take k).Nodup ↔ L.Nodup := by
    have : (L.drop k ++ L.take k).Perm L := (List.perm_append_comm).trans (by rw [List.take_append_drop])
    exact this.nodup_iff
  rw [ringP_iff, ringP_iff, hl, hn]
  refine and_congr_right fun _ => and_congr_right fun h1 => ⟨fun h i => ?_, fun h i => ?_⟩
  · have := h (i + k * (L.length - 1))
    rw [cyc_rot hk, cyc_rot hk] at this
    have e : ∀ j, (j + k * (L.length - 1) + k) % L.length = j % L.length := fun j => by
      have : j + k * (L.length - 1) + k = j + L.length * k := by
        have h2 : L.length = (L.length - 1) + 1 := by omega
        generalize L.length - 1 = q at h2
        rw [h2, Nat.add_mul, Nat.one_mul, Nat.mul_comm k q]
        omega
      rw [this, Nat.add_mul_mod_self_left]
    rw [cyc_congr (e i), show i + k * (L.length - 1) + 1 + k = (i + 1) + k * (L.length - 1) + k by omega, cyc_congr (e (i + 1))] at this
    exact this
  · rw [cyc_rot hk, cyc_rot hk, show i + 1 + k = i + k + 1 by omega]
    exact h _
theorem ring_rev1 {L : List (List Int)} (h : ringP L) : ringP L.reverse := by
  rw [ringP_iff] at h ⊢
  obtain ⟨nd, h1, hc⟩ := h
  refine ⟨(List.reverse_perm L).nodup_iff.mpr nd, by rw [List.length_reverse]; exact h1, fun i => ?_⟩
  have e : ∀ j, cyc L.reverse j = L.getD (L.length - 1 - j % L.length) [] := fun j => by
    have hj : j % L.length < L.length := Nat.mod_lt _ (by omega)
    unfold cyc
    rw [List.length_reverse, List.getD_eq_getElem?_getD, List.getD_eq_getElem?_getD, List.getElem?_reverse hj]
  rw [e, e]
  have hi : i % L.length < L.length := Nat.mod_lt _ (by omega)
  rw [← Nat.mod_add_mod i L.length 1]
  generalize i % L.length = r at hi
  by_cases h2 : r + 1 < L.length
  · rw [Nat.mod_eq_of_lt h2]
    have := hc (L.length - 1 - (r + 1))
    rw [cyc_lt (by omega), cyc_lt (by omega), show L.length - 1 - (r + 1) + 1 = L.length - 1 - r by omega, apart_comm] at this
    exact this
  · have e2 : r + 1 = L.length := by omega
    rw [e2, Nat.mod_self, show L.length - 1 - r = 0 by omega, show L.length - 1 - 0 = L.length - 1 by omega]
    have := hc (L.length - 1)
    rw [cyc_lt (by omega), cyc_congr (j := 0) (by rw [show L.length - 1 + 1 = L.length by omega, Nat.mod_self, Nat.zero_mod]), cyc_lt (by omega), apart_comm] at this
    exact this
theorem ring_rev (L : List (List Int)) : ringP L.reverse ↔ ringP L := ⟨fun h => by
  have := ring_rev1 h
  rwa [List.reverse_reverse] at this, ring_rev1⟩
theorem getD_map {f : List Int → List Int} (f0 : f [] = []) (L : List (List Int)) (i : Nat) : (L.map f).getD i [] = f (L.getD i []) := by
  rw [List.getD_eq_getElem?_getD, List.getD_eq_getElem?_getD, List.getElem?_map]
  cases L[i]? with
  | none => simp [f0]
  | some x => simp
theorem ring_map {f : Int → Int} (hf : ∀ x y, f x = f y → x = y) (L : List (List Int)) : ringP (L.map (List.map f)) ↔ ringP L := by
  have inj : ∀ a b : List Int, a.map f = b.map f → a = b := fun a b h => by
    exact List.map_inj_right (fun x y => hf x y) |>.mp h
  have hn : (L.map (List.map f)).Nodup ↔ L.Nodup := by
    constructor
    · exact fun h => List.Pairwise.of_map (List.map f) (fun a b hne e => hne (by rw [e])) h
    · intro h
      exact List.pairwise_map.mpr (h.imp fun hne e => hne (inj _ _ e))
  unfold ringP rowP stepsP
  rw [hn, List.length_map]
  simp only [getD_map (f := List.map f) rfl, apart_map hf]
/-! ### evenness -/
def bits (r : List Int) : Prop := ∀ x ∈ r, x = 0 ∨ x = 1
theorem apart_par : ∀ {a b : List Int}, a.length = b.length → bits a → bits b → (a.sum + b.sum - (apart a b : Int)) % 2 = 0
  | [], [], _, _, _ => by simp [apart]
  | x :: a, y :: b, h, ha, hb => by
    have ih := apart_par (a := a) (b := b) (by simpa using h) (fun z hz => ha z (List.mem_cons_of_mem _ hz)) (fun z hz => hb z (List.mem_cons_of_mem _ hz))
    have hx := ha x List.mem_cons_self
    have hy := hb y List.mem_cons_self
    simp only [List.sum_cons, apart]
    rcases hx with rfl | rfl <;> rcases hy with rfl | rfl <;> simp <;> omega
theorem ring_even {L : List (List Int)} {m : Nat} (hr : ringP L) (hm : ∀ r ∈ L, r.length = m ∧ bits r) : L.length % 2 = 0 := by
  obtain ⟨nd, h1, hc⟩ := (ringP_iff L).mp hr
  have mem : ∀ i, cyc L i ∈ L := fun i => by
    have hi : i % L.length < L.length := Nat.mod_lt _ (by omega)
    unfold cyc
    rw [List.getD_eq_getElem?_getD, List.getElem?_eq_getElem hi]
    exact List.getElem_mem hi
  have key : ∀ i, ((cyc L i).sum - (cyc L 0).sum - (i : Int)) % 2 = 0 := fun i => by
    induction i with
    | zero => simp
    | succ i ih =>
      have a := apart_par (a := cyc L i) (b := cyc L (i + 1)) (by rw [(hm _ (mem i)).1, (hm _ (mem (i + 1))).1]) (hm _ (mem i)).2 (hm _ (mem (i + 1))).2
      rw [hc i] at a
      omega
  have e := key L.length
  rw [cyc_congr (j := 0) (by rw [Nat.mod_self, Nat.zero_mod])] at e
  omega
end RR.Q

-- RQ33
set_option maxHeartbeats 1000000
/-! Rings turned and gone twice: plain. -/
namespace RR.Q
open PySem
/-! ### true lengths -/
theorem true_congr {xs ys : List Int} (hl : xs.length = ys.length) (h : ∀ k, per xs k ↔ per ys k) {K : Nat} : IsTrue xs K ↔ IsTrue ys K :=
  ⟨fun t => ⟨t.lo, by rw [← hl]; exact t.hi, (h K).mp t.per, fun j a b c => t.min j a b ((h j).mpr c)⟩, fun t => ⟨t.lo, by rw [hl]; exact t.hi, (h K).mpr t.per, fun j a b c => t.min j a b ((h j).mp c)⟩⟩
theorem per_rot {xs : List Int} {k : Nat} (hk : k ≤ xs.length) (h1 : 1 ≤ xs.length) (j : Nat) : per (xs.drop k ++ xs.take k) j ↔ per xs j := by
  constructor
  · intro h i
    have z := h (i + k * (xs.length - 1))
    rw [at_rot hk h1, at_rot hk h1] at z
    have e : ∀ m, at_ xs (m + k * (xs.length - 1) + k) = at_ xs m := fun m => at_congr (by
      have : m + k * (xs.length - 1) + k = m + xs.length * k := by
        have h2 : xs.length = (xs.length - 1) + 1 := by omega
        generalize xs.length - 1 = q at h2
        rw [h2, Nat.add_mul, Nat.one_mul, Nat.mul_comm k q]
        omega
      rw [this, Nat.add_mul_mod_self_left])
    rw [show i + k * (xs.length - 1) + j + k = (i + j) + k * (xs.length - 1) + k by omega, e, e] at z
    exact z
  · intro h i
    rw [at_rot hk h1, at_rot hk h1, show i + j + k = (i + k) + j by omega]
    exact h _
theorem per_back1 {xs : List Int} (h1 : 1 ≤ xs.length) {j : Nat} (h : per xs j) : per xs.reverse j := fun i => by
  obtain ⟨q, hq⟩ := back_place h1 (i + j) 1
  rw [at_back h1 (j := q) (by rw [show i + j + q + 1 = i + j + q + 1 by rfl]; exact hq), at_back h1 (i := i) (j := q + j) (by rw [show i + (q + j) + 1 = i + j + q + 1 by omega]; exact hq)]
  exact (h q).symm
theorem per_back {xs : List Int} (h1 : 1 ≤ xs.length) (j : Nat) : per xs.reverse j ↔ per xs j := ⟨fun h => by
  have := per_back1 (xs := xs.reverse) (by rw [List.length_reverse]; exact h1) h
  rwa [List.reverse_reverse] at this, per_back1 h1⟩
theorem per_map {f : Int → Int} (hf : ∀ x y, f x = f y → x = y) {xs : List Int} (h1 : 1 ≤ xs.length) (j : Nat) : per (xs.map f) j ↔ per xs j := by
  unfold per
  constructor
  · intro h i
    have := h i
    rw [at_map h1, at_map h1] at this
    exact hf _ _ this
  · intro h i
    rw [at_map h1, at_map h1, h i]
/-! ### telling -/
theorem tells_congr {xs ys : List Int} {w : Nat} (h1 : 1 ≤ xs.length) (h2 : 1 ≤ ys.length) (h : ∀ x, farM ys w x ↔ farM xs w x) : tellsP ys w ↔ tellsP xs w := by
  rw [tells_far h2, tells_far h1]
  have e := far_congr h2 h1 h
  exact ⟨fun z x hx => z x ((e x).mpr hx), fun z x hx => z x ((e x).mp hx)⟩
theorem least_one {xs ys : List Int} {r q : D} (h : ∀ w, tellsP ys w ↔ tellsP xs w) (a : LeastW xs r) (b : LeastW ys q) : r = q := by
  rcases a with ⟨rfl, a⟩ | ⟨K, rfl, k1, a⟩
  · rcases b with ⟨rfl, _⟩ | ⟨J, rfl, j1, b⟩
    · rfl
    · exact absurd ((h J).mp ((b J j1).mpr (Nat.le_refl _))) (a J)
  · rcases b with ⟨rfl, b⟩ | ⟨J, rfl, j1, b⟩
    · exact absurd ((h K).mpr ((a K k1).mpr (Nat.le_refl _))) (b K)
    · have x1 : J ≤ K := (b K k1).mp ((h K).mpr ((a K k1).mpr (Nat.le_refl _)))
      have x2 : K ≤ J := (a J j1).mp ((h J).mp ((b J j1).mpr (Nat.le_refl _)))
      rw [show K = J by omega]
/-- gone twice -/
theorem at_twice {xs : List Int} (h1 : 1 ≤ xs.length) (i : Nat) : at_ (xs ++ xs) i = at_ xs i := by
  have hl : (xs ++ xs).length = xs.length * 2 := by rw [List.length_append]; omega
  have hm : i % (xs.length * 2) < xs.length * 2 := Nat.mod_lt _ (by omega)
  have hs : (i % (xs.length * 2)) % xs.length = i % xs.length := Nat.mod_mul_right_mod ..
  have e : (xs ++ xs)[i % (xs.length * 2)]? = some (at_ xs (i % (xs.length * 2))) := by
    generalize i % (xs.length * 2) = j at hm
    by_cases h : j < xs.length
    · rw [List.getElem?_append_left h, at_lt h]
    · rw [List.getElem?_append_right (by omega), at_lt (by omega)]
      exact congrArg some (at_congr (by rw [← Nat.mod_eq_sub_mod (by omega)]))
  unfold at_ at e ⊢
  rw [hl, List.getD_eq_getElem?_getD, e, hs]
  rfl
theorem true_twice {xs : List Int} (h1 : 1 ≤ xs.length) {K : Nat} (t : IsTrue xs K) : IsTrue (xs ++ xs) K :=
  ⟨t.lo, by rw [List.length_append]; have := t.hi; omega, fun i => by rw [at_twice h1, at_twice h1]; exact t.per i, fun j a b c => t.min j a b fun i => by
    have := c i
    rwa [at_twice h1, at_twice h1] at this⟩
theorem tells_twice {xs : List Int} (h1 : 1 ≤ xs.length) (w : Nat) : ¬ tellsP (xs ++ xs) w := fun h => by
  have := h 0 xs.length (win_ext fun t _ => by
    rw [at_twice h1, at_twice h1, Nat.zero_add, Nat.add_comm xs.length t, per_len xs t])
  rw [List.length_append, Nat.zero_mod, Nat.mod_eq_of_lt (by omega)] at this
  omega
/-- its own true one: some number of marks tells -/
theorem own_iff {xs : List Int} {K : Nat} {r : D} (h1 : 1 ≤ xs.length) (t : IsTrue xs K) (l : LeastW xs r) : K = xs.length ↔ isNone (.d r) = false := by
  rcases l with ⟨rfl, l⟩ | ⟨J, rfl, j1, l⟩
  · constructor
    · intro e
      subst e
      exact absurd (tells_full h1 t) (l _)
    · intro e
      cases e
  · refine ⟨fun _ => rfl, fun _ => ?_⟩
    by_cases h : K < xs.length
    · exact absurd ((l J j1).mpr (Nat.le_refl _)) (tells_never t h J)
    · have := t.hi
      omega
/-! ### least rows -/
theorem lt_rows (a b : List Int) : PySem.W.dataLt (tupI a) (tupI b) = decide (a < b) := by
  unfold tupI
  rw [PySem.W.dataLt_tuple]
  exact PySem.W.dataLt_ints a b
def minR (x : List Int) (r : List (List Int)) : List Int := r.foldl (fun a y => if y < a then y else a) x
theorem minD_rows (r : List (List Int)) (x : List Int) : PySem.W.minD (tupI x) (r.map tupI) = tupI (minR x r) := by
  induction r generalizing x with
  | nil => rfl
  | cons y r ih =>
    have e : PySem.W.minD (tupI x) ((y :: r).map tupI) = PySem.W.minD (if PySem.W.dataLt (tupI y) (tupI x) then tupI y else tupI x) (r.map tupI) := rfl
    rw [e, lt_rows]
    have e2 : minR x (y :: r) = minR (if y < x then y else x) r := rfl
    rw [e2, ← ih]
    by_cases h : y < x <;> simp [h]
theorem minR_le : ∀ (r : List (List Int)) (x : List Int), minR x r ∈ x :: r ∧ ∀ y ∈ x :: r, ¬ y < minR x r
  | [], x => by
    refine ⟨by simp [minR], fun y hy => ?_⟩
    simp at hy
    subst hy
    exact List.lt_irrefl _
  | y :: r, x => by
    have e2 : minR x (y :: r) = minR (if y < x then y else x) r := rfl
    rw [e2]
    obtain ⟨a, b⟩ := minR_le r (if y < x then y else x)
    constructor
    · rcases List.mem_cons.mp a with z | z
      · rw [z]
        split <;> simp
      · exact List.mem_cons_of_mem _ (List.mem_cons_of_mem _ z)
    · intro z hz hlt
      have b0 := b _ List.mem_cons_self
      simp only [List.mem_cons] at hz
      rcases hz with rfl | rfl | hz
      · split at b0
        · rename_i hyz
          rw [if_pos hyz] at hlt
          exact b0 (List.lt_trans hyz hlt)
        · rename_i hyz
          rw [if_neg hyz] at hlt
          exact b0 hlt
      · split at b0
        · rename_i hyz
          rw [if_pos hyz] at hlt
          exact b0 hlt
        · rename_i hyz
          rw [if_neg hyz] at hlt
          exact b0 (List.lt_of_le_of_lt (List.not_lt.mp hyz) hlt)
      · exact b z (List.mem_cons_of_mem _ hz) hlt
theorem minR_congr {x y : List Int} {r q : List (List Int)} (h : ∀ z, z ∈ x :: r ↔ z ∈ y :: q) : minR x r = minR y q := by
  obtain ⟨a1, a2⟩ := minR_le r x
  obtain ⟨b1, b2⟩ := minR_le q y
  have h1 := a2 _ ((h _).mpr b1)
  have h2 := b2 _ ((h _).mp a1)
  exact List.le_antisymm (List.not_lt.mp h1) (List.not_lt.mp h2)
def turns (xs : List Int) : List (List Int) := (List.range xs.length).map fun k => xs.drop k ++ xs.take k
theorem min_turns {L M : List (List Int)} (h1 : 1 ≤ L.length) (h : ∀ z, z ∈ L ↔ z ∈ M) : ∃ m, biD .min [.list (L.map tupI)] = some (tupI m) ∧ biD .min [.list (M.map tupI)] = some (tupI m) := by
  have go : ∀ (x : List Int) (r : List (List Int)), biD .min [.list ((x :: r).map tupI)] = some (tupI (minR x r)) := fun x r => by
    have ht : tupsB ((x :: r).map tupI) = true := by
      unfold tupsB
      rw [List.all_eq_true]
      intro y hy
      obtain ⟨z, _, rfl⟩ := List.mem_map.mp hy
      unfold tupI
      simp [intsOf_map]
    rw [List.map_cons] at ht ⊢
    have hi : intsOf (tupI x :: r.map tupI) = none := rfl
    simp only [biD, hi, ht, if_true, minD_rows]
  cases L with
  | nil => simp at h1
  | cons x r =>
    cases M with
    | nil =>
      have := (h x).mp List.mem_cons_self
      cases this
    | cons y q => exact ⟨minR x r, go x r, by rw [go y q, minR_congr h]⟩
theorem turns_rot {xs : List Int} {k : Nat} (hk : k < xs.length) (z : List Int) : z ∈ turns (xs.drop k ++ xs.take k) ↔ z ∈ turns xs := by
  have hl : (xs.drop k ++ xs.take k).length = xs.length := by
    rw [List.length_append, List.length_drop, List.length_take]
    omega
  have one : 1 ≤ xs.length := by omega
  have ext : ∀ {a b : List Int}, a.length = b.length → (∀ i, i < a.length → at_ a i = at_ b i) → a = b := fun {a b} e h => by
    apply List.ext_getElem?
    intro i
    by_cases hi : i < a.length
    · rw [at_lt hi, at_lt (by omega), h i hi]
    · rw [List.getElem?_eq_none (by omega), List.getElem?_eq_none (by omega)]
  have len : ∀ (ys : List Int) j, j < ys.length → (ys.drop j ++ ys.take j).length = ys.length := fun ys j hj => by
    rw [List.length_append, List.length_drop, List.length_take]
    omega
  have two : ∀ j, j < xs.length → (xs.drop k ++ xs.take k).drop j ++ (xs.drop k ++ xs.take k).take j = xs.drop ((k + j) % xs.length) ++ xs.take ((k + j) % xs.length) := fun j hj => by
    have hm : (k + j) % xs.length < xs.length := Nat.mod_lt _ (by omega)
    refine ext (by rw [len _ _ (by rw [hl]; exact hj), hl, len _ _ hm]) fun i hi => ?_
    rw [at_rot (by rw [hl]; omega) (by rw [hl]; exact one), at_rot (by omega) one, at_rot (by omega) one]
    exact at_congr (by rw [Nat.add_mod_mod, show i + j + k = i + (k + j) by omega])
  unfold turns
  rw [hl]
  constructor
  · intro h
    obtain ⟨j, hj, rfl⟩ := List.mem_map.mp h
    exact List.mem_map.mpr ⟨(k + j) % xs.length, List.mem_range.mpr (Nat.mod_lt _ (by omega)), (two j (List.mem_range.mp hj)).symm⟩
  · intro h
    obtain ⟨j, hj, rfl⟩ := List.mem_map.mp h
    have hj := List.mem_range.mp hj
    refine List.mem_map.mpr ⟨(j + (xs.length - k)) % xs.length, List.mem_range.mpr (Nat.mod_lt _ (by omega)), ?_⟩
    rw [two _ (Nat.mod_lt _ (by omega)), Nat.add_mod_mod, show k + (j + (xs.length - k)) = j + xs.length by omega, Nat.add_mod_right, Nat.mod_eq_of_lt hj]
end RR.Q

-- RQ34
set_option maxHeartbeats 1000000
/-! Lots: rows sorted and without what comes twice; a law's own least wide, true length. -/
namespace RR.Q
open PySem
theorem beqt (b : Bool) : (b == true) = b := by cases b <;> rfl
abbrev tupL (L : List (List Int)) : D := .tuple (L.map tupI)
/-! ### rows in order -/
def Bd3 (r : List Int) : Prop := ∀ x ∈ r, 0 ≤ x ∧ x < 1000
theorem codeR_bd : ∀ r : List Int, Bd3 r → 0 ≤ codeR r ∧ codeR r < 1000 ^ r.length
  | [], _ => by simp [codeR]
  | x :: r, h => by
    obtain ⟨a, b⟩ := codeR_bd r fun z hz => h z (List.mem_cons_of_mem _ hz)
    obtain ⟨c, d⟩ := h x List.mem_cons_self
    rw [codeR, List.length_cons, Int.pow_succ]
    have p1 : (x + 1) * 1000 ^ r.length ≤ 1000 * 1000 ^ r.length := Int.mul_le_mul_of_nonneg_right (by omega) (by omega)
    have p2 : 0 * 1000 ^ r.length ≤ x * 1000 ^ r.length := Int.mul_le_mul_of_nonneg_right c (by omega)
    rw [Int.add_mul, Int.one_mul] at p1
    rw [Int.mul_comm (1000 ^ r.length) 1000]
    rw [Int.zero_mul] at p2
    omega
theorem codeR_lt : ∀ {a b : List Int}, a.length = b.length → Bd3 a → Bd3 b → codeR a ≤ codeR b → a = b ∨ a < b
  | [], [], _, _, _, _ => .inl rfl
  | x :: a, y :: b, hl, ha, hb, e => by
    have hl' : a.length = b.length := by simpa using hl
    have ta : Bd3 a := fun z hz => ha z (List.mem_cons_of_mem _ hz)
    have tb : Bd3 b := fun z hz => hb z (List.mem_cons_of_mem _ hz)
    rcases Int.lt_trichotomy x y with z | z | z
    · exact .inr (List.cons_lt_cons_iff.mpr (.inl z))
    · subst z
      rw [codeR, codeR, hl'] at e
      rcases codeR_lt hl' ta tb (by omega) with q | q
      · exact .inl (by rw [q])
      · exact .inr (List.cons_lt_cons_iff.mpr (.inr ⟨rfl, q⟩))
    · exfalso
      obtain ⟨a1, a2⟩ := codeR_bd a ta
      obtain ⟨b1, b2⟩ := codeR_bd b tb
      rw [codeR, codeR, hl'] at e
      rw [hl'] at a2
      have p1 : (y + 1) * 1000 ^ b.length ≤ x * 1000 ^ b.length := Int.mul_le_mul_of_nonneg_right (by omega) (by omega)
      rw [Int.add_mul, Int.one_mul] at p1
      omega
theorem uniqD_sub : ∀ L : List (List Int), (uniqD L).Sublist L
  | [] => List.Sublist.refl _
  | x :: r => by
    rw [uniqD]
    split
    · exact (uniqD_sub r).cons _
    · exact (uniqD_sub r).cons₂ _
theorem uniqD_in (x : List Int) : ∀ L : List (List Int), x ∈ uniqD L ↔ x ∈ L
  | [] => by simp [uniqD]
  | y :: r => by
    rw [uniqD]
    split
    · rename_i h
      rw [uniqD_in x r, List.mem_cons]
      exact ⟨.inr, fun z => z.elim (fun e => e ▸ h) id⟩
    · rw [List.mem_cons, List.mem_cons, uniqD_in x r]
theorem uniqD_nodup' : ∀ L : List (List Int), (uniqD L).Nodup
  | [] => List.nodup_nil
  | y :: r => by
    rw [uniqD]
    split
    · exact uniqD_nodup' r
    · rename_i h
      exact List.nodup_cons.mpr ⟨fun z => h ((uniqD_in y r).mp z), uniqD_nodup' r⟩
theorem sortR_perm (L : List (List Int)) : (sortR L).Perm L := List.mergeSort_perm ..
theorem sortR_pw (L : List (List Int)) : (sortR L).Pairwise fun a b => codeR a ≤ codeR b := by
  have z := List.pairwise_mergeSort (le := fun a b => decide (codeR a ≤ codeR b)) (fun a b c h1 h2 => by
    simp only [decide_eq_true_eq] at *
    omega) (fun a b => by
    simp only [Bool.or_eq_true, decide_eq_true_eq]
    omega) L
  exact List.Pairwise.imp (fun {a b} hab => of_decide_eq_true hab) z
/-- each is less than the next -/
theorem sortR_up {L : List (List Int)} {d : Nat} (nd : L.Nodup) (h : ∀ r ∈ L, r.length = d ∧ Bd3 r) {i : Nat} (hi : i + 1 < (sortR L).length) : (sortR L).getD i [] < (sortR L).getD (i + 1) [] := by
  have pm := sortR_perm L
  have nd2 : (sortR L).Nodup := pm.nodup_iff.mpr nd
  rw [List.getD_eq_getElem?_getD, List.getD_eq_getElem?_getD, List.getElem?_eq_getElem hi, List.getElem?_eq_getElem (show i < (sortR L).length by omega), Option.getD_some, Option.getD_some]
  have le := List.pairwise_iff_getElem.mp (sortR_pw L) i (i + 1) (by omega) hi (by omega)
  have ne := List.pairwise_iff_getElem.mp (List.nodup_iff_pairwise_ne.mp nd2) i (i + 1) (by omega) hi (by omega)
  have m1 := h _ (pm.mem_iff.mp (List.getElem_mem (show i < (sortR L).length by omega)))
  have m2 := h _ (pm.mem_iff.mp (List.getElem_mem hi))
  rcases codeR_lt (m1.1.trans m2.1.symm) m1.2 m2.2 le with q | q
  · exact absurd q ne
  · exact q
theorem sort_uniq (L : List (List Int)) : sortR L = sortR (uniqD L) ↔ L.Nodup := by
  constructor
  · intro e
    have l1 := (sortR_perm L).length_eq
    have l2 := (sortR_perm (uniqD L)).length_eq
    rw [e] at l1
    have := (uniqD_sub L).eq_of_length (l2.symm.trans l1)
    rw [← this]
    exact uniqD_nodup' L
  · intro nd
    have : uniqD L = L := by
      have pm : (uniqD L).Perm L := (List.perm_ext_iff_of_nodup (uniqD_nodup' L) nd).mpr fun x => uniqD_in x L
      exact (uniqD_sub L).eq_of_length pm.length_eq
    rw [this]
theorem unlike_nodup (L : List (List Int)) : unlike L ↔ L.Nodup := by
  rw [List.nodup_iff_pairwise_ne, List.pairwise_iff_getElem]
  constructor
  · intro h i j hi hj hij e
    exact h i j hij hj (by rw [List.getElem?_eq_getElem hi, List.getElem?_eq_getElem hj, e])
  · intro h a b hab hb e
    rw [List.getElem?_eq_getElem (show a < L.length by omega), List.getElem?_eq_getElem hb] at e
    exact h a b (by omega) hb hab (Option.some.inj e)
theorem lt_tupI (a b : List Int) : cmpD .Lt (tupI a) (tupI b) = some (decide (a < b)) := by
  simp only [cmpD, tupI, intsOf_map]
theorem eqvAll_rows : ∀ A B : List (List Int), PyData.eqvAll (A.map tupI) (B.map tupI) = decide (A = B)
  | [], [] => by simp [PyData.eqvAll]
  | [], _ :: _ => by simp [PyData.eqvAll]
  | _ :: _, [] => by simp [PyData.eqvAll]
  | a :: r, b :: t => by
    simp only [List.map_cons, PyData.eqvAll, eqv_tupI, eqvAll_rows r t]
    by_cases h1 : a = b <;> by_cases h2 : r = t <;> simp [h1, h2]
theorem eq_rowsL (A B : List (List Int)) : cmpD .Eq (.list (A.map tupI)) (.list (B.map tupI)) = some (decide (A = B)) := by
  have hd : dep (.list (A.map tupI)) = true := by
    unfold dep
    refine decide_eq_true ?_
    rw [PyData.depth]
    have : PyData.depthAll (A.map tupI) ≤ 1 := depthAll_of fun x hx => by
      obtain ⟨r, _, rfl⟩ := List.mem_map.mp hx
      unfold tupI
      rw [PyData.depth]
      have : PyData.depthAll (r.map PyData.int) ≤ 0 := depthAll_of fun x hx => by
        obtain ⟨i, _, rfl⟩ := List.mem_map.mp hx
        simp [PyData.depth]
      omega
    omega
  simp only [cmpD, hd, Bool.true_or, if_true]
  rw [PyData.eqv, eqvAll_rows]
theorem rowsOf_map' : ∀ L : List (List Int), rowsOf (L.map tupI) = some L
  | [] => rfl
  | r :: t => by
    simp only [List.map_cons, rowsOf, tupI, intsOf_map, rowsOf_map' t]
theorem sortable_of {L : List (List Int)} {d : Nat} (d1 : 1 ≤ d) (hl : L.length < 60) (h : ∀ r ∈ L, r.length = d ∧ Bd3 r) : sortable L = true := by
  unfold sortable
  rw [Bool.and_eq_true, Bool.and_eq_true, decide_eq_true_eq]
  refine ⟨⟨hl, ?_⟩, ?_⟩
  · unfold smlR
    refine List.all_eq_true.mpr fun r hr => List.all_eq_true.mpr fun x hx => ?_
    have := (h r hr).2 x hx
    simp [this.1, this.2]
  · cases L with
    | nil => rfl
    | cons r t =>
      have hr := (h r List.mem_cons_self).1
      rw [evenR, Bool.and_eq_true, decide_eq_true_eq, List.all_eq_true]
      refine ⟨by omega, fun q hq => decide_eq_true ?_⟩
      rw [hr, (h q (List.mem_cons_of_mem _ hq)).1]
theorem sset_ok {L : List (List Int)} (h : sortable L = true) : ssetD (tupL L) = some (.list ((sortR (uniqD L)).map tupI)) := by
  simp only [ssetD, rowsOf_map', h, if_true]
  rfl
theorem sorted_ok {L : List (List Int)} (h : sortable L = true) : biD .sorted [tupL L] = some (.list ((sortR L).map tupI)) := by
  show sortD (tupL L) = _
  simp only [sortD, seqOf, rowsOf_map', h, if_true]
  rfl
@[simp] theorem q_sset (C : Sem) (env : Env) (h : IH) (e : IE) : ev C env (.sset e) h = (ev C env e h).bind fun x h1 => match dat x h1 with
    | some d => ofO ((ssetD d).map .d) h1
    | none => .stuck := by
  rw [ev] <;> rfl
section
variable {P : Prog} {n g : Nat}
/-! ### lots looked at -/
def fAnyWindow (a b : Nat) : FDef := ⟨2, 3, [(.ret (.and_ (.call a [(.v 1), (.c (.int 1)), (.c (.int 6))]) (.bi .all [(.lc .val [(.v 1)] (.one 2) .nop (.call b [(.v 2), (.c (.int 0)), (.bin .Sub (.v 0) (.c (.int 1)))]))])))]⟩
abbrev SAnyWindow (C : Sem) (g : Nat) : Prop := ∀ (s : Int) (xs : List Int) (h : IH), Mk s xs → 1 ≤ xs.length → xs.length ≤ 6 → C.call g [.d (.int s), .d (tupI xs)] h = .ok (.d (.bool true)) h
theorem anyWindow_ok {a b : Nat} (hf : P.defs[g]? = some (fAnyWindow a b)) (c0 : SRow (sem P n) a) (c1 : SBtw (sem P n) b) : SAnyWindow (sem P (n + 1)) g := by
  intro s xs h hm h1 h6
  have e0 := c0 (tupI xs) 1 6 h rfl
  rw [show tlen (tupI xs) 1 6 = true from tlen_yes (by rw [List.length_map]; omega) (by rw [List.length_map]; omega)] at e0
  have k := lc_map (C := sem P n) (env := [some (.d (.int s)), some (.d (tupI xs)), none]) (k := .val) (its := [(.v 1)]) (tg := .one 2) (elt := (.call b [(.v 2), (.c (.int 0)), (.bin .Sub (.v 0) (.c (.int 1)))])) (h := h) (vs := [.d (tupI xs)]) (ds := [tupI xs]) (ts := xs) PyData.int (fun _ => PyData.bool true) (by simp) (by simp) rfl (by omega) fun x hx h' => ⟨_, rfl, by
    have := hm x hx
    have e1 := c1 (.int x) 0 (s - 1) h' rfl
    rw [btw_yes this.1 (by omega)] at e1
    simp -implicitDefEqProofs only [q_c, q_v, q_fn, q_bin, q_neg, q_nt, q_cmp, q_chain, q_isN, q_and, q_or, q_ifx, q_tup, q_lst, q_ix, q_sl, q_prt_nop, q_prt_v, q_prt_c, q_prt_bin, q_prt_neg, q_prt_bi, q_prt_call, q_rev, q_call, q_callK, q_bi, q_isI, q_mut_lst, q_md, q_nil, q_cons, q_get0, q_getS, q_ofO, bind_ok, q_truth_b, q_truth_i, q_dat, q_dats0, q_dats1, q_biP0, q_biP1, q_biP2, Option.map, partOf, List.length_cons, List.length_nil, Nat.zero_add, Nat.reduceAdd, if_pos (q_lim 0 (by decide)), if_pos (q_lim 1 (by decide)), if_pos (q_lim 2 (by decide)), if_pos (q_lim 3 (by decide)), if_pos (q_lim 4 (by decide)), q_add, q_sub, q_le, q_lt, q_ge, q_gt, eq_ints, ne_ints, q_lenI, q_bl1, q_bl2, q_btp1, q_btp2, then_ok, q_setV, q_setVr, obind_next, obind_ret, List.set, if_true, Bool.not_true, Bool.not_false, q_isN, beqt, q_tgs1, q_w1, q_w0, e1]⟩
  refine callD hf (env := [some (.d (.int s)), some (.d (tupI xs)), none]) rfl rfl ?_
  unfold fAnyWindow
  have ea : biD .all [.list (xs.map fun _ => PyData.bool true)] = some (.bool true) := bools_true fun y hy => by
    obtain ⟨_, _, rfl⟩ := List.mem_map.mp hy
    rfl
  have ek : ev (sem P n) [some (.d (.int s)), some (.d (tupI xs)), none] (.bi .all [(.lc .val [(.v 1)] (.one 2) .nop (.call b [(.v 2), (.c (.int 0)), (.bin .Sub (.v 0) (.c (.int 1)))]))]) h = .ok (.d (.bool true)) h := by
    rw [q_bi, q_cons, k]
    simp -implicitDefEqProofs only [q_c, q_v, q_fn, q_bin, q_neg, q_nt, q_cmp, q_chain, q_isN, q_and, q_or, q_ifx, q_tup, q_lst, q_ix, q_sl, q_prt_nop, q_prt_v, q_prt_c, q_prt_bin, q_prt_neg, q_prt_bi, q_prt_call, q_rev, q_call, q_callK, q_bi, q_isI, q_mut_lst, q_md, q_nil, q_cons, q_get0, q_getS, q_ofO, bind_ok, q_truth_b, q_truth_i, q_dat, q_dats0, q_dats1, q_biP0, q_biP1, q_biP2, Option.map, partOf, List.length_cons, List.length_nil, Nat.zero_add, Nat.reduceAdd, if_pos (q_lim 0 (by decide)), if_pos (q_lim 1 (by decide)), if_pos (q_lim 2 (by decide)), if_pos (q_lim 3 (by decide)), if_pos (q_lim 4 (by decide)), q_add, q_sub, q_le, q_lt, q_ge, q_gt, eq_ints, ne_ints, q_lenI, q_bl1, q_bl2, q_btp1, q_btp2, then_ok, q_setV, q_setVr, obind_next, obind_ret, List.set, if_true, Bool.not_true, Bool.not_false, q_isN, beqt, ea]
  rw [q_exs1, q_ret, q_and]
  simp -implicitDefEqProofs only [q_call, q_cons, q_nil, q_v, q_c, q_get0, q_getS, q_ofO, bind_ok, e0, q_truth_b, ek, then_ok, obind_ret]
/-- a lot: rows of one length, each less than the next -/
structure Lot (s : Int) (w : Nat) (S : List (List Int)) : Prop where
  lo : 2 ≤ s
  hi : s ≤ 4
  w1 : 1 ≤ w
  w6 : w ≤ 6
  one : 1 ≤ S.length
  most : S.length ≤ 32
  row : ∀ r ∈ S, r.length = w ∧ Mk s r
  up : ∀ i, i + 1 < S.length → S.getD i [] < S.getD (i + 1) []
def fWrongWindow (a : Nat) : FDef := ⟨2, 4, [(.for_ .enum [(.v 1)] (.tup [2, 3]) [(.ite (.or_ (.nt (.call a [(.v 0), (.v 3)])) (.or_ (.cmp .NotEq (.bi .len [(.v 3)]) (.bi .len [(.ix (.v 1) (.c (.int 0)))])) (.and_ (.cmp .Gt (.v 2) (.c (.int 0))) (.nt (.cmp .Lt (.ix (.v 1) (.bin .Sub (.v 2) (.c (.int 1)))) (.v 3)))))) [(.ret (.v 2))] [])]), (.ret (.c .none))]⟩
abbrev SWrongWindow (C : Sem) (g : Nat) : Prop := ∀ (s : Int) (w : Nat) (S : List (List Int)) (h : IH), Lot s w S → C.call g [.d (.int s), .d (tupL S)] h = .ok (.d .none) h
theorem ixL {L : List (List Int)} {k : Nat} (h : k < L.length) : ixD (tupL L) (.int (k : Int)) = some (tupI (L.getD k [])) := by
  show atD _ _ = _
  rw [at_nat (by rw [List.length_map]; exact h)]
  simp [h]
theorem wrongWindow_ok {a : Nat} (hf : P.defs[g]? = some (fWrongWindow a)) (c0 : SAnyWindow (sem P n) a) : SWrongWindow (sem P (n + 1)) g := by
  intro s w S h lt
  have one := lt.one
  have getR : ∀ i, i < S.length → (S.getD i []).length = w ∧ Mk s (S.getD i []) := fun i hi => by
    rw [List.getD_eq_getElem?_getD, List.getElem?_eq_getElem hi]
    exact lt.row _ (List.getElem_mem _)
  obtain ⟨env', h', ef, u2, u3, rfl, rfl⟩ := for_ix (tg := .tup [2, 3]) (body := fun env h => exs (sem P n) P.wf env [(.ite (.or_ (.nt (.call a [(.v 0), (.v 3)])) (.or_ (.cmp .NotEq (.bi .len [(.v 3)]) (.bi .len [(.ix (.v 1) (.c (.int 0)))])) (.and_ (.cmp .Gt (.v 2) (.c (.int 0))) (.nt (.cmp .Lt (.ix (.v 1) (.bin .Sub (.v 2) (.c (.int 1)))) (.v 3)))))) [(.ret (.v 2))] [])] h) (F := fun (t : Nat) => PyData.tuple [.int (t : Int), tupI (S.getD t [])]) (fun _ env h' => ∃ u2 u3, h' = h ∧ env = [some (.d (.int s)), some (.d (tupL S)), u2, u3]) (ts := List.range S.length) (k := 0) (env := [some (.d (.int s)), some (.d (tupL S)), none, none]) (h := h) ⟨_, _, rfl, rfl⟩ (by
    intro i hi env hh ⟨u2, u3, eh, ee⟩
    subst ee
    rw [List.length_range] at hi
    rw [List.getElem_range]
    refine ⟨[some (.d (.int s)), some (.d (tupL S)), some (.d (.int (i : Int))), some (.d (tupI (S.getD i [])))], [some (.d (.int s)), some (.d (tupL S)), some (.d (.int (i : Int))), some (.d (tupI (S.getD i [])))], hh, rfl, .inl ?_, _, _, eh, rfl⟩
    have r := getR i hi
    have r0 := getR 0 (by omega)
    have e1 := c0 s (S.getD i []) hh r.2 (by rw [r.1]; exact lt.w1) (by rw [r.1]; exact lt.w6)
    have i0 : ixD (tupL S) (.int 0) = some (tupI (S.getD 0 [])) := ixL (k := 0) (by omega)
    have el : ((S.getD i []).length : Int) = ((S.getD 0 []).length : Int) := by rw [r.1, r0.1]
    rw [q_exs1, q_ite]
    by_cases h0 : 0 < i
    · obtain ⟨j, rfl⟩ : ∃ j, i = j + 1 := ⟨i - 1, by omega⟩
      have ej : ((j + 1 : Nat) : Int) - 1 = (j : Int) := by omega
      have hg : (0 : Int) < ((j + 1 : Nat) : Int) := by omega
      simp -implicitDefEqProofs only [q_c, q_v, q_fn, q_bin, q_neg, q_nt, q_cmp, q_chain, q_isN, q_and, q_or, q_ifx, q_tup, q_lst, q_ix, q_sl, q_prt_nop, q_prt_v, q_prt_c, q_prt_bin, q_prt_neg, q_prt_bi, q_prt_call, q_rev, q_call, q_callK, q_bi, q_isI, q_mut_lst, q_md, q_nil, q_cons, q_get0, q_getS, q_ofO, bind_ok, q_truth_b, q_truth_i, q_dat, q_dats0, q_dats1, q_biP0, q_biP1, q_biP2, Option.map, partOf, List.length_cons, List.length_nil, Nat.zero_add, Nat.reduceAdd, if_pos (q_lim 0 (by decide)), if_pos (q_lim 1 (by decide)), if_pos (q_lim 2 (by decide)), if_pos (q_lim 3 (by decide)), if_pos (q_lim 4 (by decide)), q_add, q_sub, q_le, q_lt, q_ge, q_gt, eq_ints, ne_ints, q_lenI, q_bl1, q_bl2, q_btp1, q_btp2, then_ok, q_setV, q_setVr, obind_next, obind_ret, List.set, if_true, Bool.not_true, Bool.not_false, q_isN, beqt, e1, i0, el, decide_true, decide_eq_true hg, ej, ixL (L := S) (k := j) (by omega), lt_tupI, decide_eq_true (lt.up j hi), q_exs0]
    · have hg : ¬ (0 : Int) < (i : Int) := by omega
      simp -implicitDefEqProofs only [q_c, q_v, q_fn, q_bin, q_neg, q_nt, q_cmp, q_chain, q_isN, q_and, q_or, q_ifx, q_tup, q_lst, q_ix, q_sl, q_prt_nop, q_prt_v, q_prt_c, q_prt_bin, q_prt_neg, q_prt_bi, q_prt_call, q_rev, q_call, q_callK, q_bi, q_isI, q_mut_lst, q_md, q_nil, q_cons, q_get0, q_getS, q_ofO, bind_ok, q_truth_b, q_truth_i, q_dat, q_dats0, q_dats1, q_biP0, q_biP1, q_biP2, Option.map, partOf, List.length_cons, List.length_nil, Nat.zero_add, Nat.reduceAdd, if_pos (q_lim 0 (by decide)), if_pos (q_lim 1 (by decide)), if_pos (q_lim 2 (by decide)), if_pos (q_lim 3 (by decide)), if_pos (q_lim 4 (by decide)), q_add, q_sub, q_le, q_lt, q_ge, q_gt, eq_ints, ne_ints, q_lenI, q_bl1, q_bl2, q_btp1, q_btp2, then_ok, q_setV, q_setVr, obind_next, obind_ret, List.set, if_true, Bool.not_true, Bool.not_false, q_isN, beqt, e1, i0, el, decide_true, decide_eq_false hg, q_exs0])
  refine callD hf (env := [some (.d (.int s)), some (.d (tupL S)), none, none]) rfl rfl ?_
  unfold fWrongWindow
  rw [q_exs1, q_for]
  simp -implicitDefEqProofs only [q_cons, q_nil, q_v, q_get0, q_getS, q_ofO, bind_ok, q_itr, q_dats1, q_dats0, Option.map, itemsD, enum_map, then_ok, ef]
  simp -implicitDefEqProofs only [q_c, q_v, q_fn, q_bin, q_neg, q_nt, q_cmp, q_chain, q_isN, q_and, q_or, q_ifx, q_tup, q_lst, q_ix, q_sl, q_prt_nop, q_prt_v, q_prt_c, q_prt_bin, q_prt_neg, q_prt_bi, q_prt_call, q_rev, q_call, q_callK, q_bi, q_isI, q_mut_lst, q_md, q_nil, q_cons, q_get0, q_getS, q_ofO, bind_ok, q_truth_b, q_truth_i, q_dat, q_dats0, q_dats1, q_biP0, q_biP1, q_biP2, Option.map, partOf, List.length_cons, List.length_nil, Nat.zero_add, Nat.reduceAdd, if_pos (q_lim 0 (by decide)), if_pos (q_lim 1 (by decide)), if_pos (q_lim 2 (by decide)), if_pos (q_lim 3 (by decide)), if_pos (q_lim 4 (by decide)), q_add, q_sub, q_le, q_lt, q_ge, q_gt, eq_ints, ne_ints, q_lenI, q_bl1, q_bl2, q_btp1, q_btp2, then_ok, q_setV, q_setVr, obind_next, obind_ret, List.set, if_true, Bool.not_true, Bool.not_false, q_isN, beqt, q_exs0, q_exs1, q_set, q_ite, q_ret, q_ex]
def fChkLot (a b : Nat) (r q : IS) : FDef := ⟨2, 3, [(.ite (.nt (.call a [(.v 1), (.c (.int 1)), (.c (.int 32))])) [r] []), (.set 2 (.call b [(.v 0), (.v 1)])), (.ite (.isN false (.v 2)) [q] [])]⟩
theorem chkLot_ok {a b : Nat} {r q : IS} (hf : P.defs[g]? = some (fChkLot a b r q)) (c0 : SRow (sem P n) a) (c1 : SWrongWindow (sem P n) b) : SWrongWindow (sem P (n + 1)) g := by
  intro s w S h lt
  have one := lt.one
  have most := lt.most
  have e0 := c0 (tupL S) 1 32 h rfl
  rw [show tlen (tupL S) 1 32 = true from tlen_yes (by rw [List.length_map]; omega) (by rw [List.length_map]; omega)] at e0
  rw [callP hf]
  simp [fChkLot, begin_, e0, c1 s w S h lt]
def fSpells (a : Nat) : FDef := ⟨2, 2, [(.ret (.cmp .Eq (.bi .sorted [(.call a [(.v 0), (.bi .len [(.ix (.v 1) (.c (.int 0)))])])]) (.bi .list [(.v 1)])))]⟩
def fDoesSpell (a b c d : Nat) : FDef := ⟨3, 3, [(.ex (.call a [(.v 0)])), (.ex (.call b [(.v 0), (.v 1)])), (.ex (.call c [(.v 0), (.v 2)])), (.ret (.call d [(.v 1), (.v 2)]))]⟩
/-- the windows of a ring as rows -/
def rowsW (xs : List Int) (w : Nat) : List (List Int) := (List.range xs.length).map fun p => win xs p w
theorem rowsW_map (xs : List Int) (w : Nat) : (rowsW xs w).map tupI = wins xs w := by
  unfold rowsW wins
  rw [List.map_map]
  rfl
theorem rowsW_row {s : Int} {xs : List Int} {w : Nat} (rg : Rg s xs) : ∀ r ∈ rowsW xs w, r.length = w ∧ Mk s r := fun r hr => by
  obtain ⟨p, _, rfl⟩ := List.mem_map.mp hr
  exact ⟨win_length _ _ _, win_mk rg.one rg.mks _ _⟩
theorem mk_bd {s : Int} {r : List Int} (hs : s ≤ 4) (h : Mk s r) : Bd3 r := fun x hx => by
  have := h x hx
  omega
theorem rowsW_sort {s : Int} {xs : List Int} {w : Nat} (rg : Rg s xs) (w1 : 1 ≤ w) : sortable (rowsW xs w) = true :=
  sortable_of w1 (by have := rg.most; simp [rowsW]; omega) fun r hr => ⟨(rowsW_row rg r hr).1, mk_bd rg.hi (rowsW_row rg r hr).2⟩
theorem lot_of {s : Int} {xs : List Int} {w : Nat} (rg : Rg s xs) (w1 : 1 ≤ w) (w6 : w ≤ 6) : Lot s w (sortR (uniqD (rowsW xs w))) := by
  have pm := sortR_perm (uniqD (rowsW xs w))
  have sub := (uniqD_sub (rowsW xs w)).length_le
  have hl : (rowsW xs w).length = xs.length := by simp [rowsW]
  have row : ∀ r ∈ uniqD (rowsW xs w), r.length = w ∧ Mk s r := fun r hr => rowsW_row rg r ((uniqD_in r _).mp hr)
  have one := rg.one
  have most := rg.most
  refine ⟨rg.lo, rg.hi, w1, w6, ?_, by rw [pm.length_eq]; omega, fun r hr => row r (pm.mem_iff.mp hr), fun i hi => sortR_up (uniqD_nodup' _) (fun r hr => ⟨(row r hr).1, mk_bd rg.hi (row r hr).2⟩) hi⟩
  rw [pm.length_eq]
  have : win xs 0 w ∈ uniqD (rowsW xs w) := (uniqD_in _ _).mpr (List.mem_map.mpr ⟨0, List.mem_range.mpr (by omega), rfl⟩)
  exact List.length_pos_of_mem this
open Classical in
abbrev SDoesSpell (C : Sem) (g : Nat) : Prop := ∀ (s : Int) (xs : List Int) (w : Nat) (h : IH), Rg s xs → 1 ≤ w → w ≤ 6 → C.call g [.d (.int s), .d (tupI xs), .d (tupL (sortR (uniqD (rowsW xs w))))] h = .ok (.d (.bool (decide (tellsP xs w)))) h
open Classical in
theorem doesSpell_ok {a b c d e : Nat} (hf : P.defs[g]? = some (fDoesSpell a b c d)) (hd : P.defs[d]? = some (fSpells e)) (c0 : SChk 2 4 (sem P (n + 1)) a) (c1 : SChkM 1 32 (sem P (n + 1)) b) (c2 : SWrongWindow (sem P (n + 1)) c) (c3 : SWins (sem P n) e) : SDoesSpell (sem P (n + 2)) g := by
  intro s xs w h rg w1 w6
  have one := rg.one
  have most := rg.most
  have lt := lot_of rg w1 w6
  generalize hS : sortR (uniqD (rowsW xs w)) = S at lt
  have l1 := lt.one
  have i0 : ixD (tupL S) (.int 0) = some (tupI (S.getD 0 [])) := ixL (k := 0) (by omega)
  have len0 : (S.getD 0 []).length = w := by
    rw [List.getD_eq_getElem?_getD, List.getElem?_eq_getElem (show 0 < S.length by omega)]
    exact (lt.row _ (List.getElem_mem _)).1
  have es := sorted_ok (rowsW_sort (w := w) rg w1)
  have ew : (.tuple (wins xs w) : D) = tupL (rowsW xs w) := by rw [← rowsW_map]
  have sp : (sem P (n + 1)).call d [.d (tupI xs), .d (tupL S)] h = .ok (.d (.bool (decide (tellsP xs w)))) h := by
    refine callD hd (env := [some (.d (tupI xs)), some (.d (tupL S))]) rfl rfl ?_
    unfold fSpells
    have cw := c3 xs w h one (by omega) (by omega)
    rw [ew] at cw
    have bl : biD .list [tupL S] = some (.list (S.map tupI)) := rfl
    simp -implicitDefEqProofs only [q_c, q_v, q_fn, q_bin, q_neg, q_nt, q_cmp, q_chain, q_isN, q_and, q_or, q_ifx, q_tup, q_lst, q_ix, q_sl, q_prt_nop, q_prt_v, q_prt_c, q_prt_bin, q_prt_neg, q_prt_bi, q_prt_call, q_rev, q_call, q_callK, q_bi, q_isI, q_mut_lst, q_md, q_nil, q_cons, q_get0, q_getS, q_ofO, bind_ok, q_truth_b, q_truth_i, q_dat, q_dats0, q_dats1, q_biP0, q_biP1, q_biP2, Option.map, partOf, List.length_cons, List.length_nil, Nat.zero_add, Nat.reduceAdd, if_pos (q_lim 0 (by decide)), if_pos (q_lim 1 (by decide)), if_pos (q_lim 2 (by decide)), if_pos (q_lim 3 (by decide)), if_pos (q_lim 4 (by decide)), q_add, q_sub, q_le, q_lt, q_ge, q_gt, eq_ints, ne_ints, q_lenI, q_bl1, q_bl2, q_btp1, q_btp2, then_ok, q_setV, q_setVr, obind_next, obind_ret, List.set, if_true, Bool.not_true, Bool.not_false, q_isN, beqt, q_exs0, q_exs1, q_set, q_ite, q_ret, q_ex, i0, len0, cw, es, bl, eq_rowsL]
    congr 4
    rw [← hS]
    have := sort_uniq (rowsW xs w)
    rw [← unlike_nodup] at this
    exact propext (this.trans (unlike_wins one))
  refine callD hf (env := [some (.d (.int s)), some (.d (tupI xs)), some (.d (tupL S))]) rfl rfl ?_
  unfold fDoesSpell
  simp -implicitDefEqProofs only [q_c, q_v, q_fn, q_bin, q_neg, q_nt, q_cmp, q_chain, q_isN, q_and, q_or, q_ifx, q_tup, q_lst, q_ix, q_sl, q_prt_nop, q_prt_v, q_prt_c, q_prt_bin, q_prt_neg, q_prt_bi, q_prt_call, q_rev, q_call, q_callK, q_bi, q_isI, q_mut_lst, q_md, q_nil, q_cons, q_get0, q_getS, q_ofO, bind_ok, q_truth_b, q_truth_i, q_dat, q_dats0, q_dats1, q_biP0, q_biP1, q_biP2, Option.map, partOf, List.length_cons, List.length_nil, Nat.zero_add, Nat.reduceAdd, if_pos (q_lim 0 (by decide)), if_pos (q_lim 1 (by decide)), if_pos (q_lim 2 (by decide)), if_pos (q_lim 3 (by decide)), if_pos (q_lim 4 (by decide)), q_add, q_sub, q_le, q_lt, q_ge, q_gt, eq_ints, ne_ints, q_lenI, q_bl1, q_bl2, q_btp1, q_btp2, then_ok, q_setV, q_setVr, obind_next, obind_ret, List.set, if_true, Bool.not_true, Bool.not_false, q_isN, beqt, q_exs0, q_exs1, q_set, q_ite, q_ret, q_ex, c0 s h rg.lo rg.hi, c1 s xs h rg.mks (by omega) (by omega), c2 s w S h lt, sp]
end
end RR.Q

-- RQ35
set_option maxHeartbeats 1000000
/-! A law's own windows, least wide, turns, true length. -/
namespace RR.Q
open PySem
section
variable {P : Prog} {n g : Nat}
def fLWins2 (a : Nat) : FDef := ⟨2, 3, [(.ret (.bi .tuple [(.lc .range1 [(.bi .len [(.v 0)])] (.one 2) .nop (.call a [(.v 0), (.v 2), (.v 1)]))]))]⟩
abbrev SLWins2 (C : Sem) (g : Nat) : Prop := ∀ (xs : List Int) (w : Nat) (h : IH), 1 ≤ xs.length → xs.length ≤ 400 → w ≤ 400 → C.call g [.d (tupI xs), .d (.int w)] h = .ok (.d (tupL (rowsW xs w))) h
theorem lwins2_ok {a : Nat} (hf : P.defs[g]? = some (fLWins2 a)) (c0 : SLWin (sem P n) a) : SLWins2 (sem P (n + 1)) g := by
  intro xs w h h1 h2 hw
  have key := lc_range (C := sem P n) (env := [some (.d (tupI xs)), some (.d (.int w)), none]) (e := (.bi .len [(.v 0)])) (i := 2) (elt := (.call a [(.v 0), (.v 2), (.v 1)])) (h := h) (fun t => tupI (win xs t w)) (lenI_ev h rfl) (by omega) fun t ht h' _ => by
    simp -implicitDefEqProofs only [q_c, q_v, q_fn, q_bin, q_neg, q_nt, q_cmp, q_chain, q_isN, q_and, q_or, q_ifx, q_tup, q_lst, q_ix, q_sl, q_prt_nop, q_prt_v, q_prt_c, q_prt_bin, q_prt_neg, q_prt_bi, q_prt_call, q_rev, q_call, q_callK, q_bi, q_isI, q_mut_lst, q_md, q_nil, q_cons, q_get0, q_getS, q_ofO, bind_ok, q_truth_b, q_truth_i, q_dat, q_dats0, q_dats1, q_biP0, q_biP1, q_biP2, Option.map, partOf, List.length_cons, List.length_nil, Nat.zero_add, Nat.reduceAdd, if_pos (q_lim 0 (by decide)), if_pos (q_lim 1 (by decide)), if_pos (q_lim 2 (by decide)), if_pos (q_lim 3 (by decide)), if_pos (q_lim 4 (by decide)), q_add, q_sub, q_le, q_lt, q_ge, q_gt, eq_ints, ne_ints, q_lenI, q_bl1, q_bl2, q_btp1, q_btp2, then_ok, q_setV, q_setVr, obind_next, obind_ret, List.set, if_true, Bool.not_true, Bool.not_false, q_isN, beqt, c0 xs t w h' h1 (by omega) (by omega)]
  refine callD hf (env := [some (.d (tupI xs)), some (.d (.int w)), none]) rfl rfl ?_
  unfold fLWins2
  rw [q_exs1, q_ret, q_bi, q_cons, key]
  have e : (List.range xs.length).map (fun t => tupI (win xs t w)) = (rowsW xs w).map tupI := by
    unfold rowsW
    rw [List.map_map]
    rfl
  rw [e]
  simp -implicitDefEqProofs only [q_c, q_v, q_fn, q_bin, q_neg, q_nt, q_cmp, q_chain, q_isN, q_and, q_or, q_ifx, q_tup, q_lst, q_ix, q_sl, q_prt_nop, q_prt_v, q_prt_c, q_prt_bin, q_prt_neg, q_prt_bi, q_prt_call, q_rev, q_call, q_callK, q_bi, q_isI, q_mut_lst, q_md, q_nil, q_cons, q_get0, q_getS, q_ofO, bind_ok, q_truth_b, q_truth_i, q_dat, q_dats0, q_dats1, q_biP0, q_biP1, q_biP2, Option.map, partOf, List.length_cons, List.length_nil, Nat.zero_add, Nat.reduceAdd, if_pos (q_lim 0 (by decide)), if_pos (q_lim 1 (by decide)), if_pos (q_lim 2 (by decide)), if_pos (q_lim 3 (by decide)), if_pos (q_lim 4 (by decide)), q_add, q_sub, q_le, q_lt, q_ge, q_gt, eq_ints, ne_ints, q_lenI, q_bl1, q_bl2, q_btp1, q_btp2, then_ok, q_setV, q_setVr, obind_next, obind_ret, List.set, if_true, Bool.not_true, Bool.not_false, q_isN, beqt]
def fLLeast2 (a b : Nat) : FDef := ⟨1, 2, [(.for_ .range2 [(.c (.int 1)), (.bin .Add (.bi .len [(.v 0)]) (.c (.int 1)))] (.one 1) [(.ite (.isN true (.call a [(.call b [(.v 0), (.v 1)])])) [(.ret (.v 1))] [])]), (.ret (.c .none))]⟩
abbrev SLLeast2 (C : Sem) (g : Nat) : Prop := ∀ (xs : List Int) (h : IH), 1 ≤ xs.length → xs.length ≤ 300 → (∃ K, IsTrue xs K) → ∃ r : D, LeastW xs r ∧ C.call g [.d (tupI xs)] h = .ok (.d r) h
theorem lleast2_ok {a b : Nat} (hf : P.defs[g]? = some (fLLeast2 a b)) (c0 : SFirstTwice (sem P n) a) (c1 : SLWins2 (sem P n) b) : SLLeast2 (sem P (n + 1)) g := by
  classical
  intro xs h h1 h2 ⟨K, hT⟩
  have key := for_search (tg := .one 1) (body := fun env h => exs (sem P n) P.wf env [(.ite (.isN true (.call a [(.call b [(.v 0), (.v 1)])])) [(.ret (.v 1))] [])] h) (F := fun (t : Nat) => PyData.int ((1 + t : Nat) : Int)) (fun env => ∃ e1, env = [some (.d (tupI xs)), e1]) (fun t => ¬ tellsP xs (1 + t)) (fun t v => v = .int ((1 + t : Nat) : Int) ∧ tellsP xs (1 + t)) (h := h) (ts := List.range (xs.length + 1 - 1)) (env := [some (.d (tupI xs)), none]) ⟨_, rfl⟩ (by
    intro t ht env ⟨e1, ee⟩
    subst ee
    have ht := List.mem_range.mp ht
    refine ⟨[some (.d (tupI xs)), some (.d (.int ((1 + t : Nat) : Int)))], rfl, ?_⟩
    obtain ⟨r, e, q⟩ := c0 (rowsW xs (1 + t)) h (by simp [rowsW]; omega)
    have e2 := c1 xs (1 + t) h h1 (by omega) (by omega)
    have ut : unlike (rowsW xs (1 + t)) ↔ tellsP xs (1 + t) := unlike_wins h1
    rcases q with ⟨rfl, q⟩ | ⟨hv, q⟩
    · refine .inl ⟨_, ⟨rfl, ut.mp q⟩, ?_⟩
      simp -implicitDefEqProofs only [q_c, q_v, q_fn, q_bin, q_neg, q_nt, q_cmp, q_chain, q_isN, q_and, q_or, q_ifx, q_tup, q_lst, q_ix, q_sl, q_prt_nop, q_prt_v, q_prt_c, q_prt_bin, q_prt_neg, q_prt_bi, q_prt_call, q_rev, q_call, q_callK, q_bi, q_isI, q_mut_lst, q_md, q_nil, q_cons, q_get0, q_getS, q_ofO, bind_ok, q_truth_b, q_truth_i, q_dat, q_dats0, q_dats1, q_biP0, q_biP1, q_biP2, Option.map, partOf, List.length_cons, List.length_nil, Nat.zero_add, Nat.reduceAdd, if_pos (q_lim 0 (by decide)), if_pos (q_lim 1 (by decide)), if_pos (q_lim 2 (by decide)), if_pos (q_lim 3 (by decide)), if_pos (q_lim 4 (by decide)), q_add, q_sub, q_le, q_lt, q_ge, q_gt, eq_ints, ne_ints, q_lenI, q_bl1, q_bl2, q_btp1, q_btp2, then_ok, q_setV, q_setVr, obind_next, obind_ret, List.set, if_true, Bool.not_true, Bool.not_false, q_isN, beqt, q_exs0, q_exs1, q_set, q_ite, q_ret, q_ex, e, e2, q_isN0]
    · refine .inr ⟨fun z => q (ut.mpr z), [some (.d (tupI xs)), some (.d (.int ((1 + t : Nat) : Int)))], .inl ?_, _, rfl⟩
      rw [q_exs1, q_ite]
      simp -implicitDefEqProofs only [q_c, q_v, q_fn, q_bin, q_neg, q_nt, q_cmp, q_chain, q_isN, q_and, q_or, q_ifx, q_tup, q_lst, q_ix, q_sl, q_prt_nop, q_prt_v, q_prt_c, q_prt_bin, q_prt_neg, q_prt_bi, q_prt_call, q_rev, q_call, q_callK, q_bi, q_isI, q_mut_lst, q_md, q_nil, q_cons, q_get0, q_getS, q_ofO, bind_ok, q_truth_b, q_truth_i, q_dat, q_dats0, q_dats1, q_biP0, q_biP1, q_biP2, Option.map, partOf, List.length_cons, List.length_nil, Nat.zero_add, Nat.reduceAdd, if_pos (q_lim 0 (by decide)), if_pos (q_lim 1 (by decide)), if_pos (q_lim 2 (by decide)), if_pos (q_lim 3 (by decide)), if_pos (q_lim 4 (by decide)), q_add, q_sub, q_le, q_lt, q_ge, q_gt, eq_ints, ne_ints, q_lenI, q_bl1, q_bl2, q_btp1, q_btp2, then_ok, q_setV, q_setVr, obind_next, obind_ret, List.set, if_true, Bool.not_true, Bool.not_false, q_isN, beqt, e, e2, hv, q_exs0])
  have ei : exs (sem P n) P.wf [some (.d (tupI xs)), none] (fLLeast2 a b).body h = (forLoop (.one 1) (fun env h => exs (sem P n) P.wf env [(.ite (.isN true (.call a [(.call b [(.v 0), (.v 1)])])) [(.ret (.v 1))] [])] h) ((List.range (xs.length + 1 - 1)).map fun (t : Nat) => PyData.int ((1 + t : Nat) : Int)) [some (.d (tupI xs)), none] h).bind fun env1 h1 => exs (sem P n) P.wf env1 [(.ret (.c .none))] h1 := by
    unfold fLLeast2
    have e1 : (xs.length : Int) + 1 = ((xs.length + 1 : Nat) : Int) := by omega
    have it := itemsR2 (a := 1) (m := xs.length + 1) (by omega) (by omega)
    rw [show ((1 : Nat) : Int) = 1 from rfl] at it
    rw [q_exs1, q_for]
    simp -implicitDefEqProofs only [q_c, q_v, q_fn, q_bin, q_neg, q_nt, q_cmp, q_chain, q_isN, q_and, q_or, q_ifx, q_tup, q_lst, q_ix, q_sl, q_prt_nop, q_prt_v, q_prt_c, q_prt_bin, q_prt_neg, q_prt_bi, q_prt_call, q_rev, q_call, q_callK, q_bi, q_isI, q_mut_lst, q_md, q_nil, q_cons, q_get0, q_getS, q_ofO, bind_ok, q_truth_b, q_truth_i, q_dat, q_dats0, q_dats1, q_biP0, q_biP1, q_biP2, Option.map, partOf, List.length_cons, List.length_nil, Nat.zero_add, Nat.reduceAdd, if_pos (q_lim 0 (by decide)), if_pos (q_lim 1 (by decide)), if_pos (q_lim 2 (by decide)), if_pos (q_lim 3 (by decide)), if_pos (q_lim 4 (by decide)), q_add, q_sub, q_le, q_lt, q_ge, q_gt, eq_ints, ne_ints, q_lenI, q_bl1, q_bl2, q_btp1, q_btp2, then_ok, q_setV, q_setVr, obind_next, obind_ret, List.set, if_true, Bool.not_true, Bool.not_false, q_isN, beqt, e1, q_itr, it]
  rcases key with ⟨pre, t, post, v, hs, hn, ⟨rfl, ht⟩, e⟩ | ⟨hn, env', e, e1, rfl⟩
  · obtain ⟨t1, t2, t3⟩ := range_split hs
    refine ⟨.int ((1 + t : Nat) : Int), .inr ⟨1 + t, rfl, by omega, fun w w1 => ⟨fun hw => ?_, fun hw => tells_mono ht hw⟩⟩, callD hf (env := [some (.d (tupI xs)), none]) rfl rfl (by rw [ei, e, obind_ret])⟩
    by_cases hlt : w < 1 + t
    · have := hn (w - 1) (t3 _ (by omega))
      rw [show 1 + (w - 1) = w by omega] at this
      exact absurd hw this
    · omega
  · refine ⟨.none, .inl ⟨rfl, fun w hw => ?_⟩, callD hf (env := [some (.d (tupI xs)), none]) rfl rfl (by rw [ei, e, obind_next]; simp)⟩
    by_cases hK : K < xs.length
    · exact tells_never hT hK w hw
    · have := hT.hi
      have hKe : K = xs.length := by omega
      subst hKe
      have := hn (xs.length - 1) (List.mem_range.mpr (by omega))
      rw [show 1 + (xs.length - 1) = xs.length by omega] at this
      exact this (tells_full h1 hT)
def fLTurns (u : Unit) : FDef := ⟨1, 2, [(.ret (.lc .range1 [(.bi .len [(.v 0)])] (.one 1) .nop (.bin .Add (.sl (.v 0) (.v 1) .nop) (.sl (.v 0) .nop (.v 1)))))]⟩
theorem lturns_ok (hf : P.defs[g]? = some (fLTurns ())) : ∀ (xs : List Int) (h : IH), xs.length ≤ 400 → (sem P (n + 1)).call g [.d (tupI xs)] h = .ok (.d (.list ((turns xs).map tupI))) h := by
  intro xs h hl
  have key := lc_range (C := sem P n) (env := [some (.d (tupI xs)), none]) (e := (.bi .len [(.v 0)])) (i := 1) (elt := (.bin .Add (.sl (.v 0) (.v 1) .nop) (.sl (.v 0) .nop (.v 1)))) (h := h) (fun k => tupI (xs.drop k ++ xs.take k)) (lenI_ev h rfl) (by omega) fun k hk h' _ => by
    simp -implicitDefEqProofs only [q_c, q_v, q_fn, q_bin, q_neg, q_nt, q_cmp, q_chain, q_isN, q_and, q_or, q_ifx, q_tup, q_lst, q_ix, q_sl, q_prt_nop, q_prt_v, q_prt_c, q_prt_bin, q_prt_neg, q_prt_bi, q_prt_call, q_rev, q_call, q_callK, q_bi, q_isI, q_mut_lst, q_md, q_nil, q_cons, q_get0, q_getS, q_ofO, bind_ok, q_truth_b, q_truth_i, q_dat, q_dats0, q_dats1, q_biP0, q_biP1, q_biP2, Option.map, partOf, List.length_cons, List.length_nil, Nat.zero_add, Nat.reduceAdd, if_pos (q_lim 0 (by decide)), if_pos (q_lim 1 (by decide)), if_pos (q_lim 2 (by decide)), if_pos (q_lim 3 (by decide)), if_pos (q_lim 4 (by decide)), q_add, q_sub, q_le, q_lt, q_ge, q_gt, eq_ints, ne_ints, q_lenI, q_bl1, q_bl2, q_btp1, q_btp2, then_ok, q_setV, q_setVr, obind_next, obind_ret, List.set, if_true, Bool.not_true, Bool.not_false, q_isN, beqt, slI_to, slI_from, addI (xs := xs.drop k) (ys := xs.take k) (by rw [List.length_drop, List.length_take]; omega)]
  refine callD hf (env := [some (.d (tupI xs)), none]) rfl rfl ?_
  unfold fLTurns
  rw [q_exs1, q_ret, key]
  have e : (List.range xs.length).map (fun k => tupI (xs.drop k ++ xs.take k)) = (turns xs).map tupI := by
    unfold turns
    rw [List.map_map]
    rfl
  rw [e]
  simp -implicitDefEqProofs only [q_c, q_v, q_fn, q_bin, q_neg, q_nt, q_cmp, q_chain, q_isN, q_and, q_or, q_ifx, q_tup, q_lst, q_ix, q_sl, q_prt_nop, q_prt_v, q_prt_c, q_prt_bin, q_prt_neg, q_prt_bi, q_prt_call, q_rev, q_call, q_callK, q_bi, q_isI, q_mut_lst, q_md, q_nil, q_cons, q_get0, q_getS, q_ofO, bind_ok, q_truth_b, q_truth_i, q_dat, q_dats0, q_dats1, q_biP0, q_biP1, q_biP2, Option.map, partOf, List.length_cons, List.length_nil, Nat.zero_add, Nat.reduceAdd, if_pos (q_lim 0 (by decide)), if_pos (q_lim 1 (by decide)), if_pos (q_lim 2 (by decide)), if_pos (q_lim 3 (by decide)), if_pos (q_lim 4 (by decide)), q_add, q_sub, q_le, q_lt, q_ge, q_gt, eq_ints, ne_ints, q_lenI, q_bl1, q_bl2, q_btp1, q_btp2, then_ok, q_setV, q_setVr, obind_next, obind_ret, List.set, if_true, Bool.not_true, Bool.not_false, q_isN, beqt]
/-- the least turn, told as the least of all turns -/
abbrev SLeastTurnM (C : Sem) (g : Nat) : Prop := ∀ (s : Int) (xs : List Int) (m : D) (h : IH), Rg s xs → biD .min [.list ((turns xs).map tupI)] = some m → C.call g [.d (.int s), .d (tupI xs)] h = .ok (.d m) h
theorem leastTurnM_ok {a b : Nat} (hf : P.defs[g]? = some (fLeastTurn a b)) (hb : P.defs[b]? = some fLeastTurnBy) (c0 : SSRing (sem P (n + 1)) a) : SLeastTurnM (sem P (n + 2)) g := by
  intro s xs m h rg hm
  have most := rg.most
  have key := lc_range (C := sem P n) (env := [some (.d (tupI xs)), none]) (e := (.bi .len [(.v 0)])) (i := 1) (elt := (.bin .Add (.sl (.v 0) (.v 1) .nop) (.sl (.v 0) .nop (.v 1)))) (h := h) (fun k => tupI (xs.drop k ++ xs.take k)) (lenI_ev h rfl) (by omega) fun k hk h' _ => by
    simp -implicitDefEqProofs only [q_c, q_v, q_fn, q_bin, q_neg, q_nt, q_cmp, q_chain, q_isN, q_and, q_or, q_ifx, q_tup, q_lst, q_ix, q_sl, q_prt_nop, q_prt_v, q_prt_c, q_prt_bin, q_prt_neg, q_prt_bi, q_prt_call, q_rev, q_call, q_callK, q_bi, q_isI, q_mut_lst, q_md, q_nil, q_cons, q_get0, q_getS, q_ofO, bind_ok, q_truth_b, q_truth_i, q_dat, q_dats0, q_dats1, q_biP0, q_biP1, q_biP2, Option.map, partOf, List.length_cons, List.length_nil, Nat.zero_add, Nat.reduceAdd, if_pos (q_lim 0 (by decide)), if_pos (q_lim 1 (by decide)), if_pos (q_lim 2 (by decide)), if_pos (q_lim 3 (by decide)), if_pos (q_lim 4 (by decide)), q_add, q_sub, q_le, q_lt, q_ge, q_gt, eq_ints, ne_ints, q_lenI, q_bl1, q_bl2, q_btp1, q_btp2, then_ok, q_setV, q_setVr, obind_next, obind_ret, List.set, if_true, Bool.not_true, Bool.not_false, q_isN, beqt, slI_to, slI_from, addI (xs := xs.drop k) (ys := xs.take k) (by rw [List.length_drop, List.length_take]; omega)]
  have e : (List.range xs.length).map (fun k => tupI (xs.drop k ++ xs.take k)) = (turns xs).map tupI := by
    unfold turns
    rw [List.map_map]
    rfl
  rw [e] at key
  have c1 : (sem P (n + 1)).call b [.d (tupI xs)] h = .ok (.d m) h := by
    refine callD hb (env := [some (.d (tupI xs)), none]) rfl rfl ?_
    unfold fLeastTurnBy
    rw [q_exs1, q_ret, q_bi, q_cons, key]
    simp -implicitDefEqProofs only [q_c, q_v, q_fn, q_bin, q_neg, q_nt, q_cmp, q_chain, q_isN, q_and, q_or, q_ifx, q_tup, q_lst, q_ix, q_sl, q_prt_nop, q_prt_v, q_prt_c, q_prt_bin, q_prt_neg, q_prt_bi, q_prt_call, q_rev, q_call, q_callK, q_bi, q_isI, q_mut_lst, q_md, q_nil, q_cons, q_get0, q_getS, q_ofO, bind_ok, q_truth_b, q_truth_i, q_dat, q_dats0, q_dats1, q_biP0, q_biP1, q_biP2, Option.map, partOf, List.length_cons, List.length_nil, Nat.zero_add, Nat.reduceAdd, if_pos (q_lim 0 (by decide)), if_pos (q_lim 1 (by decide)), if_pos (q_lim 2 (by decide)), if_pos (q_lim 3 (by decide)), if_pos (q_lim 4 (by decide)), q_add, q_sub, q_le, q_lt, q_ge, q_gt, eq_ints, ne_ints, q_lenI, q_bl1, q_bl2, q_btp1, q_btp2, then_ok, q_setV, q_setVr, obind_next, obind_ret, List.set, if_true, Bool.not_true, Bool.not_false, q_isN, beqt, hm]
  refine callD hf (env := [some (.d (.int s)), some (.d (tupI xs))]) rfl rfl ?_
  unfold fLeastTurn
  simp -implicitDefEqProofs only [q_c, q_v, q_fn, q_bin, q_neg, q_nt, q_cmp, q_chain, q_isN, q_and, q_or, q_ifx, q_tup, q_lst, q_ix, q_sl, q_prt_nop, q_prt_v, q_prt_c, q_prt_bin, q_prt_neg, q_prt_bi, q_prt_call, q_rev, q_call, q_callK, q_bi, q_isI, q_mut_lst, q_md, q_nil, q_cons, q_get0, q_getS, q_ofO, bind_ok, q_truth_b, q_truth_i, q_dat, q_dats0, q_dats1, q_biP0, q_biP1, q_biP2, Option.map, partOf, List.length_cons, List.length_nil, Nat.zero_add, Nat.reduceAdd, if_pos (q_lim 0 (by decide)), if_pos (q_lim 1 (by decide)), if_pos (q_lim 2 (by decide)), if_pos (q_lim 3 (by decide)), if_pos (q_lim 4 (by decide)), q_add, q_sub, q_le, q_lt, q_ge, q_gt, eq_ints, ne_ints, q_lenI, q_bl1, q_bl2, q_btp1, q_btp2, then_ok, q_setV, q_setVr, obind_next, obind_ret, List.set, if_true, Bool.not_true, Bool.not_false, q_isN, beqt, q_exs0, q_exs1, q_set, q_ite, q_ret, q_ex, c0 s xs h rg, c1]
def fLTrue2 (u : Unit) : FDef := ⟨1, 2, [(.ret (.ix (.lc .range2 [(.c (.int 1)), (.bin .Add (.bi .len [(.v 0)]) (.c (.int 1)))] (.one 1) (.cmp .Eq (.bin .Mult (.sl (.v 0) .nop (.v 1)) (.bin .FloorDiv (.bi .len [(.v 0)]) (.v 1))) (.v 0)) (.v 1)) (.c (.int 0))))]⟩
theorem rep2_iff {xs : List Int} {k : Nat} (k1 : 1 ≤ k) (hk : k ≤ xs.length) : (List.replicate (xs.length / k) (xs.take k)).flatten = xs ↔ xs.length % k = 0 ∧ per xs k := by
  have hm := Nat.mod_add_div xs.length k
  by_cases hd : xs.length % k = 0
  · have hq : xs.length = xs.length / k * k := by
      rw [Nat.mul_comm]
      omega
    rw [rep_iff (xs := xs) (k := k) (q := xs.length / k) k1 hq (by omega)]
    exact ⟨fun z => ⟨hd, z⟩, fun z => z.2⟩
  · refine ⟨fun e => ?_, fun z => absurd z.1 hd⟩
    have := congrArg List.length e
    simp only [List.length_flatten, List.map_replicate, List.sum_replicate_nat, List.length_take, Nat.min_eq_left hk] at this
    rw [Nat.mul_comm] at this
    omega
theorem ltrue2_ok (hf : P.defs[g]? = some (fLTrue2 ())) : ∀ (xs : List Int) (K : Nat) (h : IH), 1 ≤ xs.length → xs.length ≤ 400 → IsTrue xs K → (sem P (n + 1)).call g [.d (tupI xs)] h = .ok (.d (.int (K : Int))) h := by
  classical
  intro xs K h h1 h2 hT
  have key := lc_filter (C := sem P n) (env := [some (.d (tupI xs)), none]) (k := .range2) (its := [(.c (.int 1)), (.bin .Add (.bi .len [(.v 0)]) (.c (.int 1)))]) (tg := .one 1) (cond := (.cmp .Eq (.bin .Mult (.sl (.v 0) .nop (.v 1)) (.bin .FloorDiv (.bi .len [(.v 0)]) (.v 1))) (.v 0))) (elt := .v 1) (h := h) (vs := [.d (.int 1), .d (.int ((xs.length + 1 : Nat) : Int))]) (ds := [.int ((1 : Nat) : Int), .int ((xs.length + 1 : Nat) : Int)]) (ts := List.range (xs.length + 1 - 1)) (fun (t : Nat) => PyData.int ((1 + t : Nat) : Int)) (fun (t : Nat) => PyData.int ((1 + t : Nat) : Int)) (fun t => decide (xs.length % (1 + t) = 0 ∧ per xs (1 + t))) (by simp) (by simp) (itemsR2 (by omega) (by omega)) (by rw [List.length_range]; omega) fun t ht h' => ⟨[some (.d (tupI xs)), some (.d (.int ((1 + t : Nat) : Int)))], rfl, by
      have ht := List.mem_range.mp ht
      have z := rep2_iff (xs := xs) (k := 1 + t) (by omega) (by omega)
      have hq : xs.length / (1 + t) ≤ 1000 := Nat.le_trans (Nat.div_le_self _ _) (by omega)
      simp -implicitDefEqProofs only [q_cnd_cmp, q_c, q_v, q_fn, q_bin, q_neg, q_nt, q_cmp, q_chain, q_isN, q_and, q_or, q_ifx, q_tup, q_lst, q_ix, q_sl, q_prt_nop, q_prt_v, q_prt_c, q_prt_bin, q_prt_neg, q_prt_bi, q_prt_call, q_rev, q_call, q_callK, q_bi, q_isI, q_mut_lst, q_md, q_nil, q_cons, q_get0, q_getS, q_ofO, bind_ok, q_truth_b, q_truth_i, q_dat, q_dats0, q_dats1, q_biP0, q_biP1, q_biP2, Option.map, partOf, List.length_cons, List.length_nil, Nat.zero_add, Nat.reduceAdd, if_pos (q_lim 0 (by decide)), if_pos (q_lim 1 (by decide)), if_pos (q_lim 2 (by decide)), if_pos (q_lim 3 (by decide)), if_pos (q_lim 4 (by decide)), q_add, q_sub, q_le, q_lt, q_ge, q_gt, eq_ints, ne_ints, q_lenI, q_bl1, q_bl2, q_btp1, q_btp2, then_ok, q_setV, q_setVr, obind_next, obind_ret, List.set, if_true, Bool.not_true, Bool.not_false, q_isN, beqt, slI_to, fdivI (i := xs.length) (j := 1 + t) (by omega) (by omega), mulI0 (xs := xs.take (1 + t)) (q := xs.length / (1 + t)) (by rw [List.length_take]; omega) (by rw [List.length_take]; omega) hq, eq_tupI]
      congr 2
      exact propext z, fun _ => by simp⟩
  have hd := hT.dvd
  have k1 := hT.lo
  have kn := hT.hi
  cases hc : (List.range (xs.length + 1 - 1)).filter (fun t => decide (xs.length % (1 + t) = 0 ∧ per xs (1 + t))) with
  | nil =>
    have := List.filter_eq_nil_iff.mp hc (K - 1) (List.mem_range.mpr (by omega))
    rw [show 1 + (K - 1) = K by omega] at this
    exact absurd (decide_eq_true ⟨hd, hT.per⟩) this
  | cons t r =>
    obtain ⟨l1, l2, hs, hn, hp, _⟩ := List.filter_eq_cons_iff.mp hc
    obtain ⟨t1, t2, t3⟩ := range_split hs
    have hp := of_decide_eq_true hp
    have ek : 1 + t = K := by
      by_cases a : 1 + t < K
      · exact absurd hp.2 (hT.min _ (by omega) a)
      · by_cases b : K < 1 + t
        · have := hn (K - 1) (t3 _ (by omega))
          rw [show 1 + (K - 1) = K by omega] at this
          exact absurd (decide_eq_true ⟨hd, hT.per⟩) this
        · omega
    refine callD hf (env := [some (.d (tupI xs)), none]) rfl rfl ?_
    unfold fLTrue2
    rw [hc] at key
    rw [q_exs1, q_ret, q_ix, key]
    have e0 : ∀ ys : List D, ixD (.list (PyData.int (K : Int) :: ys)) (.int 0) = some (.int (K : Int)) := fun ys => at_nat (k := 0) (xs := PyData.int (K : Int) :: ys) (by simp)
    simp -implicitDefEqProofs only [q_c, q_v, q_fn, q_bin, q_neg, q_nt, q_cmp, q_chain, q_isN, q_and, q_or, q_ifx, q_tup, q_lst, q_ix, q_sl, q_prt_nop, q_prt_v, q_prt_c, q_prt_bin, q_prt_neg, q_prt_bi, q_prt_call, q_rev, q_call, q_callK, q_bi, q_isI, q_mut_lst, q_md, q_nil, q_cons, q_get0, q_getS, q_ofO, bind_ok, q_truth_b, q_truth_i, q_dat, q_dats0, q_dats1, q_biP0, q_biP1, q_biP2, Option.map, partOf, List.length_cons, List.length_nil, Nat.zero_add, Nat.reduceAdd, if_pos (q_lim 0 (by decide)), if_pos (q_lim 1 (by decide)), if_pos (q_lim 2 (by decide)), if_pos (q_lim 3 (by decide)), if_pos (q_lim 4 (by decide)), q_add, q_sub, q_le, q_lt, q_ge, q_gt, eq_ints, ne_ints, q_lenI, q_bl1, q_bl2, q_btp1, q_btp2, then_ok, q_setV, q_setVr, obind_next, obind_ret, List.set, if_true, Bool.not_true, Bool.not_false, q_isN, beqt, List.map_cons, e0, ek]
end
theorem addL {A B : List (List Int)} (h : A.length + B.length ≤ 100000) : binD .Add (tupL A) (tupL B) = some (tupL (A ++ B)) := by
  rw [add_tups (by simpa using h), ← List.map_append]
theorem slV_fromK {L : List (List Int)} {k : Nat} : slD (tupL L) (some (k : Int)) none = some (tupL (L.drop k)) := slV_from
theorem slV_toK {L : List (List Int)} {k : Nat} : slD (tupL L) none (some (k : Int)) = some (tupL (L.take k)) := by
  simp only [slD]
  rw [cut_to _ (by omega), Int.toNat_natCast, ← List.map_take]
theorem eq_bools (a b : Bool) : cmpD .Eq (.bool a) (.bool b) = some (a == b) := by
  have : dep (.bool a) = true := rfl
  simp only [cmpD, this, Bool.true_or, if_true, PyData.eqv]
theorem rowsW_rot {xs : List Int} {k w : Nat} (hk : k < xs.length) : rowsW (xs.drop k ++ xs.take k) w = (rowsW xs w).drop k ++ (rowsW xs w).take k := by
  have hl : (xs.drop k ++ xs.take k).length = xs.length := by
    rw [List.length_append, List.length_drop, List.length_take]
    omega
  have len : (rowsW xs w).length = xs.length := by simp [rowsW]
  have get : ∀ i, i < xs.length → (rowsW xs w)[i]? = some (win xs i w) := fun i hi => by
    unfold rowsW
    rw [List.getElem?_map, List.getElem?_range hi]
    rfl
  apply List.ext_getElem?
  intro i
  by_cases hi : i < xs.length
  · have e : (rowsW (xs.drop k ++ xs.take k) w)[i]? = some (win xs (i + k) w) := by
      unfold rowsW
      rw [hl, List.getElem?_map, List.getElem?_range hi, Option.map_some, win_rot (by omega) (by omega)]
    rw [e]
    by_cases h : i < xs.length - k
    · rw [List.getElem?_append_left (by rw [List.length_drop, len]; exact h), List.getElem?_drop, get _ (by omega), Nat.add_comm]
    · rw [List.getElem?_append_right (by rw [List.length_drop, len]; omega), List.length_drop, len, List.getElem?_take_of_lt (by omega), get _ (by omega), ← win_mod xs (i + k), ← win_mod xs (i - (xs.length - k))]
      rw [show i + k = (i - (xs.length - k)) + xs.length by omega, Nat.add_mod_right]
  · rw [List.getElem?_eq_none (by simp [rowsW]; omega), List.getElem?_eq_none (by simp [len]; omega)]
theorem marks_sd {s : Int} {xs : List Int} (hs : s ≤ 4) (hm : Mk s xs) (hl : xs.length ≤ 50) : SD 700 1 (tupI xs) := by
  refine (SD.tup (L := 10) (d := 0) (xs := xs.map .int) fun x hx => ?_).up (by rw [List.length_map]; omega) (by omega)
  obtain ⟨i, hi, rfl⟩ := List.mem_map.mp hx
  have := hm i hi
  exact SD.int (by omega)
theorem lot_sd {s : Int} {L : List (List Int)} (hs : s ≤ 4) (hl : L.length ≤ 50) (hm : ∀ xs ∈ L, Mk s xs ∧ xs.length ≤ 50) : SD 40000 2 (tupL L) := by
  refine (SD.tup (L := 700) (d := 1) (xs := L.map tupI) fun x hx => ?_).up (by rw [List.length_map]; omega) (by omega)
  obtain ⟨i, hi, rfl⟩ := List.mem_map.mp hx
  exact marks_sd hs (hm i hi).1 (hm i hi).2
theorem pair_sd {L d : Nat} {x y : D} (h : SD L d x) (g : SD L d y) : SD (2 * L + 7) (d + 1) (.list [x, y]) :=
  (SD.lst (L := L) (d := d) (xs := [x, y]) (fun z hz => by
    simp only [List.mem_cons, List.not_mem_nil, or_false] at hz
    rcases hz with rfl | rfl
    · exact h
    · exact g)).up (by simp; omega) (by omega)
theorem least_sd {xs : List Int} {r : D} {K : Nat} (h1 : 1 ≤ xs.length) (h2 : xs.length ≤ 1000) (t : IsTrue xs K) (l : LeastW xs r) : SD 10 0 r := by
  rcases l with ⟨rfl, l⟩ | ⟨J, rfl, j1, l⟩
  · exact SD.none
  · refine SD.int ?_
    have hT : tellsP xs xs.length := by
      by_cases h : K < xs.length
      · exact absurd ((l J j1).mpr (Nat.le_refl _)) (tells_never t h J)
      · have := t.hi
        have e : K = xs.length := by omega
        subst e
        exact tells_full h1 t
    have := (l xs.length h1).mp hT
    omega
theorem apart_sd {xs : List Int} {w : Nat} (h1 : 1 ≤ xs.length) (hw : w ≤ 1000) : SD 10 0 (leastD (aparts xs w)) := by
  rcases leastD_cases (aparts xs w) with ⟨_, e⟩ | ⟨m, hm, e, _⟩
  · rw [e]
    exact SD.none
  · rw [e]
    obtain ⟨k, rfl, hk⟩ := (aparts_far h1).mp hm
    have := farM_le hk
    exact SD.int (by omega)
theorem min_turnsM {L M : List (List Int)} (h1 : 1 ≤ L.length) (h : ∀ z, z ∈ L ↔ z ∈ M) : ∃ m ∈ L, biD .min [.list (L.map tupI)] = some (tupI m) ∧ biD .min [.list (M.map tupI)] = some (tupI m) := by
  obtain ⟨m, e1, e2⟩ := min_turns h1 h
  obtain ⟨m', hm, e3⟩ := min_tups h1
  rw [e1] at e3
  have inj : ∀ a b : List Int, tupI a = tupI b → a = b := fun a b e => by
    have := eqv_tupI a b
    rw [e, eqv_tupI] at this
    simpa using this.symm
  have := inj _ _ (Option.some.inj e3)
  subst this
  exact ⟨m, hm, e1, e2⟩
theorem mk_turn {s : Int} {xs m : List Int} (hm : Mk s xs) (h : m ∈ turns xs) : Mk s m ∧ m.length = xs.length := by
  obtain ⟨k, hk, rfl⟩ := List.mem_map.mp h
  have := List.mem_range.mp hk
  exact ⟨fun x hx => (List.mem_append.mp hx).elim (fun z => hm x (List.mem_of_mem_drop z)) fun z => hm x (List.mem_of_mem_take z), by rw [List.length_append, List.length_drop, List.length_take]; omega⟩
end RR.Q

-- Law_k04
set_option maxHeartbeats 0
namespace LawT
open PySem PySem.Spec PyProof.Rows L2
def top (i : Nat) : Stmt := PySem.Challenge.pw_telltracks_k04_rings_turned_and_gone_twi.main.body.getD i (.Pass ⟨0, 0, 0, 0⟩)
def d0 : RR.DefT := ⟨"is_whole", defArgs (top 6), defBody (top 6), defScope (top 6), (["value"] : List PySem.Str), (["value"] : List PySem.Str), none, []⟩
def d1 : RR.DefT := ⟨"is_between", defArgs (top 7), defBody (top 7), defScope (top 7), (["value", "least", "most"] : List PySem.Str), (["value", "least", "most"] : List PySem.Str), none, []⟩
def d2 : RR.DefT := ⟨"is_row", defArgs (top 8), defBody (top 8), defScope (top 8), (["value", "least", "most"] : List PySem.Str), (["value", "least", "most"] : List PySem.Str), none, []⟩
def d3 : RR.DefT := ⟨"first_wrong", defArgs (top 9), defBody (top 9), defScope (top 9), (["value", "is_right", "index", "each"] : List PySem.Str), (["value", "is_right"] : List PySem.Str), none, []⟩
def d4 : RR.DefT := ⟨"is_sorts", defArgs (top 15), defBody (top 15), defScope (top 15), (["value"] : List PySem.Str), (["value"] : List PySem.Str), none, []⟩
def d5 : RR.DefT := ⟨"is_mark", defArgs (top 16), defBody (top 16), defScope (top 16), (["sorts", "value"] : List PySem.Str), (["sorts", "value"] : List PySem.Str), none, []⟩
def d6 : RR.DefT := ⟨"wrong_mark", defArgs (top 17), defBody (top 17), defScope (top 17), (["sorts", "value"] : List PySem.Str), (["sorts", "value"] : List PySem.Str), some "wrong_mark.<locals>.<lambda>", []⟩
def d7 : RR.DefT := ⟨"is_wide", defArgs (top 18), defBody (top 18), defScope (top 18), (["value"] : List PySem.Str), (["value"] : List PySem.Str), none, []⟩
def d8 : RR.DefT := ⟨"check_sorts", defArgs (top 19), defBody (top 19), defScope (top 19), (["sorts"] : List PySem.Str), (["sorts"] : List PySem.Str), none, []⟩
def d9 : RR.DefT := ⟨"check_marks", defArgs (top 20), defBody (top 20), defScope (top 20), (["sorts", "value", "least", "most", "wrong"] : List PySem.Str), (["sorts", "value", "least", "most"] : List PySem.Str), none, []⟩
def d10 : RR.DefT := ⟨"check_ring", defArgs (top 21), defBody (top 21), defScope (top 21), (["sorts", "ring"] : List PySem.Str), (["sorts", "ring"] : List PySem.Str), none, []⟩
def d11 : RR.DefT := ⟨"check_wide", defArgs (top 22), defBody (top 22), defScope (top 22), (["wide"] : List PySem.Str), (["wide"] : List PySem.Str), none, []⟩
def d12 : RR.DefT := ⟨"check_sorted_ring", defArgs (top 23), defBody (top 23), defScope (top 23), (["sorts", "ring"] : List PySem.Str), (["sorts", "ring"] : List PySem.Str), none, []⟩
def d13 : RR.DefT := ⟨"check_read", defArgs (top 24), defBody (top 24), defScope (top 24), (["sorts", "ring", "wide"] : List PySem.Str), (["sorts", "ring", "wide"] : List PySem.Str), none, []⟩
def d14 : RR.DefT := ⟨"window_at", defArgs (top 25), defBody (top 25), defScope (top 25), (["ring", "place", "wide", "turn"] : List PySem.Str), (["ring", "place", "wide"] : List PySem.Str), none, []⟩
def d15 : RR.DefT := ⟨"windows_by", defArgs (top 26), defBody (top 26), defScope (top 26), (["ring", "wide", "place"] : List PySem.Str), (["ring", "wide"] : List PySem.Str), none, []⟩
def d16 : RR.DefT := ⟨"first_twice", defArgs (top 27), defBody (top 27), defScope (top 27), (["windows", "one", "window", "others", "other"] : List PySem.Str), (["windows"] : List PySem.Str), none, []⟩
def d17 : RR.DefT := ⟨"gainsay_by", defArgs (top 28), defBody (top 28), defScope (top 28), (["ring", "wide"] : List PySem.Str), (["ring", "wide"] : List PySem.Str), none, []⟩
def d18 : RR.DefT := ⟨"tells_by", defArgs (top 29), defBody (top 29), defScope (top 29), (["ring", "wide"] : List PySem.Str), (["ring", "wide"] : List PySem.Str), none, []⟩
def d19 : RR.DefT := ⟨"root_of", defArgs (top 30), defBody (top 30), defScope (top 30), (["ring", "long"] : List PySem.Str), (["ring"] : List PySem.Str), none, []⟩
def d20 : RR.DefT := ⟨"least_wide_by", defArgs (top 31), defBody (top 31), defScope (top 31), (["ring", "found"] : List PySem.Str), (["ring"] : List PySem.Str), none, []⟩
def d21 : RR.DefT := ⟨"least_turn_by", defArgs (top 32), defBody (top 32), defScope (top 32), (["ring", "place"] : List PySem.Str), (["ring"] : List PySem.Str), none, []⟩
def d22 : RR.DefT := ⟨"apart_of", defArgs (top 33), defBody (top 33), defScope (top 33), (["one", "other", "mark", "far"] : List PySem.Str), (["one", "other"] : List PySem.Str), none, []⟩
def d23 : RR.DefT := ⟨"windows", defArgs (top 34), defBody (top 34), defScope (top 34), (["sorts", "ring", "wide"] : List PySem.Str), (["sorts", "ring", "wide"] : List PySem.Str), none, []⟩
def d24 : RR.DefT := ⟨"tells", defArgs (top 35), defBody (top 35), defScope (top 35), (["sorts", "ring", "wide"] : List PySem.Str), (["sorts", "ring", "wide"] : List PySem.Str), none, []⟩
def d25 : RR.DefT := ⟨"least_wide", defArgs (top 36), defBody (top 36), defScope (top 36), (["sorts", "ring"] : List PySem.Str), (["sorts", "ring"] : List PySem.Str), none, []⟩
def d26 : RR.DefT := ⟨"least_turn", defArgs (top 37), defBody (top 37), defScope (top 37), (["sorts", "ring"] : List PySem.Str), (["sorts", "ring"] : List PySem.Str), none, []⟩
def d27 : RR.DefT := ⟨"true_length", defArgs (top 39), defBody (top 39), defScope (top 39), (["sorts", "ring"] : List PySem.Str), (["sorts", "ring"] : List PySem.Str), none, []⟩
def d28 : RR.DefT := ⟨"pairs_of", defArgs (top 41), defBody (top 41), defScope (top 41), (["ring", "other", "one"] : List PySem.Str), (["ring"] : List PySem.Str), none, []⟩
def d29 : RR.DefT := ⟨"aparts_by", defArgs (top 42), defBody (top 42), defScope (top 42), (["ring", "wide", "windows", "one", "other"] : List PySem.Str), (["ring", "wide"] : List PySem.Str), none, []⟩
def d30 : RR.DefT := ⟨"apart_by", defArgs (top 43), defBody (top 43), defScope (top 43), (["ring", "wide"] : List PySem.Str), (["ring", "wide"] : List PySem.Str), none, []⟩
def d31 : RR.DefT := ⟨"ring_apart", defArgs (top 44), defBody (top 44), defScope (top 44), (["sorts", "ring", "wide"] : List PySem.Str), (["sorts", "ring", "wide"] : List PySem.Str), none, []⟩
def d32 : RR.DefT := ⟨"is_any_window", defArgs (top 48), defBody (top 48), defScope (top 48), (["sorts", "value", "mark"] : List PySem.Str), (["sorts", "value"] : List PySem.Str), none, []⟩
def d33 : RR.DefT := ⟨"wrong_window", defArgs (top 49), defBody (top 49), defScope (top 49), (["sorts", "lot", "at", "window"] : List PySem.Str), (["sorts", "lot"] : List PySem.Str), none, []⟩
def d34 : RR.DefT := ⟨"check_lot", defArgs (top 50), defBody (top 50), defScope (top 50), (["sorts", "lot", "wrong"] : List PySem.Str), (["sorts", "lot"] : List PySem.Str), none, []⟩
def d35 : RR.DefT := ⟨"spells", defArgs (top 51), defBody (top 51), defScope (top 51), (["ring", "lot"] : List PySem.Str), (["ring", "lot"] : List PySem.Str), none, []⟩
def d36 : RR.DefT := ⟨"does_spell", defArgs (top 52), defBody (top 52), defScope (top 52), (["sorts", "ring", "lot"] : List PySem.Str), (["sorts", "ring", "lot"] : List PySem.Str), none, []⟩
def d37 : RR.DefT := ⟨"_law_purse", defArgs (top 54), defBody (top 54), defScope (top 54), (["cells", "at", "cell", "seed", "other"] : List PySem.Str), (["cells", "at"] : List PySem.Str), none, []⟩
def d38 : RR.DefT := ⟨"_law_take", defArgs (top 55), defBody (top 55), defScope (top 55), (["draws", "many", "figures", "seed", "turn"] : List PySem.Str), (["draws", "many"] : List PySem.Str), none, []⟩
def d39 : RR.DefT := ⟨"_law_pick", defArgs (top 56), defBody (top 56), defScope (top 56), (["draws", "some"] : List PySem.Str), (["draws", "some"] : List PySem.Str), none, []⟩
def d40 : RR.DefT := ⟨"_law_same", defArgs (top 57), defBody (top 57), defScope (top 57), (["told", "due"] : List PySem.Str), (["told", "due"] : List PySem.Str), none, []⟩
def d41 : RR.DefT := ⟨"_law_ring", defArgs (top 58), defBody (top 58), defScope (top 58), (["draws", "sorts", "most", "many", "ring", "turn", "way", "part", "mark"] : List PySem.Str), (["draws", "sorts", "most"] : List PySem.Str), none, []⟩
def d42 : RR.DefT := ⟨"_law_window", defArgs (top 59), defBody (top 59), defScope (top 59), (["ring", "at", "wide", "line"] : List PySem.Str), (["ring", "at", "wide"] : List PySem.Str), none, []⟩
def d43 : RR.DefT := ⟨"_law_windows", defArgs (top 60), defBody (top 60), defScope (top 60), (["ring", "wide", "at"] : List PySem.Str), (["ring", "wide"] : List PySem.Str), none, []⟩
def d44 : RR.DefT := ⟨"_law_gainsay", defArgs (top 61), defBody (top 61), defScope (top 61), (["windows_here", "one"] : List PySem.Str), (["windows_here"] : List PySem.Str), none, []⟩
def d45 : RR.DefT := ⟨"_law_least", defArgs (top 62), defBody (top 62), defScope (top 62), (["ring", "wide"] : List PySem.Str), (["ring"] : List PySem.Str), none, []⟩
def d46 : RR.DefT := ⟨"_law_turns", defArgs (top 63), defBody (top 63), defScope (top 63), (["ring", "at"] : List PySem.Str), (["ring"] : List PySem.Str), none, []⟩
def d47 : RR.DefT := ⟨"_law_true_length", defArgs (top 64), defBody (top 64), defScope (top 64), (["ring", "length"] : List PySem.Str), (["ring"] : List PySem.Str), none, []⟩
def d48 : RR.DefT := ⟨"_law_is_alike", defArgs (top 65), defBody (top 65), defScope (top 65), (["draws", "sorts", "ring", "at", "wide", "least", "turn", "due", "told", "other", "mark", "each", "number", "lot_here"] : List PySem.Str), (["draws", "sorts", "ring"] : List PySem.Str), none, []⟩
def d49 : RR.DefT := ⟨"_law_right", defArgs (top 66), defBody (top 66), defScope (top 66), (["draws", "turn", "sorts"] : List PySem.Str), (["draws"] : List PySem.Str), none, []⟩
def d50 : RR.DefT := ⟨"law", defArgs (top 67), defBody (top 67), defScope (top 67), (["cells", "at"] : List PySem.Str), (["cells"] : List PySem.Str), none, []⟩
def lams : List RR.LDef := [⟨1, 2, (.call 5 [(.v 0), (.v 1)])⟩]
def tx : RR.Text := ⟨[d0, d1, d2, d3, d4, d5, d6, d7, d8, d9, d10, d11, d12, d13, d14, d15, d16, d17, d18, d19, d20, d21, d22, d23, d24, d25, d26, d27, d28, d29, d30, d31, d32, d33, d34, d35, d36, d37, d38, d39, d40, d41, d42, d43, d44, d45, d46, d47, d48, d49, d50], [("FEWEST_SORTS", 2), ("MOST_SORTS", 4), ("MOST_MARKS", 32), ("MOST_WIDE_rings", 6), ("MOST_WIDE_spelling", 6), ("MOST_WINDOWS", 32)], (["abs", "all", "bool", "enumerate", "int", "isinstance", "len", "list", "max", "min", "range", "repr", "set", "sorted", "tuple", "zip"] : List PySem.Str), [(27, (["ring", "sorts"] : List PySem.Str), [1, 0])], lams⟩
/-- is_whole -/
def f0 : RR.FDef := ⟨1, 1, [(.ret (.and_ (.isI .int (.v 0)) (.nt (.isI .bool (.v 0)))))]⟩
/-- is_between -/
def f1 : RR.FDef := ⟨3, 3, [(.ret (.and_ (.call 0 [(.v 0)]) (.chain .LtE .LtE (.v 1) (.v 0) (.v 2))))]⟩
/-- is_row -/
def f2 : RR.FDef := ⟨3, 3, [(.ret (.and_ (.isI .tuple (.v 0)) (.chain .LtE .LtE (.v 1) (.bi .len [(.v 0)]) (.v 2))))]⟩
/-- first_wrong -/
def f3 : RR.FDef := ⟨2, 4, [(.for_ .enum [(.v 0)] (.tup [2, 3]) [(.ite (.nt (.callV 1 [(.v 3), (.sl (.v 0) .nop (.v 2))])) [(.ret (.v 2))] [])]), (.ret (.c .none))]⟩
/-- is_sorts -/
def f4 : RR.FDef := ⟨1, 1, [(.ret (.call 1 [(.v 0), (.c (.int 2)), (.c (.int 4))]))]⟩
/-- is_mark -/
def f5 : RR.FDef := ⟨2, 2, [(.ret (.call 1 [(.v 1), (.c (.int 0)), (.bin .Sub (.v 0) (.c (.int 1)))]))]⟩
/-- wrong_mark -/
def f6 : RR.FDef := ⟨2, 2, [(.ret (.callL 3 [(.v 1)] 0 [0]))]⟩
/-- is_wide -/
def f7 : RR.FDef := ⟨1, 1, [(.ret (.call 1 [(.v 0), (.c (.int 1)), (.c (.int 6))]))]⟩
/-- check_sorts -/
def f8 : RR.FDef := ⟨1, 1, [(.ite (.nt (.call 4 [(.v 0)])) [(.raise 0 [])] [])]⟩
/-- check_marks -/
def f9 : RR.FDef := ⟨4, 5, [(.set 4 (.ifx (.call 2 [(.v 1), (.v 2), (.v 3)]) (.call 6 [(.v 0), (.v 1)]) (.c .none))), (.ite (.or_ (.nt (.call 2 [(.v 1), (.v 2), (.v 3)])) (.isN false (.v 4))) [(.raise 0 [])] [])]⟩
/-- check_ring -/
def f10 : RR.FDef := ⟨2, 2, [(.ex (.call 9 [(.v 0), (.v 1), (.c (.int 1)), (.c (.int 32))]))]⟩
/-- check_wide -/
def f11 : RR.FDef := ⟨1, 1, [(.ite (.nt (.call 7 [(.v 0)])) [(.raise 0 [])] [])]⟩
/-- check_sorted_ring -/
def f12 : RR.FDef := ⟨2, 2, [(.ex (.call 8 [(.v 0)])), (.ex (.call 10 [(.v 0), (.v 1)]))]⟩
/-- check_read -/
def f13 : RR.FDef := ⟨3, 3, [(.ex (.call 12 [(.v 0), (.v 1)])), (.ex (.call 11 [(.v 2)]))]⟩
/-- window_at -/
def f14 : RR.FDef := ⟨3, 4, [(.ret (.bi .tuple [(.lc .range1 [(.v 2)] (.one 3) .nop (.ix (.v 0) (.bin .Mod (.bin .Add (.v 1) (.v 3)) (.bi .len [(.v 0)]))))]))]⟩
/-- windows_by -/
def f15 : RR.FDef := ⟨2, 3, [(.ret (.bi .tuple [(.lc .range1 [(.bi .len [(.v 0)])] (.one 2) .nop (.call 14 [(.v 0), (.v 2), (.v 1)]))]))]⟩
/-- first_twice -/
def f16 : RR.FDef := ⟨1, 5, [(.for_ .enum [(.v 0)] (.tup [1, 2]) [(.set 3 (.lc .range2 [(.bin .Add (.v 1) (.c (.int 1))), (.bi .len [(.v 0)])] (.one 4) (.cmp .Eq (.ix (.v 0) (.v 4)) (.v 2)) (.v 4))), (.ite (.cmp .NotEq (.v 3) (.lst [])) [(.ret (.tup [(.v 1), (.ix (.v 3) (.c (.int 0)))]))] [])]), (.ret (.c .none))]⟩
/-- gainsay_by -/
def f17 : RR.FDef := ⟨2, 2, [(.ret (.call 16 [(.call 15 [(.v 0), (.v 1)])]))]⟩
/-- tells_by -/
def f18 : RR.FDef := ⟨2, 2, [(.ret (.isN true (.call 17 [(.v 0), (.v 1)])))]⟩
/-- root_of -/
def f19 : RR.FDef := ⟨1, 2, [(.for_ .range2 [(.c (.int 1)), (.bi .len [(.v 0)])] (.one 1) [(.ite (.and_ (.cmp .Eq (.bin .Mod (.bi .len [(.v 0)]) (.v 1)) (.c (.int 0))) (.cmp .Eq (.v 0) (.bin .Mult (.sl (.v 0) .nop (.v 1)) (.bin .FloorDiv (.bi .len [(.v 0)]) (.v 1))))) [(.ret (.sl (.v 0) .nop (.v 1)))] [])]), (.ret (.v 0))]⟩
/-- least_wide_by -/
def f20 : RR.FDef := ⟨1, 2, [(.ite (.cmp .NotEq (.call 19 [(.v 0)]) (.v 0)) [(.ret (.c .none))] []), (.set 1 (.c (.int 1))), (.while_ (.nt (.call 18 [(.v 0), (.v 1)])) [(.set 1 (.bin .Add (.v 1) (.c (.int 1))))]), (.ret (.v 1))]⟩
/-- least_turn_by -/
def f21 : RR.FDef := ⟨1, 2, [(.ret (.bi .min [(.lc .range1 [(.bi .len [(.v 0)])] (.one 1) .nop (.bin .Add (.sl (.v 0) (.v 1) .nop) (.sl (.v 0) .nop (.v 1))))]))]⟩
/-- apart_of -/
def f22 : RR.FDef := ⟨2, 4, [(.ret (.bi .len [(.lc .zip [(.v 0), (.v 1)] (.tup [2, 3]) (.cmp .NotEq (.v 2) (.v 3)) (.c (.int 1)))]))]⟩
/-- windows -/
def f23 : RR.FDef := ⟨3, 3, [(.ex (.call 13 [(.v 0), (.v 1), (.v 2)])), (.ret (.call 15 [(.v 1), (.v 2)]))]⟩
/-- tells -/
def f24 : RR.FDef := ⟨3, 3, [(.ex (.call 13 [(.v 0), (.v 1), (.v 2)])), (.ret (.call 18 [(.v 1), (.v 2)]))]⟩
/-- least_wide -/
def f25 : RR.FDef := ⟨2, 2, [(.ex (.call 12 [(.v 0), (.v 1)])), (.ret (.call 20 [(.v 1)]))]⟩
/-- least_turn -/
def f26 : RR.FDef := ⟨2, 2, [(.ex (.call 12 [(.v 0), (.v 1)])), (.ret (.call 21 [(.v 1)]))]⟩
/-- true_length -/
def f27 : RR.FDef := ⟨2, 2, [(.ex (.call 12 [(.v 0), (.v 1)])), (.ret (.bi .len [(.call 19 [(.v 1)])]))]⟩
/-- pairs_of -/
def f28 : RR.FDef := ⟨1, 3, [(.ret (.lc2 .range1 [(.bi .len [(.v 0)])] (.one 1) .range1 [(.v 1)] (.one 2) .nop (.tup [(.v 2), (.v 1)])))]⟩
/-- aparts_by -/
def f29 : RR.FDef := ⟨2, 5, [(.set 2 (.call 15 [(.v 0), (.v 1)])), (.ret (.lc .val [(.call 28 [(.v 0)])] (.tup [3, 4]) .nop (.call 22 [(.ix (.v 2) (.v 3)), (.ix (.v 2) (.v 4))])))]⟩
/-- apart_by -/
def f30 : RR.FDef := ⟨2, 2, [(.ret (.bi .minD [(.call 29 [(.v 0), (.v 1)])]))]⟩
/-- ring_apart -/
def f31 : RR.FDef := ⟨3, 3, [(.ex (.call 13 [(.v 0), (.v 1), (.v 2)])), (.ret (.call 30 [(.v 1), (.v 2)]))]⟩
/-- is_any_window -/
def f32 : RR.FDef := ⟨2, 3, [(.ret (.and_ (.call 2 [(.v 1), (.c (.int 1)), (.c (.int 6))]) (.bi .all [(.lc .val [(.v 1)] (.one 2) .nop (.call 1 [(.v 2), (.c (.int 0)), (.bin .Sub (.v 0) (.c (.int 1)))]))])))]⟩
/-- wrong_window -/
def f33 : RR.FDef := ⟨2, 4, [(.for_ .enum [(.v 1)] (.tup [2, 3]) [(.ite (.or_ (.nt (.call 32 [(.v 0), (.v 3)])) (.or_ (.cmp .NotEq (.bi .len [(.v 3)]) (.bi .len [(.ix (.v 1) (.c (.int 0)))])) (.and_ (.cmp .Gt (.v 2) (.c (.int 0))) (.nt (.cmp .Lt (.ix (.v 1) (.bin .Sub (.v 2) (.c (.int 1)))) (.v 3)))))) [(.ret (.v 2))] [])]), (.ret (.c .none))]⟩
/-- check_lot -/
def f34 : RR.FDef := ⟨2, 3, [(.ite (.nt (.call 2 [(.v 1), (.c (.int 1)), (.c (.int 32))])) [(.raise 0 [])] []), (.set 2 (.call 33 [(.v 0), (.v 1)])), (.ite (.isN false (.v 2)) [(.raise 0 [])] [])]⟩
/-- spells -/
def f35 : RR.FDef := ⟨2, 2, [(.ret (.cmp .Eq (.bi .sorted [(.call 15 [(.v 0), (.bi .len [(.ix (.v 1) (.c (.int 0)))])])]) (.bi .list [(.v 1)])))]⟩
/-- does_spell -/
def f36 : RR.FDef := ⟨3, 3, [(.ex (.call 8 [(.v 0)])), (.ex (.call 10 [(.v 0), (.v 1)])), (.ex (.call 34 [(.v 0), (.v 2)])), (.ret (.call 35 [(.v 1), (.v 2)]))]⟩
/-- _law_purse -/
def f37 : RR.FDef := ⟨2, 5, [(.set 2 (.ifx (.cmp .Lt (.v 1) (.bi .len [(.v 0)])) (.ix (.v 0) (.v 1)) (.c (.int 0)))), (.set 3 (.bin .Mod (.bi .int [(.bin .Add (.bin .Add (.bin .Mult (.v 2) (.c (.int 43201))) (.bin .Mult (.v 1) (.c (.int 52027)))) (.c (.int 41017)))]) (.c (.int 2147483549)))), (.for_ .val [(.ifx (.cmp .GtE (.v 1) (.bi .len [(.v 0)])) (.sl (.v 0) .nop (.c (.int 4))) (.lst []))] (.one 4) [(.set 3 (.bin .Mod (.bi .int [(.bin .Add (.bin .Mult (.v 3) (.c (.int 36007))) (.v 4))]) (.c (.int 2147483549))))]), (.ret (.mut (.lst [(.ifx (.cmp .GtE (.bi .abs [(.v 2)]) (.bin .Pow (.c (.int 10)) (.c (.int 18)))) (.bi .abs [(.v 2)]) (.c (.int 0))), (.v 3), (.c (.int 0))])))]⟩
/-- _law_take -/
def f38 : RR.FDef := ⟨2, 5, [(.setT [(.one 2), (.one 3), (.one 4)] (.v 0)), (.setS (.v 0) (.c (.int 1)) (.bin .Mod (.bi .int [(.bin .Add (.bin .Add (.bin .Mult (.v 3) (.bin .Add (.c (.int 46021)) (.bin .Mult (.c (.int 6)) (.v 4)))) (.bin .Mult (.c (.int 18013)) (.v 4))) (.c (.int 6637)))]) (.c (.int 2147483549)))), (.setS (.v 0) (.c (.int 2)) (.bin .Add (.v 4) (.c (.int 1)))), (.ite (.cmp .Gt (.v 2) (.c (.int 0))) [(.setS (.v 0) (.c (.int 0)) (.bin .FloorDiv (.bi .int [(.v 2)]) (.v 1))), (.ret (.bin .Mod (.bi .int [(.v 2)]) (.v 1)))] []), (.ret (.bin .Mod (.bi .int [(.bin .FloorDiv (.ix (.v 0) (.c (.int 1))) (.c (.int 128)))]) (.v 1)))]⟩
/-- _law_pick -/
def f39 : RR.FDef := ⟨2, 2, [(.ret (.ix (.v 1) (.call 38 [(.v 0), (.bi .len [(.v 1)])])))]⟩
/-- _law_same -/
def f40 : RR.FDef := ⟨2, 2, [(.ret (.cmp .Eq (.bi .repr [(.v 0)]) (.bi .repr [(.v 1)])))]⟩
/-- _law_ring -/
def f41 : RR.FDef := ⟨3, 9, [(.set 3 (.bin .Add (.c (.int 1)) (.call 38 [(.v 0), (.v 2)]))), (.set 4 (.bi .tuple [(.lc .range1 [(.v 3)] (.one 5) .nop (.call 38 [(.v 0), (.v 1)]))])), (.set 6 (.call 38 [(.v 0), (.c (.int 4))])), (.ite (.cmp .Eq (.v 6) (.c (.int 0))) [(.set 7 (.sl (.v 4) .nop (.bin .Add (.c (.int 1)) (.call 38 [(.v 0), (.c (.int 4))])))), (.set 4 (.bin .Mult (.v 7) (.bi .max [(.c (.int 1)), (.bin .FloorDiv (.v 3) (.bi .len [(.v 7)]))])))] []), (.ite (.cmp .Eq (.v 6) (.c (.int 1))) [(.set 4 (.bi .tuple [(.lc .val [(.v 4)] (.one 8) .nop (.ifx (.cmp .Gt (.call 38 [(.v 0), (.c (.int 4))]) (.c (.int 0))) (.c (.int 0)) (.v 8)))]))] []), (.ret (.v 4))]⟩
/-- _law_window -/
def f42 : RR.FDef := ⟨3, 4, [(.set 3 (.bin .Mult (.v 0) (.bin .Add (.c (.int 1)) (.bin .FloorDiv (.bin .Add (.v 1) (.v 2)) (.bi .len [(.v 0)]))))), (.ret (.sl (.v 3) (.v 1) (.bin .Add (.v 1) (.v 2))))]⟩
/-- _law_windows -/
def f43 : RR.FDef := ⟨2, 3, [(.ret (.bi .tuple [(.lc .range1 [(.bi .len [(.v 0)])] (.one 2) .nop (.call 42 [(.v 0), (.v 2), (.v 1)]))]))]⟩
/-- _law_gainsay -/
def f44 : RR.FDef := ⟨1, 2, [(.for_ .range1 [(.bi .len [(.v 0)])] (.one 1) [(.ite (.cmp .In (.ix (.v 0) (.v 1)) (.sl (.v 0) (.bin .Add (.v 1) (.c (.int 1))) .nop)) [(.ret (.tup [(.v 1), (.md .index (.v 0) [(.ix (.v 0) (.v 1)), (.bin .Add (.v 1) (.c (.int 1)))])]))] [])]), (.ret (.c .none))]⟩
/-- _law_least -/
def f45 : RR.FDef := ⟨1, 2, [(.for_ .range2 [(.c (.int 1)), (.bin .Add (.bi .len [(.v 0)]) (.c (.int 1)))] (.one 1) [(.ite (.isN true (.call 44 [(.call 43 [(.v 0), (.v 1)])])) [(.ret (.v 1))] [])]), (.ret (.c .none))]⟩
/-- _law_turns -/
def f46 : RR.FDef := ⟨1, 2, [(.ret (.lc .range1 [(.bi .len [(.v 0)])] (.one 1) .nop (.bin .Add (.sl (.v 0) (.v 1) .nop) (.sl (.v 0) .nop (.v 1)))))]⟩
/-- _law_true_length -/
def f47 : RR.FDef := ⟨1, 2, [(.ret (.ix (.lc .range2 [(.c (.int 1)), (.bin .Add (.bi .len [(.v 0)]) (.c (.int 1)))] (.one 1) (.cmp .Eq (.bin .Mult (.sl (.v 0) .nop (.v 1)) (.bin .FloorDiv (.bi .len [(.v 0)]) (.v 1))) (.v 0)) (.v 1)) (.c (.int 0))))]⟩
/-- _law_is_alike -/
def f48 : RR.FDef := ⟨3, 14, [(.setT [(.one 3), (.one 4), (.one 5)] (.tup [(.call 38 [(.v 0), (.bi .len [(.v 2)])]), (.bin .Add (.c (.int 1)) (.call 38 [(.v 0), (.c (.int 6))])), (.call 45 [(.v 2)])])), (.par [6, 7] [(.bin .Add (.sl (.v 2) (.v 3) .nop) (.sl (.v 2) .nop (.v 3))), (.call 43 [(.v 2), (.v 4)])]), (.set 8 (.lst [(.call 23 [(.v 1), (.v 6), (.v 4)]), (.call 26 [(.v 1), (.v 6)])])), (.ite (.nt (.call 40 [(.v 8), (.lst [(.bin .Add (.sl (.v 7) (.v 3) .nop) (.sl (.v 7) .nop (.v 3))), (.bi .min [(.call 46 [(.v 2)])])])])) [(.ret (.c (.bool false)))] []), (.set 9 (.bi .tuple [(.lc .val [(.v 2)] (.one 10) .nop (.bin .Sub (.bin .Sub (.v 1) (.c (.int 1))) (.v 10)))])), (.for_ .val [(.lst [(.v 2), (.v 6), (.rev (.v 2)), (.v 9)])] (.one 11) [(.set 8 (.lst [(.call 25 [(.v 1), (.v 11)]), (.call 31 [(.v 1), (.v 11), (.v 4)])])), (.ite (.nt (.call 40 [(.v 8), (.lst [(.v 5), (.call 31 [(.v 1), (.v 2), (.v 4)])])])) [(.ret (.c (.bool false)))] []), (.ite (.nt (.call 40 [(.call 27 [(.v 1), (.v 11)]), (.call 47 [(.v 2)])])) [(.ret (.c (.bool false)))] [])]), (.ite (.and_ (.cmp .Lt (.v 1) (.c (.int 4))) (.nt (.call 40 [(.call 25 [(.bin .Add (.v 1) (.c (.int 1))), (.v 2)]), (.v 5)]))) [(.ret (.c (.bool false)))] []), (.set 8 (.lc .range2 [(.c (.int 1)), (.c (.int 7))] (.one 12) .nop (.call 24 [(.v 1), (.v 2), (.v 12)]))), (.ite (.nt (.call 40 [(.v 8), (.lc .range2 [(.c (.int 1)), (.c (.int 7))] (.one 12) .nop (.and_ (.isN false (.v 5)) (.cmp .GtE (.v 12) (.v 5))))])) [(.ret (.c (.bool false)))] []), (.set 13 (.bi .tuple [(.sset (.v 7))])), (.ite (.nt (.call 40 [(.call 36 [(.v 1), (.v 2), (.v 13)]), (.ix (.v 8) (.bin .Sub (.v 4) (.c (.int 1))))])) [(.ret (.c (.bool false)))] []), (.ite (.or_ (.isN false (.call 25 [(.v 1), (.bin .Mult (.v 2) (.c (.int 2)))])) (.cmp .NotEq (.call 27 [(.v 1), (.bin .Mult (.v 2) (.c (.int 2)))]) (.call 27 [(.v 1), (.v 2)]))) [(.ret (.c (.bool false)))] []), (.ret (.cmp .Eq (.cmp .Eq (.callK 27 [1, 0] [(.v 2), (.v 1)]) (.bi .len [(.v 2)])) (.isN false (.v 5))))]⟩
/-- _law_right -/
def f49 : RR.FDef := ⟨1, 3, [(.for_ .range1 [(.c (.int 12))] (.one 1) [(.set 2 (.bin .Add (.c (.int 2)) (.call 38 [(.v 0), (.c (.int 3))]))), (.ite (.nt (.call 48 [(.v 0), (.v 2), (.call 41 [(.v 0), (.v 2), (.c (.int 16))])])) [(.ret (.c (.bool false)))] [])]), (.ret (.c (.bool true)))]⟩
/-- law -/
def f50 : RR.FDef := ⟨1, 2, [(.ret (.bi .all [(.lc .range1 [(.bi .max [(.c (.int 2)), (.bi .min [(.bi .len [(.v 0)]), (.c (.int 3))])])] (.one 1) .nop (.call 49 [(.call 37 [(.v 0), (.v 1)])]))]))]⟩
def Pr : RR.Prog := ⟨[f0, f1, f2, f3, f4, f5, f6, f7, f8, f9, f10, f11, f12, f13, f14, f15, f16, f17, f18, f19, f20, f21, f22, f23, f24, f25, f26, f27, f28, f29, f30, f31, f32, f33, f34, f35, f36, f37, f38, f39, f40, f41, f42, f43, f44, f45, f46, f47, f48, f49, f50], lams, 100000⟩
theorem ok : RR.okAll tx Pr 40 = true := by kernel_rfl
def names : List PySem.Str := (["TrackError", "InvalidNumber", "InvalidRing", "InvalidLot", "is_whole", "is_between", "is_row", "first_wrong", "FEWEST_SORTS", "MOST_SORTS", "MOST_MARKS", "MOST_WIDE_rings", "is_sorts", "is_mark", "wrong_mark", "is_wide", "check_sorts", "check_marks", "check_ring", "check_wide", "check_sorted_ring", "check_read", "window_at", "windows_by", "first_twice", "gainsay_by", "tells_by", "root_of", "least_wide_by", "least_turn_by"] : List PySem.Str) ++ (["apart_of", "windows", "tells", "least_wide", "least_turn", "true_length", "pairs_of", "aparts_by", "apart_by", "ring_apart", "MOST_WIDE_spelling", "MOST_WINDOWS", "is_any_window", "wrong_window", "check_lot", "spells", "does_spell", "_law_purse", "_law_take", "_law_pick", "_law_same", "_law_ring", "_law_window", "_law_windows", "_law_gainsay", "_law_least", "_law_turns", "_law_true_length", "_law_is_alike", "_law_right"] : List PySem.Str)
abbrev R : PySem.W.OpenRow := PySem.W.OpenLaw.row PySem.Challenge.rw_telltracks_k04_rings_turned_and_gone_twi
abbrev hk : PySem.W.Hook := He.hookX 4 (RR.faOf tx) (RR.fnsOf tx) [] (RR.tfOf tx) (RR.exOf tx)
def ob (s : PySem.W.SharedT) : He.AlX := He.obsX 4 (RR.faOf tx) (RR.fnsOf tx) [] (RR.tfOf tx) (RR.exOf tx) (HandSHeadRun.getT s)
theorem ob_eq (s : PySem.W.SharedT) : ob s = hk.obs s.abs := He.obsX_eq (HandSHeadRun.getT_eq s)
theorem run (w : World) : HandSHeadRun.RunEq R (PySem.W.view R.prog [67]) hk ob 6000 names w := by
  intro os
  kernel_rfl
end LawT

-- P04
set_option maxHeartbeats 1000000
namespace RR.Q
open PySem LawT
theorem s0_SInt (n : Nat) : RR.Q.SInt (RR.sem Pr (n + 1)) 0 := RR.Q.int_ok (n := n + 0) (g := 0)  rfl
theorem s1_SBtw (n : Nat) : RR.Q.SBtw (RR.sem Pr (n + 2)) 1 := RR.Q.btw_ok (n := n + 1) (g := 1) (a := 0) rfl (s0_SInt (n + 0))
theorem s2_SRow (n : Nat) : RR.Q.SRow (RR.sem Pr (n + 1)) 2 := RR.Q.row_ok (n := n + 0) (g := 2)  rfl
theorem s3_SFirst (n : Nat) : RR.Q.SFirst (RR.sem Pr (n + 1)) (RR.sem Pr n) 3 := RR.Q.first_ok rfl
theorem s4_SFix_2_4 (n : Nat) : RR.Q.SFix (2) (4) (RR.sem Pr (n + 3)) 4 := RR.Q.fix_ok (n := n + 2) (g := 4) (c := 1) (a := 2) (b := 4) rfl (s1_SBtw (n + 0))
theorem s5_SMark (n : Nat) : RR.Q.SMark (RR.sem Pr (n + 3)) 5 := RR.Q.mark_ok (n := n + 2) (g := 5) (c := 1) rfl (s1_SBtw (n + 0))
theorem s7_SFix_1_6 (n : Nat) : RR.Q.SFix (1) (6) (RR.sem Pr (n + 3)) 7 := RR.Q.fix_ok (n := n + 2) (g := 7) (c := 1) (a := 1) (b := 6) rfl (s1_SBtw (n + 0))
theorem s8_SChk_2_4 (n : Nat) : RR.Q.SChk (2) (4) (RR.sem Pr (n + 4)) 8 := RR.Q.chk_ok (n := n + 3) (g := 8) (c := 4) rfl (s4_SFix_2_4 (n + 0))
theorem s11_SChk_1_6 (n : Nat) : RR.Q.SChk (1) (6) (RR.sem Pr (n + 4)) 11 := RR.Q.chk_ok (n := n + 3) (g := 11) (c := 7) rfl (s7_SFix_1_6 (n + 0))
theorem s14_SWin (n : Nat) : RR.Q.SWin (RR.sem Pr (n + 1)) 14 := RR.Q.win_ok (n := n + 0) (g := 14)  rfl
theorem s15_SWins (n : Nat) : RR.Q.SWins (RR.sem Pr (n + 2)) 15 := RR.Q.wins_ok (n := n + 1) (g := 15) (c := 14) rfl (s14_SWin (n + 0))
theorem s16_SFirstTwice (n : Nat) : RR.Q.SFirstTwice (RR.sem Pr (n + 1)) 16 := RR.Q.firstTwice_ok (n := n + 0) (g := 16)  rfl
theorem s16_SFirstTwiceV (n : Nat) : RR.Q.SFirstTwiceV (RR.sem Pr (n + 1)) 16 := RR.Q.firstTwiceV_ok (n := n + 0) (g := 16)  rfl
theorem s17_SGainsayBy (n : Nat) : RR.Q.SGainsayBy (RR.sem Pr (n + 3)) 17 := RR.Q.gainsayBy_ok (n := n + 2) (g := 17) (a := 16) (b := 15) rfl (s16_SFirstTwice (n + 1)) (s15_SWins (n + 0))
theorem s18_STellsBy (n : Nat) : RR.Q.STellsBy (RR.sem Pr (n + 4)) 18 := RR.Q.tellsBy_ok (n := n + 3) (g := 18) (a := 17) rfl (s17_SGainsayBy (n + 0))
theorem s19_SRoot (n : Nat) : RR.Q.SRoot (RR.sem Pr (n + 1)) 19 := RR.Q.root_ok (n := n + 0) (g := 19)  rfl
theorem s21_SLeastTurnBy (n : Nat) : RR.Q.SLeastTurnBy (RR.sem Pr (n + 1)) 21 := RR.Q.leastTurnBy_ok (n := n + 0) (g := 21)  rfl
theorem s22_SApart (n : Nat) : RR.Q.SApart (RR.sem Pr (n + 1)) 22 := RR.Q.apart_ok (n := n + 0) (g := 22)  rfl
theorem s28_SPairs (n : Nat) : RR.Q.SPairs (RR.sem Pr (n + 1)) 28 := RR.Q.pairs_ok (n := n + 0) (g := 28)  rfl
theorem s29_SAparts (n : Nat) : RR.Q.SAparts (RR.sem Pr (n + 3)) 29 := RR.Q.aparts_ok (n := n + 2) (g := 29) (c15 := 15) (c16 := 22) (c17 := 28) rfl (s15_SWins (n + 0)) (s22_SApart (n + 1)) (s28_SPairs (n + 1))
theorem s30_SApartBy (n : Nat) : RR.Q.SApartBy (RR.sem Pr (n + 4)) 30 := RR.Q.apartBy_ok (n := n + 3) (g := 30) (c := 29) rfl (s29_SAparts (n + 0))
theorem l0_SLMark (n : Nat) : RR.Q.SLMark (RR.sem Pr (n + 4)) 0 := RR.Q.lmark_ok (c := 5) rfl (s5_SMark n)
theorem s6_SWrong (n : Nat) : RR.Q.SWrong (RR.sem Pr (n + 6)) 6 := RR.Q.wrong_ok (n := n + 4) (c := 3) (l := 0) rfl (s3_SFirst (n + 4)) (l0_SLMark n)
theorem s9_SMarks (n : Nat) : RR.Q.SMarks (RR.sem Pr (n + 7)) 9 := RR.Q.marks_ok (n := n + 6) (g := 9) (c := 2) (d := 6) rfl (s2_SRow (n + 5)) (s6_SWrong (n + 0))
theorem s10_SChkM_1_32 (n : Nat) : RR.Q.SChkM (1) (32) (RR.sem Pr (n + 8)) 10 := RR.Q.chkM_ok (n := n + 7) (g := 10) (c := 9) (a := 1) (b := 32) rfl (s9_SMarks (n + 0))
theorem s12_SSRing (n : Nat) : RR.Q.SSRing (RR.sem Pr (n + 9)) 12 := RR.Q.sring_ok (n := n + 8) (g := 12) (c := 8) (d := 10) rfl (s8_SChk_2_4 (n + 4)) (s10_SChkM_1_32 (n + 0))
theorem s13_SRead (n : Nat) : RR.Q.SRead (RR.sem Pr (n + 10)) 13 := RR.Q.read_ok (n := n + 9) (g := 13) (c := 12) (d := 11) rfl (s12_SSRing (n + 0)) (s11_SChk_1_6 (n + 5))
theorem s23_SWindows (n : Nat) : RR.Q.SWindows (RR.sem Pr (n + 11)) 23 := RR.Q.windows_ok (n := n + 10) (g := 23) (a := 13) (b := 15) rfl (s13_SRead (n + 0)) (s15_SWins (n + 8))
theorem s24_STells (n : Nat) : RR.Q.STells (RR.sem Pr (n + 11)) 24 := RR.Q.tells_ok (n := n + 10) (g := 24) (a := 13) (b := 18) rfl (s13_SRead (n + 0)) (s18_STellsBy (n + 6))
theorem s26_SLeastTurn (n : Nat) : RR.Q.SLeastTurn (RR.sem Pr (n + 10)) 26 := RR.Q.leastTurn_ok (n := n + 9) (g := 26) (a := 12) (b := 21) rfl (s12_SSRing (n + 0)) (s21_SLeastTurnBy (n + 8))
theorem s27_STrueLen (n : Nat) : RR.Q.STrueLen (RR.sem Pr (n + 10)) 27 := RR.Q.trueLen_ok (n := n + 9) (g := 27) (a := 12) (b := 19) rfl (s12_SSRing (n + 0)) (s19_SRoot (n + 8))
theorem s31_SRingApart (n : Nat) : RR.Q.SRingApart (RR.sem Pr (n + 11)) 31 := RR.Q.ringApart_ok (n := n + 10) (g := 31) (c := 13) (d := 30) rfl (s13_SRead (n + 0)) (s30_SApartBy (n + 6))
end RR.Q
namespace RR.Q
open PySem LawT
theorem s38 (n : Nat) : STake (sem Pr (n + 1)) 38 := take2_ok rfl
theorem s37 (n : Nat) : SPurse (sem Pr (n + 1)) 37 := purse_ok rfl
theorem s40 (n : Nat) : SSame (sem Pr (n + 1)) 40 := same_ok rfl
theorem s41 (n : Nat) : SRing (sem Pr (n + 2)) 41 := ring2_ok (t := 38) rfl (s38 n)
theorem s42 (n : Nat) : SLWin (sem Pr (n + 1)) 42 := lwin_ok rfl
theorem s43 (n : Nat) : SLWins2 (sem Pr (n + 2)) 43 := lwins2_ok (a := 42) rfl (s42 n)
theorem s44 (n : Nat) : SFirstTwice (sem Pr (n + 1)) 44 := lgain_ok rfl
theorem s45 (n : Nat) : SLLeast2 (sem Pr (n + 3)) 45 := lleast2_ok (a := 44) (b := 43) rfl (s44 (n + 1)) (s43 n)
theorem s20 (n : Nat) : SLeastWideBy (sem Pr (n + 5)) 20 := leastWideBy_ok (a := 19) (b := 18) (by decide) rfl (s19_SRoot (n + 3)) (s18_STellsBy n)
theorem s25 (n : Nat) : SLeastWide (sem Pr (n + 10)) 25 := leastWide_ok (a := 12) (b := 20) rfl (s12_SSRing n) (s20 (n + 4))
theorem s26 (n : Nat) : SLeastTurnM (sem Pr (n + 10)) 26 := leastTurnM_ok (n := n + 8) (a := 12) (b := 21) rfl rfl (s12_SSRing n)
theorem s32 (n : Nat) : SAnyWindow (sem Pr (n + 3)) 32 := anyWindow_ok (a := 2) (b := 1) rfl (s2_SRow (n + 1)) (s1_SBtw n)
theorem s33 (n : Nat) : SWrongWindow (sem Pr (n + 4)) 33 := wrongWindow_ok (a := 32) rfl (s32 n)
theorem s34 (n : Nat) : SWrongWindow (sem Pr (n + 5)) 34 := chkLot_ok (a := 2) (b := 33) rfl (s2_SRow (n + 3)) (s33 n)
theorem s36 (n : Nat) : SDoesSpell (sem Pr (n + 9)) 36 := doesSpell_ok (n := n + 7) (a := 8) (b := 10) (c := 34) (d := 35) (e := 15) rfl rfl (s8_SChk_2_4 (n + 4)) (s10_SChkM_1_32 n) (s34 (n + 3)) (s15_SWins (n + 5))
theorem perm2 (a b : Val) : permV [1, 0] [a, b] = some [b, a] := rfl
open Classical in
theorem alike4 (n m : Nat) (s : Int) (xs : List Int) (h : IH) (p : Pool m h) (rg : Rg s xs) (l16 : xs.length ≤ 16) : ∃ h', Dr m h h' ∧ (sem Pr (n + 13)).call 48 [.ref m, .d (.int s), .d (tupI xs)] h = .ok (.d (.bool true)) h' := by
  have t38 : STake (sem Pr (n + 12)) 38 := s38 _
  have t45 : SLLeast2 (sem Pr (n + 12)) 45 := s45 (n + 9)
  have t43 : SLWins2 (sem Pr (n + 12)) 43 := s43 (n + 10)
  have t40 : SSame (sem Pr (n + 12)) 40 := s40 _
  have t23 : SWindows (sem Pr (n + 12)) 23 := s23_SWindows (n + 1)
  have t24 : STells (sem Pr (n + 12)) 24 := s24_STells (n + 1)
  have t25 : SLeastWide (sem Pr (n + 12)) 25 := s25 (n + 2)
  have t26 : SLeastTurnM (sem Pr (n + 12)) 26 := s26 (n + 2)
  have t27 : STrueLen (sem Pr (n + 12)) 27 := s27_STrueLen (n + 2)
  have t31 : SRingApart (sem Pr (n + 12)) 31 := s31_SRingApart (n + 1)
  have t36 : SDoesSpell (sem Pr (n + 12)) 36 := s36 (n + 3)
  have t46 := lturns_ok (P := Pr) (n := n + 11) (g := 46) rfl
  have t47 := ltrue2_ok (P := Pr) (n := n + 11) (g := 47) rfl
  have one := rg.one
  obtain ⟨K, hT, _⟩ := t27 s xs h rg
  obtain ⟨k, h1, hk, dr1, e1⟩ := t38 m (xs.length : Int) h p (by omega) (by omega)
  have hk' : k < xs.length := by omega
  obtain ⟨d2, h2, hd2, dr2, e2⟩ := t38 m 6 h1 (dr1.pool p) (by decide) (by decide)
  have drA := dr1.trans dr2
  obtain ⟨w, hw⟩ : ∃ w : Nat, w = 1 + d2 := ⟨_, rfl⟩
  have ew : (1 : Int) + (d2 : Int) = (w : Int) := by omega
  have w1 : 1 ≤ w := by omega
  have w6 : w ≤ 6 := by omega
  obtain ⟨r, hr, e3⟩ := t45 xs h2 one (by omega) ⟨K, hT⟩
  have rT := rg_rot rg k
  generalize hTT : xs.drop k ++ xs.take k = T at rT
  have lenT : T.length = xs.length := by
    rw [← hTT, List.length_append, List.length_drop, List.length_take]
    omega
  have a43 := t43 xs w h2 one (by omega) (by omega)
  have a23 := t23 s w T h2 rT w1 w6
  have eWT : (.tuple (wins T w) : D) = tupL ((rowsW xs w).drop k ++ (rowsW xs w).take k) := by
    rw [← rowsW_map, ← hTT, rowsW_rot hk']
  rw [eWT] at a23
  obtain ⟨mm, hmm, m1, m2⟩ := min_turnsM (L := turns T) (M := turns xs) (by simp [turns]; omega) (by rw [← hTT]; exact turns_rot hk')
  have a26 := t26 s T (tupI mm) h2 rT m1
  have a46 := t46 xs h2 (by omega)
  have lenW : (rowsW xs w).length = xs.length := by simp [rowsW]
  have sdW : SD 40000 2 (tupL ((rowsW xs w).drop k ++ (rowsW xs w).take k)) := lot_sd rg.hi (by rw [List.length_append, List.length_drop, List.length_take]; omega) fun q hq => by
    have : q ∈ rowsW xs w := (List.mem_append.mp hq).elim List.mem_of_mem_drop List.mem_of_mem_take
    have z := rowsW_row rg q this
    exact ⟨z.2, by rw [z.1]; omega⟩
  have sdM : SD 40000 2 (tupI mm) := (marks_sd rg.hi (mk_turn rT.mks hmm).1 (by rw [(mk_turn rT.mks hmm).2]; omega)).up (by omega) (by omega)
  have a40a := t40 _ _ _ h2 (pair_sd sdW sdM) (by decide) (by decide)
  -- the others
  have sdr : SD 10 0 r := least_sd one (by omega) hT hr
  have sda : SD 10 0 (leastD (aparts xs w)) := apart_sd one (by omega)
  have a40b := t40 _ _ _ h2 (pair_sd sdr sda) (by decide) (by decide)
  have a40c := t40 _ _ _ h2 (SD.int (i := (K : Int)) (by have := hT.hi; omega)) (by decide) (by decide)
  have a40r := t40 _ _ _ h2 sdr (by decide) (by decide)
  have a47 := t47 xs K h2 one (by omega) hT
  have a31 := t31 s w xs h2 rg w1 w6
  have lw : ∀ (q : List Int) (s' : Int), Rg s' q → (∀ v, tellsP q v ↔ tellsP xs v) → (sem Pr (n + 12)).call 25 [.d (.int s'), .d (tupI q)] h2 = .ok (.d r) h2 := fun q s' rq ht => by
    obtain ⟨r', hr', e⟩ := t25 s' q h2 rq
    rw [e, least_one ht hr hr']
  have tl : ∀ (q : List Int) (s' : Int), Rg s' q → IsTrue q K → (sem Pr (n + 12)).call 27 [.d (.int s'), .d (tupI q)] h2 = .ok (.d (.int (K : Int))) h2 := fun q s' rq hq => by
    obtain ⟨K', hK', e⟩ := t27 s' q h2 rq
    rw [e, hq.uniq hK']
  have all : ∀ q, q ∈ [xs, T, xs.reverse, xs.map fun x => s - 1 - x] → Rg s q ∧ (∀ v, tellsP q v ↔ tellsP xs v) ∧ IsTrue q K ∧ leastD (aparts q w) = leastD (aparts xs w) := fun q hq => by
    simp only [List.mem_cons, List.not_mem_nil, or_false] at hq
    rcases hq with hq | hq | hq | hq <;> rw [hq]
    · exact ⟨rg, fun _ => Iff.rfl, hT, rfl⟩
    · have one' : 1 ≤ T.length := by omega
      have fm : ∀ v x, farM T v x ↔ farM xs v x := fun v x => by rw [← hTT]; exact farM_rot (by omega) one v x
      exact ⟨rT, fun v => tells_congr one one' (fm v), (true_congr lenT fun j => by rw [← hTT]; exact per_rot (by omega) one j).mpr hT, leastD_congr (far_congr one' one (fm w))⟩
    · have one' : 1 ≤ xs.reverse.length := by rw [List.length_reverse]; exact one
      have fm : ∀ v x, farM xs.reverse v x ↔ farM xs v x := fun v x => farM_back one v x
      exact ⟨rg_rev rg, fun v => tells_congr one one' (fm v), (true_congr (List.length_reverse) fun j => per_back one j).mpr hT, leastD_congr (far_congr one' one (fm w))⟩
    · have inj : ∀ x y : Int, s - 1 - x = s - 1 - y → x = y := fun x y e => by omega
      have one' : 1 ≤ (xs.map fun x => s - 1 - x).length := by rw [List.length_map]; exact one
      have fm : ∀ v x, farM (xs.map fun x => s - 1 - x) v x ↔ farM xs v x := fun v x => farM_map inj one v x
      exact ⟨rg_map rg, fun v => tells_congr one one' (fm v), (true_congr (List.length_map _) fun j => per_map inj one j).mpr hT, leastD_congr (far_congr one' one (fm w))⟩
  generalize hO : (xs.map fun x => s - 1 - x) = O at all
  -- the list of tells
  have ktells : ∀ v0 v3 v6 v7 v8 v9 v10 v11 v13 : Option Val, ev (sem Pr (n + 12)) [v0, some (.d (.int s)), some (.d (tupI xs)), v3, some (.d (.int (w : Int))), some (.d r), v6, v7, v8, v9, v10, v11, none, v13] (.lc .range2 [(.c (.int 1)), (.c (.int 7))] (.one 12) .nop (.call 24 [(.v 1), (.v 2), (.v 12)])) h2 = .ok (.d (.list ((List.range 6).map fun (t : Nat) => PyData.bool (decide (tellsP xs (t + 1)))))) h2 := fun v0 v3 v6 v7 v8 v9 v10 v11 v13 =>
    lc_map (k := .range2) (tg := .one 12) (vs := [.d (.int 1), .d (.int 7)]) (ds := [.int 1, .int 7]) (ts := List.range 6) (fun (t : Nat) => PyData.int ((t + 1 : Nat) : Int)) (fun (t : Nat) => PyData.bool (decide (tellsP xs (t + 1)))) (by simp) (by simp) items17 (by simp) fun t ht h' => ⟨_, rfl, by
      have ht := List.mem_range.mp ht
      simp -implicitDefEqProofs only [q_c, q_v, q_fn, q_bin, q_neg, q_nt, q_cmp, q_chain, q_isN, q_and, q_or, q_ifx, q_tup, q_lst, q_ix, q_sl, q_prt_nop, q_prt_v, q_prt_c, q_prt_bin, q_prt_neg, q_prt_bi, q_prt_call, q_rev, q_call, q_callK, q_bi, q_isI, q_mut_lst, q_md, q_nil, q_cons, q_get0, q_getS, q_ofO, bind_ok, q_truth_b, q_truth_i, q_dat, q_dats0, q_dats1, q_biP0, q_biP1, q_biP2, Option.map, partOf, List.length_cons, List.length_nil, Nat.zero_add, Nat.reduceAdd, if_pos (q_lim 0 (by decide)), if_pos (q_lim 1 (by decide)), if_pos (q_lim 2 (by decide)), if_pos (q_lim 3 (by decide)), if_pos (q_lim 4 (by decide)), q_add, q_sub, q_le, q_lt, q_ge, q_gt, eq_ints, ne_ints, q_lenI, q_bl1, q_bl2, q_btp1, q_btp2, then_ok, q_setV, q_setVr, obind_next, obind_ret, List.set, if_true, Bool.not_true, Bool.not_false, q_isN, beqt, q_tgs1, q_w1, q_w0, t24 s (t + 1) xs h' rg (by omega) (by omega)]⟩
  have kdue : ∀ v0 v3 v6 v7 v8 v9 v10 v11 v13 : Option Val, ev (sem Pr (n + 12)) [v0, some (.d (.int s)), some (.d (tupI xs)), v3, some (.d (.int (w : Int))), some (.d r), v6, v7, v8, v9, v10, v11, none, v13] (.lc .range2 [(.c (.int 1)), (.c (.int 7))] (.one 12) .nop (.and_ (.isN false (.v 5)) (.cmp .GtE (.v 12) (.v 5)))) h2 = .ok (.d (.list ((List.range 6).map fun (t : Nat) => PyData.bool (decide (tellsP xs (t + 1)))))) h2 := fun v0 v3 v6 v7 v8 v9 v10 v11 v13 =>
    lc_map (k := .range2) (tg := .one 12) (vs := [.d (.int 1), .d (.int 7)]) (ds := [.int 1, .int 7]) (ts := List.range 6) (fun (t : Nat) => PyData.int ((t + 1 : Nat) : Int)) (fun (t : Nat) => PyData.bool (decide (tellsP xs (t + 1)))) (by simp) (by simp) items17 (by simp) fun t ht h' => ⟨_, rfl, by
      rcases hr with ⟨rfl, hr⟩ | ⟨J, rfl, j1, hr⟩
      · simp -implicitDefEqProofs only [q_c, q_v, q_fn, q_bin, q_neg, q_nt, q_cmp, q_chain, q_isN, q_and, q_or, q_ifx, q_tup, q_lst, q_ix, q_sl, q_prt_nop, q_prt_v, q_prt_c, q_prt_bin, q_prt_neg, q_prt_bi, q_prt_call, q_rev, q_call, q_callK, q_bi, q_isI, q_mut_lst, q_md, q_nil, q_cons, q_get0, q_getS, q_ofO, bind_ok, q_truth_b, q_truth_i, q_dat, q_dats0, q_dats1, q_biP0, q_biP1, q_biP2, Option.map, partOf, List.length_cons, List.length_nil, Nat.zero_add, Nat.reduceAdd, if_pos (q_lim 0 (by decide)), if_pos (q_lim 1 (by decide)), if_pos (q_lim 2 (by decide)), if_pos (q_lim 3 (by decide)), if_pos (q_lim 4 (by decide)), q_add, q_sub, q_le, q_lt, q_ge, q_gt, eq_ints, ne_ints, q_lenI, q_bl1, q_bl2, q_btp1, q_btp2, then_ok, q_setV, q_setVr, obind_next, obind_ret, List.set, if_true, Bool.not_true, Bool.not_false, q_isN, beqt, q_tgs1, q_w1, q_w0, q_isN0, decide_eq_false (hr (t + 1)), show (true == false) = false from rfl]
      · simp -implicitDefEqProofs only [q_c, q_v, q_fn, q_bin, q_neg, q_nt, q_cmp, q_chain, q_isN, q_and, q_or, q_ifx, q_tup, q_lst, q_ix, q_sl, q_prt_nop, q_prt_v, q_prt_c, q_prt_bin, q_prt_neg, q_prt_bi, q_prt_call, q_rev, q_call, q_callK, q_bi, q_isI, q_mut_lst, q_md, q_nil, q_cons, q_get0, q_getS, q_ofO, bind_ok, q_truth_b, q_truth_i, q_dat, q_dats0, q_dats1, q_biP0, q_biP1, q_biP2, Option.map, partOf, List.length_cons, List.length_nil, Nat.zero_add, Nat.reduceAdd, if_pos (q_lim 0 (by decide)), if_pos (q_lim 1 (by decide)), if_pos (q_lim 2 (by decide)), if_pos (q_lim 3 (by decide)), if_pos (q_lim 4 (by decide)), q_add, q_sub, q_le, q_lt, q_ge, q_gt, eq_ints, ne_ints, q_lenI, q_bl1, q_bl2, q_btp1, q_btp2, then_ok, q_setV, q_setVr, obind_next, obind_ret, List.set, if_true, Bool.not_true, Bool.not_false, q_isN, beqt, q_tgs1, q_w1, q_w0, q_isN1, show (false == false) = true from rfl]
        have : decide ((J : Int) ≤ ((t + 1 : Nat) : Int)) = decide (tellsP xs (t + 1)) := decide_eq_decide.mpr (by rw [hr (t + 1) (by omega)]; omega)
        rw [this]⟩
  have sdl : SD 200 1 (.list ((List.range 6).map fun (t : Nat) => PyData.bool (decide (tellsP xs (t + 1))))) := (SD.lst (L := 10) (d := 0) fun x hx => by
    obtain ⟨t, _, rfl⟩ := List.mem_map.mp hx
    exact SD.bool _).up (by simp) (by omega)
  have a40l := t40 _ _ _ h2 sdl (by decide) (by decide)
  have a40t := t40 _ _ _ h2 (SD.bool (decide (tellsP xs w))) (by decide) (by decide)
  have ixt : ixD (.list ((List.range 6).map fun (t : Nat) => PyData.bool (decide (tellsP xs (t + 1))))) (.int ((w - 1 : Nat) : Int)) = some (.bool (decide (tellsP xs w))) := by
    show atD _ _ = _
    rw [at_nat (by simp; omega), List.getElem_map, List.getElem_range, show w - 1 + 1 = w by omega]
  have a36 := t36 s xs w h2 rg w1 w6
  have ess := sset_ok (rowsW_sort (w := w) rg w1)
  -- gone twice
  have rD : Rg s (xs ++ xs) := ⟨rg.lo, rg.hi, fun x hx => (List.mem_append.mp hx).elim (rg.mks x) (rg.mks x), by rw [List.length_append]; omega, by rw [List.length_append]; omega⟩
  have a25d : (sem Pr (n + 12)).call 25 [.d (.int s), .d (tupI (xs ++ xs))] h2 = .ok (.d .none) h2 := by
    obtain ⟨r', hr', e⟩ := t25 s (xs ++ xs) h2 rD
    rw [e]
    rcases hr' with ⟨rfl, _⟩ | ⟨J, rfl, j1, hr'⟩
    · rfl
    · exact absurd ((hr' J j1).mpr (Nat.le_refl _)) (tells_twice one J)
  have a27d := tl (xs ++ xs) s rD (true_twice one hT)
  have a27 := tl xs s rg hT
  have md : binD .Mult (tupI xs) (.int 2) = some (tupI (xs ++ xs)) := by
    have := mulI0 (xs := xs) (q := 2) one (by omega) (by decide)
    rw [show ((2 : Nat) : Int) = 2 from rfl] at this
    rw [this]
    simp [List.replicate]
  have fin : (decide ((K : Int) = (xs.length : Int)) == (isNone (.d r) == false)) = true := by
    have := own_iff one hT hr
    cases hn : isNone (.d r) with
    | true =>
      have : ¬ (K : Int) = (xs.length : Int) := fun z => by
        have := this.mp (by omega)
        rw [hn] at this
        cases this
      rw [decide_eq_false this]
      rfl
    | false =>
      have : (K : Int) = (xs.length : Int) := by have := this.mpr hn; omega
      rw [decide_eq_true this]
      rfl
  have kO : ∀ v0 v3 v4 v5 v6 v7 v8 v9 v11 v12 v13 : Option Val, ev (sem Pr (n + 12)) [v0, some (.d (.int s)), some (.d (tupI xs)), v3, v4, v5, v6, v7, v8, v9, none, v11, v12, v13] (.bi .tuple [(.lc .val [(.v 2)] (.one 10) .nop (.bin .Sub (.bin .Sub (.v 1) (.c (.int 1))) (.v 10)))]) h2 = .ok (.d (tupI O)) h2 := fun v0 v3 v4 v5 v6 v7 v8 v9 v11 v12 v13 => by
    have key := lc_map (C := sem Pr (n + 12)) (env := [v0, some (.d (.int s)), some (.d (tupI xs)), v3, v4, v5, v6, v7, v8, v9, none, v11, v12, v13]) (k := .val) (its := [(.v 2)]) (tg := .one 10) (elt := (.bin .Sub (.bin .Sub (.v 1) (.c (.int 1))) (.v 10))) (h := h2) (vs := [.d (tupI xs)]) (ds := [tupI xs]) (ts := xs) PyData.int (fun x => PyData.int (s - 1 - x)) (by simp) (by simp) rfl (by omega) fun x hx h' => ⟨_, rfl, by simp -implicitDefEqProofs only [q_c, q_v, q_fn, q_bin, q_neg, q_nt, q_cmp, q_chain, q_isN, q_and, q_or, q_ifx, q_tup, q_lst, q_ix, q_sl, q_prt_nop, q_prt_v, q_prt_c, q_prt_bin, q_prt_neg, q_prt_bi, q_prt_call, q_rev, q_call, q_callK, q_bi, q_isI, q_mut_lst, q_md, q_nil, q_cons, q_get0, q_getS, q_ofO, bind_ok, q_truth_b, q_truth_i, q_dat, q_dats0, q_dats1, q_biP0, q_biP1, q_biP2, Option.map, partOf, List.length_cons, List.length_nil, Nat.zero_add, Nat.reduceAdd, if_pos (q_lim 0 (by decide)), if_pos (q_lim 1 (by decide)), if_pos (q_lim 2 (by decide)), if_pos (q_lim 3 (by decide)), if_pos (q_lim 4 (by decide)), q_add, q_sub, q_le, q_lt, q_ge, q_gt, eq_ints, ne_ints, q_lenI, q_bl1, q_bl2, q_btp1, q_btp2, then_ok, q_setV, q_setVr, obind_next, obind_ret, List.set, if_true, Bool.not_true, Bool.not_false, q_isN, beqt, q_tgs1, q_w1, q_w0]⟩
    have emap : xs.map (fun x => PyData.int (s - 1 - x)) = O.map .int := by
      rw [← hO, List.map_map]
      rfl
    rw [emap] at key
    rw [q_bi, q_cons, key]
    simp -implicitDefEqProofs only [q_c, q_v, q_fn, q_bin, q_neg, q_nt, q_cmp, q_chain, q_isN, q_and, q_or, q_ifx, q_tup, q_lst, q_ix, q_sl, q_prt_nop, q_prt_v, q_prt_c, q_prt_bin, q_prt_neg, q_prt_bi, q_prt_call, q_rev, q_call, q_callK, q_bi, q_isI, q_mut_lst, q_md, q_nil, q_cons, q_get0, q_getS, q_ofO, bind_ok, q_truth_b, q_truth_i, q_dat, q_dats0, q_dats1, q_biP0, q_biP1, q_biP2, Option.map, partOf, List.length_cons, List.length_nil, Nat.zero_add, Nat.reduceAdd, if_pos (q_lim 0 (by decide)), if_pos (q_lim 1 (by decide)), if_pos (q_lim 2 (by decide)), if_pos (q_lim 3 (by decide)), if_pos (q_lim 4 (by decide)), q_add, q_sub, q_le, q_lt, q_ge, q_gt, eq_ints, ne_ints, q_lenI, q_bl1, q_bl2, q_btp1, q_btp2, then_ok, q_setV, q_setVr, obind_next, obind_ret, List.set, if_true, Bool.not_true, Bool.not_false, q_isN, beqt]
    rfl
  refine ⟨h2, drA, (callR (g := 48) (f := f48) rfl (env := [some (.ref m), some (.d (.int s)), some (.d (tupI xs)), none, none, none, none, none, none, none, none, none, none, none]) (o := .ret (.d (.bool true)) h2) rfl rfl ?_).trans (by rw [q_fin, drA.take])⟩
  unfold f48
  rw [q_exs1, q_setT]
  simp -implicitDefEqProofs only [q_c, q_v, q_fn, q_bin, q_neg, q_nt, q_cmp, q_chain, q_isN, q_and, q_or, q_ifx, q_tup, q_lst, q_ix, q_sl, q_prt_nop, q_prt_v, q_prt_c, q_prt_bin, q_prt_neg, q_prt_bi, q_prt_call, q_rev, q_call, q_callK, q_bi, q_isI, q_mut_lst, q_md, q_nil, q_cons, q_get0, q_getS, q_ofO, bind_ok, q_truth_b, q_truth_i, q_dat, q_dats0, q_dats1, q_biP0, q_biP1, q_biP2, Option.map, partOf, List.length_cons, List.length_nil, Nat.zero_add, Nat.reduceAdd, if_pos (q_lim 0 (by decide)), if_pos (q_lim 1 (by decide)), if_pos (q_lim 2 (by decide)), if_pos (q_lim 3 (by decide)), if_pos (q_lim 4 (by decide)), q_add, q_sub, q_le, q_lt, q_ge, q_gt, eq_ints, ne_ints, q_lenI, q_bl1, q_bl2, q_btp1, q_btp2, then_ok, q_setV, q_setVr, obind_next, obind_ret, List.set, if_true, Bool.not_true, Bool.not_false, q_isN, beqt, e1, e2, ew, e3, q_st1, q_st0]
  rw [q_exs1, q_par]
  simp -implicitDefEqProofs only [q_c, q_v, q_fn, q_bin, q_neg, q_nt, q_cmp, q_chain, q_isN, q_and, q_or, q_ifx, q_tup, q_lst, q_ix, q_sl, q_prt_nop, q_prt_v, q_prt_c, q_prt_bin, q_prt_neg, q_prt_bi, q_prt_call, q_rev, q_call, q_callK, q_bi, q_isI, q_mut_lst, q_md, q_nil, q_cons, q_get0, q_getS, q_ofO, bind_ok, q_truth_b, q_truth_i, q_dat, q_dats0, q_dats1, q_biP0, q_biP1, q_biP2, Option.map, partOf, List.length_cons, List.length_nil, Nat.zero_add, Nat.reduceAdd, if_pos (q_lim 0 (by decide)), if_pos (q_lim 1 (by decide)), if_pos (q_lim 2 (by decide)), if_pos (q_lim 3 (by decide)), if_pos (q_lim 4 (by decide)), q_add, q_sub, q_le, q_lt, q_ge, q_gt, eq_ints, ne_ints, q_lenI, q_bl1, q_bl2, q_btp1, q_btp2, then_ok, q_setV, q_setVr, obind_next, obind_ret, List.set, if_true, Bool.not_true, Bool.not_false, q_isN, beqt, slI_to, slI_from, addI (xs := xs.drop k) (ys := xs.take k) (by rw [List.length_drop, List.length_take]; omega), hTT, a43, q_sv1, q_sv0]
  rw [q_exs1, q_set]
  simp -implicitDefEqProofs only [q_c, q_v, q_fn, q_bin, q_neg, q_nt, q_cmp, q_chain, q_isN, q_and, q_or, q_ifx, q_tup, q_lst, q_ix, q_sl, q_prt_nop, q_prt_v, q_prt_c, q_prt_bin, q_prt_neg, q_prt_bi, q_prt_call, q_rev, q_call, q_callK, q_bi, q_isI, q_mut_lst, q_md, q_nil, q_cons, q_get0, q_getS, q_ofO, bind_ok, q_truth_b, q_truth_i, q_dat, q_dats0, q_dats1, q_biP0, q_biP1, q_biP2, Option.map, partOf, List.length_cons, List.length_nil, Nat.zero_add, Nat.reduceAdd, if_pos (q_lim 0 (by decide)), if_pos (q_lim 1 (by decide)), if_pos (q_lim 2 (by decide)), if_pos (q_lim 3 (by decide)), if_pos (q_lim 4 (by decide)), q_add, q_sub, q_le, q_lt, q_ge, q_gt, eq_ints, ne_ints, q_lenI, q_bl1, q_bl2, q_btp1, q_btp2, then_ok, q_setV, q_setVr, obind_next, obind_ret, List.set, if_true, Bool.not_true, Bool.not_false, q_isN, beqt, a23, a26]
  rw [q_exs1, q_ite]
  simp -implicitDefEqProofs only [q_c, q_v, q_fn, q_bin, q_neg, q_nt, q_cmp, q_chain, q_isN, q_and, q_or, q_ifx, q_tup, q_lst, q_ix, q_sl, q_prt_nop, q_prt_v, q_prt_c, q_prt_bin, q_prt_neg, q_prt_bi, q_prt_call, q_rev, q_call, q_callK, q_bi, q_isI, q_mut_lst, q_md, q_nil, q_cons, q_get0, q_getS, q_ofO, bind_ok, q_truth_b, q_truth_i, q_dat, q_dats0, q_dats1, q_biP0, q_biP1, q_biP2, Option.map, partOf, List.length_cons, List.length_nil, Nat.zero_add, Nat.reduceAdd, if_pos (q_lim 0 (by decide)), if_pos (q_lim 1 (by decide)), if_pos (q_lim 2 (by decide)), if_pos (q_lim 3 (by decide)), if_pos (q_lim 4 (by decide)), q_add, q_sub, q_le, q_lt, q_ge, q_gt, eq_ints, ne_ints, q_lenI, q_bl1, q_bl2, q_btp1, q_btp2, then_ok, q_setV, q_setVr, obind_next, obind_ret, List.set, if_true, Bool.not_true, Bool.not_false, q_isN, beqt, slV_fromK, slV_toK, addL (A := (rowsW xs w).drop k) (B := (rowsW xs w).take k) (by rw [List.length_drop, List.length_take]; omega), a46, m2, a40a, q_exs0]
  rw [q_exs1, q_set, kO]
  simp -implicitDefEqProofs only [q_c, q_v, q_fn, q_bin, q_neg, q_nt, q_cmp, q_chain, q_isN, q_and, q_or, q_ifx, q_tup, q_lst, q_ix, q_sl, q_prt_nop, q_prt_v, q_prt_c, q_prt_bin, q_prt_neg, q_prt_bi, q_prt_call, q_rev, q_call, q_callK, q_bi, q_isI, q_mut_lst, q_md, q_nil, q_cons, q_get0, q_getS, q_ofO, bind_ok, q_truth_b, q_truth_i, q_dat, q_dats0, q_dats1, q_biP0, q_biP1, q_biP2, Option.map, partOf, List.length_cons, List.length_nil, Nat.zero_add, Nat.reduceAdd, if_pos (q_lim 0 (by decide)), if_pos (q_lim 1 (by decide)), if_pos (q_lim 2 (by decide)), if_pos (q_lim 3 (by decide)), if_pos (q_lim 4 (by decide)), q_add, q_sub, q_le, q_lt, q_ge, q_gt, eq_ints, ne_ints, q_lenI, q_bl1, q_bl2, q_btp1, q_btp2, then_ok, q_setV, q_setVr, obind_next, obind_ret, List.set, if_true, Bool.not_true, Bool.not_false, q_isN, beqt]
  obtain ⟨env', h3, ef, u8, u11, rfl, rfl⟩ := for_inv (tg := .one 11) (body := fun env h => exs (sem Pr (n + 12)) Pr.wf env [(.set 8 (.lst [(.call 25 [(.v 1), (.v 11)]), (.call 31 [(.v 1), (.v 11), (.v 4)])])), (.ite (.nt (.call 40 [(.v 8), (.lst [(.v 5), (.call 31 [(.v 1), (.v 2), (.v 4)])])])) [(.ret (.c (.bool false)))] []), (.ite (.nt (.call 40 [(.call 27 [(.v 1), (.v 11)]), (.call 47 [(.v 2)])])) [(.ret (.c (.bool false)))] [])] h) (items := [tupI xs, tupI T, tupI xs.reverse, tupI O]) (h := h2)
    (env := [some (.ref m), some (.d (.int s)), some (.d (tupI xs)), some (.d (.int (k : Int))), some (.d (.int (w : Int))), some (.d r), some (.d (tupI T)), some (.d (tupL (rowsW xs w))), some (.d (.list [tupL ((rowsW xs w).drop k ++ (rowsW xs w).take k), tupI mm])), some (.d (tupI O)), none, none, none, none])
    (I := fun env h' => ∃ u8 u11, h' = h2 ∧ env = [some (.ref m), some (.d (.int s)), some (.d (tupI xs)), some (.d (.int (k : Int))), some (.d (.int (w : Int))), some (.d r), some (.d (tupI T)), some (.d (tupL (rowsW xs w))), u8, some (.d (tupI O)), none, u11, none, none]) ⟨_, _, rfl, rfl⟩ (by
    intro x hx env h' ⟨u8, u11, eh, ee⟩
    subst eh ee
    obtain ⟨q, rfl, hq⟩ : ∃ q, x = tupI q ∧ q ∈ [xs, T, xs.reverse, O] := by
      simp only [List.mem_cons, List.not_mem_nil, or_false] at hx
      rcases hx with hx | hx | hx | hx
      · exact ⟨_, hx, by simp⟩
      · exact ⟨_, hx, by simp⟩
      · exact ⟨_, hx, by simp⟩
      · exact ⟨_, hx, by simp⟩
    obtain ⟨rq, ht, hK, hA⟩ := all q hq
    have b31 := t31 s w q h' rq w1 w6
    rw [hA] at b31
    refine ⟨_, [some (.ref m), some (.d (.int s)), some (.d (tupI xs)), some (.d (.int (k : Int))), some (.d (.int (w : Int))), some (.d r), some (.d (tupI T)), some (.d (tupL (rowsW xs w))), some (.d (.list [r, leastD (aparts xs w)])), some (.d (tupI O)), none, some (.d (tupI q)), none, none], h', rfl, ?_, _, _, rfl, rfl⟩
    rw [q_exs1, q_set]
    simp -implicitDefEqProofs only [q_c, q_v, q_fn, q_bin, q_neg, q_nt, q_cmp, q_chain, q_isN, q_and, q_or, q_ifx, q_tup, q_lst, q_ix, q_sl, q_prt_nop, q_prt_v, q_prt_c, q_prt_bin, q_prt_neg, q_prt_bi, q_prt_call, q_rev, q_call, q_callK, q_bi, q_isI, q_mut_lst, q_md, q_nil, q_cons, q_get0, q_getS, q_ofO, bind_ok, q_truth_b, q_truth_i, q_dat, q_dats0, q_dats1, q_biP0, q_biP1, q_biP2, Option.map, partOf, List.length_cons, List.length_nil, Nat.zero_add, Nat.reduceAdd, if_pos (q_lim 0 (by decide)), if_pos (q_lim 1 (by decide)), if_pos (q_lim 2 (by decide)), if_pos (q_lim 3 (by decide)), if_pos (q_lim 4 (by decide)), q_add, q_sub, q_le, q_lt, q_ge, q_gt, eq_ints, ne_ints, q_lenI, q_bl1, q_bl2, q_btp1, q_btp2, then_ok, q_setV, q_setVr, obind_next, obind_ret, List.set, if_true, Bool.not_true, Bool.not_false, q_isN, beqt, lw q s rq ht, b31]
    rw [q_exs1, q_ite]
    simp -implicitDefEqProofs only [q_c, q_v, q_fn, q_bin, q_neg, q_nt, q_cmp, q_chain, q_isN, q_and, q_or, q_ifx, q_tup, q_lst, q_ix, q_sl, q_prt_nop, q_prt_v, q_prt_c, q_prt_bin, q_prt_neg, q_prt_bi, q_prt_call, q_rev, q_call, q_callK, q_bi, q_isI, q_mut_lst, q_md, q_nil, q_cons, q_get0, q_getS, q_ofO, bind_ok, q_truth_b, q_truth_i, q_dat, q_dats0, q_dats1, q_biP0, q_biP1, q_biP2, Option.map, partOf, List.length_cons, List.length_nil, Nat.zero_add, Nat.reduceAdd, if_pos (q_lim 0 (by decide)), if_pos (q_lim 1 (by decide)), if_pos (q_lim 2 (by decide)), if_pos (q_lim 3 (by decide)), if_pos (q_lim 4 (by decide)), q_add, q_sub, q_le, q_lt, q_ge, q_gt, eq_ints, ne_ints, q_lenI, q_bl1, q_bl2, q_btp1, q_btp2, then_ok, q_setV, q_setVr, obind_next, obind_ret, List.set, if_true, Bool.not_true, Bool.not_false, q_isN, beqt, a31, a40b, q_exs0]
    rw [q_exs1, q_ite]
    simp -implicitDefEqProofs only [q_c, q_v, q_fn, q_bin, q_neg, q_nt, q_cmp, q_chain, q_isN, q_and, q_or, q_ifx, q_tup, q_lst, q_ix, q_sl, q_prt_nop, q_prt_v, q_prt_c, q_prt_bin, q_prt_neg, q_prt_bi, q_prt_call, q_rev, q_call, q_callK, q_bi, q_isI, q_mut_lst, q_md, q_nil, q_cons, q_get0, q_getS, q_ofO, bind_ok, q_truth_b, q_truth_i, q_dat, q_dats0, q_dats1, q_biP0, q_biP1, q_biP2, Option.map, partOf, List.length_cons, List.length_nil, Nat.zero_add, Nat.reduceAdd, if_pos (q_lim 0 (by decide)), if_pos (q_lim 1 (by decide)), if_pos (q_lim 2 (by decide)), if_pos (q_lim 3 (by decide)), if_pos (q_lim 4 (by decide)), q_add, q_sub, q_le, q_lt, q_ge, q_gt, eq_ints, ne_ints, q_lenI, q_bl1, q_bl2, q_btp1, q_btp2, then_ok, q_setV, q_setVr, obind_next, obind_ret, List.set, if_true, Bool.not_true, Bool.not_false, q_isN, beqt, tl q s rq hK, a47, a40c, q_exs0])
  rw [q_exs1, q_for]
  have erev : PyData.tuple (xs.map PyData.int).reverse = tupI xs.reverse := by
    rw [← List.map_reverse]
    rfl
  have erv : ∀ env hh, getS env 2 = some (.d (tupI xs)) → ev (sem Pr (n + 12)) env (.rev (.v 2)) hh = .ok (.d (tupI xs.reverse)) hh := fun env hh ev => rev_tupI _ _ _ _ _ (by rw [q_v, ev, q_ofO])
  have eit : evs (sem Pr (n + 12)) [some (.ref m), some (.d (.int s)), some (.d (tupI xs)), some (.d (.int (k : Int))), some (.d (.int (w : Int))), some (.d r), some (.d (tupI T)), some (.d (tupL (rowsW xs w))), some (.d (.list [tupL ((rowsW xs w).drop k ++ (rowsW xs w).take k), tupI mm])), some (.d (tupI O)), none, none, none, none] [(.lst [(.v 2), (.v 6), (.rev (.v 2)), (.v 9)])] h3 = .ok [.d (.list [tupI xs, tupI T, tupI xs.reverse, tupI O])] h3 := by
    have rev2 : ∀ hh, ev (sem Pr (n + 12)) [some (.ref m), some (.d (.int s)), some (.d (tupI xs)), some (.d (.int (k : Int))), some (.d (.int (w : Int))), some (.d r), some (.d (tupI T)), some (.d (tupL (rowsW xs w))), some (.d (.list [tupL ((rowsW xs w).drop k ++ (rowsW xs w).take k), tupI mm])), some (.d (tupI O)), none, none, none, none] (.rev (.v 2)) hh = .ok (.d (tupI xs.reverse)) hh := fun hh => erv _ hh rfl
    simp -implicitDefEqProofs only [q_cons, q_nil, q_lst, q_v, rev2, q_get0, q_getS, q_ofO, bind_ok, q_dats1, q_dats0, Option.map, List.length_cons, List.length_nil, Nat.zero_add, Nat.reduceAdd, if_pos (q_lim 4 (by decide))]
  rw [eit]
  simp -implicitDefEqProofs only [q_c, q_v, q_fn, q_bin, q_neg, q_nt, q_cmp, q_chain, q_isN, q_and, q_or, q_ifx, q_tup, q_lst, q_ix, q_sl, q_prt_nop, q_prt_v, q_prt_c, q_prt_bin, q_prt_neg, q_prt_bi, q_prt_call, q_rev, q_call, q_callK, q_bi, q_isI, q_mut_lst, q_md, q_nil, q_cons, q_get0, q_getS, q_ofO, bind_ok, q_truth_b, q_truth_i, q_dat, q_dats0, q_dats1, q_biP0, q_biP1, q_biP2, Option.map, partOf, List.length_cons, List.length_nil, Nat.zero_add, Nat.reduceAdd, if_pos (q_lim 0 (by decide)), if_pos (q_lim 1 (by decide)), if_pos (q_lim 2 (by decide)), if_pos (q_lim 3 (by decide)), if_pos (q_lim 4 (by decide)), q_add, q_sub, q_le, q_lt, q_ge, q_gt, eq_ints, ne_ints, q_lenI, q_bl1, q_bl2, q_btp1, q_btp2, then_ok, q_setV, q_setVr, obind_next, obind_ret, List.set, if_true, Bool.not_true, Bool.not_false, q_isN, beqt, q_itr, itemsD, ef]
  rw [q_exs1, q_ite]
  have c7 : ev (sem Pr (n + 12)) [some (.ref m), some (.d (.int s)), some (.d (tupI xs)), some (.d (.int (k : Int))), some (.d (.int (w : Int))), some (.d r), some (.d (tupI T)), some (.d (tupL (rowsW xs w))), u8, some (.d (tupI O)), none, u11, none, none] (.and_ (.cmp .Lt (.v 1) (.c (.int 4))) (.nt (.call 40 [(.call 25 [(.bin .Add (.v 1) (.c (.int 1))), (.v 2)]), (.v 5)]))) h3 = .ok (.d (.bool false)) h3 := by
    by_cases h4 : s < 4
    · have rq : Rg (s + 1) xs := ⟨by have := rg.lo; omega, by omega, fun x hx => by have := rg.mks x hx; omega, one, by omega⟩
      simp -implicitDefEqProofs only [q_c, q_v, q_fn, q_bin, q_neg, q_nt, q_cmp, q_chain, q_isN, q_and, q_or, q_ifx, q_tup, q_lst, q_ix, q_sl, q_prt_nop, q_prt_v, q_prt_c, q_prt_bin, q_prt_neg, q_prt_bi, q_prt_call, q_rev, q_call, q_callK, q_bi, q_isI, q_mut_lst, q_md, q_nil, q_cons, q_get0, q_getS, q_ofO, bind_ok, q_truth_b, q_truth_i, q_dat, q_dats0, q_dats1, q_biP0, q_biP1, q_biP2, Option.map, partOf, List.length_cons, List.length_nil, Nat.zero_add, Nat.reduceAdd, if_pos (q_lim 0 (by decide)), if_pos (q_lim 1 (by decide)), if_pos (q_lim 2 (by decide)), if_pos (q_lim 3 (by decide)), if_pos (q_lim 4 (by decide)), q_add, q_sub, q_le, q_lt, q_ge, q_gt, eq_ints, ne_ints, q_lenI, q_bl1, q_bl2, q_btp1, q_btp2, then_ok, q_setV, q_setVr, obind_next, obind_ret, List.set, if_true, Bool.not_true, Bool.not_false, q_isN, beqt, decide_eq_true h4, lw xs (s + 1) rq (fun _ => Iff.rfl), a40r]
    · simp -implicitDefEqProofs only [q_c, q_v, q_fn, q_bin, q_neg, q_nt, q_cmp, q_chain, q_isN, q_and, q_or, q_ifx, q_tup, q_lst, q_ix, q_sl, q_prt_nop, q_prt_v, q_prt_c, q_prt_bin, q_prt_neg, q_prt_bi, q_prt_call, q_rev, q_call, q_callK, q_bi, q_isI, q_mut_lst, q_md, q_nil, q_cons, q_get0, q_getS, q_ofO, bind_ok, q_truth_b, q_truth_i, q_dat, q_dats0, q_dats1, q_biP0, q_biP1, q_biP2, Option.map, partOf, List.length_cons, List.length_nil, Nat.zero_add, Nat.reduceAdd, if_pos (q_lim 0 (by decide)), if_pos (q_lim 1 (by decide)), if_pos (q_lim 2 (by decide)), if_pos (q_lim 3 (by decide)), if_pos (q_lim 4 (by decide)), q_add, q_sub, q_le, q_lt, q_ge, q_gt, eq_ints, ne_ints, q_lenI, q_bl1, q_bl2, q_btp1, q_btp2, then_ok, q_setV, q_setVr, obind_next, obind_ret, List.set, if_true, Bool.not_true, Bool.not_false, q_isN, beqt, decide_eq_false h4]
  rw [c7]
  simp -implicitDefEqProofs only [q_c, q_v, q_fn, q_bin, q_neg, q_nt, q_cmp, q_chain, q_isN, q_and, q_or, q_ifx, q_tup, q_lst, q_ix, q_sl, q_prt_nop, q_prt_v, q_prt_c, q_prt_bin, q_prt_neg, q_prt_bi, q_prt_call, q_rev, q_call, q_callK, q_bi, q_isI, q_mut_lst, q_md, q_nil, q_cons, q_get0, q_getS, q_ofO, bind_ok, q_truth_b, q_truth_i, q_dat, q_dats0, q_dats1, q_biP0, q_biP1, q_biP2, Option.map, partOf, List.length_cons, List.length_nil, Nat.zero_add, Nat.reduceAdd, if_pos (q_lim 0 (by decide)), if_pos (q_lim 1 (by decide)), if_pos (q_lim 2 (by decide)), if_pos (q_lim 3 (by decide)), if_pos (q_lim 4 (by decide)), q_add, q_sub, q_le, q_lt, q_ge, q_gt, eq_ints, ne_ints, q_lenI, q_bl1, q_bl2, q_btp1, q_btp2, then_ok, q_setV, q_setVr, obind_next, obind_ret, List.set, if_true, Bool.not_true, Bool.not_false, q_isN, beqt, q_exs0]
  rw [q_exs1, q_set, ktells]
  simp -implicitDefEqProofs only [q_c, q_v, q_fn, q_bin, q_neg, q_nt, q_cmp, q_chain, q_isN, q_and, q_or, q_ifx, q_tup, q_lst, q_ix, q_sl, q_prt_nop, q_prt_v, q_prt_c, q_prt_bin, q_prt_neg, q_prt_bi, q_prt_call, q_rev, q_call, q_callK, q_bi, q_isI, q_mut_lst, q_md, q_nil, q_cons, q_get0, q_getS, q_ofO, bind_ok, q_truth_b, q_truth_i, q_dat, q_dats0, q_dats1, q_biP0, q_biP1, q_biP2, Option.map, partOf, List.length_cons, List.length_nil, Nat.zero_add, Nat.reduceAdd, if_pos (q_lim 0 (by decide)), if_pos (q_lim 1 (by decide)), if_pos (q_lim 2 (by decide)), if_pos (q_lim 3 (by decide)), if_pos (q_lim 4 (by decide)), q_add, q_sub, q_le, q_lt, q_ge, q_gt, eq_ints, ne_ints, q_lenI, q_bl1, q_bl2, q_btp1, q_btp2, then_ok, q_setV, q_setVr, obind_next, obind_ret, List.set, if_true, Bool.not_true, Bool.not_false, q_isN, beqt]
  rw [q_exs1, q_ite, q_nt, q_call, q_cons, q_v]
  simp -implicitDefEqProofs only [q_get0, q_getS, q_ofO, bind_ok]
  rw [q_cons, kdue]
  simp -implicitDefEqProofs only [q_c, q_v, q_fn, q_bin, q_neg, q_nt, q_cmp, q_chain, q_isN, q_and, q_or, q_ifx, q_tup, q_lst, q_ix, q_sl, q_prt_nop, q_prt_v, q_prt_c, q_prt_bin, q_prt_neg, q_prt_bi, q_prt_call, q_rev, q_call, q_callK, q_bi, q_isI, q_mut_lst, q_md, q_nil, q_cons, q_get0, q_getS, q_ofO, bind_ok, q_truth_b, q_truth_i, q_dat, q_dats0, q_dats1, q_biP0, q_biP1, q_biP2, Option.map, partOf, List.length_cons, List.length_nil, Nat.zero_add, Nat.reduceAdd, if_pos (q_lim 0 (by decide)), if_pos (q_lim 1 (by decide)), if_pos (q_lim 2 (by decide)), if_pos (q_lim 3 (by decide)), if_pos (q_lim 4 (by decide)), q_add, q_sub, q_le, q_lt, q_ge, q_gt, eq_ints, ne_ints, q_lenI, q_bl1, q_bl2, q_btp1, q_btp2, then_ok, q_setV, q_setVr, obind_next, obind_ret, List.set, if_true, Bool.not_true, Bool.not_false, q_isN, beqt, a40l, q_exs0]
  rw [q_exs1, q_set]
  simp -implicitDefEqProofs only [q_c, q_v, q_fn, q_bin, q_neg, q_nt, q_cmp, q_chain, q_isN, q_and, q_or, q_ifx, q_tup, q_lst, q_ix, q_sl, q_prt_nop, q_prt_v, q_prt_c, q_prt_bin, q_prt_neg, q_prt_bi, q_prt_call, q_rev, q_call, q_callK, q_bi, q_isI, q_mut_lst, q_md, q_nil, q_cons, q_get0, q_getS, q_ofO, bind_ok, q_truth_b, q_truth_i, q_dat, q_dats0, q_dats1, q_biP0, q_biP1, q_biP2, Option.map, partOf, List.length_cons, List.length_nil, Nat.zero_add, Nat.reduceAdd, if_pos (q_lim 0 (by decide)), if_pos (q_lim 1 (by decide)), if_pos (q_lim 2 (by decide)), if_pos (q_lim 3 (by decide)), if_pos (q_lim 4 (by decide)), q_add, q_sub, q_le, q_lt, q_ge, q_gt, eq_ints, ne_ints, q_lenI, q_bl1, q_bl2, q_btp1, q_btp2, then_ok, q_setV, q_setVr, obind_next, obind_ret, List.set, if_true, Bool.not_true, Bool.not_false, q_isN, beqt, q_sset, ess]
  have ew1 : (w : Int) - 1 = ((w - 1 : Nat) : Int) := by omega
  rw [q_exs1, q_ite]
  simp -implicitDefEqProofs only [q_c, q_v, q_fn, q_bin, q_neg, q_nt, q_cmp, q_chain, q_isN, q_and, q_or, q_ifx, q_tup, q_lst, q_ix, q_sl, q_prt_nop, q_prt_v, q_prt_c, q_prt_bin, q_prt_neg, q_prt_bi, q_prt_call, q_rev, q_call, q_callK, q_bi, q_isI, q_mut_lst, q_md, q_nil, q_cons, q_get0, q_getS, q_ofO, bind_ok, q_truth_b, q_truth_i, q_dat, q_dats0, q_dats1, q_biP0, q_biP1, q_biP2, Option.map, partOf, List.length_cons, List.length_nil, Nat.zero_add, Nat.reduceAdd, if_pos (q_lim 0 (by decide)), if_pos (q_lim 1 (by decide)), if_pos (q_lim 2 (by decide)), if_pos (q_lim 3 (by decide)), if_pos (q_lim 4 (by decide)), q_add, q_sub, q_le, q_lt, q_ge, q_gt, eq_ints, ne_ints, q_lenI, q_bl1, q_bl2, q_btp1, q_btp2, then_ok, q_setV, q_setVr, obind_next, obind_ret, List.set, if_true, Bool.not_true, Bool.not_false, q_isN, beqt, a36, ew1, ixt, a40t, q_exs0]
  rw [q_exs1, q_ite]
  simp -implicitDefEqProofs only [q_c, q_v, q_fn, q_bin, q_neg, q_nt, q_cmp, q_chain, q_isN, q_and, q_or, q_ifx, q_tup, q_lst, q_ix, q_sl, q_prt_nop, q_prt_v, q_prt_c, q_prt_bin, q_prt_neg, q_prt_bi, q_prt_call, q_rev, q_call, q_callK, q_bi, q_isI, q_mut_lst, q_md, q_nil, q_cons, q_get0, q_getS, q_ofO, bind_ok, q_truth_b, q_truth_i, q_dat, q_dats0, q_dats1, q_biP0, q_biP1, q_biP2, Option.map, partOf, List.length_cons, List.length_nil, Nat.zero_add, Nat.reduceAdd, if_pos (q_lim 0 (by decide)), if_pos (q_lim 1 (by decide)), if_pos (q_lim 2 (by decide)), if_pos (q_lim 3 (by decide)), if_pos (q_lim 4 (by decide)), q_add, q_sub, q_le, q_lt, q_ge, q_gt, eq_ints, ne_ints, q_lenI, q_bl1, q_bl2, q_btp1, q_btp2, then_ok, q_setV, q_setVr, obind_next, obind_ret, List.set, if_true, Bool.not_true, Bool.not_false, q_isN, beqt, md, a25d, q_isN0, a27d, a27, decide_true, show (true == false) = false from rfl, q_exs0]
  rw [q_exs1, q_ret]
  simp -implicitDefEqProofs only [q_c, q_v, q_fn, q_bin, q_neg, q_nt, q_cmp, q_chain, q_isN, q_and, q_or, q_ifx, q_tup, q_lst, q_ix, q_sl, q_prt_nop, q_prt_v, q_prt_c, q_prt_bin, q_prt_neg, q_prt_bi, q_prt_call, q_rev, q_call, q_callK, q_bi, q_isI, q_mut_lst, q_md, q_nil, q_cons, q_get0, q_getS, q_ofO, bind_ok, q_truth_b, q_truth_i, q_dat, q_dats0, q_dats1, q_biP0, q_biP1, q_biP2, Option.map, partOf, List.length_cons, List.length_nil, Nat.zero_add, Nat.reduceAdd, if_pos (q_lim 0 (by decide)), if_pos (q_lim 1 (by decide)), if_pos (q_lim 2 (by decide)), if_pos (q_lim 3 (by decide)), if_pos (q_lim 4 (by decide)), q_add, q_sub, q_le, q_lt, q_ge, q_gt, eq_ints, ne_ints, q_lenI, q_bl1, q_bl2, q_btp1, q_btp2, then_ok, q_setV, q_setVr, obind_next, obind_ret, List.set, if_true, Bool.not_true, Bool.not_false, q_isN, beqt, perm2, a27, eq_bools, fin]
theorem right4 (n : Nat) : SRight (sem Pr (n + 14)) 49 := by
  have t38 : STake (sem Pr (n + 13)) 38 := s38 _
  have t41 : SRing (sem Pr (n + 13)) 41 := s41 _
  intro m h p
  obtain ⟨env', h2, ef, u1, u2, rfl, dr⟩ := for_range (v := 1) (body := fun env h => exs (sem Pr (n + 13)) Pr.wf env [(.set 2 (.bin .Add (.c (.int 2)) (.call 38 [(.v 0), (.c (.int 3))]))), (.ite (.nt (.call 48 [(.v 0), (.v 2), (.call 41 [(.v 0), (.v 2), (.c (.int 16))])])) [(.ret (.c (.bool false)))] [])] h) (m := 12) (env := [some (.ref m), none, none]) (h := h) (fun _ env h' => ∃ u1 u2, env = [some (.ref m), u1, u2] ∧ Dr m h h') ⟨_, _, rfl, .rfl'⟩ (by
    intro i hi env hh ⟨u1, u2, ee, dr⟩
    subst ee
    have p0 := dr.pool p
    obtain ⟨d, h3, hd, dr3, e3⟩ := t38 m 3 hh p0 (by decide) (by decide)
    obtain ⟨s, hs⟩ : ∃ s : Int, s = 2 + (d : Int) := ⟨_, rfl⟩
    have p3 := dr3.pool p0
    obtain ⟨xs, h4, xm, xl, xu, dr4, e4⟩ := t41 m s 16 h3 p3 (by omega) (by omega) (by decide) (by decide)
    have p4 := dr4.pool p3
    obtain ⟨h5, dr5, e5⟩ := alike4 n m s xs h4 p4 ⟨by omega, by omega, xm, xl, by omega⟩ (by omega)
    refine ⟨_, [some (.ref m), some (.d (.int (i : Int))), some (.d (.int s))], h5, rfl, .inl ?_, _, _, rfl, ((dr.trans dr3).trans dr4).trans dr5⟩
    rw [q_exs1, q_set]
    simp -implicitDefEqProofs only [q_c, q_v, q_fn, q_bin, q_neg, q_nt, q_cmp, q_chain, q_isN, q_and, q_or, q_ifx, q_tup, q_lst, q_ix, q_sl, q_prt_nop, q_prt_v, q_prt_c, q_prt_bin, q_prt_neg, q_prt_bi, q_prt_call, q_rev, q_call, q_callK, q_bi, q_isI, q_mut_lst, q_md, q_nil, q_cons, q_get0, q_getS, q_ofO, bind_ok, q_truth_b, q_truth_i, q_dat, q_dats0, q_dats1, q_biP0, q_biP1, q_biP2, Option.map, partOf, List.length_cons, List.length_nil, Nat.zero_add, Nat.reduceAdd, if_pos (q_lim 0 (by decide)), if_pos (q_lim 1 (by decide)), if_pos (q_lim 2 (by decide)), if_pos (q_lim 3 (by decide)), if_pos (q_lim 4 (by decide)), q_add, q_sub, q_le, q_lt, q_ge, q_gt, eq_ints, ne_ints, q_lenI, q_bl1, q_bl2, q_btp1, q_btp2, then_ok, q_setV, q_setVr, obind_next, obind_ret, List.set, if_true, Bool.not_true, Bool.not_false, q_isN, beqt, e3, ← hs]
    rw [q_exs1, q_ite]
    simp -implicitDefEqProofs only [q_c, q_v, q_fn, q_bin, q_neg, q_nt, q_cmp, q_chain, q_isN, q_and, q_or, q_ifx, q_tup, q_lst, q_ix, q_sl, q_prt_nop, q_prt_v, q_prt_c, q_prt_bin, q_prt_neg, q_prt_bi, q_prt_call, q_rev, q_call, q_callK, q_bi, q_isI, q_mut_lst, q_md, q_nil, q_cons, q_get0, q_getS, q_ofO, bind_ok, q_truth_b, q_truth_i, q_dat, q_dats0, q_dats1, q_biP0, q_biP1, q_biP2, Option.map, partOf, List.length_cons, List.length_nil, Nat.zero_add, Nat.reduceAdd, if_pos (q_lim 0 (by decide)), if_pos (q_lim 1 (by decide)), if_pos (q_lim 2 (by decide)), if_pos (q_lim 3 (by decide)), if_pos (q_lim 4 (by decide)), q_add, q_sub, q_le, q_lt, q_ge, q_gt, eq_ints, ne_ints, q_lenI, q_bl1, q_bl2, q_btp1, q_btp2, then_ok, q_setV, q_setVr, obind_next, obind_ret, List.set, if_true, Bool.not_true, Bool.not_false, q_isN, beqt, e4, e5, q_exs0])
  refine ⟨h2, dr, (callR (g := 49) (f := f49) rfl (env := [some (.ref m), none, none]) (o := .ret (.d (.bool true)) h2) rfl rfl ?_).trans (by rw [q_fin, dr.take])⟩
  unfold f49
  rw [q_exs1, q_for]
  have e12 := itemsR (m := 12) (by decide)
  simp only [Int.cast_ofNat_Int] at e12
  simp -implicitDefEqProofs only [q_c, q_v, q_fn, q_bin, q_neg, q_nt, q_cmp, q_chain, q_isN, q_and, q_or, q_ifx, q_tup, q_lst, q_ix, q_sl, q_prt_nop, q_prt_v, q_prt_c, q_prt_bin, q_prt_neg, q_prt_bi, q_prt_call, q_rev, q_call, q_callK, q_bi, q_isI, q_mut_lst, q_md, q_nil, q_cons, q_get0, q_getS, q_ofO, bind_ok, q_truth_b, q_truth_i, q_dat, q_dats0, q_dats1, q_biP0, q_biP1, q_biP2, Option.map, partOf, List.length_cons, List.length_nil, Nat.zero_add, Nat.reduceAdd, if_pos (q_lim 0 (by decide)), if_pos (q_lim 1 (by decide)), if_pos (q_lim 2 (by decide)), if_pos (q_lim 3 (by decide)), if_pos (q_lim 4 (by decide)), q_add, q_sub, q_le, q_lt, q_ge, q_gt, eq_ints, ne_ints, q_lenI, q_bl1, q_bl2, q_btp1, q_btp2, then_ok, q_setV, q_setVr, obind_next, obind_ret, List.set, if_true, Bool.not_true, Bool.not_false, q_isN, beqt, q_itr, e12, ef]
  simp -implicitDefEqProofs only [q_c, q_v, q_fn, q_bin, q_neg, q_nt, q_cmp, q_chain, q_isN, q_and, q_or, q_ifx, q_tup, q_lst, q_ix, q_sl, q_prt_nop, q_prt_v, q_prt_c, q_prt_bin, q_prt_neg, q_prt_bi, q_prt_call, q_rev, q_call, q_callK, q_bi, q_isI, q_mut_lst, q_md, q_nil, q_cons, q_get0, q_getS, q_ofO, bind_ok, q_truth_b, q_truth_i, q_dat, q_dats0, q_dats1, q_biP0, q_biP1, q_biP2, Option.map, partOf, List.length_cons, List.length_nil, Nat.zero_add, Nat.reduceAdd, if_pos (q_lim 0 (by decide)), if_pos (q_lim 1 (by decide)), if_pos (q_lim 2 (by decide)), if_pos (q_lim 3 (by decide)), if_pos (q_lim 4 (by decide)), q_add, q_sub, q_le, q_lt, q_ge, q_gt, eq_ints, ne_ints, q_lenI, q_bl1, q_bl2, q_btp1, q_btp2, then_ok, q_setV, q_setVr, obind_next, obind_ret, List.set, if_true, Bool.not_true, Bool.not_false, q_isN, beqt, q_exs0, q_exs1, q_set, q_ite, q_ret, q_ex]
theorem plain (ns : List Int) (h1 : ns.length ≤ 63) (h2 : ∀ z ∈ ns, Builtin.Int.intBits z ≤ 1048576) : ∃ h', (RR.sem Pr (29 + 1)).call 50 [.d (.list (ns.map .int))] [] = .ok (.d (.bool true)) h' :=
  law2_ok (a := 37) (b := 49) rfl (s37 _) (right4 15) ns
end RR.Q

-- Fin_k04
set_option maxHeartbeats 0
namespace LawT
open PySem PySem.Spec PyProof.Rows L2
theorem kwOk : RR.KwOk tx := by
  intro g d hd ks perm hk kV doc pm an cdv ct ws us hl hp
  have e : (g, ks, perm) = (27, (["ring", "sorts"] : List PySem.Str), [1, 0]) := by simpa [tx] using hk
  rcases e with e
  · cases e
    have e : d = d27 := (Option.some.inj hd).symm
    subst e
    match ws, hl with
    | [a, b], _ =>
      cases hp
      rfl
theorem dfOk : RR.DfOk tx := by
  intro g d hd hne j hj T kV doc pm an cdv ct us its hu hi
  have q : d.dfl = [] := by
    have hm : d ∈ tx.defs := List.mem_of_getElem? hd
    simp only [tx, List.mem_cons, List.not_mem_nil, or_false] at hm
    rcases hm with rfl | rfl | rfl | rfl | rfl | rfl | rfl | rfl | rfl | rfl | rfl | rfl | rfl | rfl | rfl | rfl | rfl | rfl | rfl | rfl | rfl | rfl | rfl | rfl | rfl | rfl | rfl | rfl | rfl | rfl | rfl | rfl | rfl | rfl | rfl | rfl | rfl | rfl | rfl | rfl | rfl | rfl | rfl | rfl | rfl | rfl | rfl | rfl | rfl | rfl | rfl <;> first | rfl | exact .inl rfl | exact .inr rfl | simp
  exact absurd q hne
end LawT
open PySem PySem.W PySem.Calls PyProof.Rows
theorem PySem.Challenge.cw_telltracks_k04_rings_turned_and_gone_twi_holds : PySem.Challenge.rw_telltracks_k04_rings_turned_and_gone_twi.Holds := by
  w_on; o_law
  refine HandSHeadRun.head_any (r := LawT.R) (q := PySem.W.view LawT.R.prog [67]) (H := LawT.hk) (ob := LawT.ob) (M := 6000) (loose := LawT.names) (d := HandSHeadRun.topDef LawT.R.prog 67) (kwd := []) LawT.ob_eq
    (by kernel_rfl) (fun s => by kernel_rfl) LawT.run (by kernel_rfl) (by kernel_rfl) (by kernel_rfl) (by rfl) (by first | assumption | decide +kernel) (by decide +kernel) ⟨rfl, rfl, rfl, rfl, rfl, by decide +kernel⟩ ?hw ?hc
  case hw => w_witness2
  case hc => exact RR.law_walk (l := PySem.Challenge.rw_telltracks_k04_rings_turned_and_gone_twi) (n := 63) (L := 29) (gl := 50) (dl := LawT.d50) (x := "cells") rfl (by decide) (by kernel_rfl) ⟨rfl, by decide, by decide⟩ LawT.ok LawT.kwOk LawT.dfOk rfl rfl (by kernel_rfl) rfl rfl RR.Q.plain
