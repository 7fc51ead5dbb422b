import PyProof.Rows.All
import HandS.ForMost
import HandS.Exc
import HandS.Zip
import HandS.TupAny
import HandS.TupMul
import HandS.TupLe
import HandS.Deep
import HandS.SortKw
import HandS.Wide
import HandS.IsInst
import HandS.ExcInit
import HandS.TryMany
import KE.SortKeyHeap
import PyProof.ReprRoads
import KE.GoesMore
import KE.DataMinMax
import KE.DataCmp
import KE.DataMinKey
import HandS.NoneIn
import HandS.RaiseMore
import HandS.SetFor
import HandS.Strs
import HandS.EndTab
import HandS.Nested
import HandS.Property
import HandS.Style
import HandS.Conv
import HandS.ExcOwn
import HandS.HeadWalk
import HandS.CallRecv
import HandS.SlotsOwn
import KE.KxPercentT
import HandS.ExcValue
import HandS.Small
import KE.KExcIs
import PySem.Challenge.RW_cornerheaps_k34_errors_made_by_hand
set_option Elab.async false
set_option linter.all false
set_option maxRecDepth 100000
set_option maxHeartbeats 4000000
set_option Elab.async false
set_option linter.all false
set_option maxRecDepth 100000
set_option maxHeartbeats 4000000
/-! The small language: trees, plain data, an interpreter that runs. -/
namespace CH
open PySem

/-- plain data; an empty dict stands for the deck of the law -/
abbrev D := PyData
abbrev dkD : D := .dict []
/-- the law's deck: the numbers, the place, the rest of a great one, how many draws -/
structure Dk where
  cells : List Int
  pos : Int
  big : Int
  cnt : Int
/-- an error: its class, its fields -/
structure Exn where
  cls : Str
  args : List D
/-- the classes of an error, from its own one on -/
def exSup (c : Str) : List Str := if c == ("HeapError" : Str) then ["HeapError", "ValueError"] else [c, "HeapError", "ValueError"]
def exIs (c d : Str) : Bool := (exSup c).contains d
/-- the names of its fields -/
def exFld (c : Str) : List Str := if c == ("BadHeap" : Str) || c == ("NotHeld" : Str) then ["number"] else if c == ("BadText" : Str) then ["line", "word"] else []
def Exn.fields (x : Exn) : List (Str × D) := (exFld x.cls).zip x.args
inductive Out (α : Type) where
  | ok (a : α) (s : Dk)
  | ex (x : Exn) (s : Dk)
  | no
def Out.bind {α β : Type} (o : Out α) (f : α → Dk → Out β) : Out β :=
  match o with
  | .ok a s => f a s
  | .ex x s => .ex x s
  | .no => .no
/-- a value that may be lacking -/
def Out.of {α : Type} (o : Option α) (s : Dk) : Out α :=
  match o with
  | some a => .ok a s
  | none => .no

/-- the built-ins by name -/
inductive BI where
  | abs | all | any | int | len | list | max | max2 | min | min2 | repr | sorted | str | sum | tuple
  | maxd | minkd | lrng | sset
  deriving DecidableEq, Repr
inductive MI where
  | split | join | index
  deriving DecidableEq, Repr
inductive PTg where
  | one (i : Nat)
  | many (is : List Nat)
  deriving Repr

mutual
inductive PX where
  | var (i : Nat)
  | cst (d : D)
  | tup (es : List PX)
  | lst (es : List PX)
  | bin (op : Operator) (a b : PX)
  | neg (a : PX)
  | cmp (op : CmpOp) (a b : PX)
  | isn (a : PX)
  | notn (a : PX)
  | chain (o1 o2 : CmpOp) (a b c : PX)
  | and_ (a b : PX)
  | or_ (a b : PX)
  | not_ (a : PX)
  | ite (c a b : PX)
  | ix (a i : PX)
  | sl (a : PX) (lo hi : Option PX)
  | rev (a : PX)
  | call (f : Nat) (es : List PX)
  | bi (b : BI) (es : List PX)
  | isi (t : String) (a : PX)
  | sortk (a : PX)
  | mink (a : PX)
  | meth (m : MI) (o : PX) (es : List PX)
  | lc (tg : PTg) (it : PIt) (c : Option PX) (e : PX)
  | lc2 (i1 : Nat) (a1 : PIt) (i2 : Nat) (a2 : PIt) (c : Option PX) (e : PX)
  /-- o.f, a field of an object -/
  | fld (a : PX) (f : Str)
  /-- o.m(..), a method of an object of the class c -/
  | pcall (c m : Str) (f : Nat) (o : PX) (es : List PX)
  /-- c(..), f its __init__ -/
  | new (c : Str) (f : Nat) (es : List PX)
  /-- o.p, a property -/
  | prop (c : Str) (f : Nat) (o : PX)
  /-- the object that an __init__ leaves: fields with their values, then fields that are items of earlier ones -/
  | obj (c : Str) (fs : List Str) (es : List PX) (its : List (Str × Str × Int))
  /-- isinstance of the class c -/
  | isc (c : Str) (a : PX)
  /-- last_that(a, b, lambda m: e), js the slots that the lambda captures -/
  | last (a b : PX) (js : List Nat) (e : PX)
  /-- f(x=.., y=..): the i-th argument is the pm[i]-th that is written -/
  | callk (f : Nat) (pm : List Nat) (es : List PX)
  /-- an operator, on objects of the class c by the def f -/
  | obin (op : Operator) (c : Str) (f : Nat) (a b : PX)
  /-- a comparison, on objects of the class c by the def f -/
  | ocmp (op : CmpOp) (c : Str) (f : Nat) (a b : PX)
  /-- c(x=.., y=..), f its __init__ -/
  | newk (c : Str) (f : Nat) (pm : List Nat) (es : List PX)
  /-- c(..), an error of the class c that is not raised -/
  | mkx (c : Str) (es : List PX)
  /-- isinstance of the class c, asked of an error -/
  | isx (c : Str) (a : PX)
  /-- a.f, a an error -/
  | xfl (a : PX) (f : Str)
inductive PIt where
  | seq (e : PX)
  | rng1 (a : PX)
  | rng2 (a b : PX)
  | enum (e : PX)
  | zip (a b : PX)
end

/-! ### values -/
def intsOf : List D → Option (List Int)
  | [] => some []
  | .int i :: r => (intsOf r).map (i :: ·)
  | _ :: _ => none
def boolsOf : List D → Option (List Bool)
  | [] => some []
  | .bool i :: r => (boolsOf r).map (i :: ·)
  | _ :: _ => none
def strsOf : List D → Option (List Str)
  | [] => some []
  | .str i :: r => (strsOf r).map (i :: ·)
  | _ :: _ => none
def itemsOf : D → Option (List D)
  | .list ds => some ds
  | .tuple ds => some ds
  | _ => none
mutual
/-- no list within -/
def noL : D → Bool
  | .none => true
  | .bool _ => true
  | .int _ => true
  | .str _ => true
  | .tuple ds => noLs ds
  | .list _ => false
  | .dict _ => false
def noLs : List D → Bool
  | [] => true
  | d :: r => noL d && noLs r
end
/-- products of great numbers -/
def mulOk (i j : Int) : Bool := (decide (-(2 ^ 64) < i) && decide (i < 2 ^ 64)) || (decide (-(2 ^ 64) < j) && decide (j < 2 ^ 64)) || (decide (i.natAbs < 2 ^ 4000) && decide (j.natAbs < 2 ^ 4000))
def binD : Operator → D → D → Option D
  | .Add, .int i, .int j => some (.int (i + j))
  | .Add, .str x, .str y => if x.length + y.length ≤ sizeLine then some (.str (x ++ y)) else none
  | .Add, .tuple xs, .tuple ys => if xs.length + ys.length ≤ sizeLine then some (.tuple (xs ++ ys)) else none
  | .Add, .list xs, .list ys => if xs.length + ys.length ≤ sizeLine then some (.list (xs ++ ys)) else none
  | .Sub, .int i, .int j => some (.int (i - j))
  | .Mult, .int i, .int j => if mulOk i j then some (.int (i * j)) else none
  | .Mult, .str x, .int k => if x.length ≤ 1000 ∧ k ≤ 10000 ∧ -1000 ≤ k then some (.str (Txt.mul x k)) else none
  | .Mult, .tuple xs, .int k => if xs.length ≤ 1000 ∧ k ≤ 1000 ∧ -1000 ≤ k then some (.tuple (List.replicate k.toNat xs).flatten) else none
  | .Mult, .list xs, .int k => if xs.length ≤ 1000 ∧ k ≤ 1000 ∧ -1000 ≤ k then some (.list (List.replicate k.toNat xs).flatten) else none
  | .FloorDiv, .int i, .int j => if 0 < j ∧ j < 2 ^ 4000 then some (.int (i / j)) else none
  | .Mod, .int i, .int j => if 0 < j then some (.int (i % j)) else none
  | .Pow, .int i, .int j => if 0 ≤ j ∧ j ≤ 100 ∧ i.natAbs < 2 ^ 64 then some (.int (i ^ j.toNat)) else none
  | _, _, _ => none
/-- ns <= ms, as the library has it -/
def leT (ns ms : List Int) : Bool := Ob.lexAt (fun j => decide (ns.getD j 0 = ms.getD j 0)) (fun j => decide (ns.getD j 0 ≤ ms.getD j 0)) (decide (ns.length ≤ ms.length)) 0 (min ns.length ms.length)
def inD (x : D) (ds : List D) : Option Bool := if SeqAt.shaped x && SeqAt.shaped (.list ds) then some (ds.any fun z => PyData.eqv z x) else none
def cmpD : CmpOp → D → D → Option Bool
  | .Eq, a, b => if SeqAt.shaped a && SeqAt.shaped b then some (PyData.eqv a b) else none
  | .NotEq, a, b => if SeqAt.shaped a && SeqAt.shaped b then some (!PyData.eqv a b) else none
  | .Lt, .int i, .int j => some (decide (i < j))
  | .LtE, .int i, .int j => some (decide (i ≤ j))
  | .Gt, .int i, .int j => some (decide (j < i))
  | .GtE, .int i, .int j => some (decide (j ≤ i))
  | .GtE, .tuple xs, .tuple ys => if W.alike (.tuple xs) (.tuple ys) && !PyData.hasDictAll xs && !PyData.hasDictAll ys && decide ((PyData.tuple xs).depth ≤ 64) then some (!W.dataLt (.tuple xs) (.tuple ys)) else none
  | .Lt, .tuple xs, .tuple ys => match intsOf xs, intsOf ys with
    | some ns, some ms => some (HT.lexLt ns ms)
    | _, _ => if W.alike (.tuple xs) (.tuple ys) && !PyData.hasDictAll xs && !PyData.hasDictAll ys && decide ((PyData.tuple xs).depth ≤ 64) then some (W.dataLt (.tuple xs) (.tuple ys)) else none
  | .LtE, .tuple xs, .tuple ys => match intsOf xs, intsOf ys with
    | some ns, some ms => some (leT ns ms)
    | _, _ => none
  | .In, x, .list ds => inD x ds
  | .In, x, .tuple ds => inD x ds
  | .NotIn, x, .list ds => (inD x ds).map (!·)
  | .NotIn, x, .tuple ds => (inD x ds).map (!·)
  | _, _, _ => none
def cutL {α : Type} (xs : List α) (lo hi : Option Int) : List α := (xs.drop (HT.sIx xs.length 0 lo)).take (HT.sIx xs.length xs.length hi - HT.sIx xs.length 0 lo)
/-- the deck's four places -/
def dkIx (s : Dk) (j : Int) : Option D := if j = 0 then some (.list (s.cells.map .int)) else if j = 1 then some (.int s.pos) else if j = 2 then some (.int s.big) else if j = 3 then some (.int s.cnt) else none
def dkSet (s : Dk) (j : Int) (v : Int) : Option Dk := if j = 1 then some { s with pos := v } else if j = 2 then some { s with big := v } else if j = 3 then some { s with cnt := v } else none
def ixD (s : Dk) : D → D → Option D
  | .list ds, .int i => L2.atI ds i
  | .tuple ds, .int i => L2.atI ds i
  | .dict [], .int i => dkIx s i
  | _, _ => none
def slD : D → Option Int → Option Int → Option D
  | .list ds, lo, hi => some (.list (cutL ds lo hi))
  | .tuple ds, lo, hi => some (.tuple (cutL ds lo hi))
  | .str z, lo, hi => if z.length ≤ sizeLine then some (.str (L2.cutS z lo hi)) else none
  | _, _, _ => none
def revD : D → Option D
  | .list ds => some (.list ds.reverse)
  | .tuple ds => some (.tuple ds.reverse)
  | _ => none
def sortsB (ks : List D) : Bool := (ks.all fun a => ks.all fun b => W.alike a b) &&
  ((ks.all fun a => match a with | .tuple (_ :: _) => true | _ => false) || (ks.all fun a => match a with | .none => false | .tuple _ => false | .dict _ => false | _ => true)) && (ks.all fun a => decide (a.depth ≤ 64)) && noLs ks
def sortD (ds : List D) : Option (List D) := if (sortsB ds || decide (ds.length ≤ 1)) && decide (ds.length ≤ sizeLine) then some (ds.mergeSort (W.dataLe false id)) else none
def maxL : Int → List Int → Int
  | m, [] => m
  | m, i :: r => maxL (if i > m then i else m) r
def minL : Int → List Int → Int
  | m, [] => m
  | m, i :: r => minL (if i < m then i else m) r
def reprD (d : D) : Option D := if d.showable && decide (d.shown.length ≤ sizeLine) && decide (d.depth ≤ 64) && !d.hasDict then some (.str d.shown) else none
def rngD (a b : Int) : List D := (List.range (b - a).toNat).map fun i => .int (a + (i : Nat))
/-- bounds of a range that is made a list -/
def rgB (a b : Int) : Bool := decide (-(2 ^ 62) ≤ a ∧ a < 2 ^ 62 ∧ -(2 ^ 62) ≤ b ∧ b < 2 ^ 62 ∧ (b - a).toNat ≤ 2 ^ 24)
/-- ascending, each once -/
def insU (x : Int) : List Int → List Int
  | [] => [x]
  | y :: r => if x < y then x :: y :: r else if x = y then y :: r else y :: insU x r
def sortU (ns : List Int) : List Int := ns.foldr insU []
def isStrD : D → Bool
  | .str _ => true
  | _ => false
def biD : BI → List D → Option D
  | .abs, [.int i] => some (.int (if i < 0 then -i else i))
  | .all, [.list ds] => (boolsOf ds).map fun bs => .bool (bs.all id)
  | .any, [.list ds] => (boolsOf ds).map fun bs => .bool (bs.any id)
  | .int, [.int i] => some (.int i)
  | .int, [.str x] => if x.length ≤ 640 then (PySem.intText? x).map .int else none
  | .int, [.bool b] => some (.int (if b = true then 1 else 0))
  | .len, [.list ds] => some (.int ds.length)
  | .len, [.tuple ds] => some (.int ds.length)
  | .len, [.str x] => if x.length ≤ sizeLine then some (.int x.length) else none
  | .str, [.int i] => if i.natAbs.log2 < 1920 then some (.str (Str.ofString (toString i))) else none
  | .str, [.str x] => some (.str x)
  | .sset, [.tuple ds] => match intsOf ds with
    | some ns => if ns.length ≤ 50 then some (.list ((sortU ns).map .int)) else none
    | none => none
  | .list, [.list ds] => some (.list ds)
  | .list, [.tuple ds] => some (.list ds)
  | .tuple, [.list ds] => some (.tuple ds)
  | .tuple, [.tuple ds] => some (.tuple ds)
  | .minkd, [.list (d :: ds)] => if sortsB (d :: ds) = true then some (W.minD d ds) else none
  | .max, [.list ds] => match intsOf ds with
    | some (i :: r) => some (.int (maxL i r))
    | _ => none
  | .min, [.list ds] => match intsOf ds with
    | some (i :: r) => some (.int (minL i r))
    | _ => none
  | .max, [.tuple ds] => match intsOf ds with
    | some (i :: r) => some (.int (maxL i r))
    | _ => none
  | .min, [.tuple ds] => match intsOf ds with
    | some (i :: r) => some (.int (minL i r))
    | _ => none
  | .max2, [.int i, .int j] => some (.int (if j > i then j else i))
  | .min2, [.int i, .int j] => some (.int (if j < i then j else i))
  | .lrng, [.int n] => if rgB 0 n then some (.list (rngD 0 n)) else none
  | .lrng, [.int a, .int b] => if rgB a b then some (.list (rngD a b)) else none
  | .maxd, [.list ds, d] => match intsOf ds with
    | some [] => some d
    | some (i :: r) => some (.int (maxL i r))
    | none => none
  | .repr, [d] => reprD d
  | .sorted, [.list ds] => (sortD ds).map .list
  | .sorted, [.tuple ds] => (sortD ds).map .list
  | .sum, [.list ds] => (intsOf ds).map fun ns => .int ns.sum
  | .sum, [.tuple ds] => (intsOf ds).map fun ns => .int ns.sum
  | _, _ => none
/-- isinstance of a built-in class -/
def isiD : String → D → Option Bool
  | _, .dict _ => none
  | "int", .int _ => some true
  | "int", .bool _ => some true
  | "int", _ => some false
  | "bool", .bool _ => some true
  | "bool", _ => some false
  | "tuple", .tuple _ => some true
  | "tuple", _ => some false
  | _, _ => none
def isNoneD : D → Bool
  | .none => true
  | _ => false
def enumD : Nat → List D → List D
  | _, [] => []
  | k, x :: r => .tuple [.int k, x] :: enumD (k + 1) r
def zipD (xs ys : List D) : List D := List.zipWith (fun a b => .tuple [a, b]) xs ys
def zipK : D → D → Option (List D)
  | .list xs, .list ys => some (zipD xs ys)
  | .tuple xs, .tuple ys => some (zipD xs ys)
  | .tuple xs, .list ys => some (zipD xs ys)
  | .list xs, .tuple ys => some (zipD xs ys)
  | _, _ => none
def smallI (i : Int) : Bool := decide (-(2 ^ 62) ≤ i) && decide (i < 2 ^ 62)

/-! ### objects -/
/-- an object: its class, its fields -/
def obD (c : Str) (fs : List (D × D)) : D := .dict ((.str c, .none) :: fs)
def fieldsD (fs : List Str) (ds : List D) : List (D × D) := List.zipWith (fun f d => (.str f, d)) fs ds
def isObj (c : Str) : D → Bool
  | .dict ((.str x, .none) :: _) => decide (x = c)
  | _ => false
def getF (f : Str) : List (D × D) → Option D
  | (.str g, d) :: r => if f = g then some d else getF f r
  | _ => none
/-- an object of the class c, m none of its fields -/
def isMeth (c m : Str) : D → Bool
  | .dict ((.str x, .none) :: r) => decide (x = c) && (getF m r).isNone
  | _ => false
def fldD (f : Str) : D → Option D
  | .dict ((.str _, .none) :: r) => getF f r
  | _ => none
def iscD (c : Str) : D → Option Bool
  | .dict ((.str x, .none) :: _) => if x = c then some true else none
  | .dict _ => none
  | _ => some false
def isTupD : D → Bool
  | .tuple _ => true
  | _ => false
def noD : D → Bool
  | .dict _ => false
  | _ => true
def itemD (d : D) (m : Int) : Option D := match d with
  | .tuple ds => L2.atI ds m
  | _ => none
/-- fields that are items of earlier ones -/
def itsD : List (Str × Str × Int) → List (D × D) → Option (List (D × D))
  | [], fs => some fs
  | (f, g, m) :: r, fs => (getF g fs).bind fun x => (itemD x m).bind fun d => itsD r (fs ++ [(.str f, d)])
/-- an error that is held: its class, its fields, the last one first -/
def exD (c : Str) (ds : List D) : D := .dict ((.str c, .bool true) :: (fieldsD (exFld c) ds).reverse)
def isxD (c : Str) : D → Option Bool
  | .dict ((.str x, .bool true) :: _) => some (exIs x c)
  | _ => none
def xflD (f : Str) : D → Option D
  | .dict ((.str _, .bool true) :: r) => getF f r
  | _ => none
def permD (pm : List Nat) (ds : List D) : Option (List D) := pm.mapM fun i => ds[i]?
/-! ### the interpreter of expressions -/
abbrev Env0 := List (Option D)
def setT : PTg → D → Env0 → Option Env0
  | .one i, x, ρ => some (ρ.set i (some x))
  | .many is, .tuple xs, ρ => if is.length = xs.length then some ((is.zip xs).foldl (fun r p => r.set p.1 (some p.2)) ρ) else none
  | .many _, _, _ => none
def tgSl : PTg → List Nat
  | .one i => [i]
  | .many is => is
def wipeE (ρ : Env0) : List Nat → Env0
  | [] => ρ
  | v :: vs => (wipeE ρ vs).set v none
def onE {α : Type} (r : Option Env0) (f : Env0 → Dk → Out α) (s : Dk) : Out α :=
  match r with
  | some r => f r s
  | none => .no
def truthO (o : Out D) : Out Bool := o.bind fun d s => match d with
  | .bool b => .ok b s
  | _ => .no
/-- a value that must be a bool -/
def boolO (o : Out D) : Out D := (truthO o).bind fun t s => .ok (.bool t) s
def Out.still {α : Type} : Out α → Out α
  | .ok a s => .ok a s
  | _ => .no
def lcLoop (test : D → Dk → Out Bool) (elt : D → Dk → Out D) : List D → Dk → Out (List D)
  | [], s => .ok [] s
  | x :: r, s => (test x s).bind fun b s1 => if b = true then (elt x s1).bind fun y s2 => (lcLoop test elt r s2).bind fun ys s3 => .ok (y :: ys) s3 else lcLoop test elt r s1
def lcLoop2 (inner : D → Dk → Out (List D)) : List D → Dk → Out (List D)
  | [], s => .ok [] s
  | x :: r, s => (inner x s).bind fun ys s1 => (lcLoop2 inner r s1).bind fun zs s2 => .ok (ys ++ zs) s2
abbrev Fns := Nat → List D → Dk → Out D
/-- heap_key -/
def hkD : D → Option D
  | .tuple ds => (intsOf ds).map fun ns => .tuple [.int ns.sum, .tuple ds]
  | _ => none
def hksD : List D → Option (List D)
  | [] => some []
  | d :: r => match hkD d, hksD r with
    | some k, some ks => some (k :: ks)
    | _, _ => none
def sortK (ks ds : List D) : Option (List D) := if sortsB ks && decide (ds.length ≤ sizeLine) then some (((ks.zip ds).mergeSort (W.dataLe false (·.1))).map (·.2)) else none
def sortkD (x : D) : Option D := match itemsOf x with
  | some ds => match hksD ds with
    | some ks => (sortK ks ds).map .list
    | none => none
  | none => none
def minK : List (D × D) → D
  | [] => .none
  | p :: r => (r.foldl (fun a y => if W.dataLt y.1 a.1 then y else a) p).2
def minkD : D → Option D
  | .list ds => match hksD ds with
    | some ks => if sortsB ks = true then some (minK (ks.zip ds)) else none
    | none => none
  | _ => none
def meD : MI → D → List D → Option D
  | .join, .str x, [.list ds] => match strsOf ds with
    | some ss => if (ss.map (·.length)).sum + ss.length * x.length ≤ 16777216 then some (.str (Txt.join x ss)) else none
    | none => none
  | .split, .str x, [.str y] => if (y.length == 0) = false ∧ x.length + 2 ≤ sizeLine then some (.list ((Txt.split x y).map .str)) else none
  | _, _, _ => none
/-- the last number from lo on, below hi, at which the test holds -/
def lastLoop (test : Int → Dk → Out Bool) : Nat → Int → Int → Dk → Out Int
  | 0, _, _, _ => .no
  | n + 1, lo, hi, s => if hi - lo > 1 then (test ((lo + hi) / 2) s).bind fun b s1 => if b = true then lastLoop test n ((lo + hi) / 2) hi s1 else lastLoop test n lo ((lo + hi) / 2) s1 else .ok lo s
/-- what a lambda with one parameter sees -/
def lamEnv (ρ : Env0) (js : List Nat) (m : Int) : Env0 := some (.int m) :: js.map fun j => (ρ[j]?).getD none
section
variable (F : Fns)
mutual
def ev : PX → Env0 → Dk → Out D
  | .var i, ρ, s => match ρ[i]? with
    | some (some d) => .ok d s
    | _ => .no
  | .cst d, _, s => .ok d s
  | .tup es, ρ, s => (evs es ρ s).bind fun ds s1 => if ds.length ≤ sizeLine then .ok (.tuple ds) s1 else .no
  | .lst es, ρ, s => (evs es ρ s).bind fun ds s1 => if ds.length ≤ sizeLine then .ok (.list ds) s1 else .no
  | .bin op a b, ρ, s => (ev a ρ s).bind fun x s1 => (ev b ρ s1).bind fun y s2 => .of (binD op x y) s2
  | .neg a, ρ, s => (ev a ρ s).bind fun x s1 => match x with
    | .int i => .ok (.int (-i)) s1
    | _ => .no
  | .cmp op a b, ρ, s => (ev a ρ s).bind fun x s1 => (ev b ρ s1).bind fun y s2 => .of ((cmpD op x y).map .bool) s2
  | .isn a, ρ, s => (ev a ρ s).bind fun x s1 => .ok (.bool (isNoneD x)) s1
  | .notn a, ρ, s => (ev a ρ s).bind fun x s1 => .ok (.bool (!isNoneD x)) s1
  | .chain o1 o2 a b c, ρ, s => (ev a ρ s).bind fun x s1 => (ev b ρ s1).bind fun y s2 => match cmpD o1 x y with
    | some true => (ev c ρ s2).bind fun z s3 => .of ((cmpD o2 y z).map .bool) s3
    | some false => .ok (.bool false) s2
    | none => .no
  | .and_ a b, ρ, s => (truthO (ev a ρ s)).bind fun t s1 => if t = true then ev b ρ s1 else .ok (.bool false) s1
  | .or_ a b, ρ, s => (truthO (ev a ρ s)).bind fun t s1 => if t = true then .ok (.bool true) s1 else ev b ρ s1
  | .not_ a, ρ, s => (truthO (ev a ρ s)).bind fun t s1 => .ok (.bool (!t)) s1
  | .ite c a b, ρ, s => (truthO (ev c ρ s)).bind fun t s1 => if t = true then ev a ρ s1 else ev b ρ s1
  | .ix a i, ρ, s => (ev a ρ s).bind fun x s1 => (ev i ρ s1).bind fun y s2 => .of (ixD s2 x y) s2
  | .sl a lo hi, ρ, s => (ev a ρ s).bind fun x s1 => (evo lo ρ s1).bind fun l s2 => (evo hi ρ s2).bind fun h s3 => .of (slD x l h) s3
  | .rev a, ρ, s => (ev a ρ s).bind fun x s1 => .of (revD x) s1
  | .call f es, ρ, s => (evs es ρ s).bind fun ds s1 => F f ds s1
  | .bi b es, ρ, s => (evs es ρ s).bind fun ds s1 => .of (biD b ds) s1
  | .isi t a, ρ, s => (ev a ρ s).bind fun x s1 => .of ((isiD t x).map .bool) s1
  | .sortk a, ρ, s => (ev a ρ s).bind fun x s1 => .of (sortkD x) s1
  | .mink a, ρ, s => (ev a ρ s).bind fun x s1 => .of (minkD x) s1
  | .meth m o es, ρ, s => (ev o ρ s).bind fun x s1 => if isStrD x = true then (evs es ρ s1).bind fun ds s2 => .of (meD m x ds) s2 else .no
  | .lc tg it c e, ρ, s => (evIt it ρ s).bind fun xs s1 => ((lcLoop (fun x s => onE (setT tg x (wipeE ρ (tgSl tg))) (fun r s => evt c r s) s) (fun x s => onE (setT tg x (wipeE ρ (tgSl tg))) (fun r s => ev e r s) s) xs s1).still).bind fun ys s2 => if xs.length < sizeLine then .ok (.list ys) s2 else .no
  | .lc2 i1 a1 i2 a2 c e, ρ, s => (evIt a1 ρ s).bind fun xs s1 => ((lcLoop2 (fun x s => (evIt a2 ((wipeE ρ [i1, i2]).set i1 (some x)) s).bind fun zs s1 =>
      lcLoop (fun z s => evt c (((wipeE ρ [i1, i2]).set i1 (some x)).set i2 (some z)) s) (fun z s => ev e (((wipeE ρ [i1, i2]).set i1 (some x)).set i2 (some z)) s) zs s1) xs s1).still).bind fun ys s2 =>
        if ys.length < sizeLine then .ok (.list ys) s2 else .no
  | .fld a f, ρ, s => (ev a ρ s).bind fun x s1 => .of (fldD f x) s1
  | .pcall c m f o es, ρ, s => (ev o ρ s).bind fun x s1 => if isMeth c m x = true then (evs es ρ s1).bind fun ds s2 => F f (x :: ds) s2 else .no
  | .new _ f es, ρ, s => (evs es ρ s).bind fun ds s1 => F f ds s1
  | .prop c f o, ρ, s => (ev o ρ s).bind fun x s1 => if isObj c x = true then (F f [x] s1).still else .no
  | .obj c fs es its, ρ, s => (evs es ρ s).bind fun ds s1 => .of ((itsD its (fieldsD fs ds)).map (obD c)) s1
  | .isc c a, ρ, s => (ev a ρ s).bind fun x s1 => .of ((iscD c x).map .bool) s1
  | .last a b js e, ρ, s => (ev a ρ s).bind fun x s1 => (ev b ρ s1).bind fun y s2 => match x, y with
    | .int i, .int j => ((lastLoop (fun m s => truthO (ev e (lamEnv ρ js m) s)) 400 i j s2).still).bind fun z s3 => .ok (.int z) s3
    | _, _ => .no
  | .callk f pm es, ρ, s => (evs es ρ s).bind fun ds s1 => match permD pm ds with
    | some ds => F f ds s1
    | none => .no
  | .obin op c f a b, ρ, s => (ev a ρ s).bind fun x s1 => (ev b ρ s1).bind fun y s2 => if isObj c x = true then (if (isObj c y || isTupD y) = true then F f [x, y] s2 else .no) else .of (binD op x y) s2
  | .ocmp op c f a b, ρ, s => (ev a ρ s).bind fun x s1 => (ev b ρ s1).bind fun y s2 => match op with
    | .Eq => if isObj c x = true then (if (isObj c y || noD y) = true then boolO (F f [x, y] s2) else .no) else .of ((cmpD .Eq x y).map .bool) s2
    | .NotEq => if isObj c x = true then (if (isObj c y || noD y) = true then (truthO (F f [x, y] s2)).bind fun t s3 => .ok (.bool (!t)) s3 else .no) else .of ((cmpD .NotEq x y).map .bool) s2
    | .In => if isObj c y = true then boolO (F f [y, x] s2) else .of ((cmpD .In x y).map .bool) s2
    | op => .of ((cmpD op x y).map .bool) s2
  | .newk _ f pm es, ρ, s => (evs es ρ s).bind fun ds s1 => match permD pm ds with
    | some ds => F f ds s1
    | none => .no
  | .mkx c es, ρ, s => (evs es ρ s).bind fun ds s1 => if ds.length = (exFld c).length then .ok (exD c ds) s1 else .no
  | .isx c a, ρ, s => (ev a ρ s).bind fun x s1 => .of ((isxD c x).map .bool) s1
  | .xfl a f, ρ, s => (ev a ρ s).bind fun x s1 => .of (xflD f x) s1
def evs : List PX → Env0 → Dk → Out (List D)
  | [], _, s => .ok [] s
  | e :: r, ρ, s => (ev e ρ s).bind fun d s1 => (evs r ρ s1).bind fun ds s2 => .ok (d :: ds) s2
def evo : Option PX → Env0 → Dk → Out (Option Int)
  | none, _, s => .ok none s
  | some e, ρ, s => (ev e ρ s).bind fun d s1 => match d with
    | .int i => .ok (some i) s1
    | _ => .no
/-- a comprehension's test -/
def evt : Option PX → Env0 → Dk → Out Bool
  | none, _, s => .ok true s
  | some e, ρ, s => truthO (ev e ρ s)
def evIt : PIt → Env0 → Dk → Out (List D)
  | .seq e, ρ, s => (ev e ρ s).bind fun d s1 => .of (itemsOf d) s1
  | .rng1 a, ρ, s => (ev a ρ s).bind fun d s1 => match d with
    | .int i => if smallI i then .ok (rngD 0 i) s1 else .no
    | _ => .no
  | .rng2 a b, ρ, s => (ev a ρ s).bind fun d s1 => (ev b ρ s1).bind fun e s2 => match d, e with
    | .int i, .int j => if smallI i && smallI j then .ok (rngD i j) s2 else .no
    | _, _ => .no
  | .enum e, ρ, s => (ev e ρ s).bind fun d s1 => .of ((itemsOf d).map (enumD 0)) s1
  | .zip a b, ρ, s => (ev a ρ s).bind fun d s1 => (ev b ρ s1).bind fun e s2 => .of (zipK d e) s2
end
end

/-! ### statements -/
inductive Slot where
  | un
  | val (d : D)
  /-- a list that this def has made and changes in place -/
  | own (ds : List D)
abbrev Env1 := List Slot
def Slot.frz : Slot → Option D
  | .un => none
  | .val d => some d
  | .own ds => some (.list ds)
def Slot.hid : Slot → Option D
  | .val d => some d
  | _ => none
def Slot.fix : Slot → Slot
  | .own ds => .val (.list ds)
  | x => x
def Slot.isOwn : Slot → Bool
  | .own _ => true
  | _ => false
def frz (ρ : Env1) : Env0 := ρ.map Slot.frz
/-- the slots of u are shown as they stand, own lists of the others are hidden -/
def mixF (u : Nat → Bool) : Nat → Env1 → Env0
  | _, [] => []
  | i, x :: r => (if u i = true then x.frz else x.hid) :: mixF u (i + 1) r
/-- the own lists among the slots of u stand still from now on -/
def fixF (u : Nat → Bool) : Nat → Env1 → Env1
  | _, [] => []
  | i, x :: r => (if u i = true then x.fix else x) :: fixF u (i + 1) r

mutual
/-- whether an expression names one of some slots -/
def PX.uses (u : Nat → Bool) : PX → Bool
  | .var i => u i
  | .cst _ => false
  | .tup es => PX.usess u es
  | .lst es => PX.usess u es
  | .bin _ a b => a.uses u || b.uses u
  | .neg a => a.uses u
  | .cmp _ a b => a.uses u || b.uses u
  | .isn a => a.uses u
  | .notn a => a.uses u
  | .chain _ _ a b c => a.uses u || b.uses u || c.uses u
  | .and_ a b => a.uses u || b.uses u
  | .or_ a b => a.uses u || b.uses u
  | .not_ a => a.uses u
  | .ite c a b => c.uses u || a.uses u || b.uses u
  | .ix a i => a.uses u || i.uses u
  | .sl a lo hi => a.uses u || PX.useso u lo || PX.useso u hi
  | .rev a => a.uses u
  | .call _ es => PX.usess u es
  | .bi _ es => PX.usess u es
  | .isi _ a => a.uses u
  | .sortk a => a.uses u
  | .mink a => a.uses u
  | .meth _ o es => o.uses u || PX.usess u es
  | .lc _ it c e => it.uses u || PX.useso u c || e.uses u
  | .lc2 _ a1 _ a2 c e => a1.uses u || a2.uses u || PX.useso u c || e.uses u
  | .fld a _ => a.uses u
  | .pcall _ _ _ o es => o.uses u || PX.usess u es
  | .new _ _ es => PX.usess u es
  | .prop _ _ o => o.uses u
  | .obj _ _ es _ => PX.usess u es
  | .isc _ a => a.uses u
  | .last a b js _ => a.uses u || b.uses u || js.any u
  | .callk _ _ es => PX.usess u es
  | .obin _ _ _ a b => a.uses u || b.uses u
  | .ocmp _ _ _ a b => a.uses u || b.uses u
  | .newk _ _ _ es => PX.usess u es
  | .mkx _ es => PX.usess u es
  | .isx _ a => a.uses u
  | .xfl a _ => a.uses u
def PX.usess (u : Nat → Bool) : List PX → Bool
  | [] => false
  | e :: r => e.uses u || PX.usess u r
def PX.useso (u : Nat → Bool) : Option PX → Bool
  | none => false
  | some e => e.uses u
def PIt.uses (u : Nat → Bool) : PIt → Bool
  | .seq e => e.uses u
  | .rng1 a => a.uses u
  | .rng2 a b => a.uses u || b.uses u
  | .enum e => e.uses u
  | .zip a b => a.uses u || b.uses u
end
/-- an expression that gives a new list, if it gives a list -/
def PX.freshy : PX → Bool
  | .lst _ => true
  | .lc .. => true
  | .lc2 .. => true
  | .bi .list _ => true
  | .bi .lrng _ => true
  | .bi .sorted _ => true
  | .bi .sset _ => true
  | .sortk _ => true
  | .bin .Add _ _ => true
  | .bin .Mult _ _ => true
  | .sl _ _ _ => true
  | .rev _ => true
  | .meth .split _ _ => true
  | .ite _ a b => a.freshy && b.freshy
  | _ => false

/-- what is said of an error that is caught -/
inductive HX where
  | cst (d : D)
  | var (i : Nat)
  | pair (a b : HX)
  | isi (c : Str)
  | fld (f : Str)
  | and_ (a b : HX)
  | or_ (a b : HX)
  | not_ (a : HX)
  | ite (c a b : HX)
  | eqs (i : Nat) (w : Str)
/-- what an except clause does: it ends with a return -/
inductive HS where
  | ret (e : HX)
  | ifr (c a : HX) (r : HS)
  | set (i : Nat) (e : HX) (r : HS)
structure Hd where
  cls : Str
  as_ : Option Nat
  body : HS
def bD : D → Option Bool
  | .bool b => some b
  | _ => none
def HX.val (x : Exn) (ρ : Env1) : HX → Option D
  | .cst d => some d
  | .var i => match ρ[i]? with
    | some (.val d) => some d
    | _ => none
  | .pair a b => (a.val x ρ).bind fun u => (b.val x ρ).map fun v => .tuple [u, v]
  | .isi c => some (.bool (exIs x.cls c))
  | .fld f => x.fields.lookup f
  | .and_ a b => ((a.val x ρ).bind bD).bind fun t => if t = true then b.val x ρ else some (.bool false)
  | .or_ a b => ((a.val x ρ).bind bD).bind fun t => if t = true then some (.bool true) else b.val x ρ
  | .not_ a => ((a.val x ρ).bind bD).map fun t => .bool (!t)
  | .ite c a b => ((c.val x ρ).bind bD).bind fun t => if t = true then a.val x ρ else b.val x ρ
  | .eqs i w => match ρ[i]? with
    | some (.val (.str y)) => (cmpD .Eq (.str y) (.str w)).map .bool
    | _ => none
def HS.val (x : Exn) : HS → Env1 → Option D
  | .ret e, ρ => e.val x ρ
  | .ifr c a r, ρ => ((c.val x ρ).bind bD).bind fun t => if t = true then a.val x ρ else r.val x ρ
  | .set i e r, ρ => (e.val x ρ).bind fun d => r.val x (ρ.set i (.val d))

inductive PSm where
  | set (i : Nat) (e : PX)
  /-- a new list that is changed in place later on -/
  | own (i : Nat) (e : PX)
  | unp (is : List Nat) (e : PX)
  /-- a, b = e, f: each with its slot, and whether it is changed in place later on -/
  | par (ts : List (Nat × Bool)) (es : List PX)
  /-- a, b = xs.pop(), f, xs a list that is changed in place -/
  | parP (j t : Nat) (ts : List (Nat × Bool)) (es : List PX)
  | app (i : Nat) (e : PX)
  | ext (i : Nat) (e : PX)
  | pop (i : Nat)
  /-- xs[j] = e, xs a list that is changed in place -/
  | lset (i : Nat) (j e : PX)
  | drop (e : PX)
  /-- deck[j] = e -/
  | dset (i : Nat) (j : Int) (e : PX)
  | if_ (c : PX) (t e : List PSm)
  | for_ (tg : PTg) (it : PIt) (b : List PSm)
  | while_ (c : PX) (b : List PSm)
  | ret (e : PX)
  | retN
  | pass
  | cont
  | raise (c : Str) (es : List PX)
  | try_ (b : List PSm) (hs : List Hd)

inductive OutS where
  | nx (ρ : Env1) (s : Dk)
  | ct (ρ : Env1) (s : Dk)
  | rt (d : D) (s : Dk)
  | ex (x : Exn) (ρ : Env1) (s : Dk)
  | no
def OutS.next (o : OutS) (k : Env1 → Dk → OutS) : OutS :=
  match o with
  | .nx ρ s => k ρ s
  | o => o
/-- an expression's value, then the rest -/
def Out.thenS {α : Type} (o : Out α) (ρx : Env1) (k : α → Dk → OutS) : OutS :=
  match o with
  | .ok a s => k a s
  | .ex x s => .ex x ρx s
  | .no => .no
def PX.at (e : PX) (i : Nat) : Bool := e.uses fun j => j == i
def PIt.at (e : PIt) (i : Nat) : Bool := e.uses fun j => j == i
def isCst : PX → Bool
  | .cst _ => true
  | .bi .str _ => true
  | _ => false
/-- an index that is a name or a number -/
def plnIx : PX → Bool
  | .var _ => true
  | .cst _ => true
  | .neg (.cst _) => true
  | _ => false
/-- an item of a list that is named -/
def ixOwn : PX → Bool
  | .ix (.var _) e => plnIx e
  | _ => false
def plainLc : PX → Bool
  | .lc _ _ _ e => isCst e
  | _ => false
def lstNo : D → Bool
  | .list ds => noLs ds
  | _ => false
def noLf (e : PX) (d : D) : Bool := noL d || (plainLc e && lstNo d) || ixOwn e
/-- .. where the value is put into an own list: a new list of what is no list, too -/
def noLg (e : PX) (d : D) : Bool := noLf e d || (e.freshy && lstNo d)
section
variable (F : Fns)
/-- an expression in a statement: what it names of the own lists stands still from then on, unless the value holds no list, or is a new list of constants, or an item of such a list -/
def evSB (b : PX → D → Bool) (e : PX) (ρ : Env1) (s : Dk) : Out (D × Env1) := (ev F e (mixF e.at 0 ρ) s).bind fun d s1 => .ok (d, if b e d = true then ρ else fixF e.at 0 ρ) s1
abbrev evS (e : PX) (ρ : Env1) (s : Dk) : Out (D × Env1) := evSB F noLf e ρ s
def evItS (it : PIt) (ρ : Env1) (s : Dk) : Out (List D × Env1) := (evIt F it (mixF it.at 0 ρ) s).bind fun d s1 => .ok (d, fixF it.at 0 ρ) s1
/-- a value that is stored away as it is, or as an own list -/
def slotOf (o : Bool) (e : PX) (d : D) : Option Slot := match o, d with
  | true, .list ds => if e.freshy = true then some (.own ds) else none
  | true, _ => none
  | false, d => some (.val d)
/-- the values of a row, from the left, each stored away -/
def evParS : List (Nat × Bool) → List PX → Env1 → Dk → Out (List Slot × Env1)
  | [], [], ρ, s => .ok ([], ρ) s
  | t :: ts, e :: es, ρ, s => (evS F e ρ s).bind fun x s1 => match slotOf t.2 e x.1 with
    | some y => (evParS ts es x.2 s1).bind fun z s2 => .ok (y :: z.1, z.2) s2
    | none => .no
  | _, _, _, _ => .no
def setS : PTg → D → Env1 → Option Env1
  | .one i, x, ρ => some (ρ.set i (.val x))
  | .many is, .tuple xs, ρ => if is.length = xs.length then some ((is.zip xs).foldl (fun r p => r.set p.1 (.val p.2)) ρ) else none
  | .many _, _, _ => none
/-- the items of a list or a tuple are stored away alike -/
def untup : D → D
  | .list xs => .tuple xs
  | d => d
def testS (o : Out (D × Env1)) (ρx : Env1) (yes no : Env1 → Dk → OutS) : OutS := o.thenS ρx fun x s1 => match x.1 with
  | .bool b => if b = true then yes x.2 s1 else no x.2 s1
  | _ => .no
def againS (o : OutS) (k : Env1 → Dk → OutS) : OutS := match o with
  | .nx ρ s => k ρ s
  | .ct ρ s => k ρ s
  | o => o
def forLoop (tg : PTg) (body : Env1 → Dk → OutS) : List D → Env1 → Dk → OutS
  | [], ρ, s => .nx ρ s
  | x :: r, ρ, s => match setS tg x ρ with
    | none => .no
    | some ρ1 => againS (body ρ1 s) fun ρ2 s2 => forLoop tg body r ρ2 s2
def whileLoop (c : PX) (body : Env1 → Dk → OutS) : Nat → Env1 → Dk → OutS
  | 0, _, _ => .no
  | n + 1, ρ, s => testS (evS F c ρ s) (fixF c.at 0 ρ) (fun ρ1 s1 => againS (body ρ1 s1) fun ρ2 s2 => whileLoop c body n ρ2 s2) fun ρ1 s1 => .nx ρ1 s1
/-- the slot of the error's name holds no plain value -/
def asOk : Option Nat → Env1 → Option Env1
  | none, ρ => some ρ
  | some i, ρ => if i < ρ.length then some (ρ.set i .un) else none
def catchS : List Hd → Exn → Env1 → Dk → OutS
  | [], x, ρ, s => .ex x ρ s
  | h :: r, x, ρ, s => if exIs x.cls h.cls = true then match (asOk h.as_ ρ).bind (h.body.val x) with
    | some d => .rt d s
    | none => .no
    else catchS r x ρ s
def tryS (o : OutS) (hs : List Hd) : OutS := match o with
  | .ex x ρ s => catchS hs x ρ s
  | o => o
def setAll (is : List Nat) (r : List Slot) (ρ : Env1) : Env1 := (is.zip r).foldl (fun q p => q.set p.1 p.2) ρ
/-- a plain place in a list -/
def plainIx (ρ : Env1) : PX → Option Int
  | .var k => match ρ[k]? with
    | some (.val (.int n)) => some n
    | _ => none
  | .cst (.int n) => some n
  | .neg (.cst (.int n)) => some (-n)
  | _ => none
mutual
def run1 : PSm → Env1 → Dk → OutS
  | .set i e, ρ, s => (evS F e ρ s).thenS (fixF e.at 0 ρ) fun x s1 => .nx (x.2.set i (.val x.1)) s1
  | .own i e, ρ, s => (evS F e ρ s).thenS (fixF e.at 0 ρ) fun x s1 => match slotOf true e x.1 with
    | some y => .nx (x.2.set i y) s1
    | none => .no
  | .unp is e, ρ, s => (evS F e ρ s).thenS (fixF e.at 0 ρ) fun x s1 => match setS (.many is) (untup x.1) x.2 with
    | some ρ2 => .nx ρ2 s1
    | none => .no
  | .par ts es, ρ, s => match evParS F ts es ρ s with
    | .ok x s1 => .nx (setAll (ts.map (·.1)) x.1 x.2) s1
    | _ => .no
  | .parP j t ts es, ρ, s => match ρ[j]? with
    | some (.own ds) => match ds.getLast? with
      | some d => match evParS F ts es (ρ.set j (.own ds.dropLast)) s with
        | .ok x s1 => .nx (setAll (t :: ts.map (·.1)) (.val d :: x.1) x.2) s1
        | _ => .no
      | none => .no
    | _ => .no
  | .app i e, ρ, s => match ρ[i]? with
    | some (.own _) => (evS F e ρ s).thenS (fixF e.at 0 ρ) fun x s1 => match x.2[i]? with
      | some (.own ds) => if ds.length < sizeLine then .nx (x.2.set i (.own (ds ++ [x.1]))) s1 else .no
      | _ => .no
    | _ => .no
  | .ext i e, ρ, s => match ρ[i]? with
    | some (.own _) => (evS F e ρ s).thenS (fixF e.at 0 ρ) fun x s1 => match x.2[i]?, x.1 with
      | some (.own ds), .list es => if ds.length + es.length ≤ sizeLine then .nx (x.2.set i (.own (ds ++ es))) s1 else .no
      | _, _ => .no
    | _ => .no
  | .pop i, ρ, s => match ρ[i]? with
    | some (.own ds) => if ds = [] then .no else .nx (ρ.set i (.own ds.dropLast)) s
    | _ => .no
  | .lset i j e, ρ, s => (evSB F noLg e ρ s).thenS (fixF e.at 0 ρ) fun x s1 => match x.2[i]?, plainIx x.2 j with
    | some (.own ds), some n => match L2.ixN ds.length n with
      | some m => .nx (x.2.set i (.own (ds.set m x.1))) s1
      | none => .no
    | _, _ => .no
  | .drop e, ρ, s => (evS F e ρ s).thenS (fixF e.at 0 ρ) fun x s1 => .nx x.2 s1
  | .dset i j e, ρ, s => (evS F e ρ s).thenS (fixF e.at 0 ρ) fun x s1 => match x.2[i]?, x.1 with
    | some (.val (.dict [])), .int v => match dkSet s1 j v with
      | some s2 => .nx x.2 s2
      | none => .no
    | _, _ => .no
  | .if_ c t e, ρ, s => testS (evS F c ρ s) (fixF c.at 0 ρ) (fun ρ1 s1 => runs t ρ1 s1) fun ρ1 s1 => runs e ρ1 s1
  | .for_ tg it b, ρ, s => (evItS F it ρ s).thenS (fixF it.at 0 ρ) fun x s1 => forLoop tg (fun ρ s => runs b ρ s) x.1 x.2 s1
  | .while_ c b, ρ, s => whileLoop F c (fun ρ s => runs b ρ s) 2000 ρ s
  | .ret e, ρ, s => (ev F e (frz ρ) s).thenS (fixF (fun _ => true) 0 ρ) fun d s1 => .rt d s1
  | .retN, _, s => .rt .none s
  | .pass, ρ, s => .nx ρ s
  | .cont, ρ, s => .ct ρ s
  | .raise c es, ρ, s => (evs F es (frz ρ) s).thenS (fixF (fun _ => true) 0 ρ) fun ds s1 => if ds.length = (exFld c).length then .ex ⟨c, ds⟩ (fixF (fun _ => true) 0 ρ) s1 else .no
  | .try_ b hs, ρ, s => tryS (runs b ρ s) hs
def runs : List PSm → Env1 → Dk → OutS
  | [], ρ, s => .nx ρ s
  | x :: r, ρ, s => (run1 x ρ s).next fun ρ1 s1 => runs r ρ1 s1
end
end
/-- a def: how many parameters, how many slots, its body -/
structure Fd where
  np : Nat
  nn : Nat
  body : List PSm
  /-- how many slots are ahead of the parameters: 1 in an __init__ -/
  off : Nat
def OutS.back : OutS → Out D
  | .nx _ s => .ok .none s
  | .rt d s => .ok d s
  | .ex x _ s => .ex x s
  | _ => .no
def callF (G : Nat → Option Fd) (P : Fns) : Nat → Fns
  | 0 => fun _ _ _ => .no
  | k + 1 => fun f ds s => match G f with
    | some d => if ds.length = d.np then (runs (callF G P k) d.body (List.replicate d.off .un ++ (ds.map .val ++ List.replicate (d.nn - d.np - d.off) .un)) s).back else .no
    | none => P f ds s
end CH

set_option Elab.async false
set_option linter.all false
set_option maxRecDepth 100000
set_option maxHeartbeats 4000000
/-! Plain data on the heap; the readings of the trees. -/
namespace CH
open PySem L2

/-! ### a datum at a value: k tells the deck's address, G the part of the heap that stands still -/
/-- what is fixed of a law: its classes, the tables of the code objects of the defs that make lambdas -/
structure St0 where
  cls : Str → Option Addr
  inj : ∀ {c d : Str} {C : Addr}, cls c = some C → cls d = some C → c = d
  tabs : List (Addr × Str)
  /-- the error classes whose errors are held as values -/
  xc : Str → Option Addr := fun _ => none
  xinj : ∀ {c d : Str} {C : Addr}, xc c = some C → xc d = some C → c = d := by intro c d C h; cases h
/-- on: there is a deck; else the address is that of a table -/
structure KA (Z : St0) where
  d : Addr
  on : Bool := true
instance {Z : St0} : CoeOut (KA Z) Addr := ⟨KA.d⟩
mutual
inductive Rep {Z : St0} (k : KA Z) (G : Hp) : V → D → Prop
  | non : Rep k G .non .none
  | bl (b : Bool) : Rep k G (.bl b) (.bool b)
  | int (i : Int) : Rep k G (.int i) (.int i)
  | str (x : Str) : Rep k G (.str x) (.str x)
  | lst {a : Addr} {xs : List V} {ds : List D} : G a = some (.lst xs) → Reps k G xs ds → Rep k G (.ref a) (.list ds)
  | tup {a : Addr} {xs : List V} {ds : List D} : G a = some (.tup xs) → Reps k G xs ds → Rep k G (.ref a) (.tuple ds)
  | deck : k.on = true → Rep k G (.ref k) (.dict [])
  | obj {a dx C : Addr} {c : Str} {vs : List (Str × V)} {fs : List (D × D)} : G a = some (.ins C dx vs) → G dx = some (.own a) → Z.cls c = some C → Repf k G vs fs → Rep k G (.ref a) (.dict ((.str c, .none) :: fs))
  | exc0 {a C : Addr} {c : Str} : G a = some (exo a C none) → Z.xc c = some C → Rep k G (.ref a) (.dict [(.str c, .bool true)])
  | exc1 {a dx C : Addr} {c : Str} {vs : List (Str × V)} {fs : List (D × D)} : G a = some (exo a C (some dx)) → G dx = some (.xd vs) → Z.xc c = some C → (∀ f v, vs.lookup f = some v → f ∈ exFld c) → Repf k G vs fs → Rep k G (.ref a) (.dict ((.str c, .bool true) :: fs))
inductive Reps {Z : St0} (k : KA Z) (G : Hp) : List V → List D → Prop
  | nil : Reps k G [] []
  | cons {v : V} {vs : List V} {d : D} {ds : List D} : Rep k G v d → Reps k G vs ds → Reps k G (v :: vs) (d :: ds)
inductive Repf {Z : St0} (k : KA Z) (G : Hp) : List (Str × V) → List (D × D) → Prop
  | nil : Repf k G [] []
  | cons {f : Str} {v : V} {vs : List (Str × V)} {d : D} {fs : List (D × D)} : Rep k G v d → Repf k G vs fs → Repf k G ((f, v) :: vs) ((.str f, d) :: fs)
end
theorem exo_lst {e C : Addr} {d : Option Addr} {xs : List V} : exo e C d ≠ .lst xs := fun z => by
  have z' : HO.ext _ = HO.lst xs := z
  cases z'
theorem exo_ins {e C D x : Addr} {d : Option Addr} {xs : List (Str × V)} : exo e C d ≠ .ins D x xs := fun z => by
  have z' : HO.ext _ = HO.ins D x xs := z
  cases z'
/-- an error's cell tells its class and its dict -/
theorem exo_inj {a C C' : Addr} {d d' : Option Addr} (h : exo a C d = exo a C' d') : C = C' ∧ d = d' := by
  have h : HO.ext _ = HO.ext _ := h
  injection h with h
  have q := congrFun h ⟨(Array.replicate a default).push { cls := .ref C, dict := d, data := .fields #[.ref 0, .none, .none, .none, .bool false, .none] }, {}⟩
  have g : (⟨(Array.replicate a default).push { cls := .ref C, dict := d, data := .fields #[.ref 0, .none, .none, .none, .bool false, .none] }, {}⟩ : Heap).get? a = some { cls := .ref C, dict := d, data := .fields #[.ref 0, .none, .none, .none, .bool false, .none] } := by
    unfold Heap.get?
    dsimp only
    rw [show (Array.push (Array.replicate a default) ({ cls := .ref C, dict := d, data := .fields #[.ref 0, .none, .none, .none, .bool false, .none] } : Obj))[a]? = some _ from by
      rw [Array.getElem?_push, if_pos (by simp)]]
  obtain ⟨t, e⟩ := q.mp ⟨0, g⟩
  rw [g] at e
  have e := Option.some.inj e
  exact ⟨Value.ref.inj (congrArg Obj.cls e), congrArg Obj.dict e⟩
section
variable {Z : St0} {k : KA Z} {G G' H H' : Hp}
mutual
theorem Rep.mono (g : Same G G') : ∀ {v : V} {d : D}, Rep k G v d → Rep k G' v d
  | _, _, .non => .non
  | _, _, .bl b => .bl b
  | _, _, .int i => .int i
  | _, _, .str x => .str x
  | _, _, .lst h r => .lst (g _ _ h) (Reps.mono g r)
  | _, _, .tup h r => .tup (g _ _ h) (Reps.mono g r)
  | _, _, .deck o => .deck o
  | _, _, .obj h e c r => .obj (g _ _ h) (g _ _ e) c (Repf.mono g r)
  | _, _, .exc0 h c => .exc0 (g _ _ h) c
  | _, _, .exc1 h e c n r => .exc1 (g _ _ h) (g _ _ e) c n (Repf.mono g r)
theorem Reps.mono (g : Same G G') : ∀ {vs : List V} {ds : List D}, Reps k G vs ds → Reps k G' vs ds
  | _, _, .nil => .nil
  | _, _, .cons h r => .cons (Rep.mono g h) (Reps.mono g r)
theorem Repf.mono (g : Same G G') : ∀ {vs : List (Str × V)} {ds : List (D × D)}, Repf k G vs ds → Repf k G' vs ds
  | _, _, .nil => .nil
  | _, _, .cons h r => .cons (Rep.mono g h) (Repf.mono g r)
end
mutual
/-- what holds no list leans on tuples alone -/
theorem Rep.noL (g : ∀ a xs, G a = some (.tup xs) → G' a = some (.tup xs)) : ∀ {v : V} {d : D}, CH.noL d = true → Rep k G v d → Rep k G' v d
  | _, _, _, .non => .non
  | _, _, _, .bl b => .bl b
  | _, _, _, .int i => .int i
  | _, _, _, .str x => .str x
  | _, _, n, .lst h r => by simp [CH.noL] at n
  | _, _, n, .tup h r => .tup (g _ _ h) (Reps.noLs g (by simpa [CH.noL] using n) r)
  | _, _, n, .deck _ => by simp [CH.noL] at n
  | _, _, n, .obj _ _ _ _ => by simp [CH.noL] at n
  | _, _, n, .exc0 _ _ => by simp [CH.noL] at n
  | _, _, n, .exc1 _ _ _ _ _ => by simp [CH.noL] at n
theorem Reps.noLs (g : ∀ a xs, G a = some (.tup xs) → G' a = some (.tup xs)) : ∀ {vs : List V} {ds : List D}, CH.noLs ds = true → Reps k G vs ds → Reps k G' vs ds
  | _, _, _, .nil => .nil
  | _ :: _, d :: ds, n, .cons h r => by
    have n' : CH.noL d = true ∧ CH.noLs ds = true := by simpa [CH.noLs] using n
    exact .cons (Rep.noL g n'.1 h) (Reps.noLs g n'.2 r)
end
mutual
theorem Rep.dp {K : W.Frag} (g : Same G H) : ∀ {v : V} {d : D}, d.hasDict = false → Rep k G v d → Dp K H v d
  | _, _, _, .non => .non
  | _, _, _, .bl b => .bl b
  | _, _, _, .int i => .int i
  | _, _, _, .str x => .str x
  | _, _, n, .lst h r => .lst (.of (g _ _ h)) (Reps.dp g (by simpa [PyData.hasDict] using n) r)
  | _, _, n, .tup h r => .tup (.of (g _ _ h)) (Reps.dp g (by simpa [PyData.hasDict] using n) r)
  | _, _, n, .deck _ => by simp [PyData.hasDict] at n
  | _, _, n, .obj _ _ _ _ => by simp [PyData.hasDict] at n
  | _, _, n, .exc0 _ _ => by simp [PyData.hasDict] at n
  | _, _, n, .exc1 _ _ _ _ _ => by simp [PyData.hasDict] at n
theorem Reps.dp {K : W.Frag} (g : Same G H) : ∀ {vs : List V} {ds : List D}, PyData.hasDictAll ds = false → Reps k G vs ds → DpAll K H vs ds
  | _, _, _, .nil => .nil
  | _ :: _, d :: ds, n, .cons h r => by
    have n' : PyData.hasDict d = false ∧ PyData.hasDictAll ds = false := by simpa [PyData.hasDictAll] using n
    exact .cons (Rep.dp g n'.1 h) (Reps.dp g n'.2 r)
end
theorem Reps.length : ∀ {vs : List V} {ds : List D}, Reps k G vs ds → vs.length = ds.length
  | _, _, .nil => rfl
  | _, _, .cons _ r => congrArg (· + 1) (Reps.length r)
theorem Reps.append : ∀ {vs ws : List V} {ds es : List D}, Reps k G vs ds → Reps k G ws es → Reps k G (vs ++ ws) (ds ++ es)
  | _, _, _, _, .nil, s => s
  | _, _, _, _, .cons h r, s => .cons h (Reps.append r s)
theorem Reps.get : ∀ {vs : List V} {ds : List D} {i : Nat}, Reps k G vs ds → (∀ d, ds[i]? = some d → ∃ v, vs[i]? = some v ∧ Rep k G v d) ∧ (∀ v, vs[i]? = some v → ∃ d, ds[i]? = some d ∧ Rep k G v d)
  | _, _, _, .nil => ⟨fun d e => by simp at e, fun d e => by simp at e⟩
  | _, _, 0, .cons h r => ⟨fun d e => by simp at e; subst e; exact ⟨_, rfl, h⟩, fun d e => by simp at e; subst e; exact ⟨_, rfl, h⟩⟩
  | _, _, i + 1, .cons h r => by
    have q := Reps.get (i := i) r
    exact ⟨fun d e => q.1 d (by simpa using e), fun d e => q.2 d (by simpa using e)⟩
theorem Reps.take : ∀ {vs : List V} {ds : List D} (n : Nat), Reps k G vs ds → Reps k G (vs.take n) (ds.take n)
  | _, _, 0, _ => .nil
  | _, _, n + 1, .nil => .nil
  | _, _, n + 1, .cons h r => .cons h (Reps.take n r)
theorem Reps.drop : ∀ {vs : List V} {ds : List D} (n : Nat), Reps k G vs ds → Reps k G (vs.drop n) (ds.drop n)
  | _, _, 0, r => r
  | _, _, n + 1, .nil => .nil
  | _, _, n + 1, .cons h r => Reps.drop n r
theorem Reps.rev : ∀ {vs : List V} {ds : List D}, Reps k G vs ds → Reps k G vs.reverse ds.reverse
  | _, _, .nil => .nil
  | _, _, .cons h r => by
    rw [List.reverse_cons, List.reverse_cons]
    exact Reps.append (Reps.rev r) (.cons h .nil)
theorem Reps.rep {vs : List V} {ds : List D} (r : Reps k G vs ds) : ∀ n : Nat, Reps k G (List.replicate n vs).flatten (List.replicate n ds).flatten
  | 0 => .nil
  | n + 1 => by
    rw [List.replicate_succ, List.replicate_succ, List.flatten_cons, List.flatten_cons]
    exact Reps.append r (Reps.rep r n)
theorem Reps.ints : ∀ {vs : List V} {ds : List D} {ns : List Int}, Reps k G vs ds → intsOf ds = some ns → vs = ns.map V.int
  | _, _, ns, .nil, e => by
    simp only [intsOf, Option.some.injEq] at e
    subst e
    rfl
  | _, _, ns, .cons h r, e => by
    cases h with
    | int i =>
      simp only [intsOf, Option.map_eq_some_iff] at e
      obtain ⟨ms, e1, e2⟩ := e
      subst e2
      rw [Reps.ints r e1]
      rfl
    | _ => simp [intsOf] at e
theorem Reps.of_ints : ∀ (ns : List Int), Reps k G (ns.map V.int) (ns.map .int)
  | [] => .nil
  | n :: r => .cons (.int n) (Reps.of_ints r)
theorem Reps.bools : ∀ {vs : List V} {ds : List D} {ns : List Bool}, Reps k G vs ds → boolsOf ds = some ns → vs = ns.map V.bl
  | _, _, ns, .nil, e => by
    simp only [boolsOf, Option.some.injEq] at e
    subst e
    rfl
  | _, _, ns, .cons h r, e => by
    cases h with
    | bl i =>
      simp only [boolsOf, Option.map_eq_some_iff] at e
      obtain ⟨ms, e1, e2⟩ := e
      subst e2
      rw [Reps.bools r e1]
      rfl
    | _ => simp [boolsOf] at e
theorem Reps.strs : ∀ {vs : List V} {ds : List D} {ns : List Str}, Reps k G vs ds → strsOf ds = some ns → vs = ns.map V.str
  | _, _, ns, .nil, e => by
    simp only [strsOf, Option.some.injEq] at e
    subst e
    rfl
  | _, _, ns, .cons h r, e => by
    cases h with
    | str i =>
      simp only [strsOf, Option.map_eq_some_iff] at e
      obtain ⟨ms, e1, e2⟩ := e
      subst e2
      rw [Reps.strs r e1]
      rfl
    | _ => simp [strsOf] at e
theorem Reps.of_strs : ∀ (ns : List Str), Reps k G (ns.map V.str) (ns.map .str)
  | [] => .nil
  | n :: r => .cons (.str n) (Reps.of_strs r)
end

/-! ### what changes -/
/-- the tables tell code objects of the right names -/
abbrev TabOk (Z : St0) (H : Hp) : Prop := LamX.Tabs Z.tabs H
/-- what stands still is tracked; the tables are in order -/
structure SameT (Z : St0) (G H : Hp) : Prop where
  s : Same G H
  t : TabOk Z H
  n : ∀ b ps, G b ≠ some (.tbl ps)
instance {Z : St0} {G H : Hp} : CoeOut (SameT Z G H) (Same G H) := ⟨SameT.s⟩
instance {Z : St0} {G H : Hp} : CoeFun (SameT Z G H) (fun _ => ∀ a o, G a = some o → H a = some o) := ⟨fun x => x.s⟩
theorem no_tbl {G : Hp} {p : Addr} {o : HO} (n : ∀ b ps, G b ≠ some (.tbl ps)) (ho : ∀ ps, o ≠ .tbl ps) : ∀ b ps, upd G p o b ≠ some (.tbl ps) := fun b ps e => by
  by_cases z : b = p
  · subst z; rw [upd_same] at e; exact ho ps (Option.some.inj e)
  · rw [upd_ne z] at e; exact n b ps e
/-- from (G, H) to (G', H'): what stands still grows by new objects, all that is tracked but the deck and the tables stays -/
structure Grow {Z : St0} (k : KA Z) (G H G' H' : Hp) : Prop where
  gg : Same G G'
  gh : SameT Z G' H'
  fr : ∀ (a : Addr) (o : HO), a ≠ k → (∀ ps, o ≠ .tbl ps) → H a = some o → H' a = some o
  nw : ∀ a o, G' a = some o → G a = some o ∨ H a = none
  kt : ∀ a, H' a = none → H a = none
  ck : ∀ c r, H k = some (.lst (.ref c :: r)) → ∃ r', H' k = some (.lst (.ref c :: r'))
section
variable {Z : St0} {k : KA Z} {G H G' H' G1 H1 G2 H2 : Hp}
theorem Grow.refl (g : SameT Z G H) : Grow k G H G H := ⟨Same.refl _, g, fun _ _ _ _ e => e, fun _ _ e => .inl e, fun _ e => e, fun _ r e => ⟨r, e⟩⟩
theorem Grow.trans (a : Grow k G H G1 H1) (b : Grow k G1 H1 G2 H2) : Grow k G H G2 H2 where
  gg := a.gg.trans b.gg
  gh := b.gh
  fr := fun x o n t e => b.fr x o n t (a.fr x o n t e)
  nw := fun x o e => (b.nw x o e).elim (fun z => a.nw x o z) fun z => .inr (a.kt x z)
  kt := fun x e => a.kt x (b.kt x e)
  ck := fun c r e => let ⟨r1, e1⟩ := a.ck c r e; b.ck c r1 e1
theorem Grow.frl (g : Grow k G H G' H') {a : Addr} {xs : List V} (n : a ≠ k) (h : H a = some (.lst xs)) : H' a = some (.lst xs) := g.fr a _ n (fun _ z => nomatch z) h
/-- the deck at k -/
def DkAt (k : KA Z) (s : Dk) (G H : Hp) : Prop := G k = none ∧ ((k.on = true ∧ ∃ c : Addr, G c = some (.lst (s.cells.map V.int)) ∧ H k = some (.lst [.ref c, .int s.pos, .int s.big, .int s.cnt])) ∨ (k.on = false ∧ (∃ u, ((k : Addr), u) ∈ Z.tabs) ∧ ∃ ps, H k = some (.tbl ps)))
theorem DkAt.move {s : Dk} (d : DkAt k s G H) (sg : Same G G') (hk : G' k = none) (e : H' k = H k) : DkAt k s G' H' := by
  obtain ⟨_, ⟨o, c, h1, h2⟩ | ⟨o, t, ps, h2⟩⟩ := d
  · exact ⟨hk, .inl ⟨o, c, sg _ _ h1, by rw [e]; exact h2⟩⟩
  · exact ⟨hk, .inr ⟨o, t, ps, by rw [e]; exact h2⟩⟩
theorem DkAt.has {s : Dk} (d : DkAt k s G H) : ∃ o, H k = some o ∧ ((∃ xs, o = .lst xs) ∨ ∃ ps, o = .tbl ps) := by
  obtain ⟨_, ⟨_, c, _, h2⟩ | ⟨_, _, ps, h2⟩⟩ := d
  · exact ⟨_, h2, .inl ⟨_, rfl⟩⟩
  · exact ⟨_, h2, .inr ⟨_, rfl⟩⟩
theorem DkAt.get {s : Dk} (d : DkAt k s G H) (o : k.on = true) : ∃ c : Addr, G c = some (.lst (s.cells.map V.int)) ∧ G k = none ∧ H k = some (.lst [.ref c, .int s.pos, .int s.big, .int s.cnt]) := by
  obtain ⟨h0, ⟨_, c, h1, h2⟩ | ⟨o', _⟩⟩ := d
  · exact ⟨c, h1, h0, h2⟩
  · rw [o] at o'; cases o'
theorem DkAt.keep {s : Dk} (d : DkAt k s G H) (g : Grow k G H G' H') (e : H' k = H k) : DkAt k s G' H' := by
  refine d.move g.gg ?_ e
  obtain ⟨o, h3, _⟩ := d.has
  cases q : G' k with
  | none => rfl
  | some o =>
    rcases g.nw k o q with z | z
    · rw [d.1] at z; cases z
    · rw [h3] at z; cases z
/-- a value's end: a new list is not yet part of what stands still -/
def RepB (fr : Bool) (k : KA Z) (G H H' : Hp) (v : V) (d : D) : Prop :=
  (fr = true ∧ ∃ a xs ds, v = .ref a ∧ d = .list ds ∧ H a = none ∧ G a = none ∧ H' a = some (.lst xs) ∧ Reps k G xs ds) ∨ ((fr = true → ∀ ds, d ≠ .list ds) ∧ Rep k G v d)
/-- a new list taken in -/
theorem RepB.rep {fr : Bool} {G0 H0 : Hp} {v : V} {d : D} {s : Dk} (g : Grow k G0 H0 G H') (hh : ∀ a, H a = none → H0 a = none) (d0 : H0 k ≠ none) (dk : DkAt k s G H') (r : RepB fr k G H H' v d) : ∃ G2, Grow k G0 H0 G2 H' ∧ DkAt k s G2 H' ∧ Rep k G2 v d := by
  rcases r with ⟨_, a, xs, ds, rfl, rfl, h1, h2, h3, h4⟩ | ⟨_, r⟩
  · have sg : Same G (upd G a (.lst xs)) := fun b o e => by rw [upd_ne (ne_of_none e h2)]; exact e
    have sh : Same (upd G a (.lst xs)) H' := fun b o e => by
      by_cases z : b = a
      · subst z; rw [upd_same] at e; rw [← e]; exact h3
      · rw [upd_ne z] at e; exact g.gh b o e
    refine ⟨upd G a (.lst xs), ⟨g.gg.trans sg, ⟨sh, g.gh.t, no_tbl g.gh.n fun _ z => nomatch z⟩, g.fr, fun b o e => ?_, g.kt, g.ck⟩, ?_, .lst upd_same (Reps.mono sg h4)⟩
    · by_cases z : b = a
      · subst z; exact .inr (hh _ h1)
      · rw [upd_ne z] at e; exact g.nw b o e
    · have ne : (k : Addr) ≠ a := fun z => d0 (by rw [z]; exact hh _ h1)
      exact dk.move sg (by rw [upd_ne ne]; exact dk.1) rfl
  · exact ⟨G, g, dk, r⟩
end
end CH

set_option Elab.async false
set_option linter.all false
set_option maxRecDepth 100000
set_option maxHeartbeats 4000000
/-! The readings of the trees; the operations on plain data. -/
namespace CH
variable {Z : St0}
open PySem L2

/-! ### new objects -/
section
variable {k : KA Z} {p : Addr} {G H : Hp} {s : Dk}
theorem TabOk.new {o : HO} (t : TabOk Z H) (h : H p = none) : TabOk Z (upd H p o) := t.ext fun b x e => by rw [upd_ne (ne_of_none e h)]; exact e
/-- an object changes that is no table, no code object -/
theorem TabOk.put {o u : HO} (t : TabOk Z H) (h : H p = some u) (n1 : ∀ ps, u ≠ .tbl ps) (n2 : ∀ φ, u ≠ .ext φ) : TabOk Z (upd H p o) := fun q hq => by
  obtain ⟨ps, e1, e2, e3⟩ := t q hq
  refine ⟨ps, ?_, e2, fun pos cv hc => ?_⟩
  · rw [upd_ne (fun z => by rw [z, h] at e1; exact n1 ps (Option.some.inj e1))]
    exact e1
  · obtain ⟨c, a1, a2⟩ := e3 pos cv hc
    refine ⟨c, a1, ?_⟩
    rw [upd_ne (fun z => by rw [z, h] at a2; exact n2 _ (Option.some.inj a2))]
    exact a2
theorem TabOk.lst {o : HO} {xs : List V} (t : TabOk Z H) (h : H p = some (.lst xs)) : TabOk Z (upd H p o) := t.put h (fun _ z => nomatch z) fun _ z => nomatch z
theorem DkAt.ne (d : DkAt k s G H) (h : H p = none) : (k : Addr) ≠ p := fun z => by
  subst z
  obtain ⟨_, e, _⟩ := d.has
  rw [h] at e
  cases e
theorem DkAt.there (d : DkAt k s G H) : H k ≠ none := fun h => d.ne h rfl
theorem Grow.both {o : HO} (g : SameT Z G H) (h : H p = none) (no : ∀ ps, o ≠ .tbl ps := by intro _ z; cases z) : Grow k G H (upd G p o) (upd H p o) where
  gg := fun b x e => by rw [upd_ne (ne_of_none (g b x e) h)]; exact e
  gh := ⟨fun b x e => by
    by_cases z : b = p
    · subst z; rw [upd_same] at e; rw [upd_same]; exact e
    · rw [upd_ne z] at e; rw [upd_ne z]; exact g b x e, g.t.new h, no_tbl g.n no⟩
  fr := fun a x n _ e => by rw [upd_ne (ne_of_none e h)]; exact e
  nw := fun a x e => by
    by_cases z : a = p
    · subst z; exact .inr h
    · rw [upd_ne z] at e; exact .inl e
  kt := fun a e => by
    by_cases z : a = p
    · subst z; exact h
    · rw [upd_ne z] at e; exact e
  ck := fun c r e => ⟨r, by rw [upd_ne (ne_of_none e h)]; exact e⟩
theorem Grow.side {o : HO} (g : SameT Z G H) (h : H p = none) : Grow k G H G (upd H p o) where
  gg := Same.refl _
  gh := ⟨fun b x e => by rw [upd_ne (ne_of_none (g b x e) h)]; exact g b x e, g.t.new h, g.n⟩
  fr := fun a x n _ e => by rw [upd_ne (ne_of_none e h)]; exact e
  nw := fun a x e => .inl e
  kt := fun a e => by
    by_cases z : a = p
    · subst z; exact h
    · rw [upd_ne z] at e; exact e
  ck := fun c r e => ⟨r, by rw [upd_ne (ne_of_none e h)]; exact e⟩
theorem none_of_same (g : Same G H) (h : H p = none) : G p = none := by
  cases q : G p with
  | none => rfl
  | some o => rw [g _ _ q] at h; cases h
end

/-! ### what is asked of an operation: by values -/
/-- what may follow a value -/
def Ends1 (fr : Bool) (k : KA Z) (G H : Hp) (d : D) (Q : VK) : Prop := ∀ v G' H', Grow k G H G' H' → H' k = H k → RepB fr k G' H H' v d → Q v H'
section
variable {fr : Bool} {k : KA Z} {G H : Hp} {s : Dk} {d : D} {Q : VK}
theorem Ends1.flat (e : Ends1 fr k G H d Q) (g : SameT Z G H) {v : V} (r : Rep k G v d) (n : fr = true → ∀ ds, d ≠ .list ds) : Q v H := e v G H (.refl g) rfl (.inr ⟨n, r⟩)
theorem Ends1.scal (e : Ends1 fr k G H d Q) (g : SameT Z G H) {v : V} (r : Rep k G v d) (n : ∀ ds, d ≠ .list ds) : Q v H := e v G H (.refl g) rfl (.inr ⟨fun _ => n, r⟩)
theorem Ends1.tup {xs : List V} {ds : List D} (e : Ends1 fr k G H (.tuple ds) Q) (g : SameT Z G H) (dk : DkAt k s G H) (r : Reps k G xs ds) {p : Addr} (h : H p = none) : Q (.ref p) (upd H p (.tup xs)) :=
  have gr : Grow k G H (upd G p (.tup xs)) (upd H p (.tup xs)) := Grow.both g h
  e _ _ _ gr (upd_ne (dk.ne h)) (.inr ⟨(fun _ _ z => by cases z), .tup upd_same (Reps.mono gr.gg r)⟩)
theorem Ends1.lst {xs : List V} {ds : List D} (e : Ends1 fr k G H (.list ds) Q) (hf : fr = true) (g : SameT Z G H) (dk : DkAt k s G H) (r : Reps k G xs ds) {p : Addr} (h : H p = none) : Q (.ref p) (upd H p (.lst xs)) :=
  e _ _ _ (Grow.side g h) (upd_ne (dk.ne h)) (.inl ⟨hf, p, xs, ds, rfl, rfl, h, none_of_same g.s h, upd_same, r⟩)
end
def r2 (sem : D → D → Option D) (fr : Bool) : R2 := fun x y H Q => ∃ (Z : St0) (k : KA Z), ∃ G s a b d, SameT Z G H ∧ DkAt k s G H ∧ Rep k G x a ∧ Rep k G y b ∧ sem a b = some d ∧ Ends1 fr k G H d Q
def r1 (sem : D → Option D) (fr : Bool) : V → Hp → VK → Prop := fun x H Q => ∃ (Z : St0) (k : KA Z), ∃ G s a d, SameT Z G H ∧ DkAt k s G H ∧ Rep k G x a ∧ sem a = some d ∧ Ends1 fr k G H d Q
def rN (sem : List D → Option D) (fr : Bool) : List V → Hp → VK → Prop := fun xs H Q => ∃ (Z : St0) (k : KA Z), ∃ G s as d, SameT Z G H ∧ DkAt k s G H ∧ Reps k G xs as ∧ sem as = some d ∧ Ends1 fr k G H d Q

/-! ### the operators -/
section
variable {X : Cx}
theorem log2_of {i : Int} (h : i.natAbs < 2 ^ 4000) : i.natAbs.log2 < 4000 := by
  by_cases z : i.natAbs = 0
  · rw [z]; decide
  · exact (Nat.log2_lt z).mpr h
theorem bin_add : OpR X (binaryOp .Add) (r2 (binD .Add) true) := by
  intro pins s σ H x y v u Q I rx ry h
  obtain ⟨Z, k, G, s', a, b, d, g, dk, ra, rb, e, q⟩ := h
  cases ra with
  | int i =>
    cases rb with
    | int j =>
      cases e
      exact op_add pins s σ H _ _ v u Q I rx ry ⟨i, j, rfl, rfl, q.scal g (.int _) (fun ds z => by cases z)⟩
    | _ => cases e
  | str i =>
    cases rb with
    | str j =>
      simp only [binD] at e
      split at e
      · cases e
        exact op_add_str pins s σ H _ _ v u Q I rx ry ⟨i, j, rfl, rfl, by assumption, q.scal g (.str _) (fun ds z => by cases z)⟩
      · cases e
    | _ => cases e
  | tup h1 r1 =>
    cases rb with
    | tup h2 r2 =>
      simp only [binD] at e
      split at e
      · rename_i hz
        cases e
        rw [← r1.length, ← r2.length] at hz
        refine op_catA pins s σ H _ _ v u Q I rx ry ⟨_, _, _, _, rfl, rfl, .of (g _ _ h1), .of (g _ _ h2), hz, fun z => ?_, fun _ z => ?_, fun _ _ p hp => ?_⟩
        · subst z
          cases r1
          exact q.scal g (.tup h2 r2) (fun ds z => by cases z)
        · subst z
          cases r2
          rw [List.append_nil] at q
          exact q.scal g (.tup h1 r1) (fun ds z => by cases z)
        · exact q.tup g dk (Reps.append r1 r2) hp
      · cases e
    | _ => cases e
  | lst h1 r1 =>
    cases rb with
    | lst h2 r2 =>
      simp only [binD] at e
      split at e
      · rename_i hz
        cases e
        rw [← r1.length, ← r2.length] at hz
        exact op_cat pins s σ H _ _ v u Q I rx ry ⟨_, _, _, _, rfl, rfl, g _ _ h1, g _ _ h2, hz, fun p hp => q.lst rfl g dk (Reps.append r1 r2) hp⟩
      · cases e
    | _ => cases e
  | _ => cases e
theorem bin_sub : OpR X (binaryOp .Sub) (r2 (binD .Sub) false) := by
  intro pins s σ H x y v u Q I rx ry h
  obtain ⟨Z, k, G, s', a, b, d, g, dk, ra, rb, e, q⟩ := h
  cases ra with
  | int i =>
    cases rb with
    | int j =>
      cases e
      exact op_sub pins s σ H _ _ v u Q I rx ry ⟨i, j, rfl, rfl, q.scal g (.int _) (fun ds z => by cases z)⟩
    | _ => cases e
  | _ => cases e
theorem bin_mod : OpR X (binaryOp .Mod) (r2 (binD .Mod) false) := by
  intro pins s σ H x y v u Q I rx ry h
  obtain ⟨Z, k, G, s', a, b, d, g, dk, ra, rb, e, q⟩ := h
  cases ra with
  | int i =>
    cases rb with
    | int j =>
      simp only [binD] at e
      split at e
      · cases e
        exact op_mod pins s σ H _ _ v u Q I rx ry ⟨i, j, rfl, rfl, by assumption, q.scal g (.int _) (fun ds z => by cases z)⟩
      · cases e
    | _ => cases e
  | _ => cases e
theorem bin_fdiv : OpR X (binaryOp .FloorDiv) (r2 (binD .FloorDiv) false) := by
  intro pins s σ H x y v u Q I rx ry h
  obtain ⟨Z, k, G, s', a, b, d, g, dk, ra, rb, e, q⟩ := h
  cases ra with
  | int i =>
    cases rb with
    | int j =>
      simp only [binD] at e
      split at e
      · rename_i hj
        cases e
        have h2 : j.natAbs < 2 ^ 4000 := by
          have e2 : ((2 : Int) ^ 4000) = ((2 ^ 4000 : Nat) : Int) := by rw [Int.natCast_pow]; rfl
          have h3 := hj.2
          rw [e2] at h3
          omega
        exact op_fdivW pins s σ H _ _ v u Q I rx ry ⟨i, j, rfl, rfl, ⟨hj.1, Nat.lt_trans (log2_of h2) (by decide)⟩, q.scal g (.int _) (fun ds z => by cases z)⟩
      · cases e
    | _ => cases e
  | _ => cases e
theorem bin_pow : OpR X (binaryOp .Pow) (r2 (binD .Pow) false) := by
  intro pins s σ H x y v u Q I rx ry h
  obtain ⟨Z, k, G, s', a, b, d, g, dk, ra, rb, e, q⟩ := h
  cases ra with
  | int i =>
    cases rb with
    | int j =>
      simp only [binD] at e
      split at e
      · rename_i hj
        cases e
        exact op_pow pins s σ H _ _ v u Q I rx ry ⟨i, j, rfl, rfl, ⟨hj.1, by omega, hj.2.2⟩, q.scal g (.int _) (fun ds z => by cases z)⟩
      · cases e
    | _ => cases e
  | _ => cases e
end
end CH

set_option Elab.async false
set_option linter.all false
set_option maxRecDepth 100000
set_option maxHeartbeats 4000000
namespace CH
variable {Z : St0}
open PySem L2 PyProof.Rows
/-- a tuple times one, or an empty one: the tuple itself -/
theorem mulSame (l : Addr) (items : Array Value) (n : Nat) (dd : Option Addr) (sl : Array (Option Value)) (x : Int) (u : Tok)
    (b0 : (decide (x < -(2 ^ 63)) || decide (x ≥ 2 ^ 63)) = false) (b1 : (items.isEmpty || x == 1) = true) :
    Meets (Builtin.«tuple.__mul__» ⟨[.ref l, .int x u], []⟩) (fun _ R s => s.heap.get? l = some { cls := .type "tuple", dict := dd, data := .seq items n, slots := sl } ∧ R (.ok (.ret (Value.ref l))) s) :=
  .of_wp fun prog w A R s h => by
    obtain ⟨hp, g, d, tk, os⟩ := s
    obtain ⟨hl, h⟩ := h
    have f1 := AutoSeq1.idx_int
    wp_walk using wpAny_loadPart' hl
    repeat (first
      | (refine wpAny_ite_false (decide_eq_false (by rw [b0]; exact Bool.false_ne_true)) ?_; wp_walk using wpAny_loadPart' hl)
      | (refine wpAny_ite_true (decide_eq_true b1) ?_; wp_walk using wpAny_loadPart' hl))
    exact ⟨_, rfl, h⟩
theorem mulZero (l : Addr) (items : Array Value) (n : Nat) (dd : Option Addr) (sl : Array (Option Value)) (x : Int) (u : Tok)
    (b0 : (decide (x < -(2 ^ 63)) || decide (x ≥ 2 ^ 63)) = false) (b1 : (items.isEmpty || x == 1) = false) (b2 : (decide (x ≤ 0) || items.isEmpty) = true) :
    Meets (Builtin.«tuple.__mul__» ⟨[.ref l, .int x u], []⟩) (fun _ R s => s.heap.get? l = some { cls := .type "tuple", dict := dd, data := .seq items n, slots := sl } ∧
      R (.ok (.ret (Value.ref s.heap.objs.size))) { s with heap := s.heap.push { cls := Value.type "tuple", data := Data.seq #[] }, toks := s.toks }) :=
  .of_wp fun prog w A R s h => by
    obtain ⟨hp, g, d, tk, os⟩ := s
    obtain ⟨hl, h⟩ := h
    have f1 := AutoSeq1.idx_int
    wp_walk using wpAny_loadPart' hl
    repeat (first
      | (refine wpAny_ite_false (decide_eq_false (by rw [b0]; exact Bool.false_ne_true)) ?_; wp_walk using wpAny_loadPart' hl)
      | (refine wpAny_ite_false (decide_eq_false (by rw [b1]; exact Bool.false_ne_true)) ?_; wp_walk using wpAny_loadPart' hl)
      | (refine wpAny_ite_true (decide_eq_true b2) ?_; wp_walk using wpAny_loadPart' hl))
    exact ⟨_, rfl, h⟩
section
variable {X : Cx}
/-- t * 1, () * i: the tuple itself; t * i below one: () -/
theorem rep_few {pins : List (Addr × Obj)} {s : Shared} {σ : L2.St} {H : Hp} {l : Addr} {i : Int} {xs : List V} {v u : Value} {Q : VK} (I : Inv X pins σ H s) (rx : RelV (.ref l) v) (ry : RelV (.int i) u) (hT : SqT X.K H l xs)
    (hi : -1000 ≤ i ∧ i ≤ 1000) (hc : xs = [] ∨ i ≤ 1) (q1 : (xs = [] ∨ i = 1) → Q (.ref l) H) (q2 : ¬ (xs = [] ∨ i = 1) → ∀ p, H p = none → Q (.ref p) (upd H p (.tup []))) :
    wpAny (model X.prog X.w) X.A (binaryOp .Mult v u) (EP X pins σ Q) X.xe s := by
  cases rx
  obtain ⟨t, rfl⟩ := ry
  obtain ⟨its, r, ⟨⟨cls, dd, data, sl⟩, ho, hcl, n, hd⟩, hs⟩ := I.tuple hT
  simp only at hcl hd
  subst hcl hd
  have e0 : its.toArray.isEmpty = decide (xs = []) := by
    cases r with
    | nil => rfl
    | cons _ _ => rfl
  have c0 : (decide (i < -(2 ^ 63)) || decide (i ≥ 2 ^ 63)) = false := by
    rw [decide_eq_false (by omega), decide_eq_false (by omega)] <;> rfl
  by_cases hq : xs = [] ∨ i = 1
  · have b1 : (its.toArray.isEmpty || i == 1) = true := by
      rw [e0]
      rcases hq with z | z
      · simp [z]
      · simp [z]
    exact wpAny_binaryOp_repeat_ref (T := "tuple") (U := "int") (by decide) ⟨_, ho, rfl⟩ (fun s' => typeIs_int s' i t) noFill_tuple_mul F.fills_int_mul F.slot_int_rmul repeat_tuple F.slot_int_index.lookup
      (call_meets F.slot_int_rmul (typeIs_int s i t) F.entry_int_rmul (F.args_int_rmul_2 _ _) (int_rmul_tuple i t l its.toArray n dd sl)
        ⟨ho, rfl, ⟨_, ho, rfl⟩, call_meets F.slot_tuple_mul ⟨_, ho, rfl⟩ F.entry_tuple_mul (F.args_tuple_mul_2 _ _) (mulSame l its.toArray n dd sl i t c0 b1) ⟨ho, .ref l, H, I, rfl, q1 hq⟩⟩)
  · have h0 : i ≤ 0 := by
      rcases hc with z | z
      · exact absurd (.inl z) hq
      · have : i ≠ 1 := fun z => hq (.inr z)
        omega
    have b1 : (its.toArray.isEmpty || i == 1) = false := by
      rw [e0]
      simp only [not_or] at hq
      simp [hq.1, hq.2]
    have b2 : (decide (i ≤ 0) || its.toArray.isEmpty) = true := by simp [h0]
    refine wpAny_binaryOp_repeat_ref (T := "tuple") (U := "int") (by decide) ⟨_, ho, rfl⟩ (fun s' => typeIs_int s' i t) noFill_tuple_mul F.fills_int_mul F.slot_int_rmul repeat_tuple F.slot_int_index.lookup
      (call_meets F.slot_int_rmul (typeIs_int s i t) F.entry_int_rmul (F.args_int_rmul_2 _ _) (int_rmul_tuple i t l its.toArray n dd sl)
        ⟨ho, rfl, ⟨_, ho, rfl⟩, call_meets F.slot_tuple_mul ⟨_, ho, rfl⟩ F.entry_tuple_mul (F.args_tuple_mul_2 _ _) (mulZero l its.toArray n dd sl i t c0 b1 b2) ⟨ho, ?_⟩⟩)
    refine ⟨.ref s.heap.objs.size, _, I.laid (t' := s.toks) (o := .tup []) (fun b ob q => Heap.get?_push_of_some _ q) (Nat.le_refl _) ?_, rfl, q2 hq _ (I.hok.fresh (Nat.le_refl _))⟩
    exact ⟨Nat.zero_le _, [], .nil, IsTup.new _ _⟩
theorem bin_mul : OpR X (binaryOp .Mult) (r2 (binD .Mult) true) := by
  intro pins s σ H x y v u Q I rx ry h
  obtain ⟨Z, k, G, s', a, b, d, g, dk, ra, rb, e, q⟩ := h
  cases ra with
  | str x =>
    cases rb with
    | int i =>
      simp only [binD] at e
      split at e
      · rename_i hz
        cases e
        obtain ⟨t1, rfl⟩ := (rx : ∃ t, v = Value.str x t)
        obtain ⟨t2, rfl⟩ := (ry : ∃ t, u = Value.int i t)
        have q' : Q (.str (Txt.mul x i)) H := q.scal g (.str _) (fun ds z => by cases z)
        have hok : MulOk x i := by
          have n1 : ¬ i < -(2 ^ 63 : Int) := by omega
          have n2 : ¬ i ≥ (2 ^ 63 : Int) := by omega
          have hs := sizeLine_eq
          have hmul : ∀ m : Nat, m ≤ 10000 → x.length * m ≤ 10000000 := fun m hm => Nat.le_trans (Nat.mul_le_mul hz.1 hm) (by decide)
          refine ⟨by rw [decide_eq_false n1, decide_eq_false n2]; rfl, fun h1 _ => ?_, fun h1 _ => ?_⟩
          · have h2 : 1 ≤ i := by omega
            have h3 : (1000 : Int) ≤ (2 ^ 63 - 1) / i := (Int.le_ediv_iff_mul_le (by omega)).mpr (by omega)
            omega
          · have := hmul i.toNat (by omega)
            unfold Builtin.Str.tooLong
            rw [decide_eq_false (by omega)]
        exact SB.mul hok fun t' k => ⟨.str _, H, I.tok _, ⟨_, rfl⟩, q'⟩
      · cases e
    | _ => cases e
  | int i =>
    cases rb with
    | int j =>
      simp only [binD] at e
      split at e
      · rename_i hm
        cases e
        have q' : Q (.int (i * j)) H := q.scal g (.int _) (fun ds z => by cases z)
        simp only [mulOk, Bool.or_eq_true, Bool.and_eq_true, decide_eq_true_eq] at hm
        rcases hm with (h1 | h1) | h1
        · exact op_mul pins s σ H _ _ v u Q I rx ry ⟨i, j, rfl, rfl, .inl h1, q'⟩
        · exact op_mul pins s σ H _ _ v u Q I rx ry ⟨i, j, rfl, rfl, .inr h1, q'⟩
        · exact op_mulW pins s σ H _ _ v u Q I rx ry ⟨i, j, rfl, rfl, by
            have a1 := log2_of h1.1
            have a2 := log2_of h1.2
            show _ + _ < _
            omega, q'⟩
      · cases e
    | _ => cases e
  | tup h1 r1 =>
    cases rb with
    | int i =>
      rename_i a xs ds
      simp only [binD] at e
      split at e
      · rename_i hz
        cases e
        rw [← r1.length] at hz
        by_cases hc : xs = [] ∨ i ≤ 1
        · refine rep_few I rx ry (.of (g _ _ h1)) ⟨hz.2.2, hz.2.1⟩ hc (fun z => ?_) fun z p hp => ?_
          · have e1 : (List.replicate i.toNat ds).flatten = ds := by
              rcases z with z | z
              · subst z
                cases r1
                simp
              · subst z
                show (List.replicate 1 ds).flatten = ds
                simp
            rw [e1] at q
            exact q.scal g (.tup h1 r1) (fun ds z => by cases z)
          · have e1 : (List.replicate i.toNat ds).flatten = [] := by
              have : i.toNat = 0 := by
                rcases hc with y | y
                · exact absurd (.inl y) z
                · have : i ≠ 1 := fun y => z (.inr y)
                  omega
              rw [this]
              rfl
            rw [e1] at q
            exact q.tup g dk .nil hp
        · simp only [not_or] at hc
          exact op_repT pins s σ H _ _ v u Q I rx ry ⟨_, _, _, rfl, rfl, .of (g _ _ h1), hc.1, by omega, hz.2.1, hz.1, fun p hp => q.tup g dk (Reps.rep r1 _) hp⟩
      · cases e
    | _ => cases e
  | lst h1 r1 =>
    cases rb with
    | int i =>
      simp only [binD] at e
      split at e
      · rename_i hz
        cases e
        rw [← r1.length] at hz
        refine op_rep pins s σ H _ _ v u Q I rx ry ⟨_, _, _, rfl, rfl, g _ _ h1, by omega, by omega, ?_, fun p hp => q.lst rfl g dk (Reps.rep r1 _) hp⟩
        refine Nat.le_trans (Nat.mul_le_mul hz.1 (show i.toNat ≤ 1000 by omega)) (by rw [sizeLine_eq]; decide)
      · cases e
    | _ => cases e
  | _ => cases e
/-! ### comparisons -/
theorem flatD {a : D} (h : SeqAt.shaped a = true) : a.hasDict = false := PyData.hasDict_of_canLay a (SeqAt.canLay_of_shaped h)
def cB (op : CmpOp) (a b : D) : Option D := (cmpD op a b).map .bool
theorem cmp_eq (hu : X.A.units + 64 < cLine) : OpR X (compareOp .Eq) (r2 (cB .Eq) false) := by
  intro pins s σ H x y v u Q I rx ry h
  obtain ⟨Z, k, G, s', a, b, d, g, dk, ra, rb, e, q⟩ := h
  simp only [cB, cmpD, Option.map_eq_some_iff] at e
  obtain ⟨t, e1, e2⟩ := e
  split at e1
  · rename_i hs
    cases e1
    rw [Bool.and_eq_true] at hs
    cases e2
    exact op_eqD hu pins s σ H _ _ v u Q I rx ry ⟨a, b, Rep.dp g (flatD hs.1) ra, Rep.dp g (flatD hs.2) rb, hs.1, hs.2, q.scal g (.bl _) (fun ds z => by cases z)⟩
  · cases e1
theorem cmp_ne (hu : X.A.units + 64 < cLine) : OpR X (compareOp .NotEq) (r2 (cB .NotEq) false) := by
  intro pins s σ H x y v u Q I rx ry h
  obtain ⟨Z, k, G, s', a, b, d, g, dk, ra, rb, e, q⟩ := h
  simp only [cB, cmpD, Option.map_eq_some_iff] at e
  obtain ⟨t, e1, e2⟩ := e
  split at e1
  · rename_i hs
    cases e1
    rw [Bool.and_eq_true] at hs
    cases e2
    exact op_neD hu pins s σ H _ _ v u Q I rx ry ⟨a, b, Rep.dp g (flatD hs.1) ra, Rep.dp g (flatD hs.2) rb, hs.1, hs.2, q.scal g (.bl _) (fun ds z => by cases z)⟩
  · cases e1
theorem cmp_gt : OpR X (compareOp .Gt) (r2 (cB .Gt) false) := by
  intro pins s σ H x y v u Q I rx ry h
  obtain ⟨Z, k, G, s', a, b, d, g, dk, ra, rb, e, q⟩ := h
  cases ra with
  | int i =>
    cases rb with
    | int j =>
      cases e
      exact op_gt pins s σ H _ _ v u Q I rx ry ⟨i, j, rfl, rfl, q.scal g (.bl _) (fun ds z => by cases z)⟩
    | _ => cases e
  | _ => cases e
theorem cmp_le (hu : X.A.units < cLine) : OpR X (compareOp .LtE) (r2 (cB .LtE) false) := by
  intro pins s σ H x y v u Q I rx ry h
  obtain ⟨Z, k, G, s', a, b, d, g, dk, ra, rb, e, q⟩ := h
  cases ra with
  | int i =>
    cases rb with
    | int j =>
      cases e
      exact op_le pins s σ H _ _ v u Q I rx ry ⟨i, j, rfl, rfl, q.scal g (.bl _) (fun ds z => by cases z)⟩
    | _ => cases e
  | tup h1 r1 =>
    cases rb with
    | tup h2 r2 =>
      simp only [cB, cmpD, Option.map_eq_some_iff] at e
      obtain ⟨t, e1, e2⟩ := e
      split at e1
      · rename_i ns ms n1 n2
        cases e1
        cases e2
        rw [r1.ints n1] at h1
        rw [r2.ints n2] at h2
        exact op_leT hu pins s σ H _ _ v u Q I rx ry ⟨_, _, ns, ms, rfl, rfl, .of (g _ _ h1), .of (g _ _ h2), q.scal g (.bl _) (fun ds z => by cases z)⟩
      · cases e1
    | _ => cases e
  | _ => cases rb <;> cases e
theorem cmp_in (hu : X.A.units + 65 < cLine) : OpR X (compareOp .In) (r2 (cB .In) false) := by
  intro pins s σ H x y v u Q I rx ry h
  obtain ⟨Z, k, G, s', a, b, d, g, dk, ra, rb, e, q⟩ := h
  cases rb with
  | lst h1 r1 =>
    simp only [cB, cmpD, inD, Option.map_eq_some_iff] at e
    obtain ⟨t, e1, e2⟩ := e
    split at e1
    · rename_i hs
      cases e1
      cases e2
      rw [Bool.and_eq_true] at hs
      exact op_inD hu pins s σ H _ _ v u Q I rx ry ⟨a, _, Rep.dp g (flatD hs.1) ra, Rep.dp g (flatD hs.2) (.lst h1 r1), hs.1, hs.2, q.scal g (.bl _) (fun ds z => by cases z)⟩
    · cases e1
  | tup h1 r1 =>
    rename_i a2 xs ds
    simp only [cB, cmpD, inD, Option.map_eq_some_iff] at e
    obtain ⟨t, e1, e2⟩ := e
    split at e1
    · rename_i hs
      cases e1
      cases e2
      rw [Bool.and_eq_true] at hs
      have hs2 : SeqAt.shaped (.tuple ds) = true := by
        have := hs.2
        simp only [SeqAt.shaped, PyData.canLay0, PyData.depth] at this ⊢
        exact this
      obtain ⟨as, q1⟩ := Dp.reads I a x v (Rep.dp g (flatD hs.1) ra) rx
      obtain ⟨bs, q2⟩ := Dp.reads I (.tuple ds) _ u (Rep.dp g (flatD hs2) (.tup h1 r1)) ry
      exact SeqAt.in_tuple_reads q2 q1 (SeqAt.canLay_of_shaped hs2) (SeqAt.canLay_of_shaped hs.1) (room_in_shaped hs.1 hu) ⟨.bl _, H, I, rfl, q.scal g (.bl _) (fun ds z => by cases z)⟩
    · cases e1
  | _ => cases a <;> cases e
theorem cmp_notIn (hu : X.A.units + 65 < cLine) : OpR X (compareOp .NotIn) (r2 (cB .NotIn) false) := by
  intro pins s σ H x y v u Q I rx ry h
  obtain ⟨Z, k, G, s', a, b, d, g, dk, ra, rb, e, q⟩ := h
  cases rb with
  | lst h1 r1 =>
    simp only [cB, cmpD, inD, Option.map_eq_some_iff] at e
    obtain ⟨t, ⟨t', e1, e3⟩, e2⟩ := e
    split at e1
    · rename_i hs
      cases e1
      cases e3
      cases e2
      rw [Bool.and_eq_true] at hs
      exact op_notInD hu pins s σ H _ _ v u Q I rx ry ⟨a, _, Rep.dp g (flatD hs.1) ra, Rep.dp g (flatD hs.2) (.lst h1 r1), hs.1, hs.2, q.scal g (.bl _) (fun ds z => by cases z)⟩
    · cases e1
  | tup h1 r1 =>
    rename_i a2 xs ds
    simp only [cB, cmpD, inD, Option.map_eq_some_iff] at e
    obtain ⟨t, ⟨t', e1, e3⟩, e2⟩ := e
    split at e1
    · rename_i hs
      cases e1
      cases e3
      cases e2
      rw [Bool.and_eq_true] at hs
      have hs2 : SeqAt.shaped (.tuple ds) = true := by
        have := hs.2
        simp only [SeqAt.shaped, PyData.canLay0, PyData.depth] at this ⊢
        exact this
      obtain ⟨as, q1⟩ := Dp.reads I a x v (Rep.dp g (flatD hs.1) ra) rx
      obtain ⟨bs, q2⟩ := Dp.reads I (.tuple ds) _ u (Rep.dp g (flatD hs2) (.tup h1 r1)) ry
      exact SeqAt.notIn_tuple_reads q2 q1 (SeqAt.canLay_of_shaped hs2) (SeqAt.canLay_of_shaped hs.1) (room_in_shaped hs.1 hu) ⟨.bl _, H, I, rfl, q.scal g (.bl _) (fun ds z => by cases z)⟩
    · cases e1
  | _ => cases a <;> cases e
end
end CH

set_option Elab.async false
set_option linter.all false
set_option maxRecDepth 100000
set_option maxHeartbeats 4000000
namespace CH
variable {Z : St0}
open PySem L2 PyProof.Rows
section
variable {X : Cx}
theorem Reps.one {k : KA Z} {G : Hp} : ∀ {xs : List V} {d : D}, Reps k G xs [d] → ∃ v, xs = [v] ∧ Rep k G v d
  | _, _, .cons h .nil => ⟨_, rfl, h⟩
theorem Reps.two {k : KA Z} {G : Hp} : ∀ {xs : List V} {d e : D}, Reps k G xs [d, e] → ∃ v w, xs = [v, w] ∧ Rep k G v d ∧ Rep k G w e
  | _, _, _, .cons h (.cons h2 .nil) => ⟨_, _, rfl, h, h2⟩
theorem maxL_ge : ∀ (r : List Int) (m : Int), m ≤ maxL m r ∧ (∀ y ∈ r, y ≤ maxL m r) ∧ (maxL m r = m ∨ maxL m r ∈ r)
  | [], m => ⟨Int.le_refl _, (fun _ h => nomatch h), .inl rfl⟩
  | i :: r, m => by
    unfold maxL
    obtain ⟨h1, h2, h3⟩ := maxL_ge r (if i > m then i else m)
    have c : m ≤ (if i > m then i else m) ∧ i ≤ (if i > m then i else m) := by split <;> omega
    refine ⟨Int.le_trans c.1 h1, fun y hy => ?_, ?_⟩
    · rcases List.mem_cons.mp hy with e | hy
      · subst e; exact Int.le_trans c.2 h1
      · exact h2 y hy
    · rcases h3 with e | e
      · rw [e]
        split
        · exact .inr List.mem_cons_self
        · exact .inl rfl
      · exact .inr (List.mem_cons_of_mem _ e)
theorem minL_le : ∀ (r : List Int) (m : Int), minL m r ≤ m ∧ (∀ y ∈ r, minL m r ≤ y) ∧ (minL m r = m ∨ minL m r ∈ r)
  | [], m => ⟨Int.le_refl _, (fun _ h => nomatch h), .inl rfl⟩
  | i :: r, m => by
    unfold minL
    obtain ⟨h1, h2, h3⟩ := minL_le r (if i < m then i else m)
    have c : (if i < m then i else m) ≤ m ∧ (if i < m then i else m) ≤ i := by split <;> omega
    refine ⟨Int.le_trans h1 c.1, fun y hy => ?_, ?_⟩
    · rcases List.mem_cons.mp hy with e | hy
      · subst e; exact Int.le_trans h1 c.2
      · exact h2 y hy
    · rcases h3 with e | e
      · rw [e]
        split
        · exact .inr List.mem_cons_self
        · exact .inl rfl
      · exact .inr (List.mem_cons_of_mem _ e)
theorem bi_abs : CallR X (.builtin "abs") (rN (biD .abs) false) := by
  intro pins s σ H xs us Q I r h
  obtain ⟨Z, k, G, s', as, d, g, dk, ra, e, q⟩ := h
  match as, ra, e with
  | [.int i], ra, e =>
    cases e
    obtain ⟨v, rfl, rv⟩ := ra.one
    cases rv
    exact call_abs pins s σ H _ us Q I r ⟨i, rfl, q.scal g (.int _) (fun ds z => by cases z)⟩
theorem bi_int : CallR X (.type "int") (rN (biD .int) false) := by
  intro pins s σ H xs us Q I r h
  obtain ⟨Z, k, G, s', as, d, g, dk, ra, e, q⟩ := h
  match as, ra, e with
  | [.int i], ra, e =>
    cases e
    obtain ⟨v, rfl, rv⟩ := ra.one
    cases rv
    exact call_int1 pins s σ H _ us Q I r (.inl ⟨i, rfl, q.scal g (.int _) (fun ds z => by cases z)⟩)
  | [.str x], ra, e =>
    simp only [biD] at e
    split at e
    · rename_i hl
      obtain ⟨n, hn, e2⟩ := Option.map_eq_some_iff.mp e
      subst e2
      obtain ⟨v, rfl, rv⟩ := ra.one
      cases rv
      exact call_int_str pins s σ H _ us Q I r ⟨x, n, rfl, hn, hl, q.scal g (.int _) (fun ds z => by cases z)⟩
    · cases e
  | [.bool i], ra, e =>
    cases e
    obtain ⟨v, rfl, rv⟩ := ra.one
    cases rv
    exact call_int1 pins s σ H _ us Q I r (.inr ⟨i, rfl, q.scal g (.int _) (fun ds z => by cases z)⟩)
theorem bi_max2 (hc : X.calm = true) : CallR X (.builtin "max") (rN (biD .max2) false) := by
  intro pins s σ H xs us Q I r h
  obtain ⟨Z, k, G, s', as, d, g, dk, ra, e, q⟩ := h
  match as, ra, e with
  | [.int i, .int j], ra, e =>
    cases e
    obtain ⟨v, w, rfl, rv, rw⟩ := ra.two
    cases rv
    cases rw
    exact call_max2 hc pins s σ H _ us Q I r ⟨i, j, rfl, q.scal g (.int _) (fun ds z => by cases z)⟩
theorem bi_min2 (hc : X.calm = true) : CallR X (.builtin "min") (rN (biD .min2) false) := by
  intro pins s σ H xs us Q I r h
  obtain ⟨Z, k, G, s', as, d, g, dk, ra, e, q⟩ := h
  match as, ra, e with
  | [.int i, .int j], ra, e =>
    cases e
    obtain ⟨v, w, rfl, rv, rw⟩ := ra.two
    cases rv
    cases rw
    exact call_min2 hc pins s σ H _ us Q I r ⟨i, j, rfl, q.scal g (.int _) (fun ds z => by cases z)⟩
theorem bi_all (hc : X.calm = true) : CallR X (.builtin "all") (rN (biD .all) false) := by
  intro pins s σ H xs us Q I r h
  obtain ⟨Z, k, G, s', as, d, g, dk, ra, e, q⟩ := h
  match as, ra, e with
  | [.list ds], ra, e =>
    simp only [biD, Option.map_eq_some_iff] at e
    obtain ⟨bs, e1, e2⟩ := e
    subst e2
    obtain ⟨v, rfl, rv⟩ := ra.one
    cases rv with
    | lst h1 r1 =>
      rw [r1.bools e1] at h1
      exact cr_all hc pins s σ H _ us Q I r ⟨_, bs, rfl, .of (g _ _ h1), q.scal g (.bl _) (fun ds z => by cases z)⟩
theorem bi_any (hc : X.calm = true) : CallR X (.builtin "any") (rN (biD .any) false) := by
  intro pins s σ H xs us Q I r h
  obtain ⟨Z, k, G, s', as, d, g, dk, ra, e, q⟩ := h
  match as, ra, e with
  | [.list ds], ra, e =>
    simp only [biD, Option.map_eq_some_iff] at e
    obtain ⟨bs, e1, e2⟩ := e
    subst e2
    obtain ⟨v, rfl, rv⟩ := ra.one
    cases rv with
    | lst h1 r1 =>
      rw [r1.bools e1] at h1
      exact cr_any hc pins s σ H _ us Q I r ⟨_, bs, rfl, .of (g _ _ h1), q.scal g (.bl _) (fun ds z => by cases z)⟩
theorem bi_len : CallR X (.builtin "len") (rN (biD .len) false) := by
  intro pins s σ H xs us Q I r h
  obtain ⟨Z, k, G, s', as, d, g, dk, ra, e, q⟩ := h
  match as, ra, e with
  | [.list ds], ra, e =>
    cases e
    obtain ⟨v, rfl, rv⟩ := ra.one
    cases rv with
    | lst h1 r1 => exact call_len_seq pins s σ H _ us Q I r ⟨_, _, rfl, .inl (.of (g _ _ h1)), by rw [r1.length]; exact q.scal g (.int _) (fun ds z => by cases z)⟩
  | [.tuple ds], ra, e =>
    cases e
    obtain ⟨v, rfl, rv⟩ := ra.one
    cases rv with
    | tup h1 r1 => exact call_len_seq pins s σ H _ us Q I r ⟨_, _, rfl, .inr (.of (g _ _ h1)), by rw [r1.length]; exact q.scal g (.int _) (fun ds z => by cases z)⟩
  | [.str x], ra, e =>
    simp only [biD] at e
    split at e
    · rename_i hz
      cases e
      obtain ⟨v, rfl, rv⟩ := ra.one
      cases rv with
      | str => exact call_len_str pins s σ H _ us Q I r ⟨_, rfl, hz, q.scal g (.int _) (fun ds z => by cases z)⟩
    · cases e
theorem bi_str : CallR X (.type "str") (rN (biD .str) false) := by
  intro pins s σ H xs us Q I r h
  obtain ⟨Z, k, G, s', as, d, g, dk, ra, e, q⟩ := h
  match as, ra, e with
  | [.int i], ra, e =>
    simp only [biD] at e
    split at e
    · rename_i hz
      cases e
      obtain ⟨v, rfl, rv⟩ := ra.one
      cases rv with
      | int => exact call_str_int pins s σ H _ us Q I r ⟨_, rfl, hz, q.scal g (.str _) (fun ds z => by cases z)⟩
    · cases e
  | [.str x], ra, e =>
    cases e
    obtain ⟨v, rfl, rv⟩ := ra.one
    cases rv with
    | str => exact SkE.call_str_str pins s σ H _ us Q I r ⟨_, rfl, q.scal g (.str _) (fun ds z => by cases z)⟩
theorem bi_list : CallR X (.type "list") (rN (biD .list) true) := by
  intro pins s σ H xs us Q I r h
  obtain ⟨Z, k, G, s', as, d, g, dk, ra, e, q⟩ := h
  match as, ra, e with
  | [.list ds], ra, e =>
    cases e
    obtain ⟨v, rfl, rv⟩ := ra.one
    cases rv with
    | lst h1 r1 => exact call_list_of pins s σ H _ us Q I r ⟨_, _, rfl, .inl (.of (g _ _ h1)), fun l hl => q.lst rfl g dk r1 hl⟩
  | [.tuple ds], ra, e =>
    cases e
    obtain ⟨v, rfl, rv⟩ := ra.one
    cases rv with
    | tup h1 r1 => exact call_list_of pins s σ H _ us Q I r ⟨_, _, rfl, .inr (.of (g _ _ h1)), fun l hl => q.lst rfl g dk r1 hl⟩
theorem bi_tuple : CallR X (.type "tuple") (rN (biD .tuple) false) := by
  intro pins s σ H xs us Q I r h
  obtain ⟨Z, k, G, s', as, d, g, dk, ra, e, q⟩ := h
  match as, ra, e with
  | [.list ds], ra, e =>
    cases e
    obtain ⟨v, rfl, rv⟩ := ra.one
    cases rv with
    | lst h1 r1 => exact call_tuple_of pins s σ H _ us Q I r ⟨_, _, rfl, .inl ⟨.of (g _ _ h1), fun l hl => q.tup g dk r1 hl⟩⟩
  | [.tuple ds], ra, e =>
    cases e
    obtain ⟨v, rfl, rv⟩ := ra.one
    cases rv with
    | tup h1 r1 => exact call_tuple_of pins s σ H _ us Q I r ⟨_, _, rfl, .inr ⟨.of (g _ _ h1), q.scal g (.tup h1 r1) (fun ds z => by cases z)⟩⟩
theorem maxL_fold : ∀ (r : List Int) (m : Int), r.foldl max m = maxL m r
  | [], _ => rfl
  | i :: r, m => by
    rw [List.foldl_cons, maxL, ← maxL_fold r]
    congr 1
    by_cases h : i > m
    · rw [if_pos h]; omega
    · rw [if_neg h]; omega
theorem minL_fold : ∀ (r : List Int) (m : Int), r.foldl min m = minL m r
  | [], _ => rfl
  | i :: r, m => by
    rw [List.foldl_cons, minL, ← minL_fold r]
    congr 1
    by_cases h : i < m
    · rw [if_pos h]; omega
    · rw [if_neg h]; omega
theorem alike_intsA (ns : List Int) : PySem.W.AlikeAll (ns.map .int) := by
  refine ⟨fun x hx y hy => ?_, fun x hx => ?_⟩
  · obtain ⟨i, _, rfl⟩ := List.mem_map.mp hx
    obtain ⟨j, _, rfl⟩ := List.mem_map.mp hy
    rfl
  · obtain ⟨i, _, rfl⟩ := List.mem_map.mp hx
    exact fun z => by cases z
theorem depth_intsA : ∀ ns : List Int, PyData.depthAll (ns.map .int) = 0
  | [] => rfl
  | n :: r => by rw [List.map_cons, PyData.depthAll, depth_intsA r]; rfl
theorem bi_max (hc : X.calm = true) (hu : X.A.units + 2 < cLine) : CallR X (.builtin "max") (rN (biD .max) false) := by
  intro pins s σ H xs us Q I r h
  obtain ⟨Z, k, G, s', as, d, g, dk, ra, e, q⟩ := h
  match as, ra, e with
  | [.list ds], ra, e =>
    simp only [biD] at e
    split at e
    · rename_i i ns e1
      cases e
      obtain ⟨v, rfl, rv⟩ := ra.one
      cases rv with
      | lst h1 r1 =>
        rw [r1.ints e1] at h1
        refine cr_max hc pins s σ H _ us Q I r ⟨_, i :: ns, rfl, .of (g _ _ h1), Nat.succ_pos _, fun m hm hle => ?_⟩
        obtain ⟨a1, a2, a3⟩ := maxL_ge ns i
        have : m = maxL i ns := by
          have b1 : m ≤ maxL i ns := by
            rcases List.mem_cons.mp hm with z | z
            · omega
            · exact a2 m z
          have b2 : maxL i ns ≤ m := by
            rcases a3 with z | z
            · rw [z]; exact hle i List.mem_cons_self
            · exact hle _ (List.mem_cons_of_mem _ z)
          omega
        subst this
        exact q.scal g (.int _) (fun ds z => by cases z)
    · cases e
  | [.tuple ds], ra, e =>
    simp only [biD] at e
    split at e
    · rename_i i ns e1
      cases e
      obtain ⟨v, rfl, rv⟩ := ra.one
      cases rv with
      | tup h1 r1 =>
        rw [r1.ints e1] at h1
        obtain ⟨its, rv, hl, _⟩ := I.tuple (.of (g _ _ h1))
        rw [Vals.ref1 r]
        refine PySem.W.max_tuple_data (I.ok.hd hc) hl (rv.ints.reads _) (alike_intsA (i :: ns)) ?_ fun j v h' tk bs _ hr hk => ?_
        · have := depth_intsA (i :: ns)
          rw [List.map_cons] at this
          rw [this]; omega
        · rw [PySem.W.maxD_ints, maxL_fold] at hr
          obtain ⟨t, rfl, _⟩ := reads_int_inv hr
          exact ⟨.int _, H, I.kept hk, ⟨_, rfl⟩, q.scal g (.int _) (fun ds z => by cases z)⟩
    · cases e
theorem bi_min (hc : X.calm = true) (hu : X.A.units + 2 < cLine) : CallR X (.builtin "min") (rN (biD .min) false) := by
  intro pins s σ H xs us Q I r h
  obtain ⟨Z, k, G, s', as, d, g, dk, ra, e, q⟩ := h
  match as, ra, e with
  | [.list ds], ra, e =>
    simp only [biD] at e
    split at e
    · rename_i i ns e1
      cases e
      obtain ⟨v, rfl, rv⟩ := ra.one
      cases rv with
      | lst h1 r1 =>
        rw [r1.ints e1] at h1
        refine cr_min hc pins s σ H _ us Q I r ⟨_, i :: ns, rfl, .of (g _ _ h1), Nat.succ_pos _, fun m hm hle => ?_⟩
        obtain ⟨a1, a2, a3⟩ := minL_le ns i
        have : m = minL i ns := by
          have b1 : minL i ns ≤ m := by
            rcases List.mem_cons.mp hm with z | z
            · omega
            · exact a2 m z
          have b2 : m ≤ minL i ns := by
            rcases a3 with z | z
            · rw [z]; exact hle i List.mem_cons_self
            · exact hle _ (List.mem_cons_of_mem _ z)
          omega
        subst this
        exact q.scal g (.int _) (fun ds z => by cases z)
    · cases e
  | [.tuple ds], ra, e =>
    simp only [biD] at e
    split at e
    · rename_i i ns e1
      cases e
      obtain ⟨v, rfl, rv⟩ := ra.one
      cases rv with
      | tup h1 r1 =>
        rw [r1.ints e1] at h1
        obtain ⟨its, rv, hl, _⟩ := I.tuple (.of (g _ _ h1))
        rw [Vals.ref1 r]
        refine PySem.W.min_tuple_data (I.ok.hd hc) hl (rv.ints.reads _) (alike_intsA (i :: ns)) ?_ fun j v h' tk bs _ hr hk => ?_
        · have := depth_intsA (i :: ns)
          rw [List.map_cons] at this
          rw [this]; omega
        · rw [PySem.W.minD_ints, minL_fold] at hr
          obtain ⟨t, rfl, _⟩ := reads_int_inv hr
          exact ⟨.int _, H, I.kept hk, ⟨_, rfl⟩, q.scal g (.int _) (fun ds z => by cases z)⟩
    · cases e
end
end CH

set_option Elab.async false
set_option linter.all false
set_option maxRecDepth 100000
set_option maxHeartbeats 4000000
namespace CH
variable {Z : St0}
open PySem L2 PyProof.Rows
section
variable {prog : Program} {w : World} {A : Around} {E : Value → Shared → Prop} {s : Shared} {l : Addr} {its : List Value} {ns : List Int} {Q : Value → Shared → Prop}
theorem sum_tupR (hh : A.handled = none) (hl : IsTup s.heap l its.toArray) (hi : IntsAre its ns)
    (h : ∀ h' tk t', (∀ b o, s.heap.get? b = some o → h'.get? b = some o) → Q (.int ns.sum t') { s with heap := h', toks := tk }) : wpAny (model prog w) A (call (.builtin "sum") [.ref l]) Q E s := by
  obtain ⟨xs, e⟩ := hi.allInts.items
  have hn : numsOf (intItems xs).toList = ns := by rw [← e]; exact hi.numsOf
  rw [nums_intItems] at hn
  rw [e] at hl
  have hT : s.heap.IsTuple l (intItems xs) := hl
  have hlt : l < s.heap.objs.size := by obtain ⟨_, e, _⟩ := id hl; exact Heap.lt_size e
  refine call_sum_walkG (wpAny_pyIter_tuple hT ?_)
  refine ⟨_, [s.heap.objs.size, l], [s.heap.objs.size], _, _, _, numAt xs, rfl, Walks.tuple (A := A.in1) hh _ l (Nat.ne_of_lt hlt) (intItems xs),
    ⟨⟨_, Heap.get?_push_size _ rfl, rfl, rfl⟩, hT.push _⟩, fun c hc => ?_, (fun _ _ => intItems_at), fun h' tk t' hk => ?_⟩
  · show c < (s.heap.push _).objs.size
    rw [Heap.size_push]
    rcases List.mem_cons.mp hc with rfl | hc
    · exact Nat.lt_succ_self _
    · rcases List.mem_cons.mp hc with rfl | hc
      · exact Nat.lt_succ_of_lt hlt
      · cases hc
  · have hold : ∀ b o, s.heap.get? b = some o → h'.get? b = some o := fun b o e => by
      refine hk b o (fun hm => ?_) (Heap.get?_push_of_some _ e)
      rcases List.mem_cons.mp hm with e1 | hm
      · exact absurd (e1 ▸ Heap.lt_size e) (Nat.lt_irrefl _)
      · cases hm
    have := h h' tk t' hold
    have e2 : preSum (numAt xs) (intItems xs).size = ns.sum := by
      have e3 : (intItems xs).size = xs.size := by simp [intItems]
      rw [e3, preSum_eq, List.take_of_length_le (by simp), hn]
    rw [e2]
    exact this
end
section
variable {X : Cx}
theorem bi_sum (hc : X.calm = true) : CallR X (.builtin "sum") (rN (biD .sum) false) := by
  intro pins s σ H xs us Q I r h
  obtain ⟨Z, k, G, s', as, d, g, dk, ra, e, q⟩ := h
  match as, ra, e with
  | [.list ds], ra, e =>
    simp only [biD, Option.map_eq_some_iff] at e
    obtain ⟨bs, e1, e2⟩ := e
    subst e2
    obtain ⟨v, rfl, rv⟩ := ra.one
    cases rv with
    | lst h1 r1 =>
      rw [r1.ints e1] at h1
      exact cr_sum hc pins s σ H _ us Q I r ⟨_, bs, rfl, .of (g _ _ h1), q.scal g (.int _) (fun ds z => by cases z)⟩
  | [.tuple ds], ra, e =>
    simp only [biD, Option.map_eq_some_iff] at e
    obtain ⟨bs, e1, e2⟩ := e
    subst e2
    obtain ⟨v, rfl, rv⟩ := ra.one
    cases rv with
    | tup h1 r1 =>
      rw [r1.ints e1] at h1
      rw [Vals.ref1 r]
      obtain ⟨its, rr, p, _⟩ := I.tuple (.of (g _ _ h1))
      exact sum_tupR (I.ok.hd hc) p (Vals.ints rr) fun h' tk t' hk => ⟨.int bs.sum, H, I.kept (t' := tk) hk, ⟨_, rfl⟩, q.scal g (.int _) (fun ds z => by cases z)⟩
/-! ### repr -/
theorem bi_repr (hg : X.A.guards = some []) (hu : X.A.units + 100 < cLine) : CallR X (.builtin "repr") (rN (biD .repr) false) := by
  intro pins s σ H xs us Q I r h
  obtain ⟨Z, k, G, s', as, d, g, dk, ra, e, q⟩ := h
  match as, ra, e with
  | [a], ra, e =>
    simp only [biD, reprD] at e
    split at e
    · rename_i hc
      cases e
      simp only [Bool.and_eq_true, decide_eq_true_eq, Bool.not_eq_true'] at hc
      obtain ⟨⟨⟨c1, c2⟩, c3⟩, c4⟩ := hc
      obtain ⟨v, rfl, rv⟩ := ra.one
      have q' : ∀ H', H' = H → Q (.str a.shown) H' := fun H' e => by subst e; exact q.scal g (.str _) (fun ds z => by cases z)
      obtain ⟨u, rfl, ru⟩ := Vals.one r
      obtain ⟨bs, rr⟩ := Dp.reads I a v u (Rep.dp g c4 rv) ru
      cases rv with
      | non =>
        cases ru
        exact P.repr_of_none ⟨.str _, H, I.tok _, ⟨_, rfl⟩, q' H rfl⟩
      | bl b =>
        cases ru
        exact P.repr_of_bool ⟨.str _, H, I.tok _, ⟨_, rfl⟩, q' H rfl⟩
      | int i =>
        obtain ⟨t, rfl⟩ := ru
        exact P.repr_of_int (by simpa [PyData.showable] using c1) ⟨.str _, H, I.tok _, ⟨_, rfl⟩, q' H rfl⟩
      | str x =>
        obtain ⟨t, rfl⟩ := ru
        exact P.repr_of_str ⟨.str _, H, I.tok _, ⟨_, rfl⟩, q' H rfl⟩ c2
      | deck _ => simp [PyData.hasDict] at c4
      | obj _ _ _ _ => simp [PyData.hasDict] at c4
      | exc0 _ _ => simp [PyData.hasDict] at c4
      | exc1 _ _ _ _ _ => simp [PyData.hasDict] at c4
      | lst h1 r1 =>
        cases ru
        exact repr_of_reads' rr c1 (PyData.noDict_hsm c4) hg (by omega) (fun _ _ e => e) (fun h' u tk hk => ⟨.str _, H, I.kept (t' := tk) hk, ⟨_, rfl⟩, q' H rfl⟩) c2
      | tup h1 r1 =>
        cases ru
        exact repr_of_reads' rr c1 (PyData.noDict_hsm c4) hg (by omega) (fun _ _ e => e) (fun h' u tk hk => ⟨.str _, H, I.kept (t' := tk) hk, ⟨_, rfl⟩, q' H rfl⟩) c2
    · cases e
end
end CH

set_option Elab.async false
set_option linter.all false
set_option maxRecDepth 100000
set_option maxHeartbeats 4000000
namespace CH
variable {Z : St0}
open PySem L2 PyProof.Rows PySem.W
mutual
theorem reads_noL {h : Heap} : ∀ {v : Value} {d : D} {as : List Addr}, noL d = true → Reads h v d as → as = []
  | _, _, _, n, .none => rfl
  | _, _, _, n, .bool _ => rfl
  | _, _, _, n, .int _ _ => rfl
  | _, _, _, n, .str _ _ => rfl
  | _, _, _, n, .list .. => by simp [noL] at n
  | _, _, _, n, .tuple _ _ _ r => readsAll_noL (by simpa [noL] using n) r
  | _, _, _, n, .dict .. => by simp [noL] at n
theorem readsAll_noL {h : Heap} : ∀ {vs : List Value} {ds : List D} {as : List Addr}, noLs ds = true → ReadsAll h vs ds as → as = []
  | _, _, _, n, .nil => rfl
  | _ :: _, d :: ds, _, n, .cons r1 r2 => by
    have n' : noL d = true ∧ noLs ds = true := by simpa [noLs] using n
    rw [reads_noL n'.1 r1, readsAll_noL n'.2 r2]
    rfl
end
theorem noL_dict : ∀ {d : D}, noL d = true → d.hasDict = false := by
  intro d h
  have key : ∀ (n : Nat), (∀ d : D, sizeOf d < n → noL d = true → d.hasDict = false) ∧ (∀ ds : List D, sizeOf ds < n → noLs ds = true → PyData.hasDictAll ds = false) := by
    intro n
    induction n with
    | zero => exact ⟨fun d h => by omega, fun d h => by omega⟩
    | succ n ih =>
      refine ⟨fun d hd h => ?_, fun ds hd h => ?_⟩
      · cases d with
        | tuple xs => simp only [PyData.hasDict]; exact ih.2 xs (by simp at hd; omega) (by simpa [noL] using h)
        | list xs => simp [noL] at h
        | dict xs => simp [noL] at h
        | _ => simp [PyData.hasDict]
      · cases ds with
        | nil => simp [PyData.hasDictAll]
        | cons d r =>
          have h' : noL d = true ∧ noLs r = true := by simpa [noLs] using h
          simp only [PyData.hasDictAll, Bool.or_eq_false_iff]
          simp at hd
          exact ⟨ih.1 d (by omega) h'.1, ih.2 r (by omega) h'.2⟩
  exact (key (sizeOf d + 1)).1 d (by omega) h
theorem noLs_mem {ds : List D} (h : noLs ds = true) : ∀ d ∈ ds, noL d = true := by
  induction ds with
  | nil => intro d hd; cases hd
  | cons x r ih =>
    have h' : noL x = true ∧ noLs r = true := by simpa [noLs] using h
    intro d hd
    rcases List.mem_cons.mp hd with e | hd
    · rw [e]; exact h'.1
    · exact ih h'.2 d hd
section
variable {prog : Program} {w : World} {A : Around} {E : Value → Shared → Prop} {s : Shared}
/-- sorted(x, ..) is list.sort(..) on a new list -/
theorem sorted_seq {x : Addr} {T : String} {o : Obj} {items : Array Value} {n : Nat} {kw : List (Str × Value)} {Q : Value → Shared → Prop} (hT : T = "list" ∨ T = "tuple") (ho : s.heap.get? x = some o) (hc : o.cls = .type T) (hd : o.data = .seq items n)
    (hz : items.size ≤ sizeLine) (ha1 : argsOk "sorted" ⟨[.ref x], kw⟩)
    (body : ∀ (h1 : Heap) (E' : Value → Shared → Prop), (∀ b o, s.heap.get? b = some o → h1.get? b = some o) → wpAny (model prog w) A.in1 (call (.builtin "list.sort") [.ref h1.objs.size] kw) (fun _ s' => Q (.ref h1.objs.size) s') E' { s with heap := h1.push (seqObj "list" items 0) }) :
    wpAny (model prog w) A (call (.builtin "sorted") [.ref x] kw) Q E s := by
  refine call_function_entry_kw kind_sorted plain_sorted entry_sorted ha1 ?_
  unfold Builtin.«sorted»
  refine wpAny_bind (m := checkCount "sorted" 1 1 _) (wpAny_pure ?_)
  refine wpAny_bind (wpAny_collect_seq x hT ho hc hd (fun h' hk => ?_) hz)
  refine wpAny_bind (wpAny_newList ?_ (by rw [Array.length_toList]; exact hz))
  refine wpAny_bind (wpAny_holding (wpAny_mono (body h' _ hk) (fun _ s' hq => ?_) fun _ _ e => e))
  exact wpAny_pure ⟨_, rfl, hq⟩
end
theorem merge_pairs (xs : List V) (ds : List D) (hl : xs.length = ds.length) : ((xs.zip ds).mergeSort (dataLe false (·.2))).map (·.2) = ds.mergeSort (dataLe false id) := by
  have h := sort_maps (r := dataLe false (fun p : V × D => p.2)) (s := dataLe false id) (fun p : V × D => p.2) (l := xs.zip ds) (fun a _ b _ => rfl)
  rw [h, show (xs.zip ds).map (fun p : V × D => p.2) = ds from List.map_snd_zip (by omega)]
theorem sortsB_ok {ks : List D} (h : sortsB ks = true) : AllAlike ks ∧ Sortable ks ∧ (∀ d ∈ ks, d.depth ≤ 64) ∧ noLs ks = true := by
  simp only [sortsB, Bool.and_eq_true, Bool.or_eq_true, List.all_eq_true, decide_eq_true_eq] at h
  obtain ⟨⟨⟨h1, h2⟩, h3⟩, h4⟩ := h
  refine ⟨fun d hd e he => h1 d hd e he, ?_, h3, h4⟩
  rcases h2 with h2 | h2
  · refine .inl fun d hd => ?_
    have := h2 d hd
    split at this
    · exact ⟨_, _, rfl⟩
    · cases this
  · refine .inr fun d hd => ?_
    have := h2 d hd
    cases d <;> simp_all
theorem each_vals {k : KA Z} {G : Hp} : ∀ {out : List Value} {ps : List (V × D)}, EachIs (fun v (p : V × D) => RelV p.1 v ∧ Rep k G p.1 p.2) out ps → Vals (ps.map (·.1)) out ∧ Reps k G (ps.map (·.1)) (ps.map (·.2))
  | _, _, .nil => ⟨.nil, .nil⟩
  | _, _, .cons h r => ⟨.cons h.1 (each_vals r).1, .cons h.2 (each_vals r).2⟩
theorem each_zip {k : KA Z} {G : Hp} : ∀ {us : List Value} {xs : List V} {ds : List D}, Vals xs us → Reps k G xs ds → EachIs (fun v (p : V × D) => RelV p.1 v ∧ Rep k G p.1 p.2) us (xs.zip ds)
  | _, _, _, .nil, .nil => .nil
  | _, _, _, .cons h r, .cons h2 r2 => .cons ⟨h, h2⟩ (each_zip r r2)
section
variable {X : Cx}
/-- what is sorted, of any row -/
theorem sorted_go {pins : List (Addr × Obj)} {s : Shared} {σ : L2.St} {H G : Hp} {k : KA Z} {x : Addr} {T : String} {o : Obj} {items : List Value} {n : Nat} {Q : VK} {xs : List V} {ds ds' : List D} {sd : Dk} (I : Inv X pins σ H s) (hu : X.A.units + 100 < cLine)
    (g : SameT Z G H) (dk : DkAt k sd G H) (hT : T = "list" ∨ T = "tuple") (ho : s.heap.get? x = some o) (hc : o.cls = .type T) (hd : o.data = .seq items.toArray n) (rv : Vals xs items) (ra : Reps k G xs ds) (e : sortD ds = some ds') (q : Ends1 true k G H (.list ds') Q) :
    wpAny (model X.prog X.w) X.A (call (.builtin "sorted") [.ref x]) (EP X pins σ Q) X.xe s := by
  simp only [sortD] at e
  split at e
  · rename_i hs
    cases e
    simp only [Bool.and_eq_true, Bool.or_eq_true, decide_eq_true_eq] at hs
    obtain ⟨hs, hlen⟩ := hs
    by_cases h1 : ds.length ≤ 1
    · have el : items.length = ds.length := by rw [← rv.length, ra.length]
      have ems : ds.mergeSort (dataLe false id) = ds := by
        match ds, h1 with
        | [], _ => simp
        | [d], _ => simp
      rw [ems] at q
      refine sorted_seq hT ho hc hd (by rw [List.size_toArray, el]; exact hlen) (args_sorted1 _) fun h1' E' hk => ?_
      have I1 : Inv X pins σ H { s with heap := h1' } := I.kept (t' := s.toks) hk
      refine wpAny_call_entry slot_list_sort ⟨_, Heap.get?_push_size _ rfl, rfl⟩ entry_list_sort (Srt.list_sort_any (vs := items) (Heap.get?_push_size _ rfl) (by rw [el]; exact hlen) (fun h2 => by omega) fun out hp' => ⟨_, rfl, ?_⟩) (args_list_sort _)
      have eo : out = items := by
        match items, el, out, hp' with
        | [], _, out, hp' => exact List.Perm.eq_nil hp'
        | [x], _, out, hp' => exact List.perm_singleton.mp hp'
        | x :: y :: r, el, _, _ => rw [List.length_cons, List.length_cons] at el; omega
      subst eo
      have hp : H h1'.objs.size = none := I1.hok.fresh (Nat.le_refl _)
      obtain ⟨c, hD⟩ := sortedHeap_at (h := h1'.push (seqObj "list" out.toArray 0)) (a := h1'.objs.size) (vs := out) (n := 0) (out := out.toArray) (Heap.get?_push_size _ rfl)
      have kk : ∀ b ob, h1'.get? b = some ob → (sortedHeap (h1'.push (seqObj "list" out.toArray 0)) h1'.objs.size out out.toArray).get? b = some ob := fun b ob eb => by
        have hlt := Heap.lt_size eb
        rw [sortedHeap_old (Nat.ne_of_lt hlt) (by rw [Heap.size_push]; exact Nat.lt_succ_of_lt hlt)]
        exact Heap.get?_push_of_some _ eb
      refine ⟨.ref h1'.objs.size, _, I1.laid (o := .lst xs) (t' := s.toks) kk (Nat.le_refl _) ⟨?_, out, c, rv, hD⟩, rfl, q.lst rfl g dk ra hp⟩
      rw [rv.length, el]
      exact hlen
    have hsB : sortsB ds = true := hs.resolve_right h1
    obtain ⟨hal, hso, hdp, hnl⟩ := sortsB_ok hsB
    have el : items.length = ds.length := by rw [← rv.length, ra.length]
    have hmap : (xs.zip ds).map (·.2) = ds := List.map_snd_zip (by rw [ra.length]; exact Nat.le_refl _)
    have hlz : (xs.zip ds).length = ds.length := by rw [List.length_zip, ra.length, Nat.min_self]
    refine sorted_seq hT ho hc hd (by rw [List.size_toArray, el]; exact hlen) (args_sorted1 _) fun h1 E' hk => ?_
    have ev := each_zip rv ra
    have I1 : Inv X pins σ H { s with heap := h1 } := I.kept (t' := s.toks) hk
    have er : EachIs (fun v (p : V × D) => ∃ as, Reads (h1.push (seqObj "list" items.toArray 0)) v p.2 as ∧ h1.objs.size ∉ as) items (xs.zip ds) := by
      refine EachIs.of_zip (by rw [hlz, el]) fun p hp => ?_
      obtain ⟨r1, r2⟩ := ev.zip p hp
      have hn : noL p.2.2 = true := noLs_mem hnl _ (by rw [← hmap]; exact List.mem_map.mpr ⟨p.2, (List.of_mem_zip hp).2, rfl⟩)
      obtain ⟨as, rr⟩ := Dp.reads I1 p.2.2 p.2.1 p.1 (Rep.dp g (noL_dict hn) r2) r1
      have ea := reads_noL hn rr
      subst ea
      exact ⟨[], PyProof.Rows.Reads.keeps (fun _ _ e => Heap.get?_push_of_some _ e) rr, by simp⟩
    refine list_sort_data (a := h1.objs.size) (n := 0) (bs := xs.zip ds) (enc := (·.2)) (R := fun v (p : V × D) => RelV p.1 v ∧ Rep k G p.1 p.2) (Heap.get?_push_size _ rfl) ev er (by rw [hmap]; exact hal) (by rw [hmap]; exact hso) (by rw [hlz]; exact hlen)
      (fun p hp => ?_) fun out ko eo => ?_
    · have := hdp p.2 (List.of_mem_zip hp).2
      show X.A.units + 1 + 1 + _ < _
      omega
    · obtain ⟨vo, ro⟩ := each_vals eo
      rw [merge_pairs xs ds ra.length] at ro
      have hp : H h1.objs.size = none := I1.hok.fresh (Nat.le_refl _)
      obtain ⟨c, hD⟩ := sortedHeap_at (h := h1.push (seqObj "list" items.toArray 0)) (a := h1.objs.size) (vs := items) (n := 0) (out := out.toArray) (Heap.get?_push_size _ rfl)
      have kk : ∀ b ob, h1.get? b = some ob → (sortedHeap (h1.push (seqObj "list" items.toArray 0)) h1.objs.size items out.toArray).get? b = some ob := fun b ob eb => by
        have hlt := Heap.lt_size eb
        rw [sortedHeap_old (Nat.ne_of_lt hlt) (by rw [Heap.size_push]; exact Nat.lt_succ_of_lt hlt)]
        exact Heap.get?_push_of_some _ eb
      refine ⟨.ref h1.objs.size, _, I1.laid (o := .lst _) (t' := s.toks) kk (Nat.le_refl _) ⟨?_, out, c, vo, hD⟩, rfl, q.lst rfl g dk ro hp⟩
      rw [vo.length, ko, hlz]
      exact hlen
  · cases e
end
end CH

set_option Elab.async false
set_option linter.all false
set_option maxRecDepth 100000
set_option maxHeartbeats 4000000
namespace CH
variable {Z : St0}
open PySem L2 PyProof.Rows PySem.W
/-- heap_key's promise, with the state behind it in full (what sorted asks of a key) -/
def KeyAt (P : Program) (w : World) (base : Heap) (f : Addr) : Prop :=
  ∀ (A : Around) (E : Value → Shared → Prop) (s : Shared) (t : Addr) (its : List Value) (ns : List Int), A.handled = none → A.depth < recursionLimit → (∀ b o, base.get? b = some o → s.heap.get? b = some o) → IsTup s.heap t its.toArray → IntsAre its ns →
    wpAny (model P w) A (call (.ref f) [.ref t]) (fun v s2 => ∃ h' tk, s2 = { s with heap := h', toks := tk } ∧ (∀ b o, s.heap.get? b = some o → h'.get? b = some o) ∧ ∃ p i, v = .ref p ∧ s.heap.get? p = none ∧ h'.get? p = some { cls := .type "tuple", data := .seq #[.int ns.sum i, .ref t] }) E s
theorem key_at {P : Program} {w : World} {K : PySem.W.Frag} {mg : Str → Option Value} {base : Heap} {st : Stmt} {f : Addr} {fd : FuncData} (F : Fun K "heap_key" "heap_key" st f fd) (M : Mod K mg base) (ms : mg "sum" = none) {p1 p2 p3 p4 p5 p6 : Pos} {kk : Nat}
    (hb : defBody st = [.Return (some (.Tuple [.Call (.Name "sum" p1) [.Name "heap" p2] [] p3, .Name "heap" p4] kk p5)) p6]) (hs : (defScope st).kind = .function) (hco : (defScope st).isCoroutine = false) (hgen : (defScope st).isGenerator = false)
    (hh : (defScope st).names.lookup ("heap" : Str) = some NameKind.local) (hsum : (defScope st).names.lookup ("sum" : Str) = some NameKind.globalImplicit)
    (hbind : ∀ (kV doc pm : Value) (an : Option Addr) (cdv ct u : Value), bindArgs (PySem.W.fnOf "heap_key" "heap_key" (defArgs st) (defBody st) (defScope st) .none kV doc pm an cdv ct) ⟨[u], []⟩ = pure [(("heap" : Str), u)]) : KeyAt P w base f := by
  intro A E s t its ns hA hd hk ht hi
  obtain ⟨oc, od, kV, doc, pm, an, cdv, ct, osl, rfl, lk, hcd⟩ := F.ex
  have KI : K.In s.heap := M.kin.keeps hk
  refine wpAny_call (Att.call_fn (KI) (M.nolimit.keeps hk) lk hcd hd (.of_eq (hbind kV doc pm an cdv ct (.ref t))) (by simp [hh]) (fun s1 x => ?_) hco hgen hs)
  obtain ⟨h1, tk, rfl, hk1⟩ := x.done
  have hns := x.toInCall.ns
  have hm : (bindL (envOfC "heap_key" (defScope st) s.heap.objs.size f cdv).kindOf [(("heap" : Str), Value.ref t)] fun _ => none) ("heap" : Str) = some (.ref t) := by
    show bindL _ [(("heap" : Str), Value.ref t)] _ _ = _
    unfold bindL
    rw [if_pos (show (envOfC "heap_key" (defScope st) s.heap.objs.size f cdv).kindOf ("heap" : Str) = some .local from hh)]
    simp [bindL]
  obtain ⟨mb, b1, b2⟩ := M.blt
  rw [hb]
  refine wpAny_execs_cons (wpAny_Return_some (wpAny_Tuple_spliced ?_))
  show wpAny _ _ (spliced ((false, eval (.Call (.Name "sum" p1) [.Name "heap" p2] [] p3) _) :: (false, eval (.Name "heap" p4) _) :: [])) _ _ _
  refine Calls.spliced_cons (wpAny_Call_Name_kw (Calls.Name_function_global hs hsum (Calls.loadGlobal_builtin (mg := mg) (mb := mb) (M.glob.keeps fun b o e => hk1 b o (hk b o e)) ms (b1.keeps fun b o e => hk1 b o (hk b o e)) ((b2 ("sum" : Str) (by decide)).trans (show bootBuiltins ("sum" : Str) = some (.builtin "sum") by decide +kernel)) ?_)))
  refine PyProof.Rows.callWith_builtin1 ?_ (by rfl) (by rfl)
  show wpAny _ _ (spliced ((false, eval (.Name "heap" p2) _) :: [])) _ _ _
  refine Calls.spliced_cons (wpAny_Name (wpAny_loadName_local hs hh hns hm (Calls.spliced_nil ?_)))
  refine sum_tupR (its := its) hA ?_ hi fun h2 tk2 t' hk2 => ?_
  · obtain ⟨o, a1, a2, a3⟩ := ht
    exact ⟨o, hk1 _ _ a1, a2, a3⟩
  · have hns2 : h2.Ns (envOfC "heap_key" (defScope st) s.heap.objs.size f cdv).locals _ := hns.keeps hk2
    refine Calls.spliced_cons (wpAny_Name (wpAny_loadName_local hs hh hns2 hm (Calls.spliced_nil ?_)))
    exact ⟨by show 2 ≤ sizeLine; decide, _, _, rfl, fun b o e => Heap.get?_push_of_some _ (hk2 b o (hk1 b o e)), h2.objs.size, t', rfl, (by
      cases e : s.heap.get? h2.objs.size with
      | none => rfl
      | some o => exact absurd (Heap.lt_size (hk2 _ _ (hk1 _ _ e))) (Nat.lt_irrefl _)), Heap.get?_push_size _ rfl⟩
end CH

set_option Elab.async false
set_option linter.all false
set_option maxRecDepth 100000
set_option maxHeartbeats 4000000
namespace CH
variable {Z : St0}
open PySem L2 PyProof.Rows PySem.W
theorem readsAll_ints {h : Heap} : ∀ {its : List Value} {ns : List Int}, IntsAre its ns → ReadsAll h its (ns.map PyData.int) []
  | _, _, .nil => .nil
  | _, _, .cons n t r => ReadsAll.cons (as := []) (bs := []) (.int n t) (readsAll_ints r)
theorem intsOf_map : ∀ (ns : List Int), intsOf (ns.map PyData.int) = some ns
  | [] => rfl
  | n :: r => by
    show (intsOf (r.map PyData.int)).map (n :: ·) = _
    rw [intsOf_map r]
    rfl
theorem intsOf_eq : ∀ {ds : List D} {ns : List Int}, intsOf ds = some ns → ds = ns.map PyData.int
  | [], ns, e => by
    simp only [intsOf, Option.some.injEq] at e
    subst e
    rfl
  | d :: r, ns, e => by
    cases d with
    | int i =>
      simp only [intsOf, Option.map_eq_some_iff] at e
      obtain ⟨ms, e1, e2⟩ := e
      subst e2
      rw [intsOf_eq e1]
      rfl
    | _ => simp [intsOf] at e
def kfD (p : V × D) : D := (hkD p.2).getD .none
theorem hksD_mem : ∀ {ds ks : List D}, hksD ds = some ks → ks = ds.map (fun d => (hkD d).getD .none) ∧ ∀ d ∈ ds, ∃ ns : List Int, d = .tuple (ns.map .int) ∧ hkD d = some (.tuple [.int ns.sum, .tuple (ns.map .int)])
  | [], ks, e => by
    simp only [hksD, Option.some.injEq] at e
    subst e
    exact ⟨rfl, fun d hd => by cases hd⟩
  | d :: r, ks, e => by
    simp only [hksD] at e
    split at e
    · rename_i k ks' h1 h2
      cases e
      obtain ⟨i1, i2⟩ := hksD_mem h2
      refine ⟨by rw [List.map_cons, h1, i1]; rfl, fun d' hd' => ?_⟩
      rcases List.mem_cons.mp hd' with z | z
      · subst z
        cases d' with
        | tuple xs =>
          simp only [hkD, Option.map_eq_some_iff] at h1
          obtain ⟨ns, n1, n2⟩ := h1
          have := intsOf_eq n1
          subst this
          exact ⟨ns, rfl, by simp only [hkD, intsOf_map]; rfl⟩
        | _ => simp [hkD] at h1
      · exact i2 d' z
    · cases e
theorem map_kf : ∀ {xs : List V} {ds : List D}, xs.length = ds.length → (xs.zip ds).map kfD = ds.map (fun d => (hkD d).getD .none) ∧ (xs.zip ds).map (fun p => (kfD p, p.2)) = (ds.map (fun d => (hkD d).getD .none)).zip ds
  | [], [], _ => ⟨rfl, rfl⟩
  | x :: xs, d :: ds, h => by
    obtain ⟨h1, h2⟩ := map_kf (xs := xs) (ds := ds) (Nat.succ.inj h)
    exact ⟨by rw [List.zip_cons_cons, List.map_cons, List.map_cons, h1]; rfl, by rw [List.zip_cons_cons, List.map_cons, List.map_cons, List.zip_cons_cons, h2]; rfl⟩
  | [], _ :: _, h => by cases h
  | _ :: _, [], h => by cases h
theorem depth_row {n : Nat} : ∀ {l : List D}, (∀ d ∈ l, d.depth ≤ n) → PyData.depthAll l ≤ n
  | [], _ => Nat.zero_le _
  | d :: r, h => by
    rw [PyData.depthAll]
    exact Nat.max_le.mpr ⟨h d List.mem_cons_self, depth_row fun e he => h e (List.mem_cons_of_mem _ he)⟩
section
variable {X : Cx}
theorem sortk_go {pins : List (Addr × Obj)} {s : Shared} {σ : L2.St} {H G : Hp} {k : KA Z} {x f : Addr} {T : String} {o : Obj} {items : List Value} {n : Nat} {Q : VK} {xs : List V} {ds ks ds' : List D} {sd : Dk} (I : Inv X pins σ H s) (hu : X.A.units + 100 < cLine) (hA : X.A.handled = none) (hdp : X.A.depth < recursionLimit)
    (ky : KeyAt X.prog X.w X.base f)
    (g : SameT Z G H) (dk : DkAt k sd G H) (hT : T = "list" ∨ T = "tuple") (ho : s.heap.get? x = some o) (hc : o.cls = .type T) (hd : o.data = .seq items.toArray n) (rv : Vals xs items) (ra : Reps k G xs ds) (ek : hksD ds = some ks) (e : sortK ks ds = some ds') (q : Ends1 true k G H (.list ds') Q) :
    wpAny (model X.prog X.w) X.A (call (.builtin "sorted") [.ref x] [(Str.ofString "key", .ref f)]) (EP X pins σ Q) X.xe s := by
  obtain ⟨eks, hks⟩ := hksD_mem ek
  simp only [sortK] at e
  split at e
  · rename_i hs
    cases e
    simp only [Bool.and_eq_true, decide_eq_true_eq] at hs
    obtain ⟨hsB, hlen⟩ := hs
    obtain ⟨hal, hso, hdp', hnl⟩ := sortsB_ok hsB
    have el : items.length = ds.length := by rw [← rv.length, ra.length]
    obtain ⟨m1, m2⟩ := map_kf ra.length
    rw [← eks] at m1 m2
    have hlz : (xs.zip ds).length = ds.length := by rw [List.length_zip, ra.length, Nat.min_self]
    refine sorted_seq hT ho hc hd (by rw [List.size_toArray, el]; exact hlen) (ksk_s1 _ _) fun h1 E' hk => ?_
    have ev := each_zip rv ra
    have I1 : Inv X pins σ H { s with heap := h1 } := I.kept (t' := s.toks) hk
    refine list_sort_key_data (a := h1.objs.size) (n := 0) (b := false) (bs := xs.zip ds) (f := .ref f) kfD (R := fun v (p : V × D) => RelV p.1 v ∧ Rep k G p.1 p.2) (Heap.get?_push_size _ rfl) ev (by rw [m1]; exact hal) (by rw [m1]; exact hso) (by rw [hlz]; exact hlen)
      (fun p hp => ?_) (ksk_l1 _ _) (ksk_t1 _ _) (fun v p hR hp h tk kp => ?_) fun out c h' tk kp hD ko eo => ?_
    · have := hdp' (kfD p) (by rw [← m1]; exact List.mem_map.mpr ⟨p, hp, rfl⟩)
      show X.A.units + 1 + 1 + _ < _
      omega
    · obtain ⟨ns, e1, e2⟩ := hks p.2 (List.of_mem_zip hp).2
      obtain ⟨r1, r2⟩ := hR
      have ek2 : kfD p = .tuple [.int ns.sum, .tuple (ns.map .int)] := by unfold kfD; rw [e2]; rfl
      rw [e1] at r2
      obtain ⟨pv, pd⟩ := p
      simp only at r1 r2
      cases r2 with
      | tup g1 gr =>
        rename_i t ws
        rw [gr.ints (intsOf_map ns)] at g1
        obtain rfl : v = .ref t := r1
        obtain ⟨its, rr, pt, _⟩ := I1.tuple (.of (g _ _ g1))
        have up : ∀ b ob, h1.get? b = some ob → h.get? b = some ob := fun b ob eb => kp b ob (Nat.ne_of_lt (Heap.lt_size eb)) (Heap.get?_push_of_some _ eb)
        have pt' : IsTup h t its.toArray := by
          obtain ⟨ob, b1, b2, b3⟩ := pt
          exact ⟨ob, up _ _ b1, b2, b3⟩
        refine wpAny_mono (ky X.A.in1.in1 (fun _ _ => False) { s with heap := h, toks := tk } t its ns hA hdp (fun b ob eb => up b ob (I1.bk b ob eb)) pt' (Vals.ints rr)) (fun v' s2 hq => ?_) fun _ _ z => z
        obtain ⟨h2, tk2, rfl, hk2, pp, i, rfl, _, hpp⟩ := hq
        obtain ⟨ot, b1, b2, nn, b3⟩ := pt'
        refine ⟨h2, tk2, rfl, hk2, ?_⟩
        rw [ek2]
        exact Reads.tuple hpp rfl rfl (ReadsAll.cons (as := []) (bs := []) (.int _ _) (ReadsAll.cons (as := []) (bs := []) (Reads.tuple (hk2 _ _ b1) b2 b3 (readsAll_ints (Vals.ints rr))) .nil))
    · obtain ⟨vo, ro⟩ := each_vals eo
      have em : ((xs.zip ds).mergeSort (dataLe false kfD)).map (·.2) = ((ks.zip ds).mergeSort (dataLe false (·.1))).map (·.2) := by
        have z := sort_maps (r := dataLe false kfD) (s := dataLe false (fun p : D × D => p.1)) (fun p : V × D => (kfD p, p.2)) (l := xs.zip ds) (fun a _ b _ => rfl)
        rw [m2] at z
        rw [← z, List.map_map]
        rfl
      rw [em] at ro
      have hp : H h1.objs.size = none := I1.hok.fresh (Nat.le_refl _)
      have kk : ∀ b ob, h1.get? b = some ob → h'.get? b = some ob := fun b ob eb => kp b ob (Nat.ne_of_lt (Heap.lt_size eb)) (Heap.get?_push_of_some _ eb)
      refine ⟨.ref h1.objs.size, _, I1.laid (o := .lst _) (t' := tk) kk (Nat.le_refl _) ⟨?_, out, c, vo, hD⟩, rfl, q.lst rfl g dk ro hp⟩
      rw [vo.length, ko, hlz]
      exact hlen
  · cases e
def rSortk (f : Addr) : List V → List V → Hp → VK → Prop := fun xs zs H Q => ∃ (Z : St0) (k : KA Z), ∃ G sd a d v, xs = [v] ∧ zs = [.ref f] ∧ SameT Z G H ∧ DkAt k sd G H ∧ Rep k G v a ∧ sortkD a = some d ∧ Ends1 true k G H d Q
theorem bi_sortk {f : Addr} (hu : X.A.units + 100 < cLine) (hA : X.A.handled = none) (hdp : X.A.depth < recursionLimit) (ky : KeyAt X.prog X.w X.base f) : CallRK X (.builtin "sorted") [Str.ofString "key"] (rSortk f) := by
  intro pins s σ H xs zs us ws Q I r rz h
  obtain ⟨Z, k, G, sd, a, d, v, rfl, rfl, g, dk, ra, e, q⟩ := h
  obtain ⟨w', rfl, rw'⟩ := Vals.one rz
  obtain rfl : w' = .ref f := rw'
  obtain ⟨u, rfl, ru⟩ := Vals.one r
  cases ra with
  | lst h1 r1 =>
    obtain rfl : u = .ref _ := ru
    simp only [sortkD, itemsOf] at e
    split at e
    · rename_i ks ek
      simp only [Option.map_eq_some_iff] at e
      obtain ⟨ds', e1, e2⟩ := e
      subst e2
      obtain ⟨its, rr, ⟨o, n, p1, p2, _, p4⟩, _⟩ := I.list (.of (g _ _ h1))
      exact sortk_go I hu hA hdp ky g dk (.inl rfl) p1 p2 p4 rr r1 ek e1 q
    · cases e
  | tup h1 r1 =>
    obtain rfl : u = .ref _ := ru
    simp only [sortkD, itemsOf] at e
    split at e
    · rename_i ks ek
      simp only [Option.map_eq_some_iff] at e
      obtain ⟨ds', e1, e2⟩ := e
      subst e2
      obtain ⟨its, rr, ⟨o, p1, p2, n, p4⟩, _⟩ := I.tuple (.of (g _ _ h1))
      exact sortk_go I hu hA hdp ky g dk (.inr rfl) p1 p2 p4 rr r1 ek e1 q
    · cases e
  | _ => simp [sortkD, itemsOf] at e
theorem mink_go {pins : List (Addr × Obj)} {s : Shared} {σ : L2.St} {H G : Hp} {k : KA Z} {x f : Addr} {vs : List Value} {Q : VK} {xs : List V} {ds ks : List D} (I : Inv X pins σ H s) (hu : X.A.units + 100 < cLine) (hA : X.A.handled = none) (hdp : X.A.depth < recursionLimit)
    (ky : KeyAt X.prog X.w X.base f) (g : SameT Z G H) (hl : s.heap.IsList x vs.toArray) (rv : Vals xs vs) (ra : Reps k G xs ds) (ek : hksD ds = some ks) (hs : sortsB ks = true) (q : Ends1 false k G H (minK (ks.zip ds)) Q) :
    wpAny (model X.prog X.w) X.A (call (.builtin "min") [.ref x] [(Str.ofString "key", .ref f), (Str.ofString "default", .none)]) (EP X pins σ Q) X.xe s := by
  obtain ⟨eks, hks⟩ := hksD_mem ek
  obtain ⟨alk, _, dep, _⟩ := sortsB_ok hs
  have l1 := rv.length
  have l2 := ra.length
  have lk : ks.length = ds.length := by rw [eks, List.length_map]
  have kat : ∀ i (hi : i < ds.length), ∃ ns : List Int, ds[i]? = some (PyData.tuple (ns.map PyData.int)) ∧ ks[i]? = some (PyData.tuple [.int ns.sum, .tuple (ns.map PyData.int)]) := fun i hi => by
    obtain ⟨ns, e1, e2⟩ := hks ds[i] (List.getElem_mem hi)
    refine ⟨ns, by rw [List.getElem?_eq_getElem hi, e1], ?_⟩
    rw [eks, List.getElem?_map, List.getElem?_eq_getElem hi]
    show some ((hkD ds[i]).getD .none) = _
    rw [e2]; rfl
  have zat : ∀ i (hi : i < ds.length) (ns : List Int), ks[i]? = some (PyData.tuple [.int ns.sum, .tuple (ns.map PyData.int)]) → ((ks.zip ds).getD i (PyData.none, PyData.none)).1 = .tuple [.int ns.sum, .tuple (ns.map .int)] := fun i hi ns e => by
    rw [List.getD_eq_getElem?_getD, List.getElem?_eq_getElem (by rw [List.length_zip]; omega), Option.getD_some, List.getElem_zip]
    exact (List.getElem?_eq_some_iff.mp e).2
  have tup : ∀ (i : Nat) (ns : List Int), ds[i]? = some (PyData.tuple (ns.map PyData.int)) → ∃ (t : Addr) (its : List Value), vs[i]? = some (Value.ref t) ∧ IntsAre its ns ∧ IsTup s.heap t its.toArray := fun i ns e => by
    obtain ⟨v, e1, r1⟩ := ra.get.1 _ e
    obtain ⟨u, e2, r2⟩ := rv.get e1
    cases r1 with
    | tup g1 gr =>
      rename_i t ws
      rw [gr.ints (intsOf_map ns)] at g1
      obtain rfl : u = .ref t := r2
      obtain ⟨its, rr, pt, _⟩ := I.tuple (.of (g _ _ g1))
      exact ⟨t, its, e2, Vals.ints rr, pt⟩
  refine call_min_walkKD (iter_listW (A := X.A.in1) hA hl fun s2 e W st hfp hw hk => ?_)
  subst e
  have hS : ({ s with heap := s.heap.push { cls := .type "list_iterator", data := .fields #[.ref x, .int 0 0] } } : Shared).heap.objs.size = s.heap.objs.size + 1 := Heap.size_push ..
  let J : Shared → Prop := fun s' => ∃ h tk, s' = { s with heap := h, toks := tk } ∧ ∀ b o, s.heap.get? b = some o → h.get? b = some o
  let KV : Nat → Value → Shared → Prop := fun i kv s' => ∃ (p t : Addr) (u : Tok) (ns : List Int), kv = .ref p ∧ p ≠ s.heap.objs.size + 1 ∧ p ≠ s.heap.objs.size ∧ vs[i]? = some (.ref t) ∧ ds[i]? = some (.tuple (ns.map .int)) ∧ s'.heap.get? p = some { cls := .type "tuple", data := .seq #[.int ns.sum u, .ref t] }
  have Jk : ∀ s1 s2, J s1 → Moved [s.heap.objs.size + 1, s.heap.objs.size] (fun a b => b = a) s1 s2 → J s2 := fun s1 s2 ⟨h, tk, e, hk⟩ m => by
    subst e
    obtain ⟨hp, gg, d, tk2, os⟩ := s2
    have h1 : gg = s.gens := m.gens
    have h2 : d = s.drawn := m.drawn
    have h3 : os = s.os := m.os
    subst h1 h2 h3
    refine ⟨hp, tk2, rfl, fun b o eb => m.heap b o (fun hb => ?_) (hk b o eb)⟩
    have := Heap.lt_size eb
    simp only [List.mem_cons, List.mem_nil_iff, or_false] at hb
    rcases hb with z | z <;> rw [z] at this <;> exact absurd this (by show ¬ (_ : Nat) < _; omega)
  have K : KeyRun X.prog X.w X.A.in1 (.ref f) .Lt (s.heap.objs.size + 1) [s.heap.objs.size] (fun a b => b = a) vs.toArray.size (fun i v => vs.toArray[i]? = some v) (fun i s' => s'.heap.IsListIter s.heap.objs.size x i ∧ s'.heap.IsList x vs.toArray) J KV (fun i j => dataLt ((ks.zip ds).getD i (PyData.none, PyData.none)).1 ((ks.zip ds).getD j (PyData.none, PyData.none)).1) := by
    refine ⟨Jk, fun i kv s1 s2 h m => ?_, fun i v s1 o Q' E' hi hP hJ hst hSo hQ => ?_, fun i j ki kj s1 Q' E' hJ hi hj hq => ?_⟩
    · obtain ⟨p, t, u, ns, e1, n1, n2, e2, e3, e4⟩ := h
      exact ⟨p, t, u, ns, e1, n1, n2, e2, e3, m.heap _ _ (by simp [n1, n2]) e4⟩
    · obtain ⟨h, tk, rfl, hk⟩ := hJ
      have hi' : i < ds.length := by simp at hi; omega
      obtain ⟨ns, d1, _⟩ := kat i hi'
      obtain ⟨t, its, v1, hin, ist⟩ := tup i ns d1
      have hv : v = .ref t := by
        have : vs[i]? = some v := by simpa using hP
        rw [v1] at this
        exact (Option.some.inj this).symm
      subst hv
      have ist' : IsTup h t its.toArray := by
        obtain ⟨ob, b1, b2, b3⟩ := ist
        exact ⟨ob, hk _ _ b1, b2, b3⟩
      refine wpAny_mono (ky X.A.in1 (fun _ _ => False) _ t its ns hA hdp (fun b ob eb => hk _ _ (I.bk b ob eb)) ist' hin) (fun kv s2 hq => ?_) fun _ _ z => z.elim
      obtain ⟨h2, tk2, rfl, hk2, p, u, rfl, hp0, hp⟩ := hq
      have pS : p ≠ s.heap.objs.size + 1 := fun z => by
        rw [z] at hp0
        have := hSo.symm.trans hp0
        cases this
      have pI : p ≠ s.heap.objs.size := fun z => by
        obtain ⟨oi, ei, _⟩ := hst.1
        rw [z] at hp0
        have := ei.symm.trans hp0
        cases this
      refine hQ (.ref p) _ ⟨h2, tk2, rfl, fun b ob eb => hk2 _ _ (hk _ _ eb)⟩ ⟨hst.1.at fun ob eb => hk2 _ _ eb, hst.2.at fun ob eb => hk2 _ _ eb⟩ (hk2 _ _ hSo) ⟨p, t, u, ns, rfl, pS, pI, v1, d1, hp⟩ fun j k' ⟨p', t', u', ns', e1, n1, n2, e2, e3, e4⟩ => ⟨p', t', u', ns', e1, n1, n2, e2, e3, hk2 _ _ e4⟩
    · obtain ⟨h, tk, rfl, hk⟩ := hJ
      obtain ⟨p1, t1, u1, ns1, rfl, _, _, a1, b1, c1⟩ := hi
      obtain ⟨p2, t2, u2, ns2, rfl, _, _, a2, b2, c2⟩ := hj
      have read : ∀ (i : Nat) (p t : Addr) (u : Tok) (ns : List Int), vs[i]? = some (Value.ref t) → ds[i]? = some (PyData.tuple (ns.map PyData.int)) → h.get? p = some { cls := .type "tuple", data := .seq #[.int ns.sum u, .ref t] } → (∃ as, Reads h (.ref p) (PyData.tuple [.int ns.sum, .tuple (ns.map PyData.int)]) as) ∧ ((ks.zip ds).getD i (PyData.none, PyData.none)).1 = PyData.tuple [.int ns.sum, .tuple (ns.map PyData.int)] ∧ PyData.tuple [.int ns.sum, .tuple (ns.map PyData.int)] ∈ ks := fun i p t u ns a b c => by
        have li : i < ds.length := (List.getElem?_eq_some_iff.mp b).1
        obtain ⟨ns', d1, k1⟩ := kat i li
        rw [b] at d1
        have e : ns' = ns := by
          have := PyData.tuple.inj (Option.some.inj d1)
          have h1 := congrArg intsOf this
          rw [intsOf_map, intsOf_map] at h1
          exact (Option.some.inj h1).symm
        subst e
        obtain ⟨t', its, v1, hin, ob, q1, q2, nn, q3⟩ := tup i ns' b
        rw [a] at v1
        obtain rfl : t = t' := by injection v1 with v1; injection v1
        exact ⟨⟨_, Reads.tuple c rfl rfl (ReadsAll.cons (as := []) (bs := []) (.int _ _) (ReadsAll.cons (as := []) (bs := []) (Reads.tuple (hk _ _ q1) q2 q3 (readsAll_ints hin)) .nil))⟩, zat i li ns' k1, List.mem_of_getElem? k1⟩
      obtain ⟨⟨as1, r1⟩, z1, m1⟩ := read i p1 t1 u1 ns1 a1 b1 c1
      obtain ⟨⟨as2, r2⟩, z2, m2⟩ := read j p2 t2 u2 ns2 a2 b2 c2
      rw [z1, z2] at hq
      refine rcLt_alike _ _ X.A.in1 _ _ _ _ _ r1 r2 (alk _ m1 _ m2) (by simp) ?_ X.prog X.w E' Q' hq
      have d1 := dep _ m1
      have := Nat.min_le_left (PyData.depth (PyData.tuple [.int ns1.sum, .tuple (ns1.map PyData.int)])) (PyData.depth (PyData.tuple [.int ns2.sum, .tuple (ns2.map PyData.int)]))
      show X.A.units + 1 + _ < _
      omega
  refine ⟨_, _, _, _, _, _, _, J, KV, (fun i j => dataLt ((ks.zip ds).getD i (PyData.none, PyData.none)).1 ((ks.zip ds).getD j (PyData.none, PyData.none)).1), rfl, W, st, hfp, ?_, ?_, fun n0 s' hJ => ?_, fun n0 v s' hP hJ => ?_⟩
  · rw [hS]; exact K
  · exact ⟨_, s.toks, rfl, hk⟩
  · obtain ⟨h, tk, rfl, hk⟩ := hJ
    have : ds = [] := List.length_eq_zero_iff.mp (by rw [List.size_toArray] at n0; omega)
    subst this
    refine ⟨.non, _, I.kept (t' := tk) hk, rfl, q.flat g ?_ fun z => by cases z⟩
    rw [List.zip_nil_right]
    exact .non
  · obtain ⟨h, tk, rfl, hk⟩ := hJ
    cases hz : ks.zip ds with
    | nil =>
      have := congrArg List.length hz
      rw [List.length_zip, List.length_nil] at this
      rw [List.size_toArray] at n0
      omega
    | cons p r =>
      have lz := congrArg List.length hz
      rw [List.length_zip, List.length_cons] at lz
      obtain ⟨f1, f2⟩ := argBest_fold (fun a b : D × D => dataLt a.1 b.1) (PyData.none, PyData.none) p r r.length (Nat.le_refl _)
      rw [List.take_length] at f2
      rw [hz] at hP q
      have e1 : vs.toArray.size - 1 = r.length := by simp; omega
      rw [e1] at hP
      generalize argBest (fun i j => dataLt ((p :: r).getD i (PyData.none, PyData.none)).1 ((p :: r).getD j (PyData.none, PyData.none)).1) r.length = m at hP f1 f2
      have hv : vs[m]? = some v := by simpa using hP
      have lm : m < ds.length := by omega
      obtain ⟨w, e2, r2⟩ := ra.get.1 _ (List.getElem?_eq_getElem lm)
      obtain ⟨u, e3, r3⟩ := rv.get e2
      rw [hv] at e3
      cases e3
      have em : minK (p :: r) = ds[m] := by
        show (r.foldl _ p).2 = _
        rw [← f2, ← hz, List.getD_eq_getElem?_getD, List.getElem?_eq_getElem (by rw [List.length_zip]; omega), Option.getD_some, List.getElem_zip]
      rw [em] at q
      exact ⟨w, _, I.kept (t' := tk) hk, r3, q.flat g r2 fun z => by cases z⟩
def rMink (f : Addr) : List V → List V → Hp → VK → Prop := fun xs zs H Q => ∃ (Z : St0) (k : KA Z), ∃ G sd a d v, xs = [v] ∧ zs = [.ref f, .non] ∧ SameT Z G H ∧ DkAt k sd G H ∧ Rep k G v a ∧ minkD a = some d ∧ Ends1 false k G H d Q
theorem bi_mink {f : Addr} (hu : X.A.units + 100 < cLine) (hA : X.A.handled = none) (hdp : X.A.depth < recursionLimit) (ky : KeyAt X.prog X.w X.base f) : CallRK X (.builtin "min") [Str.ofString "key", Str.ofString "default"] (rMink f) := by
  intro pins s σ H xs zs us ws Q I r rz h
  obtain ⟨Z, k, G, sd, a, d, v, rfl, rfl, g, dk, ra, e, q⟩ := h
  cases rz with
  | cons za zb =>
  rename_i w1 wr
  obtain rfl : w1 = .ref f := za
  obtain ⟨w2, rfl, zc⟩ := Vals.one zb
  obtain rfl : w2 = .none := zc
  obtain ⟨u, rfl, ru⟩ := Vals.one r
  cases ra with
  | lst h1 r1 =>
    obtain rfl : u = .ref _ := ru
    simp only [minkD] at e
    split at e
    · rename_i ks ek
      split at e
      · rename_i hs
        cases e
        obtain ⟨its, rr, p, _⟩ := I.list (.of (g _ _ h1))
        exact mink_go I hu hA hdp ky g p.isList rr r1 ek hs q
      · cases e
    · cases e
  | _ => simp [minkD] at e
/-- the data of a row, read -/
theorem reads_row {pins : List (Addr × Obj)} {s : Shared} {σ : L2.St} {H G : Hp} {k : KA Z} (I : Inv X pins σ H s) (g : SameT Z G H) : ∀ {vs : List Value} {xs : List V} {ds : List D}, Vals xs vs → Reps k G xs ds → noLs ds = true → ReadsAll s.heap vs ds []
  | _, _, _, .nil, .nil, _ => .nil
  | v :: vs, x :: xs, d :: ds, .cons h r, .cons h2 r2, n => by
    have n' : noL d = true ∧ noLs ds = true := by simpa [noLs] using n
    obtain ⟨as, rr⟩ := Dp.reads I d x v (Rep.dp g (noL_dict n'.1) h2) h
    have ea := reads_noL n'.1 rr
    subst ea
    exact ReadsAll.cons (as := []) (bs := []) rr (reads_row I g r r2 n'.2)
theorem mind_go {pins : List (Addr × Obj)} {s : Shared} {σ : L2.St} {H G : Hp} {k : KA Z} {x : Addr} {vs : List Value} {Q : VK} {xs : List V} {d : D} {ds : List D} (I : Inv X pins σ H s) (hu : X.A.units + 100 < cLine) (hA : X.A.handled = none)
    (g : SameT Z G H) (hl : s.heap.IsList x vs.toArray) (rv : Vals xs vs) (ra : Reps k G xs (d :: ds)) (hs : sortsB (d :: ds) = true) (q : Ends1 false k G H (minD d ds) Q) :
    wpAny (model X.prog X.w) X.A (call (.builtin "min") [.ref x]) (EP X pins σ Q) X.xe s := by
  obtain ⟨alk, so, dep, nl⟩ := sortsB_ok hs
  have rr := reads_row I g rv ra nl
  have l1 := rv.length
  have l2 := ra.length
  refine call_min_walkH (iter_listW (A := X.A.in1) hA hl fun s2 e W st hfp hw hk => ?_)
  have hn0 : vs.toArray.size = ds.length + 1 := by rw [List.size_toArray]; rw [List.length_cons] at l2; omega
  have alike : AlikeAll (d :: ds) := ⟨alk, fun y hy z => by
    subst z
    rcases so with so | so
    · obtain ⟨_, _, e⟩ := so _ hy
      cases e
    · exact (so _ hy).1 rfl⟩
  have dp : PyData.depthAll (d :: ds) ≤ 64 := depth_row dep
  refine ⟨_, _, _, _, _, _, _, s.heap, _, rfl, W, st, hfp, by omega, hw, hk, cmpIn_lt (A := X.A.in1) (vs := vs.toArray) (xs := d :: ds) (as := []) (by simpa using rr) alike (by show X.A.units + 1 + _ < _; omega), fun v s' hP m => ?_⟩
  obtain ⟨h', tk, rfl, hk'⟩ := moved_old e rfl m
  have e1 : vs.toArray.size - 1 = ds.length := by omega
  obtain ⟨f1, f2⟩ := argBest_fold dataLt PyData.none d ds ds.length (Nat.le_refl _)
  rw [List.take_length] at f2
  rw [e1] at hP
  generalize argBest (fun i j => dataLt ((d :: ds).getD i PyData.none) ((d :: ds).getD j PyData.none)) ds.length = m at hP f1 f2
  have hv : vs[m]? = some v := by simpa using hP
  have lm : m < (d :: ds).length := by rw [List.length_cons]; omega
  obtain ⟨w, e2, r2⟩ := ra.get.1 _ (List.getElem?_eq_getElem lm)
  obtain ⟨u, e3, r3⟩ := rv.get e2
  rw [hv] at e3
  cases e3
  have em : minD d ds = (d :: ds)[m] := by
    show ds.foldl _ d = _
    rw [← f2, List.getD_eq_getElem?_getD, List.getElem?_eq_getElem lm, Option.getD_some]
  rw [em] at q
  exact ⟨w, _, I.kept (t' := tk) hk', r3, q.flat g r2 fun z => by cases z⟩
theorem bi_minkd (hu : X.A.units + 100 < cLine) (hA : X.A.handled = none) : CallR X (.builtin "min") (rN (biD .minkd) false) := by
  intro pins s σ H xs us Q I r h
  obtain ⟨Z, k, G, sd, as, d, g, dk, ra, e, q⟩ := h
  match as, ra, e with
  | [.list (d :: ds)], ra, e =>
    simp only [biD] at e
    split at e
    · rename_i hs
      cases e
      obtain ⟨v, rfl, rv⟩ := ra.one
      obtain ⟨u, rfl, ru⟩ := Vals.one r
      cases rv with
      | lst h1 r1 =>
        obtain rfl : u = .ref _ := ru
        obtain ⟨its, rr, p, _⟩ := I.list (.of (g _ _ h1))
        exact mind_go I hu hA g p.isList rr r1 hs q
    · cases e
theorem bi_sorted (hu : X.A.units + 100 < cLine) : CallR X (.builtin "sorted") (rN (biD .sorted) true) := by
  intro pins s σ H xs us Q I r h
  obtain ⟨Z, k, G, sd, as, d, g, dk, ra, e, q⟩ := h
  match as, ra, e with
  | [.list ds], ra, e =>
    simp only [biD, Option.map_eq_some_iff] at e
    obtain ⟨ds', e1, e2⟩ := e
    subst e2
    obtain ⟨v, rfl, rv⟩ := ra.one
    obtain ⟨u, rfl, ru⟩ := Vals.one r
    cases rv with
    | lst h1 r1 =>
      obtain rfl : u = .ref _ := ru
      obtain ⟨its, rr, ⟨o, n, p1, p2, _, p4⟩, _⟩ := I.list (.of (g _ _ h1))
      exact sorted_go I hu g dk (.inl rfl) p1 p2 p4 rr r1 e1 q
  | [.tuple ds], ra, e =>
    simp only [biD, Option.map_eq_some_iff] at e
    obtain ⟨ds', e1, e2⟩ := e
    subst e2
    obtain ⟨v, rfl, rv⟩ := ra.one
    obtain ⟨u, rfl, ru⟩ := Vals.one r
    cases rv with
    | tup h1 r1 =>
      obtain rfl : u = .ref _ := ru
      obtain ⟨its, rr, ⟨o, p1, p2, n, p4⟩, _⟩ := I.tuple (.of (g _ _ h1))
      exact sorted_go I hu g dk (.inr rfl) p1 p2 p4 rr r1 e1 q
end
end CH

set_option Elab.async false
set_option linter.all false
set_option maxRecDepth 100000
set_option maxHeartbeats 4000000
namespace CH
variable {Z : St0}
open PySem L2 PyProof.Rows
theorem argsMaxD (a d : Value) : argsOk "max" ⟨[a], [(Str.ofString "default", d)]⟩ := by unfold argsOk; kernel_rfl
section
variable {prog : Program} {w : World} {A : Around} {E : Value → Shared → Prop} {s : Shared}
/-- a built-in of the module, called with keywords, its tree in sight -/
theorem call_treeK {id : String} {b : Builtin} {args : List Value} {kw : List (Str × Value)} {Q : Value → Shared → Prop} (kn : builtinKind id = none) (pl : plainId id = true) (en : entryFor table id = some b) (ok : argsOk id ⟨args, kw⟩)
    (body : wpAny (model prog w) A.in1 (b ⟨args, kw⟩) (fun fin s' => match fin with
      | .done f => (match (Except.ok f : Result) with | .ok (.ret v) => Q v s' | .ok _ => False | .error e => E e s')
      | .again c => c.quiet = true ∧ codeAny (model prog w) A c (fun r s' => match r with | .ok (.ret v) => Q v s' | .ok _ => False | .error e => E e s') s') E s) :
    wpAny (model prog w) A (call (.builtin id) args kw) Q E s := by
  refine wpAny_call (codeAny_call_builtin pl en ?_)
  simp only [checkBuiltinCall, kn]
  cases sg : Manifest.signature? id with
  | none => exact wpAny_pure body
  | some g =>
    have ok' : Bind.checkArgs id g ⟨args, kw⟩ = pure () := by simpa only [argsOk, sg] using ok
    simp only [ok']
    exact wpAny_pure body
end
section
variable {prog : Program} {w : World} {A : Around} {R : Result → Shared → Prop} {I : Addr} {fp wr : List Addr} {n : Nat} {P : Nat → Value → Prop} {St : Nat → Heap → Prop} {ns : List Int} {d : Value}
/-- the loop of max over whole numbers, a default at hand -/
theorem max_go (W : Walks prog w A.in1 I fp wr n P St) (hP : ∀ i v, P i v → ∃ t, v = .int (ns.getD i 0) t) (hn : ns.length = n) (S : Addr) (hSf : S ∉ fp) :
    ∀ (k j : Nat) (s : Shared) (m : Int) (t : Tok) (c : Nat), n - j = k → j ≤ n → St j s.heap →
    s.heap.get? S = some { cls := .type "list", dict := none, data := .seq #[.int m t, .int m t] c, slots := #[] } →
    (∀ t' h' tk, (∀ b o, b ∉ wr → b ≠ S → s.heap.get? b = some o → h'.get? b = some o) → R (.ok (.ret (.int (maxL m (ns.drop j)) t'))) { s with heap := h', toks := tk }) →
    codeAny (model prog w) A (.builtin "max.loop" ⟨[.ref I, .none, .ref S], [(Str.ofString "default", d)]⟩) R s := by
  have hSw : S ∉ wr := fun h => hSf (W.sub _ h)
  have hname : (toString "max" ++ toString ".loop" : String) = "max.loop" := by decide
  intro k
  induction k with
  | zero =>
    intro j s m t c hk hj hst hS hR
    have hin : j = n := by omega
    refine codeAny_builtin F.entry_max_loop ?_
    rw [Around.under_plainId F.plain_max_loop _]
    show wpAny _ A.in1 (seqItems? (.ref S) >>= _) _ _ s
    refine wpAny_bind (wpAny_seqItems hS rfl ?_)
    show wpAny _ A.in1 (tryCatch (pyNext (.ref I)) _ >>= _) _ _ s
    refine wpAny_bind (wpAny_tryCatch (W.done s _ _ (hin ▸ hst) fun h' tk hk' => ?_))
    have hS' := hk' S _ hSw hS
    show wpAny _ A.in1 (updateSeq S (fun _ => #[]) >>= _) _ _ _
    refine wpAny_bind (wpAny_updateSeq hS' rfl (wpAny_bind (wpAny_letGo (wpAny_pure ?_))))
    have e : ns.drop j = [] := List.drop_eq_nil_of_le (by omega)
    rw [e] at hR
    exact hR t _ tk fun b o hbw hbS e => (Heap.get?_update_other _ _ (Ne.symm hbS)).trans (hk' b o hbw e)
  | succ k ih =>
    intro j s m t c hk hj hst hS hR
    have hlt : j < n := by omega
    have ed : ns.drop j = ns.getD j 0 :: ns.drop (j + 1) := by
      rw [List.drop_eq_getElem_cons (by omega)]
      congr 1
      simp [hn, hlt]
    rw [ed] at hR
    refine codeAny_builtin F.entry_max_loop ?_
    rw [Around.under_plainId F.plain_max_loop _]
    show wpAny _ A.in1 (seqItems? (.ref S) >>= _) _ _ s
    refine wpAny_bind (wpAny_seqItems hS rfl ?_)
    show wpAny _ A.in1 (tryCatch (pyNext (.ref I)) _ >>= _) _ _ s
    refine wpAny_bind (wpAny_tryCatch (W.item j s _ _ hlt hst fun v h' tk hPv hst' hk' => ?_))
    obtain ⟨t2, rfl⟩ := hP j v hPv
    have hS' := hk' S _ hSw hS
    show wpAny _ A.in1 (tryCatch (holding [Value.int (ns.getD j 0) t2, Value.int (ns.getD j 0) t2] (richCompare .Gt (.int (ns.getD j 0) t2) (.int m t) >>= _)) _ >>= _) _ _ _
    refine wpAny_bind (wpAny_tryCatch (wpAny_holding (wpAny_bind (richCompare_gives (op := .Gt) (typeIs_int _ _ t2) (typeIs_int _ _ t) F.slot_int_gt F.entry_int_gt (F.args_int_gt_2 _ _) (gives_int_gt _ _ t2 t) (fun x => nomatch x) ?_))))
    refine wpAny_bind (wpAny_holding (wpAny_truthy_bool ?_))
    refine wpAny_bind (wpAny_letGo (wpAny_pure ?_))
    by_cases hb : ns.getD j 0 > m
    · have e : maxL m (ns.getD j 0 :: ns.drop (j + 1)) = maxL (ns.getD j 0) (ns.drop (j + 1)) := by
        show maxL (if ns.getD j 0 > m then ns.getD j 0 else m) _ = _
        rw [if_pos hb]
      rw [e] at hR
      rw [decide_eq_true hb]
      simp only [if_true]
      refine wpAny_bind (wpAny_updateSeq hS' rfl (wpAny_bind (wpAny_letGo ?_)))
      rw [hname]
      refine wpAny_pure ⟨plainId_quiet F.plain_max_loop _, ih (j + 1) _ _ _ _ (by omega) hlt (W.frame _ _ _ hst' fun b hbf o e => ?_) (Heap.get?_update_self _ hS' rfl) fun t' h'' tk'' hk'' => ?_⟩
      · exact (Heap.get?_update_other _ _ (fun h : S = b => hSf (by rw [h]; exact hbf))).trans e
      · exact hR t' h'' tk'' fun b o hbw hbS e => hk'' b o hbw hbS ((Heap.get?_update_other _ _ (Ne.symm hbS)).trans (hk' b o hbw e))
    · have e : maxL m (ns.getD j 0 :: ns.drop (j + 1)) = maxL m (ns.drop (j + 1)) := by
        show maxL (if ns.getD j 0 > m then ns.getD j 0 else m) _ = _
        rw [if_neg hb]
      rw [e] at hR
      rw [decide_eq_false hb]
      simp only [Bool.false_eq_true, if_false]
      refine wpAny_bind (wpAny_letGo ?_)
      rw [hname]
      refine wpAny_pure ⟨plainId_quiet F.plain_max_loop _, ih (j + 1) _ m t c (by omega) hlt hst' hS' fun t' h'' tk'' hk'' => ?_⟩
      exact hR t' h'' tk'' fun b o hbw hbS e => hk'' b o hbw hbS (hk' b o hbw e)
end
section
variable {prog : Program} {w : World} {A : Around} {E : Value → Shared → Prop} {s : Shared} {l : Addr} {its : List Value} {ns : List Int} {Q : Value → Shared → Prop} {d : Value}
theorem maxd_raw (hh : A.handled = none) (hl : s.heap.IsList l its.toArray) (hi : IntsAre its ns)
    (h0 : ns = [] → ∀ h' tk, (∀ b o, s.heap.get? b = some o → h'.get? b = some o) → Q d { s with heap := h', toks := tk })
    (h1 : ∀ m r, ns = m :: r → ∀ h' tk t', (∀ b o, s.heap.get? b = some o → h'.get? b = some o) → Q (.int (maxL m r) t') { s with heap := h', toks := tk }) :
    wpAny (model prog w) A (call (.builtin "max") [.ref l] [(Str.ofString "default", d)]) Q E s := by
  have hname : (toString "max" ++ toString ".loop" : String) = "max.loop" := by decide
  refine call_treeK F.kind_max F.plain_max F.entry_max (argsMaxD _ _) ?_
  show wpAny _ A.in1 (Builtin.Builtins.bindParams "max" ["key", "default"] 0 ⟨[], [(Str.ofString "default", d)]⟩ >>= _) _ _ s
  refine wpAny_bind (wpAny_of_eq (show Builtin.Builtins.bindParams "max" ["key", "default"] 0 ⟨[], [(Str.ofString "default", d)]⟩ = pure [none, some d] from rfl) ?_)
  refine wpAny_bind (wpAny_pure ?_)
  obtain ⟨xs, e⟩ := hi.allInts.items
  have hn : numsOf (intItems xs).toList = ns := by rw [← e]; exact hi.numsOf
  have hsz : its.length = ns.length := hi.length
  rw [e] at hl
  have hxs : (intItems xs).size = ns.length := by rw [← e, List.size_toArray, hsz]
  have hat : ∀ i v, (intItems xs)[i]? = some v → ∃ t, v = Value.int (ns.getD i 0) t := fun i v hv => by
    rw [← e] at hv
    have hv' : its[i]? = some v := by simpa using hv
    exact PyProof.Rows.IntsAre.int_at hi i v hv'
  refine wpAny_bind (iter_intList hl fun s₂ es st hfp hlI => ?_)
  have hold : ∀ b o, s.heap.get? b = some o → s₂.heap.get? b = some o := fun b o eb => by rw [es]; exact Heap.get?_push_of_some _ eb
  have hIs : s.heap.get? s.heap.objs.size = none := Heap.get?_none_of_le (Nat.le_refl _)
  have W := Walks.list (prog := prog) (w := w) (A := A.in1) hh s.heap.objs.size l hlI (intItems xs)
  rw [hxs] at W
  refine wpAny_bind (wpAny_newObj_type ?_)
  rw [hname]
  have hSf : s₂.heap.objs.size ∉ [s.heap.objs.size, l] := fun hm => Nat.lt_irrefl _ (hfp _ hm)
  have hSw : s₂.heap.objs.size ∉ [s.heap.objs.size] := fun hm => hSf (W.sub _ hm)
  have st' := W.frame 0 _ (s₂.heap.push { cls := .type "list", data := .seq ([] : List Value).toArray }) st fun b _ o eb => Heap.get?_push_of_some _ eb
  have hS : (s₂.heap.push { cls := .type "list", data := .seq ([] : List Value).toArray }).get? s₂.heap.objs.size = some { cls := .type "list", dict := none, data := .seq #[] 0, slots := #[] } := Heap.get?_push_size _ rfl
  have fin : ∀ {h' : Heap}, (∀ b o, b ∉ [s.heap.objs.size] → b ≠ s₂.heap.objs.size → (s₂.heap.push { cls := .type "list", data := .seq ([] : List Value).toArray }).get? b = some o → h'.get? b = some o) → ∀ b o, s.heap.get? b = some o → h'.get? b = some o := fun k b o eb =>
    k b o (fun hm => by
      have : b = s.heap.objs.size := by simpa using hm
      rw [this, hIs] at eb
      cases eb) (Nat.ne_of_lt (Heap.lt_size (hold b o eb))) (Heap.get?_push_of_some _ (hold b o eb))
  have gs : s₂.gens = s.gens ∧ s₂.drawn = s.drawn ∧ s₂.os = s.os := by rw [es]; exact ⟨rfl, rfl, rfl⟩
  obtain ⟨hp2, g2, d2, tk2, os2⟩ := s₂
  obtain ⟨eg, edr, eos⟩ := gs
  simp only at eg edr eos
  subst eg edr eos
  refine wpAny_pure ⟨plainId_quiet F.plain_max_loop _, codeAny_builtin F.entry_max_loop ?_⟩
  rw [Around.under_plainId F.plain_max_loop _]
  show wpAny _ A.in1 (seqItems? (.ref hp2.objs.size) >>= _) _ _ _
  refine wpAny_bind (wpAny_seqItems hS rfl ?_)
  show wpAny _ A.in1 (tryCatch (pyNext (.ref s.heap.objs.size)) _ >>= _) _ _ _
  cases hns : ns with
  | nil =>
    subst hns
    refine wpAny_bind (wpAny_tryCatch (W.done _ _ _ st' fun h' tk hk' => ?_))
    exact wpAny_bind (wpAny_rule (wpAny_pure (h0 rfl h' tk (fin fun b o n1 n2 eb => hk' b o n1 eb))))
  | cons m r =>
    subst hns
    refine wpAny_bind (wpAny_tryCatch (W.item 0 _ _ _ (Nat.succ_pos _) st' fun v h' tk hPv hst' hk' => ?_))
    obtain ⟨t, rfl⟩ := hat 0 v hPv
    have hS' := hk' _ _ hSw hS
    show wpAny _ A.in1 (updateSeq hp2.objs.size (fun _ => #[.int m t, .int m t]) >>= _) _ _ _
    refine wpAny_bind (wpAny_updateSeq hS' rfl ?_)
    rw [hname]
    refine wpAny_pure ⟨plainId_quiet F.plain_max_loop _, max_go W hat rfl _ hSf _ 1 _ m t _ rfl (Nat.succ_le_succ (Nat.zero_le _)) (W.frame _ _ _ hst' fun b hbf o e => ?_) (Heap.get?_update_self _ hS' rfl) fun t' h'' tk'' hk'' => ?_⟩
    · exact (Heap.get?_update_other _ _ (fun h : hp2.objs.size = b => hSf (by rw [h]; exact hbf))).trans e
    · exact h1 m r rfl h'' tk'' t' (fin fun b o n1 n2 eb => hk'' b o n1 n2 ((Heap.get?_update_other _ _ (Ne.symm n2)).trans (hk' b o n1 eb)))
end
section
variable {X : Cx}
def rMaxd : List V → List V → Hp → VK → Prop := fun xs zs H Q => ∃ (Z : St0) (k : KA Z), ∃ G sd a b d v z, xs = [v] ∧ zs = [z] ∧ SameT Z G H ∧ DkAt k sd G H ∧ Rep k G v a ∧ Rep k G z b ∧ biD .maxd [a, b] = some d ∧ Ends1 false k G H d Q
theorem bi_maxd (hc : X.calm = true) : CallRK X (.builtin "max") [Str.ofString "default"] rMaxd := by
  intro pins s σ H xs zs us ws Q I r rz h
  obtain ⟨Z, k, G, sd, a, b, d, v, z, rfl, rfl, g, dk, ra, rb, e, q⟩ := h
  obtain ⟨w', rfl, rw'⟩ := Vals.one rz
  obtain ⟨u, rfl, ru⟩ := Vals.one r
  cases ra with
  | lst h1 r1 =>
    obtain rfl : u = .ref _ := ru
    simp only [biD] at e
    split at e
    · rename_i e1
      cases e
      rw [r1.ints e1] at h1
      obtain ⟨its, rr, p, _⟩ := I.list (.of (g _ _ h1))
      exact maxd_raw (I.ok.hd hc) p.isList (Vals.ints rr) (fun _ h' tk hk => ⟨z, H, I.kept (t' := tk) hk, rw', q.flat g rb (fun z => by cases z)⟩) (fun m r em => by cases em)
    · rename_i m ns e1
      cases e
      rw [r1.ints e1] at h1
      obtain ⟨its, rr, p, _⟩ := I.list (.of (g _ _ h1))
      exact maxd_raw (I.ok.hd hc) p.isList (Vals.ints rr) (fun em => by cases em) (fun m' r' em h' tk t' hk => by
        cases em
        exact ⟨.int _, H, I.kept (t' := tk) hk, ⟨_, rfl⟩, q.scal g (.int _) (fun ds z => by cases z)⟩)
    · cases e
  | _ => simp [biD] at e
end
end CH

set_option Elab.async false
set_option linter.all false
set_option maxRecDepth 100000
set_option maxHeartbeats 4000000
namespace CH
variable {Z : St0}
open PySem L2
/-- what is fixed: the defs' meanings; how an error is held -/
structure Par (Z : St0) where
  F : Fns
  RX : KA Z → Hp → Exn → Value → Option Addr → Prop
  /-- the level at which the defs keep their promise -/
  lv : Nat
abbrev XW := L2.St → XK
structure Pre (k : KA Z) (G H : Hp) (σ : L2.St) (ρ : Env0) (s : Dk) : Prop where
  sub : SameT Z G H
  dk : DkAt k s G H
  env : ∀ (i : Nat) (d : D), ρ[i]? = some (some d) → ∃ v, σ[i]? = some (some v) ∧ Rep k G v d
  len : ρ.length = σ.length
theorem Pre.grow {k : KA Z} {G H G1 H1 : Hp} {σ : L2.St} {ρ : Env0} {s s1 : Dk} (p : Pre k G H σ ρ s) (g : Grow k G H G1 H1) (d : DkAt k s1 G1 H1) : Pre k G1 H1 σ ρ s1 :=
  ⟨g.gh, d, fun i d e => let ⟨v, h1, h2⟩ := p.env i d e; ⟨v, h1, h2.mono g.gg⟩, p.len⟩
/-- what may follow a computation -/
def Done {α : Type} (R : Par Z) (E : XW) (k : KA Z) (G H : Hp) (σ : L2.St) (o : Out α) (K : α → Dk → Prop) : Prop :=
  match o with
  | .no => False
  | .ex x s' => ∀ c d G' H', Grow k G H G' H' → DkAt k s' G' H' → R.RX k G' x c d → E σ c d H'
  | .ok a s' => K a s'
section
variable {R : Par Z} {E : XW} {k : KA Z} {G H G1 H1 : Hp} {σ : L2.St}
theorem Done.imp {α : Type} {o : Out α} {K K' : α → Dk → Prop} (h : Done R E k G H σ o K) (g : Grow k G H G1 H1) (q : ∀ a s, o = .ok a s → K a s → K' a s) : Done R E k G1 H1 σ o K' := by
  cases o with
  | no => exact h
  | ok a s => exact q a s rfl h
  | ex x s => exact fun c d G' H' g' dk r => h c d G' H' (g.trans g') dk r
theorem Done.bind {α β : Type} {o : Out α} {f : α → Dk → Out β} {K : β → Dk → Prop} (h : Done R E k G H σ (o.bind f) K) : Done R E k G H σ o fun a s => Done R E k G H σ (f a s) K := by
  cases o with
  | no => exact h
  | ok a s => exact h
  | ex x s => exact h
theorem Done.of {α : Type} {o : Option α} {s : Dk} {K : α → Dk → Prop} (h : Done R E k G H σ (.of o s) K) : ∃ a, o = some a ∧ K a s := by
  cases o with
  | none => exact h.elim
  | some a => exact ⟨a, rfl, h⟩
end
theorem bind_bind {α β γ : Type} {o : Out α} {f : α → Dk → Out β} {g : β → Dk → Out γ} : (o.bind f).bind g = o.bind fun a s => (f a s).bind g := by cases o <;> rfl
/-- what is wanted of a value behind a computation -/
def Want (fr : Bool) (k : KA Z) (G H : Hp) (Q : VK) : D → Dk → Prop := fun d s' => ∀ v G' H', Grow k G H G' H' → DkAt k s' G' H' → RepB fr k G' H H' v d → Q v H'
def SEM (R : Par Z) (E : XW) (p : PX) : TE := fun σ H Q => ∃ k G ρ s, Pre k G H σ ρ s ∧ Done R E k G H σ (ev R.F p ρ s) (Want p.freshy k G H Q)
def SEMA (R : Par Z) (E : XW) (ps : List PX) : TA := fun σ H Q => ∃ k G ρ s, Pre k G H σ ρ s ∧ Done R E k G H σ (evs R.F ps ρ s) fun ds s' => ∀ vs G' H', Grow k G H G' H' → DkAt k s' G' H' → Reps k G' vs ds → Q vs H'
def SEMT (R : Par Z) (E : XW) (p : PX) : TT := fun σ H Q => ∃ k G ρ s, Pre k G H σ ρ s ∧ Done R E k G H σ (truthO (ev R.F p ρ s)) fun b s' => ∀ G' H', Grow k G H G' H' → DkAt k s' G' H' → Q b H'
section
variable {R : Par Z} {E : XW} {k : KA Z} {G H : Hp} {σ : L2.St} {ρ : Env0} {s : Dk} {Q : VK}
theorem RepB.back {fr : Bool} {H1 G' H' : Hp} {v : V} {d : D} (h : ∀ a, H1 a = none → H a = none) (r : RepB fr k G' H1 H' v d) : RepB fr k G' H H' v d := by
  rcases r with ⟨h0, a, xs, ds, h1, h2, h3, h4⟩ | r
  · exact .inl ⟨h0, a, xs, ds, h1, h2, h _ h3, h4⟩
  · exact .inr r
theorem Want.back {fr : Bool} {G1 H1 : Hp} {d : D} {s1 : Dk} (g : Grow k G H G1 H1) (q : Want fr k G H Q d s1) : Want fr k G1 H1 Q d s1 := fun v G' H' g' dk r => q v G' H' (g.trans g') dk (r.back g.kt)
theorem Want.ends {fr : Bool} {d : D} (dk : DkAt k s G H) (q : Want fr k G H Q d s) : Ends1 fr k G H d Q := fun v G' H' g e r => q v G' H' g (dk.keep g e) r
/-- a part, then the rest -/
theorem sem_step {α : Type} {p : PX} {f : D → Dk → Out α} {K : α → Dk → Prop} {Q : VK} (P : Pre k G H σ ρ s) (h : Done R E k G H σ ((ev R.F p ρ s).bind f) K)
    (q : ∀ x s1 v G1 H1, Grow k G H G1 H1 → Pre k G1 H1 σ ρ s1 → Rep k G1 v x → Done R E k G1 H1 σ (f x s1) K → Q v H1) : SEM R E p σ H Q := by
  refine ⟨k, G, ρ, s, P, h.bind.imp (.refl P.sub) fun x s1 _ h1 v G' H' g dk r => ?_⟩
  obtain ⟨G2, g2, dk2, r2⟩ := r.rep g (fun a e => e) P.dk.there dk
  exact q x s1 v G2 H' g2 (P.grow g2 dk2) r2 (h1.imp g2 fun _ _ _ z => z)
theorem sema_step {α : Type} {ps : List PX} {f : List D → Dk → Out α} {K : α → Dk → Prop} {Q : List V → Hp → Prop} (P : Pre k G H σ ρ s) (h : Done R E k G H σ ((evs R.F ps ρ s).bind f) K)
    (q : ∀ xs s1 vs G1 H1, Grow k G H G1 H1 → Pre k G1 H1 σ ρ s1 → Reps k G1 vs xs → Done R E k G1 H1 σ (f xs s1) K → Q vs H1) : SEMA R E ps σ H Q :=
  ⟨k, G, ρ, s, P, h.bind.imp (.refl P.sub) fun x s1 _ h1 v G' H' g dk r => q x s1 v G' H' g (P.grow g dk) r (h1.imp g fun _ _ _ z => z)⟩
theorem semt_step {α : Type} {p : PX} {f : Bool → Dk → Out α} {K : α → Dk → Prop} {Q : Bool → Hp → Prop} (P : Pre k G H σ ρ s) (h : Done R E k G H σ ((truthO (ev R.F p ρ s)).bind f) K)
    (q : ∀ b s1 G1 H1, Grow k G H G1 H1 → Pre k G1 H1 σ ρ s1 → Done R E k G1 H1 σ (f b s1) K → Q b H1) : SEMT R E p σ H Q :=
  ⟨k, G, ρ, s, P, h.bind.imp (.refl P.sub) fun x s1 _ h1 G' H' g dk => q x s1 G' H' g (P.grow g dk) (h1.imp g fun _ _ _ z => z)⟩
theorem truth_done {o : Out D} {K : Bool → Dk → Prop} (h : Done R E k G H σ (truthO o) K) : Done R E k G H σ o fun d s1 => ∃ b, d = .bool b ∧ K b s1 := by
  cases o with
  | no => exact h
  | ex x s => exact h
  | ok d s1 =>
    cases d with
    | bool b => exact ⟨b, rfl, h⟩
    | _ => exact h.elim
/-- a test by its value -/
theorem semt_val {p : PX} {Q : Bool → Hp → Prop} (h : SEMT R E p σ H Q) : SEM R E p σ H fun x H1 => ∃ b, x = .bl b ∧ Q b H1 := by
  obtain ⟨k, G, ρ, s, P, h⟩ := h
  refine ⟨k, G, ρ, s, P, (truth_done h).imp (.refl P.sub) fun d s1 _ ⟨b, e, q⟩ v G' H' g dk r => ?_⟩
  subst e
  rcases r with ⟨_, _, _, _, _, z, _⟩ | ⟨_, r⟩
  · cases z
  · cases r
    exact ⟨b, rfl, q G' H' g dk⟩
/-- a value that is a truth, as the two parts of an or, an and -/
theorem sem_truth {α : Type} {p : PX} {f : Bool → Dk → Out α} {K : α → Dk → Prop} {Q : VK} (P : Pre k G H σ ρ s) (h : Done R E k G H σ ((truthO (ev R.F p ρ s)).bind f) K)
    (q : ∀ b s1 G1 H1, Grow k G H G1 H1 → Pre k G1 H1 σ ρ s1 → Done R E k G1 H1 σ (f b s1) K → Q (.bl b) H1) : SEM R E p σ H Q := by
  have z := semt_val (semt_step (R := R) (E := E) (Q := fun b H1 => Q (.bl b) H1) P h q)
  obtain ⟨k', G', ρ', s', P', z⟩ := z
  refine ⟨k', G', ρ', s', P', z.imp (.refl P'.sub) fun d s1 _ w v G2 H2 g dk r => ?_⟩
  obtain ⟨b, e, q'⟩ := w v G2 H2 g dk r
  subst e
  exact q'

/-! ### the readings of the forms -/
theorem rd_var {i : Nat} (h : SEM R E (.var i) σ H Q) : tVar i σ H Q := by
  obtain ⟨k, G, ρ, s, P, h⟩ := h
  simp only [ev] at h
  split at h
  · rename_i d e
    obtain ⟨v, h1, h2⟩ := P.env i d e
    exact ⟨v, h1, h v G H (.refl P.sub) P.dk (.inr ⟨fun z => by simp [PX.freshy] at z, h2⟩)⟩
  · exact h.elim
theorem rd_cst {v : V} {d : D} (hr : ∀ (k : KA Z) (G : Hp), Rep k G v d) (h : SEM R E (.cst d) σ H Q) : tC v σ H Q := by
  obtain ⟨k, G, ρ, s, P, h⟩ := h
  exact h v G H (.refl P.sub) P.dk (.inr ⟨fun z => by simp [PX.freshy] at z, hr k G⟩)
theorem rd_two {pa pb : PX} {sem : D → D → Option D} {fr : Bool} (P : Pre k G H σ ρ s) (h : Done R E k G H σ ((ev R.F pa ρ s).bind fun x s1 => (ev R.F pb ρ s1).bind fun y s2 => .of (sem x y) s2) (Want fr k G H Q)) :
    tOp (r2 sem fr) (SEM R E pa) (SEM R E pb) σ H Q := by
  refine sem_step P h fun x s1 v G1 H1 g1 P1 r1 h1 => sem_step P1 h1 fun y s2 w G2 H2 g2 P2 rw h2 => ?_
  obtain ⟨d, e, q⟩ := h2.of
  exact ⟨_, k, G2, s2, x, y, d, P2.sub, P2.dk, r1.mono g2.gg, rw, e, (Want.back (g1.trans g2) q).ends P2.dk⟩
theorem rd_one {pa : PX} {sem : D → Option D} {fr : Bool} (P : Pre k G H σ ρ s) (h : Done R E k G H σ ((ev R.F pa ρ s).bind fun x s1 => .of (sem x) s1) (Want fr k G H Q)) :
    tUn (r1 sem fr) (SEM R E pa) σ H Q := by
  refine sem_step P h fun x s1 v G1 H1 g1 P1 r1 h1 => ?_
  obtain ⟨d, e, q⟩ := h1.of
  exact ⟨_, k, G1, s1, x, d, P1.sub, P1.dk, r1, e, (Want.back g1 q).ends P1.dk⟩
theorem rd_args {ps : List PX} {sem : List D → Option D} {fr : Bool} (P : Pre k G H σ ρ s) (h : Done R E k G H σ ((evs R.F ps ρ s).bind fun xs s1 => .of (sem xs) s1) (Want fr k G H Q)) :
    tCB (rN sem fr) (SEMA R E ps) σ H Q := by
  refine sema_step P h fun xs s1 vs G1 H1 g1 P1 r1 h1 => ?_
  obtain ⟨d, e, q⟩ := h1.of
  exact ⟨_, k, G1, s1, xs, d, P1.sub, P1.dk, r1, e, (Want.back g1 q).ends P1.dk⟩
theorem rd_nil {Q : List V → Hp → Prop} (h : SEMA R E [] σ H Q) : tNil σ H Q := by
  obtain ⟨k, G, ρ, s, P, h⟩ := h
  exact h [] G H (.refl P.sub) P.dk .nil
theorem rd_cons {p : PX} {ps : List PX} {Q : List V → Hp → Prop} (h : SEMA R E (p :: ps) σ H Q) : tCons (SEM R E p) (SEMA R E ps) σ H Q := by
  obtain ⟨k, G, ρ, s, P, h⟩ := h
  simp only [evs] at h
  refine sem_step P h fun x s1 v G1 H1 g1 P1 r1 h1 => sema_step P1 h1 fun xs s2 vs G2 H2 g2 P2 r2 h2 => ?_
  exact h2 (v :: vs) G2 H2 (g1.trans g2) P2.dk (.cons (r1.mono g2.gg) r2)
theorem rd_tup {ps : List PX} (h : SEM R E (.tup ps) σ H Q) : tTup (SEMA R E ps) σ H Q := by
  obtain ⟨k, G, ρ, s, P, h⟩ := h
  simp only [ev] at h
  refine sema_step P h fun xs s1 vs G1 H1 g1 P1 r1 h1 => ?_
  split at h1
  · rename_i hz
    refine ⟨by rw [r1.length]; exact hz, fun p hp => ?_⟩
    exact ((Want.back g1 h1).ends P1.dk).tup P1.sub P1.dk r1 hp
  · exact h1.elim
theorem rd_lst {ps : List PX} (h : SEM R E (.lst ps) σ H Q) : tLst (SEMA R E ps) σ H Q := by
  obtain ⟨k, G, ρ, s, P, h⟩ := h
  simp only [ev] at h
  refine sema_step P h fun xs s1 vs G1 H1 g1 P1 r1 h1 => ?_
  split at h1
  · rename_i hz
    refine ⟨by rw [r1.length]; exact hz, fun p hp => ?_⟩
    exact ((Want.back g1 h1).ends P1.dk).lst rfl P1.sub P1.dk r1 hp
  · exact h1.elim
end
end CH

set_option Elab.async false
set_option linter.all false
set_option maxRecDepth 100000
set_option maxHeartbeats 4000000
/-! enumerate over a tuple -/
namespace CH
variable {Z : St0}
open PySem L2 PyProof.Rows
open AutoSeq1 (wpAny_loadPart')
theorem newEnumT (l : Addr) (items : Array Value) (n : Nat) (dct : Option Addr) (sl : Array (Option Value)) :
    Meets (Builtin.«enumerate.__new__» ⟨[.type "enumerate", .ref l], []⟩) (fun _ R s => s.heap.get? l = some { cls := .type "tuple", dict := dct, data := .seq items n, slots := sl } ∧
      R (.ok (.ret (.ref (s.heap.push { cls := .type "tuple_iterator", data := .fields #[.ref l, .int 0 0] }).objs.size)))
        { s with heap := (s.heap.push { cls := .type "tuple_iterator", data := .fields #[.ref l, .int 0 0] }).push { cls := .type "enumerate", data := .fields #[.none, .bool false, .ref s.heap.objs.size, rawInt 0, .none, .none] } }) :=
  .of_wp fun prog w A R s h => by
    obtain ⟨hp, g, d, tk, os⟩ := s
    obtain ⟨hl, h⟩ := h
    have hsub := sub_enumerate
    have hT : Heap.IsTuple (Shared.heap ⟨hp, g, d, tk, os⟩) l items := ⟨_, hl, rfl, n, rfl⟩
    wp_walk using wpAny_loadPart' hl
    refine wpAny_stack_any fun st => wpAny_pure ?_
    split
    · rename_i c _ _ _ _ _
      cases (c == Value.type "enumerate")
      · wp_walk using wpAny_loadPart' hl, wpAny_pyIter_tuple hT
        exact ⟨_, rfl, h⟩
      · wp_walk using wpAny_loadPart' hl, wpAny_pyIter_tuple hT
        exact ⟨_, rfl, h⟩
    · wp_walk using wpAny_loadPart' hl, wpAny_pyIter_tuple hT
      exact ⟨_, rfl, h⟩
section
variable {prog : Program} {w : World} {A : Around} {E : Value → Shared → Prop} {s : Shared}
theorem call_enumT {l : Addr} {items : Array Value} {Q : Value → Shared → Prop} (hL : IsTup s.heap l items)
    (h : ∀ h', IsEnum h' (s.heap.objs.size + 1) s.heap.objs.size 0 .none → h'.IsTupleIter s.heap.objs.size l 0 → h'.objs.size = s.heap.objs.size + 2 →
      (∀ b o, s.heap.get? b = some o → h'.get? b = some o) → Q (.ref (s.heap.objs.size + 1)) { s with heap := h' }) :
    wpAny (model prog w) A (call (.type "enumerate") [.ref l]) Q E s := by
  obtain ⟨⟨c, dct, dt, sl⟩, hl, hc, n, hd⟩ := hL
  replace hc : c = .type "tuple" := hc
  replace hd : dt = .seq items n := hd
  subst hc hd
  refine callType_new F.called_enumerate (by decide) (F.typeCall_enumerate_1 _) (F.newCall_enumerate_1 _) (fun obj => F.args_object_init_2 obj _) F.entry_enumerate_new
    (newEnumT l items n dct sl) ⟨hl, ?_⟩
  have hz : (s.heap.push { cls := .type "tuple_iterator", data := .fields #[.ref l, .int 0 0] }).objs.size = s.heap.objs.size + 1 := Heap.size_push ..
  show _ ∧ _
  rw [hz]
  have he : IsEnum ((s.heap.push { cls := .type "tuple_iterator", data := .fields #[.ref l, .int 0 0] }).push
      { cls := .type "enumerate", data := .fields #[.none, .bool false, .ref s.heap.objs.size, rawInt 0, .none, .none] }) (s.heap.objs.size + 1) s.heap.objs.size 0 .none := by
    have := Heap.get?_push_size (s.heap.push { cls := .type "tuple_iterator", data := .fields #[.ref l, .int 0 0] })
      (o := { cls := .type "enumerate", data := .fields #[.none, .bool false, .ref s.heap.objs.size, rawInt 0, .none, .none] }) rfl
    rw [hz] at this
    exact this
  exact ⟨⟨_, he, rfl⟩, h _ he ⟨_, Heap.get?_push_of_some _ (Heap.get?_push_size _ rfl), rfl, rfl⟩ (by rw [Heap.size_push, hz]) fun b o x => Heap.get?_push_of_some _ (Heap.get?_push_of_some _ x)⟩
end
/-- the tuple at a as it stands at each turn, each item in a new pair -/
def IteT (K : PySem.W.Frag) (a : Addr) : It where
  go := fun i H => ∃ (xs : List V) (x : V), SqT K H a xs ∧ xs[i]? = some x
  yld := fun i H v H' => ∃ T x, v = .ref T ∧ H T = none ∧ H' = upd H T (.tup [.int (i : Nat), x]) ∧ ∀ xs, SqT K H a xs → xs[i]? = some x
  stop := fun i H => ∃ xs : List V, SqT K H a xs ∧ xs.length ≤ i
theorem turn_enumT {P : Program} {w : World} {K : PySem.W.Frag} {elts : List Expr} {kk : Nat} {tpos : Pos} (a e it : Addr) :
    Turn P w K (.Tuple elts kk tpos) (IteT K a) [e, it] e (fun i h => (∃ old, IsEnum h e it ((i : Nat) : Int) old) ∧ h.IsTupleIter it a i ∧ e ≠ it) where
  mem := by simp
  obj := fun i h st b hb => by
    obtain ⟨⟨old, he⟩, ⟨o, ho, hc, hd⟩, _⟩ := st
    rcases (show b = e ∨ b = it by simpa using hb) with z | z
    · rw [z]; exact ⟨_, he, fun v q => nomatch q⟩
    · rw [z]; exact ⟨o, ho, fun v q => by rw [hd] at q; cases q⟩
  keep := fun i h h' st k => let ⟨⟨old, he⟩, hi, hne⟩ := st; ⟨⟨old, k e (by simp) _ he⟩, hi.at fun o q => k it (by simp) o q, hne⟩
  item := by
    intro X hP hw hK hc i pins s σ H E I hf st hg
    subst hP hw hK
    obtain ⟨⟨old, he⟩, hit, hne⟩ := st
    obtain ⟨xs, x, hq, hx⟩ := hg
    obtain ⟨its, rv, p, hz⟩ := I.tuple hq
    obtain ⟨u, hu, ru⟩ := rv.get hx
    have hel : e < s.heap.objs.size := Heap.lt_size he
    have hil : it < s.heap.objs.size := by obtain ⟨_, q, _⟩ := id hit; exact Heap.lt_size q
    have hai : a ≠ it := fun z => by
      obtain ⟨o1, q1, c1, _⟩ := p
      obtain ⟨o2, q2, c2, _⟩ := id hit
      rw [z] at q1
      rw [q1] at q2
      cases q2
      rw [c1] at c2
      exact absurd (Value.type.inj c2) (by decide)
    have hae : a ≠ e := fun z => by
      obtain ⟨o1, q1, c1, _⟩ := p
      rw [z] at q1
      rw [show s.heap.get? e = _ from he] at q1
      cases q1
      exact absurd (Value.type.inj c1) (by decide)
    have Dr := Draws.tuple (prog := X.prog) (w := X.w) (A := X.A.in1) (I.ok.hd hc) it a hai its.toArray
    refine wpAny_pyNext_enum_itemD (n := its.toArray.size) Dr he ⟨hit, p⟩ ?_ hne (by simp [Ne.symm hae, hne]) fun v h' tk hv ho hst' hT hsz hk => ?_
    · have := (List.getElem?_eq_some_iff.mp hu).1
      simpa using this
    · have ev : v = u := by
        have hv' : its.toArray[i]? = some v := hv
        have : its[i]? = some v := by simpa using hv'
        rw [hu] at this
        exact (Option.some.inj this).symm
      subst ev
      refine ⟨_, rfl, wpAny_letOwnedTupleGo_enum (s := { s with heap := h', toks := tk + 1 }) ho fun h'' he' sb => ?_⟩
      have hT2 : h''.get? s.heap.objs.size = some { cls := .type "tuple", data := .seq #[.int i tk, v] } := (sb.2 _ (Nat.ne_of_gt hel)).trans hT
      have new : ObjOk X.prog X.w (upd H s.heap.objs.size (.tup [.int (i : Nat), x])) h'' s.heap.objs.size (.tup [.int (i : Nat), x]) :=
        ⟨by show 2 ≤ sizeLine; decide, [.int i tk, v], .cons ⟨_, rfl⟩ (.cons ru .nil), ⟨_, hT2, rfl, _, rfl⟩⟩
      have I1 : Inv X pins σ (upd H s.heap.objs.size (.tup [.int (i : Nat), x])) { s with heap := h'', toks := tk + 1 } :=
        I.turnedNew (ch := [e, it]) (fun b ob hb q => (sb.2 b (fun z => hb (by simp [z]))).trans (hk b ob (fun z => hb (by simp [z])) (fun z => hb (by simp [z])) q)) hf (Nat.le_refl _) new
      refine ⟨.ref s.heap.objs.size, _, I1, rfl, ⟨_, x, rfl, I.hok.fresh (Nat.le_refl _), rfl, fun ys hy => by rw [I.tuple_inj hy hq]; exact hx⟩, ⟨⟨v, ?_⟩, hst'.1.at fun o q => (sb.2 it (Ne.symm hne)).trans q, hne⟩, fun b hb => ?_⟩
      · have e1 : ((i + 1 : Nat) : Int) = (i : Int) + 1 := by omega
        rw [e1]
        exact he'
      · have hb' : b < s.heap.objs.size := by
          rcases (show b = e ∨ b = it by simpa using hb) with z | z
          · rw [z]; exact hel
          · rw [z]; exact hil
        rw [upd_ne (Nat.ne_of_lt hb')]
        exact (hf b hb).1
  done := by
    intro X hP hw hK hc i pins s σ H E I hf st hg
    subst hP hw hK
    obtain ⟨⟨old, he⟩, hit, hne⟩ := st
    obtain ⟨xs, hq, hx⟩ := hg
    obtain ⟨its, rv, p, hz⟩ := I.tuple hq
    obtain ⟨f0, f1, f2, f3, f4, f5⟩ := hf it (by simp)
    have hl := rv.length
    have hai : a ≠ it := fun z => by
      obtain ⟨o1, q1, c1, _⟩ := p
      obtain ⟨o2, q2, c2, _⟩ := id hit
      rw [z] at q1
      rw [q1] at q2
      cases q2
      rw [c1] at c2
      exact absurd (Value.type.inj c2) (by decide)
    have hT : s.TypeIs (.ref e) "enumerate" := ⟨_, he, rfl⟩
    unfold pyNext
    refine wpAny_bind (wpAny_attempt (wpAny_callSpecial?_slot (name := Str.ofString "__next__") hT F.slot_enumerate_next
      (wpAny_call_entry F.slot_enumerate_next hT F.entry_enumerate_next ?_ (F.args_enumerate_next_1 _))))
    show wpAny _ _ (field (.ref e) 2 >>= _) _ _ _
    refine wpAny_bind (wpAny_field he rfl (x := .ref it) rfl ?_)
    refine wpAny_bind (wpAny_nextOf_tuple_end (A := X.A.in1) (I.ok.hd hc) hit p (by simp; omega) fun h' y eb hy => ?_)
    obtain ⟨o, ho, hcl⟩ := hy
    refine wpAny_bind (wpAny_isInstance (T := "StopIteration") (b := true) ⟨o, ho, hcl⟩ isSubtype_stop ?_)
    exact wpAny_pure ⟨rfl, I.turned (t' := s.toks) (fun b o hb q => eb b o hb q) f0 f1 f3 f4 f5⟩
  self := fun A i s Q E st h => let ⟨⟨_, he⟩, _⟩ := st; wpAny_pyIter_enum he h
end CH

set_option Elab.async false
set_option linter.all false
set_option maxRecDepth 100000
set_option maxHeartbeats 4000000
/-! what loops and comprehensions walk -/
namespace CH
variable {Z : St0}
open PySem L2 PyProof.Rows
section
variable {X : Cx} {tg : Expr}
def iSeqA (K : PySem.W.Frag) (tl : TE) : TI := fun σ H R => tl σ H fun x H1 => ∃ a, x = .ref a ∧ ((∃ xs, SqL K H1 a xs ∧ R (Itl K a) H1) ∨ (∃ xs, SqT K H1 a xs ∧ R (Itt K a) H1))
theorem pi_seqA {l : Expr} {tl : TE} (hl : PE X l tl) : PI X tg l (iSeqA X.K tl) := by
  refine ⟨fun pins s σ H R I h => ?_⟩
  refine thn (hl.run pins s σ H _ I h) fun v s1 ⟨x, H1, I1, r1, q1⟩ => ?_
  obtain ⟨a, e, q⟩ := q1
  subst e
  cases r1
  have fp : ∀ b ∈ [s1.heap.objs.size], FpOk X pins H1 b := fun b hb => by
    have e : b = s1.heap.objs.size := by simpa using hb
    subst e
    exact I1.fpOk (Nat.le_refl _) (I1.hok.fresh (Nat.le_refl _))
  rcases q with ⟨xs, hq, q⟩ | ⟨xs, hq, q⟩
  · obtain ⟨its, rv, p, hz⟩ := I1.list hq
    exact wpAny_pyIter_list p.isList ⟨s1.heap.objs.size, [s1.heap.objs.size], _, _, H1, rfl, I1.kept (t' := s1.toks) fun b o e => Heap.get?_push_of_some _ e, turn_list a _, ⟨_, Heap.get?_push_size _ rfl, rfl, rfl⟩, fp, q⟩
  · obtain ⟨its, rv, p, hz⟩ := I1.tuple hq
    exact wpAny_pyIter_tuple (show s1.heap.IsTuple a its.toArray from p) ⟨s1.heap.objs.size, [s1.heap.objs.size], _, _, H1, rfl, I1.kept (t' := s1.toks) fun b o e => Heap.get?_push_of_some _ e, turn_tuple a _, ⟨_, Heap.get?_push_size _ rfl, rfl, rfl⟩, fp, q⟩
/-! ### zip of any two of lists and tuples -/
/-- a tuple (true) or a list in the heap; what its iterator is; what is tracked -/
def IsS (k : Bool) (h : Heap) (a : Addr) (vs : Array Value) : Prop := match k with
  | true => h.IsTuple a vs
  | false => h.IsList a vs
def ItS (k : Bool) (h : Heap) (it a : Addr) (i : Nat) : Prop := match k with
  | true => h.IsTupleIter it a i
  | false => h.IsListIter it a i
def SqS (k : Bool) (K : PySem.W.Frag) (H : Hp) (a : Addr) (xs : List V) : Prop := match k with
  | true => SqT K H a xs
  | false => SqL K H a xs
theorem drawsS {P : Program} {w : World} {A : Around} (hh : A.handled = none) (k : Bool) {it a : Addr} (ne : a ≠ it) (vs : Array Value) : Draws P w A it [it, a] vs.size (fun i v => vs[i]? = some v) (fun i h => ItS k h it a i ∧ IsS k h a vs) := by
  cases k
  · exact .list hh it a ne vs
  · exact .tuple hh it a ne vs
theorem itS_obj {k : Bool} {h : Heap} {it a : Addr} {i : Nat} (q : ItS k h it a i) : ∃ o, h.get? it = some o ∧ ∀ v, o.data ≠ .cell v := by
  cases k <;> obtain ⟨o, e, _, d⟩ := q <;> exact ⟨o, e, fun v z => by rw [d] at z; cases z⟩
theorem itS_at {k : Bool} {h h' : Heap} {it a : Addr} {i : Nat} (q : ItS k h it a i) (c : ∀ o, h.get? it = some o → h'.get? it = some o) : ItS k h' it a i := by
  cases k
  · exact Heap.IsListIter.at q c
  · exact Heap.IsTupleIter.at q c
theorem isS_at {k : Bool} {h h' : Heap} {a : Addr} {vs : Array Value} (q : IsS k h a vs) (c : ∀ o, h.get? a = some o → h'.get? a = some o) : IsS k h' a vs := by
  cases k
  · exact Heap.IsList.at q c
  · exact Heap.IsTuple.at q c
/-- what is drawn once there is no more -/
theorem drawsE {P : Program} {w : World} {A : Around} (hh : A.handled = none) (k : Bool) {it a : Addr} {vs : Array Value} {i : Nat} (e : vs.size ≤ i) : Draws P w A it [it, a] i (fun _ _ => True) (fun j h => j = i ∧ ItS k h it a i ∧ IsS k h a vs) where
  live := fun _ _ q => (itS_obj q.2.1).imp fun _ z => z.1
  frame := fun _ _ _ q c => ⟨q.1, itS_at q.2.1 (c it (by simp)), isS_at q.2.2 (c a (by simp))⟩
  item := fun j _ _ _ lt q => absurd q.1 (Nat.ne_of_lt lt)
  done := fun s Q E q h => by
    cases k
    · exact wpAny_nextOf_list_end hh q.2.1 q.2.2 (by simp; omega) h
    · exact wpAny_nextOf_tuple_end hh q.2.1 q.2.2 (by simp; omega) h
theorem drawsA {P : Program} {w : World} {A : Around} (hh : A.handled = none) (k : Bool) {it a : Addr} (ne : a ≠ it) (vs : Array Value) (i : Nat) : ∃ (n : Nat) (Q : Nat → Value → Prop) (St : Nat → Heap → Prop), Draws P w A it [it, a] n Q St ∧ (∀ h, ItS k h it a i → IsS k h a vs → St i h) ∧ i ≤ n ∧ (vs.size ≤ i → i = n) := by
  by_cases e : vs.size ≤ i
  · exact ⟨i, _, _, drawsE hh k e, fun h q q' => ⟨rfl, q, q'⟩, Nat.le_refl _, fun _ => rfl⟩
  · exact ⟨vs.size, _, _, drawsS hh k ne vs, fun h q q' => ⟨q, q'⟩, by omega, fun z => absurd z e⟩
section
variable {pins : List (Addr × Obj)} {s : Shared} {σ : L2.St} {H : Hp}
theorem sqS_heap {k : Bool} {a : Addr} {xs : List V} (I : Inv X pins σ H s) (q : SqS k X.K H a xs) : ∃ vs : List Value, Vals xs vs ∧ IsS k s.heap a vs.toArray ∧ a < s.heap.objs.size := by
  cases k
  · obtain ⟨vs, r, p, _⟩ := I.list q
    exact ⟨vs, r, p.isList, p.lt⟩
  · obtain ⟨vs, r, p, _⟩ := I.tuple q
    obtain ⟨o, ho, _⟩ := id p
    exact ⟨vs, r, p, Heap.lt_size ho⟩
theorem sqS_inj {k : Bool} {a : Addr} {xs ys : List V} (I : Inv X pins σ H s) (q : SqS k X.K H a xs) (q' : SqS k X.K H a ys) : xs = ys := by
  cases k
  · exact I.list_inj q q'
  · exact I.tuple_inj q q'
end
def Ity (k1 k2 : Bool) (K : PySem.W.Frag) (a b : Addr) : It :=
  ⟨fun i H => ∃ (xs ys : List V) (x y : V), (SqS k1 K H a xs ∧ xs[i]? = some x) ∧ SqS k2 K H b ys ∧ ys[i]? = some y,
    fun i H v H' => ∃ T x y, (v = .ref T ∧ H T = none ∧ H' = upd H T (.tup [x, y])) ∧ (∀ xs, SqS k1 K H a xs → xs[i]? = some x) ∧ ∀ ys, SqS k2 K H b ys → ys[i]? = some y,
    fun i H => ∃ xs ys : List V, (SqS k1 K H a xs ∧ SqS k2 K H b ys) ∧ min xs.length ys.length ≤ i⟩
/-- the state of a zip: its five cells -/
structure ZipSt (k1 k2 : Bool) (z TI TO i1 i2 a b : Addr) (i : Nat) (h : Heap) : Prop where
  zip : IsZip h z TI TO .none
  its : IsPair h TI (.ref i1) (.ref i2)
  old : ∃ x y, IsPair h TO x y
  fst : ItS k1 h i1 a i
  snd : ItS k2 h i2 b i
theorem ZipSt.cell {k1 k2 : Bool} {z TI TO i1 i2 a b : Addr} {i : Nat} {h : Heap} (S : ZipSt k1 k2 z TI TO i1 i2 a b i h) {c : Addr} (m : c ∈ [z, TI, TO, i1, i2]) : ∃ o, h.get? c = some o ∧ ∀ v, o.data ≠ .cell v := by
  simp only [List.mem_cons, List.mem_nil_iff, or_false] at m
  rcases m with e | e | e | e | e <;> subst e
  · exact ⟨_, S.zip, fun _ q => nomatch q⟩
  · exact ⟨_, S.its, fun _ q => nomatch q⟩
  · obtain ⟨_, _, o⟩ := S.old
    exact ⟨_, o, fun _ q => nomatch q⟩
  · exact itS_obj S.fst
  · exact itS_obj S.snd
theorem turnS {P : Program} {w : World} {K : PySem.W.Frag} {elts : List Expr} {kk : Nat} {tp : Pos} {k1 k2 : Bool} {a b z TI TO i1 i2 : Addr} (D : ZipApart z TI TO i1 i2 a b) :
    Turn P w K (.Tuple elts kk tp) (Ity k1 k2 K a b) [z, TI, TO, i1, i2] z (ZipSt k1 k2 z TI TO i1 i2 a b) where
  mem := List.mem_cons_self
  obj := fun _ _ S _ m => S.cell m
  keep := fun i h h' S c => ⟨c z (by simp) _ S.zip, c TI (by simp) _ S.its, S.old.imp fun x q => q.imp fun y q => c TO (by simp) _ q, itS_at S.fst (c i1 (by simp)), itS_at S.snd (c i2 (by simp))⟩
  item := by
    rintro X rfl rfl rfl calm i pins s σ H E I free S ⟨xs, ys, x, y, ⟨qa, ex⟩, qb, ey⟩
    obtain ⟨us, ru, pa, _⟩ := sqS_heap I qa
    obtain ⟨ws, rw, pb, _⟩ := sqS_heap I qb
    obtain ⟨u, eu, ru⟩ := ru.get ex
    obtain ⟨v, ev, rv⟩ := rw.get ey
    have hd := I.ok.hd calm
    have Z : ZipSep2 z TI TO i1 i2 [i1, a] [i2, b] := ⟨D.TIz, D.TOz, D.TITO, D.TIi1, List.mem_cons_self, by simp [D.i1z.symm, D.l1z.symm], by simp [D.TOi1, D.l1TO.symm], D.TIi2, List.mem_cons_self, by simp [D.i2z.symm, D.l2z.symm], by simp [D.TOi2, D.l2TO.symm], by simp [D.i12, D.l2i1.symm], by simp [D.i12.symm, D.l1i2.symm]⟩
    obtain ⟨o1, o2, old⟩ := S.old
    have lz : z < s.heap.objs.size := Heap.lt_size S.zip
    have n1 : i < us.toArray.size := by simpa using (List.getElem?_eq_some_iff.mp eu).1
    have n2 : i < ws.toArray.size := by simpa using (List.getElem?_eq_some_iff.mp ev).1
    refine wpAny_pyNext_zipD2_item Z (drawsS (show X.A.in1.handled = none from hd) k1 D.l1i1 us.toArray) (drawsS (show X.A.in1.handled = none from hd) k2 D.l2i2 ws.toArray) S.zip S.its old ⟨S.fst, pa⟩ ⟨S.snd, pb⟩ n1 n2 fun u' v' g t eu' ev' gz gO g1 g2 gT _ gk => ?_
    have : u' = u := by
      have := eu'
      simp only [List.getElem?_toArray] at this
      rw [eu] at this
      exact (Option.some.inj this).symm
    subst this
    have : v' = v := by
      have := ev'
      simp only [List.getElem?_toArray] at this
      rw [ev] at this
      exact (Option.some.inj this).symm
    subst this
    refine ⟨_, rfl, wpAny_letOwnedTupleGo_zip (s := { s with heap := g, toks := t }) gz fun f fz fk => ?_⟩
    have fk : ∀ c : Addr, c ≠ z → f.get? c = g.get? c := fk.2
    have lay : ObjOk X.prog X.w (upd H s.heap.objs.size (.tup [x, y])) f s.heap.objs.size (.tup [x, y]) := ⟨by show 2 ≤ sizeLine; decide, [u', v'], .cons ru (.cons rv .nil), _, (fk _ (Nat.ne_of_gt lz)).trans gT, rfl, _, rfl⟩
    have I' : Inv X pins σ (upd H s.heap.objs.size (.tup [x, y])) { s with heap := f, toks := t } := I.turnedNew (ch := [z, TI, TO, i1, i2]) (fun c o m q => by
      have m : ¬(c = z ∨ c = TI ∨ c = TO ∨ c = i1 ∨ c = i2) := by simpa using m
      exact (fk c fun e => m (.inl e)).trans (gk c o (fun e => m (.inl e)) (fun e => m (.inr (.inr (.inl e)))) (fun e => m (.inr (.inr (.inr (.inl e))))) (fun e => m (.inr (.inr (.inr (.inr e))))) q)) free (Nat.le_refl _) lay
    refine ⟨.ref s.heap.objs.size, _, I', rfl, ⟨_, x, y, ⟨rfl, I.hok.fresh (Nat.le_refl _), rfl⟩, fun l hl => by rw [sqS_inj I hl qa, ex], fun l hl => by rw [sqS_inj I hl qb, ey]⟩, ⟨fz, (fk _ D.TIz).trans (gk _ _ D.TIz D.TITO D.TIi1 D.TIi2 S.its), ⟨u', v', (fk _ D.TOz).trans gO⟩, itS_at g1.1 fun o q => (fk _ D.i1z).trans q, itS_at g2.1 fun o q => (fk _ D.i2z).trans q⟩, fun c m => ?_⟩
    obtain ⟨o, co, _⟩ := S.cell m
    rw [upd_ne (Nat.ne_of_lt (Heap.lt_size co))]
    exact (free c m).1
  done := by
    rintro X rfl rfl rfl calm i pins s σ H E I free S ⟨xs, ys, ⟨qa, qb⟩, le⟩
    obtain ⟨us, ru, pa, _⟩ := sqS_heap I qa
    obtain ⟨ws, rw, pb, _⟩ := sqS_heap I qb
    have hd := I.ok.hd calm
    have Z : ZipSep2 z TI TO i1 i2 [i1, a] [i2, b] := ⟨D.TIz, D.TOz, D.TITO, D.TIi1, List.mem_cons_self, by simp [D.i1z.symm, D.l1z.symm], by simp [D.TOi1, D.l1TO.symm], D.TIi2, List.mem_cons_self, by simp [D.i2z.symm, D.l2z.symm], by simp [D.TOi2, D.l2TO.symm], by simp [D.i12, D.l2i1.symm], by simp [D.i12.symm, D.l1i2.symm]⟩
    obtain ⟨o1, o2, old⟩ := S.old
    obtain ⟨n1, Q1, St1, D1, s1, l1, e1⟩ := drawsA (P := X.prog) (w := X.w) (show X.A.in1.handled = none from hd) k1 D.l1i1 us.toArray i
    obtain ⟨n2, Q2, St2, D2, s2, l2, e2⟩ := drawsA (P := X.prog) (w := X.w) (show X.A.in1.handled = none from hd) k2 D.l2i2 ws.toArray i
    have r1 := ru.length
    have r2 := rw.length
    refine wpAny_pyNext_zipD2_end Z D1 D2 S.zip S.its old (s1 _ S.fst pa) (s2 _ S.snd pb) l1 l2 ?_ fun g t gk => ⟨rfl, I.turnedL (ch := [z, TI, TO, i1, i2]) (fun c o m q => ?_) free⟩
    · rcases Nat.le_total xs.length ys.length with q | q
      · exact .inl (e1 (by simp; omega))
      · exact .inr (e2 (by simp; omega))
    · have m : ¬(c = z ∨ c = TI ∨ c = TO ∨ c = i1 ∨ c = i2) := by simpa using m
      exact gk c o (fun e => m (.inl e)) (fun e => m (.inr (.inr (.inl e)))) (fun e => m (.inr (.inr (.inr (.inl e))))) (fun e => m (.inr (.inr (.inr (.inr e))))) q
  self := fun A i s Q E S h => wpAny_pyIter_zip S.zip h

def iZipS (K : PySem.W.Frag) (ta : TA) : TI := fun σ H R => ta σ H fun vs H1 => ∃ k1 k2 a b xs ys, vs = [.ref a, .ref b] ∧ (SqS k1 K H1 a xs ∧ SqS k2 K H1 b ys) ∧ R (Ity k1 k2 K a b) H1
theorem beginsS (k : Bool) (a : Addr) (vs : Array Value) : ∃ o : Obj, Begins (.ref a) o (fun h => IsS k h a vs) ∧ ∀ (h : Heap) (it : Addr), h.get? it = some o → ItS k h it a 0 := by
  cases k
  · exact ⟨_, begins_list a vs, fun h it e => ⟨_, e, rfl, rfl⟩⟩
  · exact ⟨_, begins_tuple a vs, fun h it e => ⟨_, e, rfl, rfl⟩⟩
theorem pi_zipS {e e2 : Expr} {ta : TA} {p pos tp : Pos} {elts : List Expr} {kk : Nat} (hg : Gl X "zip") (hm : X.mg "zip" = none) (ha : PA X [e, e2] ta)
    (hs : starEach [e, e2] X.env = (false, eval e X.env) :: starEach [e2] X.env) (hpl : (backTo pos (starEach [e2] X.env)).any (·.1) = false) :
    PI X (.Tuple elts kk tp) (.Call (.Name "zip" p) [e, e2] [] pos) (iZipS X.K ta) where
  run := fun pins s σ H R I h => Call_ (ld_blt I hg hm PyProof.Rows.boot_zip (PyProof.Rows.callWith_type1 (thn (ha.run pos pins s σ H _ I h) fun us s1 ⟨vs, H1, I1, r1, k1, k2, a, b, xs, ys, ex, ⟨qa, qb⟩, q⟩ => by
    subst ex
    rcases r1 with _ | ⟨r, _ | ⟨r', rr⟩⟩
    cases rr
    cases r
    cases r'
    obtain ⟨va, _, pa, la⟩ := sqS_heap I1 qa
    obtain ⟨vb, _, pb, lb⟩ := sqS_heap I1 qb
    obtain ⟨o1, B1, t1⟩ := beginsS k1 a va.toArray
    obtain ⟨o2, B2, t2⟩ := beginsS k2 b vb.toArray
    refine zip_begins2 B1 B2 pa pb fun g gz gi go g1 g2 _ gk => wpAny_pyIter_zip gz ⟨_, _, _, _, H1, rfl, I1.kept (t' := s1.toks) gk, turnS (k1 := k1) (k2 := k2) (PySem.W.ktu_apart s1.heap.objs.size a b la lb), ⟨gz, gi, ⟨_, _, go⟩, t1 _ _ g1, t2 _ _ g2⟩, fun c m => ?_, q⟩
    have le : s1.heap.objs.size ≤ c := by
      simp only [List.mem_cons, List.mem_nil_iff, or_false] at m
      rcases m with e | e | e | e | e <;> rw [e] <;> first | exact Nat.le_refl _ | exact Nat.le_add_right _ _
    exact I1.fpOk le (I1.hok.fresh le)) hs hpl))
def iEnumA (K : PySem.W.Frag) (ta : TA) : TI := fun σ H R => ta σ H fun vs H1 => ∃ a, vs = [.ref a] ∧ ((∃ xs, SqL K H1 a xs ∧ R (Ite K a) H1) ∨ (∃ xs, SqT K H1 a xs ∧ R (IteT K a) H1))
theorem pi_enumA {e : Expr} {ta : TA} {p pos tpos : Pos} {elts : List Expr} {kk : Nat} (hg : Gl X "enumerate") (hm : X.mg "enumerate" = none) (ha : PA X [e] ta) (hs : starEach [e] X.env = [(false, eval e X.env)] := by rfl) :
    PI X (.Tuple elts kk tpos) (.Call (.Name "enumerate" p) [e] [] pos) (iEnumA X.K ta) := by
  refine ⟨fun pins s σ H R I h => ?_⟩
  refine Call_ (ld_blt I hg hm boot_enumerate (PyProof.Rows.callWith_type1 (thn (ha.run pos pins s σ H _ I h) fun us s1 ⟨vs, H1, I1, r1, q1⟩ => ?_) hs rfl))
  obtain ⟨a, ex, q⟩ := q1
  subst ex
  rw [Vals.ref1 r1]
  have fp : ∀ b ∈ [s1.heap.objs.size + 1, s1.heap.objs.size], FpOk X pins H1 b := fun b hb => by
    have e' : b = s1.heap.objs.size + 1 ∨ b = s1.heap.objs.size := by simpa using hb
    have hle : s1.heap.objs.size ≤ b := by
      rcases e' with z | z
      · rw [z]; exact Nat.le_add_right _ _
      · rw [z]; exact Nat.le_refl _
    exact I1.fpOk hle (I1.hok.fresh hle)
  rcases q with ⟨xs, hq, q⟩ | ⟨xs, hq, q⟩
  · obtain ⟨its, rv, p', hz⟩ := I1.list hq
    refine call_enumerate_list p'.isList fun h' he hit hsz hk => wpAny_pyIter_enum he ?_
    exact ⟨s1.heap.objs.size + 1, [s1.heap.objs.size + 1, s1.heap.objs.size], _, _, H1, rfl, I1.kept (t' := s1.toks) hk, turn_enum a (s1.heap.objs.size + 1) s1.heap.objs.size, ⟨⟨.none, he⟩, hit, Nat.succ_ne_self _⟩, fp, q⟩
  · obtain ⟨its, rv, p', hz⟩ := I1.tuple hq
    refine call_enumT p' fun h' he hit hsz hk => wpAny_pyIter_enum he ?_
    exact ⟨s1.heap.objs.size + 1, [s1.heap.objs.size + 1, s1.heap.objs.size], _, _, H1, rfl, I1.kept (t' := s1.toks) hk, turn_enumT a (s1.heap.objs.size + 1) s1.heap.objs.size, ⟨⟨.none, he⟩, hit, Nat.succ_ne_self _⟩, fp, q⟩
theorem _root_.L2.PI.wk {iter : Expr} {wi wi' : TI} (h : PI X tg iter wi) (q : ∀ σ H R, wi' σ H R → wi σ H R) : PI X tg iter wi' := ⟨fun pins s σ H R I z => h.run pins s σ H R I (q _ _ _ z)⟩
theorem _root_.L2.PE.wk {e : Expr} {t t' : TE} (h : PE X e t) (q : ∀ σ H Q, t' σ H Q → t σ H Q) : PE X e t' := ⟨fun pins s σ H Q I z => h.run pins s σ H Q I (q _ _ _ z)⟩
theorem _root_.L2.PT.wk {e : Expr} {t t' : TT} (h : PT X e t) (q : ∀ σ H Q, t' σ H Q → t σ H Q) : PT X e t' := ⟨fun pins s σ H Q I z => h.run pins s σ H Q I (q _ _ _ z)⟩
theorem _root_.L2.PW.wk {e : Expr} {t t' : TT} (h : PW X e t) (q : ∀ σ H Q, t' σ H Q → t σ H Q) : PW X e t' := ⟨fun wh pins s σ H Q I z => h.run wh pins s σ H Q I (q _ _ _ z)⟩
theorem _root_.L2.PA.wk {e : List Expr} {t t' : TA} (h : PA X e t) (q : ∀ σ H Q, t' σ H Q → t σ H Q) : PA X e t' := ⟨fun pos pins s σ H Q I z => h.run pos pins s σ H Q I (q _ _ _ z)⟩
theorem _root_.L2.PS.wk {e : Stmt} {t t' : TS} (h : PS X e t) (q : ∀ D σ H, t' D σ H → t D σ H) : PS X e t' := ⟨fun pins s σ H D I z => h.run pins s σ H D I (q _ _ _ z)⟩
theorem _root_.L2.PSs.wk {e : List Stmt} {t t' : TS} (h : PSs X e t) (q : ∀ D σ H, t' D σ H → t D σ H) : PSs X e t' := ⟨fun pins s σ H D I z => h.run pins s σ H D I (q _ _ _ z)⟩
theorem _root_.L2.PTs.wk {e : List Expr} {t t' : TT} (h : PTs X e t) (q : ∀ σ H Q, t' σ H Q → t σ H Q) : PTs X e t' := ⟨fun pins s σ H Q I z => h.run pins s σ H Q I (q _ _ _ z)⟩
end
/-- the iterator gives these data, one after another, whatever is made meanwhile -/
def Yields (k : KA Z) (G1 : Hp) (J : It) (xs : List D) : Prop := ∀ (i : Nat) (G2 H2 : Hp), Same G1 G2 → SameT Z G2 H2 → H2 k ≠ none →
  (i < xs.length → J.go i H2 ∧ ∀ x H', J.yld i H2 x H' → ∃ G' d, Grow k G2 H2 G' H' ∧ H' k = H2 k ∧ xs[i]? = some d ∧ Rep k G' x d) ∧ (xs.length ≤ i → J.stop i H2)
section
variable {k : KA Z} {G : Hp} {K : PySem.W.Frag} {a b : Addr}
theorem yields_list {vs : List V} {ds : List D} (h : G a = some (.lst vs)) (r : Reps k G vs ds) : Yields k G (Itl K a) ds := fun i G2 H2 g1 g2 nk => by
  have hS : SqL K H2 a vs := .of (g2 _ _ (g1 _ _ h))
  refine ⟨fun hi => ?_, fun hi => ⟨vs, hS, by rw [r.length]; exact hi⟩⟩
  have e1 : ds[i]? = some ds[i] := List.getElem?_eq_getElem hi
  obtain ⟨v, e2, rv⟩ := r.get.1 _ e1
  refine ⟨⟨vs, v, hS, e2⟩, fun x H' ⟨e, y⟩ => ?_⟩
  subst e
  have := (y vs hS).symm.trans e2
  cases this
  exact ⟨G2, _, .refl g2, rfl, e1, rv.mono g1⟩
theorem yields_tup {vs : List V} {ds : List D} (h : G a = some (.tup vs)) (r : Reps k G vs ds) : Yields k G (Itt K a) ds := fun i G2 H2 g1 g2 nk => by
  have hS : SqT K H2 a vs := .of (g2 _ _ (g1 _ _ h))
  refine ⟨fun hi => ?_, fun hi => ⟨vs, hS, by rw [r.length]; exact hi⟩⟩
  have e1 : ds[i]? = some ds[i] := List.getElem?_eq_getElem hi
  obtain ⟨v, e2, rv⟩ := r.get.1 _ e1
  refine ⟨⟨vs, v, hS, e2⟩, fun x H' ⟨e, y⟩ => ?_⟩
  subst e
  have := (y vs hS).symm.trans e2
  cases this
  exact ⟨G2, _, .refl g2, rfl, e1, rv.mono g1⟩
theorem yields_range {lo hi : Int} : Yields k G (Itr lo (hi - lo).toNat) (rngD lo hi) := fun i G2 H2 g1 g2 nk => by
  have hl : (rngD lo hi).length = (hi - lo).toNat := by simp [rngD]
  rw [hl]
  refine ⟨fun h => ⟨h, fun x H' ⟨e, y⟩ => ?_⟩, fun h => h⟩
  subst e
  subst y
  exact ⟨G2, .int (lo + (i : Nat)), .refl g2, rfl, by simp [rngD, h], .int _⟩
theorem enumD_get : ∀ (ds : List D) (n i : Nat), (enumD n ds)[i]? = (ds[i]?).map fun d => .tuple [.int ((n + i : Nat) : Int), d]
  | [], _, _ => by simp [enumD]
  | d :: r, n, 0 => by simp [enumD]
  | d :: r, n, i + 1 => by
    rw [enumD, List.getElem?_cons_succ, List.getElem?_cons_succ, enumD_get r (n + 1) i]
    have : n + 1 + i = n + (i + 1) := by omega
    rw [this]
theorem enumD_len : ∀ (ds : List D) (n : Nat), (enumD n ds).length = ds.length
  | [], _ => rfl
  | d :: r, n => congrArg (· + 1) (enumD_len r (n + 1))
/-- a new pair -/
theorem pair_new {G2 H2 : Hp} {T : Addr} {x y : V} {d e : D} (g : SameT Z G2 H2) (nk : H2 k ≠ none) (hT : H2 T = none) (rx : Rep k G2 x d) (ry : Rep k G2 y e) :
    ∃ G', Grow k G2 H2 G' (upd H2 T (.tup [x, y])) ∧ (upd H2 T (.tup [x, y])) k = H2 k ∧ Rep k G' (.ref T) (.tuple [d, e]) := by
  have ne : k ≠ T := fun z => nk (by rw [z]; exact hT)
  have gr : Grow k G2 H2 (upd G2 T (.tup [x, y])) (upd H2 T (.tup [x, y])) := Grow.both g hT
  exact ⟨_, gr, upd_ne ne, .tup upd_same (.cons (rx.mono gr.gg) (.cons (ry.mono gr.gg) .nil))⟩
theorem yields_enumL {vs : List V} {ds : List D} (h : G a = some (.lst vs)) (r : Reps k G vs ds) : Yields k G (Ite K a) (enumD 0 ds) := fun i G2 H2 g1 g2 nk => by
  have hS : SqL K H2 a vs := .of (g2 _ _ (g1 _ _ h))
  rw [enumD_len]
  refine ⟨fun hi => ?_, fun hi => ⟨vs, hS, by rw [r.length]; exact hi⟩⟩
  have e1 : ds[i]? = some ds[i] := List.getElem?_eq_getElem hi
  obtain ⟨v, e2, rv⟩ := r.get.1 _ e1
  refine ⟨⟨vs, v, hS, e2⟩, fun x H' ⟨T, y, ex, hT, eH, hy⟩ => ?_⟩
  subst ex eH
  have := (hy vs hS).symm.trans e2
  cases this
  obtain ⟨G', p1, p2, p3⟩ := pair_new (x := .int (i : Nat)) g2 nk hT (.int (i : Nat)) (rv.mono g1)
  exact ⟨G', _, p1, p2, by rw [enumD_get, e1]; simp, p3⟩
theorem yields_enumT {vs : List V} {ds : List D} (h : G a = some (.tup vs)) (r : Reps k G vs ds) : Yields k G (IteT K a) (enumD 0 ds) := fun i G2 H2 g1 g2 nk => by
  have hS : SqT K H2 a vs := .of (g2 _ _ (g1 _ _ h))
  rw [enumD_len]
  refine ⟨fun hi => ?_, fun hi => ⟨vs, hS, by rw [r.length]; exact hi⟩⟩
  have e1 : ds[i]? = some ds[i] := List.getElem?_eq_getElem hi
  obtain ⟨v, e2, rv⟩ := r.get.1 _ e1
  refine ⟨⟨vs, v, hS, e2⟩, fun x H' ⟨T, y, ex, hT, eH, hy⟩ => ?_⟩
  subst ex eH
  have := (hy vs hS).symm.trans e2
  cases this
  obtain ⟨G', p1, p2, p3⟩ := pair_new (x := .int (i : Nat)) g2 nk hT (.int (i : Nat)) (rv.mono g1)
  exact ⟨G', _, p1, p2, by rw [enumD_get, e1]; simp, p3⟩
theorem zipD_get (xs ys : List D) (i : Nat) {d e : D} (h1 : xs[i]? = some d) (h2 : ys[i]? = some e) : (zipD xs ys)[i]? = some (.tuple [d, e]) := by
  simp [zipD, List.getElem?_zipWith, h1, h2]
theorem yields_zipS {k1 k2 : Bool} {vs ws : List V} {ds es : List D} (h : ∀ G2 H2, Same G G2 → Same G2 H2 → SqS k1 K H2 a vs) (r : Reps k G vs ds) (h' : ∀ G2 H2, Same G G2 → Same G2 H2 → SqS k2 K H2 b ws) (r' : Reps k G ws es) : Yields k G (Ity k1 k2 K a b) (zipD ds es) := fun i G2 H2 g1 g2 nk => by
  have hS := h _ _ g1 g2.s
  have hS' := h' _ _ g1 g2.s
  have hl : (zipD ds es).length = min ds.length es.length := List.length_zipWith
  rw [hl]
  refine ⟨fun hi => ?_, fun hi => ⟨vs, ws, ⟨hS, hS'⟩, by rw [r.length, r'.length]; exact hi⟩⟩
  have e1 : ds[i]? = some ds[i] := List.getElem?_eq_getElem (by omega)
  have f1 : es[i]? = some es[i] := List.getElem?_eq_getElem (by omega)
  obtain ⟨v, e2, rv⟩ := r.get.1 _ e1
  obtain ⟨w, f2, rw⟩ := r'.get.1 _ f1
  refine ⟨⟨vs, ws, v, w, ⟨hS, e2⟩, hS', f2⟩, fun x H' ⟨T, y, z, ⟨ex, hT, eH⟩, hy, hz⟩ => ?_⟩
  subst ex eH
  have := (hy vs hS).symm.trans e2
  cases this
  have := (hz ws hS').symm.trans f2
  cases this
  obtain ⟨G', p1, p2, p3⟩ := pair_new g2 nk hT (rv.mono g1) (rw.mono g1)
  exact ⟨G', _, p1, p2, zipD_get _ _ _ e1 f1, p3⟩
end
def SEMI (R : Par Z) (E : XW) (it : PIt) : TI := fun σ H Rw => ∃ k G ρ s, Pre k G H σ ρ s ∧ Done R E k G H σ (evIt R.F it ρ s) fun xs s' => ∀ J G' H', Grow k G H G' H' → DkAt k s' G' H' → Yields k G' J xs → Rw J H'
section
variable {R : Par Z} {E : XW} {σ : L2.St} {H : Hp} {K : PySem.W.Frag} {Rw : It → Hp → Prop}
theorem ri_seq {p : PX} (h : SEMI R E (.seq p) σ H Rw) : iSeqA K (SEM R E p) σ H Rw := by
  obtain ⟨k, G, ρ, s, P, h⟩ := h
  simp only [evIt] at h
  refine sem_step P h fun x s1 v G1 H1 g1 P1 r1 h1 => ?_
  obtain ⟨xs, e, q⟩ := h1.of
  cases r1 with
  | lst hh r =>
    cases e
    exact ⟨_, rfl, .inl ⟨_, .of (P1.sub _ _ hh), q _ _ _ g1 P1.dk (yields_list hh r)⟩⟩
  | tup hh r =>
    cases e
    exact ⟨_, rfl, .inr ⟨_, .of (P1.sub _ _ hh), q _ _ _ g1 P1.dk (yields_tup hh r)⟩⟩
  | _ => cases e
theorem ri_rng1 {p : PX} (h : SEMI R E (.rng1 p) σ H Rw) : iRng1 (SEMA R E [p]) σ H Rw := by
  obtain ⟨k, G, ρ, s, P, h⟩ := h
  simp only [evIt] at h
  have h' : Done R E k G H σ ((evs R.F [p] ρ s).bind fun ds s1 => match ds with
      | [.int i] => if smallI i then .ok (rngD 0 i) s1 else .no
      | _ => .no) fun xs s' => ∀ J G' H', Grow k G H G' H' → DkAt k s' G' H' → Yields k G' J xs → Rw J H' := by
    simp only [evs]
    cases e : ev R.F p ρ s with
    | no => rw [e] at h; exact h
    | ex x s1 => rw [e] at h; exact h
    | ok d s1 => rw [e] at h; cases d <;> exact h
  refine sema_step P h' fun xs s1 vs G1 H1 g1 P1 r1 h1 => ?_
  split at h1
  · rename_i i
    split at h1
    · rename_i hi
      simp only [smallI, Bool.and_eq_true, decide_eq_true_eq] at hi
      obtain ⟨v, rfl, rv⟩ := r1.one
      cases rv
      have q := h1 (Itr 0 (i - 0).toNat) _ _ g1 P1.dk yields_range
      rw [Int.sub_zero] at q
      exact ⟨i, rfl, hi.1, hi.2, q⟩
    · exact h1.elim
  · exact h1.elim
theorem ri_rng2 {p p2 : PX} (h : SEMI R E (.rng2 p p2) σ H Rw) : iRng2 (SEMA R E [p, p2]) σ H Rw := by
  obtain ⟨k, G, ρ, s, P, h⟩ := h
  simp only [evIt] at h
  have h' : Done R E k G H σ ((evs R.F [p, p2] ρ s).bind fun ds s1 => match ds with
      | [.int i, .int j] => if smallI i && smallI j then .ok (rngD i j) s1 else .no
      | _ => .no) fun xs s' => ∀ J G' H', Grow k G H G' H' → DkAt k s' G' H' → Yields k G' J xs → Rw J H' := by
    simp only [evs]
    cases e : ev R.F p ρ s with
    | no => rw [e] at h; exact h
    | ex x s1 => rw [e] at h; exact h
    | ok d s1 =>
      rw [e] at h
      simp only [Out.bind] at h ⊢
      cases e2 : ev R.F p2 ρ s1 with
      | no => rw [e2] at h; exact h
      | ex x s2 => rw [e2] at h; exact h
      | ok d2 s2 =>
        rw [e2] at h
        cases d <;> cases d2 <;> exact h
  refine sema_step P h' fun xs s1 vs G1 H1 g1 P1 r1 h1 => ?_
  split at h1
  · rename_i i j
    split at h1
    · rename_i hi
      simp only [smallI, Bool.and_eq_true, decide_eq_true_eq] at hi
      obtain ⟨v, w, rfl, rv, rw⟩ := r1.two
      cases rv
      cases rw
      exact ⟨i, j, rfl, ⟨hi.1.1, hi.1.2, hi.2.1, hi.2.2⟩, h1 _ _ _ g1 P1.dk yields_range⟩
    · exact h1.elim
  · exact h1.elim
theorem evs_one {F : Fns} {p : PX} {ρ : Env0} {s : Dk} {α : Type} {f : D → Dk → Out α} : (evs F [p] ρ s).bind (fun ds s1 => match ds with | [d] => f d s1 | _ => .no) = (ev F p ρ s).bind f := by
  simp only [evs]
  cases ev F p ρ s <;> rfl
theorem evs_two {F : Fns} {p p2 : PX} {ρ : Env0} {s : Dk} {α : Type} {f : D → D → Dk → Out α} : (evs F [p, p2] ρ s).bind (fun ds s1 => match ds with | [d, e] => f d e s1 | _ => .no) = (ev F p ρ s).bind fun d s1 => (ev F p2 ρ s1).bind fun e s2 => f d e s2 := by
  simp only [evs]
  cases ev F p ρ s with
  | ok d s1 =>
    simp only [Out.bind]
    cases ev F p2 ρ s1 <;> rfl
  | _ => rfl
theorem ri_enum {p : PX} (h : SEMI R E (.enum p) σ H Rw) : iEnumA K (SEMA R E [p]) σ H Rw := by
  obtain ⟨k, G, ρ, s, P, h⟩ := h
  simp only [evIt] at h
  rw [← evs_one] at h
  refine sema_step P h fun xs s1 vs G1 H1 g1 P1 r1 h1 => ?_
  split at h1
  · rename_i d
    obtain ⟨ys, e, q⟩ := h1.of
    obtain ⟨v, rfl, rv⟩ := r1.one
    cases rv with
    | lst hh r =>
      cases e
      exact ⟨_, rfl, .inl ⟨_, .of (P1.sub _ _ hh), q _ _ _ g1 P1.dk (yields_enumL hh r)⟩⟩
    | tup hh r =>
      cases e
      exact ⟨_, rfl, .inr ⟨_, .of (P1.sub _ _ hh), q _ _ _ g1 P1.dk (yields_enumT hh r)⟩⟩
    | _ => cases e
  · exact h1.elim
theorem ri_zip {p p2 : PX} (h : SEMI R E (.zip p p2) σ H Rw) : iZipS K (SEMA R E [p, p2]) σ H Rw := by
  obtain ⟨k, G, ρ, s, P, h⟩ := h
  simp only [evIt] at h
  rw [← evs_two] at h
  refine sema_step P h fun xs s1 vs G1 H1 g1 P1 r1 h1 => ?_
  split at h1
  · rename_i d e
    obtain ⟨ys, e, q⟩ := h1.of
    obtain ⟨v, w, rfl, rv, rw⟩ := r1.two
    cases rv with
    | lst hh r =>
      cases rw with
      | lst h2 r2 =>
        cases e
        exact ⟨false, false, _, _, _, _, rfl, ⟨.of (P1.sub _ _ hh), .of (P1.sub _ _ h2)⟩, q _ _ _ g1 P1.dk (yields_zipS (fun _ _ g1 g2 => .of (g2 _ _ (g1 _ _ hh))) r (fun _ _ g1 g2 => .of (g2 _ _ (g1 _ _ h2))) r2)⟩
      | tup h2 r2 =>
        cases e
        exact ⟨false, true, _, _, _, _, rfl, ⟨.of (P1.sub _ _ hh), .of (P1.sub _ _ h2)⟩, q _ _ _ g1 P1.dk (yields_zipS (fun _ _ g1 g2 => .of (g2 _ _ (g1 _ _ hh))) r (fun _ _ g1 g2 => .of (g2 _ _ (g1 _ _ h2))) r2)⟩
      | _ => cases e
    | tup hh r =>
      cases rw with
      | tup h2 r2 =>
        cases e
        exact ⟨true, true, _, _, _, _, rfl, ⟨.of (P1.sub _ _ hh), .of (P1.sub _ _ h2)⟩, q _ _ _ g1 P1.dk (yields_zipS (fun _ _ g1 g2 => .of (g2 _ _ (g1 _ _ hh))) r (fun _ _ g1 g2 => .of (g2 _ _ (g1 _ _ h2))) r2)⟩
      | lst h2 r2 =>
        cases e
        exact ⟨true, false, _, _, _, _, rfl, ⟨.of (P1.sub _ _ hh), .of (P1.sub _ _ h2)⟩, q _ _ _ g1 P1.dk (yields_zipS (fun _ _ g1 g2 => .of (g2 _ _ (g1 _ _ hh))) r (fun _ _ g1 g2 => .of (g2 _ _ (g1 _ _ h2))) r2)⟩
      | _ => cases e
    | _ => cases rw <;> cases e
  · exact h1.elim
end
end CH

set_option Elab.async false
set_option linter.all false
set_option maxRecDepth 100000
set_option maxHeartbeats 4000000
/-! comprehensions -/
namespace CH
variable {Z : St0}
open PySem L2
def gNames : List Nat → TGs
  | [] => gNil
  | i :: r => gCons (gName i) (gNames r)
def tgG (K : PySem.W.Frag) : PTg → TG
  | .one i => gName i
  | .many is => gTup K is.length (gNames is)
theorem wipe_get {σ : L2.St} {j : Nat} : ∀ {vs : List Nat}, (wipe σ vs)[j]? = if j ∈ vs then (σ[j]?).map (fun _ => none) else σ[j]?
  | [] => by simp [wipe]
  | v :: vs => by
    have ih := @wipe_get σ j vs
    unfold wipe
    by_cases h : v = j
    · subst h
      rw [if_pos List.mem_cons_self, List.getElem?_set]
      simp only [if_true]
      rw [wipe_length]
      by_cases hv : v < σ.length
      · simp [hv]
      · simp [hv]
    · rw [List.getElem?_set_ne h, ih]
      have : (j ∈ v :: vs) ↔ j ∈ vs := ⟨fun z => (List.mem_cons.mp z).elim (fun e => absurd e.symm h) id, List.mem_cons_of_mem _⟩
      simp only [this]
theorem wipeE_get {σ : Env0} {j : Nat} : ∀ {vs : List Nat}, (wipeE σ vs)[j]? = if j ∈ vs then (σ[j]?).map (fun _ => none) else σ[j]?
  | [] => by simp [wipeE]
  | v :: vs => by
    have ih := @wipeE_get σ j vs
    have hl : ∀ vs, (wipeE σ vs).length = σ.length := fun vs => by
      induction vs with
      | nil => rfl
      | cons a r ih => unfold wipeE; rw [List.length_set, ih]
    unfold wipeE
    by_cases h : v = j
    · subst h
      rw [if_pos List.mem_cons_self, List.getElem?_set]
      simp only [if_true]
      rw [hl]
      by_cases hv : v < σ.length
      · simp [hv]
      · simp [hv]
    · rw [List.getElem?_set_ne h, ih]
      have : (j ∈ v :: vs) ↔ j ∈ vs := ⟨fun z => (List.mem_cons.mp z).elim (fun e => absurd e.symm h) id, List.mem_cons_of_mem _⟩
      simp only [this]
theorem wipeE_length (σ : Env0) : ∀ vs : List Nat, (wipeE σ vs).length = σ.length
  | [] => rfl
  | v :: vs => by unfold wipeE; rw [List.length_set, wipeE_length σ vs]
/-- two states of the slots that differ at vs alone -/
theorem wipe_eq {σ τ : L2.St} {vs : List Nat} (hl : τ.length = σ.length) (h : ∀ j, j ∉ vs → τ[j]? = σ[j]?) : wipe τ vs = wipe σ vs := by
  apply List.ext_getElem?
  intro j
  rw [wipe_get, wipe_get]
  by_cases hj : j ∈ vs
  · rw [if_pos hj, if_pos hj]
    by_cases hs : j < σ.length
    · rw [List.getElem?_eq_getElem hs, List.getElem?_eq_getElem (by omega)]
      rfl
    · rw [List.getElem?_eq_none (by omega), List.getElem?_eq_none (by omega)]
  · rw [if_neg hj, if_neg hj, h j hj]
section
variable {R : Par Z} {E : XW} {k : KA Z} {G H : Hp} {σ : L2.St} {ρ : Env0} {s : Dk}
theorem Pre.wiped (P : Pre k G H σ ρ s) (vs : List Nat) : Pre k G H (wipe σ vs) (wipeE ρ vs) s := by
  refine ⟨P.sub, P.dk, fun i d e => ?_, by rw [wipe_length, wipeE_length]; exact P.len⟩
  rw [wipeE_get] at e
  by_cases hi : i ∈ vs
  · rw [if_pos hi] at e
    cases q : ρ[i]? with
    | none => rw [q] at e; cases e
    | some x => rw [q] at e; cases e
  · rw [if_neg hi] at e
    rw [wipe_get, if_neg hi]
    exact P.env i d e
theorem Pre.set (P : Pre k G H σ ρ s) {i : Nat} {v : V} {d : D} (r : Rep k G v d) : Pre k G H (σ.set i (some v)) (ρ.set i (some d)) s := by
  refine ⟨P.sub, P.dk, fun j e h => ?_, by rw [List.length_set, List.length_set]; exact P.len⟩
  by_cases hj : i = j
  · subst hj
    rw [List.getElem?_set] at h ⊢
    simp only [if_true] at h ⊢
    split at h
    · rename_i hl
      rw [if_pos (by rw [← P.len]; exact hl)]
      cases h
      exact ⟨v, rfl, r⟩
    · cases h
  · rw [List.getElem?_set_ne hj] at h ⊢
    exact P.env j e h
theorem names_set : ∀ {is : List Nat} {vs : List V} {xs : List D} {σ : L2.St} {ρ : Env0} {Q : L2.St → Hp → Prop}, Pre k G H σ ρ s → Reps k G vs xs → is.length = xs.length →
    (∀ σ', Pre k G H σ' ((is.zip xs).foldl (fun r p => r.set p.1 (some p.2)) ρ) s → σ'.length = σ.length → (∀ j, j ∉ is → σ'[j]? = σ[j]?) → Q σ' H) → gNames is vs σ H Q
  | [], [], [], σ, ρ, Q, P, _, _, q => ⟨rfl, q σ P rfl fun _ _ => rfl⟩
  | i :: is, v :: vs, x :: xs, σ, ρ, Q, P, .cons r rr, hl, q => by
    refine ⟨v, vs, rfl, names_set (P.set r) rr (Nat.succ.inj hl) fun σ' P' hl' hn => q σ' P' (by rw [hl', List.length_set]) fun j hj => ?_⟩
    rw [hn j (fun z => hj (List.mem_cons_of_mem _ z)), List.getElem?_set_ne (fun z => hj (by rw [z]; exact List.mem_cons_self))]
  | [], _ :: _, _, _, _, _, _, .cons _ _, hl, _ => by cases hl
  | _ :: _, [], _, _, _, _, _, .nil, hl, _ => by cases hl
theorem tg_set {K : PySem.W.Frag} {tg : PTg} {x : D} {v : V} {r : Env0} {Q : L2.St → Hp → Prop} (P : Pre k G H σ ρ s) (rv : Rep k G v x) (e : setT tg x ρ = some r)
    (q : ∀ σ', Pre k G H σ' r s → σ'.length = σ.length → (∀ j, j ∉ tgSl tg → σ'[j]? = σ[j]?) → Q σ' H) : tgG K tg v σ H Q := by
  cases tg with
  | one i =>
    cases e
    exact q _ (P.set rv) (List.length_set ..) fun j hj => List.getElem?_set_ne (fun z => hj (by simp [tgSl, z]))
  | many is =>
    cases rv with
    | tup hh rr =>
      simp only [setT] at e
      split at e
      · rename_i hl
        cases e
        exact ⟨_, _, rfl, .of (P.sub _ _ hh), by rw [rr.length]; exact hl.symm, names_set P rr hl q⟩
      · cases e
    | _ => cases e
def E0 : XW := fun _ _ _ _ => False
def SEMO (R : Par Z) : Option PX → TT
  | none => tYes
  | some p => SEMT R E0 p
theorem semo_ok {c : Option PX} {r : Env0} {b : Bool} {sa sb : Dk} {Q : Bool → Hp → Prop} (P : Pre k G H σ r sa) (e : evt R.F c r sa = .ok b sb) (q : ∀ G1 H1, Grow k G H G1 H1 → Pre k G1 H1 σ r sb → Q b H1) : SEMO R c σ H Q := by
  cases c with
  | none =>
    cases e
    exact q G H (.refl P.sub) P
  | some p =>
    refine ⟨k, G, r, sa, P, ?_⟩
    rw [show truthO (ev R.F p r sa) = .ok b sb from e]
    exact fun G1 H1 g dk => q G1 H1 g (P.grow g dk)
theorem sem_ok {p : PX} {r : Env0} {d : D} {sa sb : Dk} {Q : VK} (P : Pre k G H σ r sa) (e : ev R.F p r sa = .ok d sb) (q : ∀ v G1 H1, Grow k G H G1 H1 → Pre k G1 H1 σ r sb → Rep k G1 v d → Q v H1) : SEM R E p σ H Q := by
  refine ⟨k, G, r, sa, P, ?_⟩
  rw [e]
  intro v G1 H1 g dk rb
  obtain ⟨G2, g2, dk2, r2⟩ := rb.rep g (fun a e => e) P.dk.there dk
  exact q v G2 H1 g2 (P.grow g2 dk2) r2
theorem bind_ok {α β : Type} {o : Out α} {f : α → Dk → Out β} {b : β} {s' : Dk} (h : o.bind f = .ok b s') : ∃ a s1, o = .ok a s1 ∧ f a s1 = .ok b s' := by
  cases o with
  | ok a s1 => exact ⟨a, s1, rfl, h⟩
  | _ => cases h
theorem Grow.put {G0 H0 G2 H4 : Hp} {D : Addr} {o : HO} (g : Grow k G0 H0 G2 H4) (h0 : H0 D = none) (h2 : G2 D = none) (ht : TabOk Z (upd H4 D o)) : Grow k G0 H0 G2 (upd H4 D o) where
  gg := g.gg
  gh := ⟨fun b x e => by rw [upd_ne (ne_of_none e h2)]; exact g.gh b x e, ht, g.gh.n⟩
  fr := fun a x n t e => by rw [upd_ne (ne_of_none e h0)]; exact g.fr a x n t e
  nw := g.nw
  kt := fun a e => by
    by_cases z : a = D
    · subst z; exact h0
    · rw [upd_ne z] at e; exact g.kt a e
  ck := fun c r e => let ⟨r', e'⟩ := g.ck c r e; ⟨r', by rw [upd_ne (ne_of_none e h0)]; exact e'⟩
theorem DkAt.put {D : Addr} {o : HO} (d : DkAt k s G H) (ne : (k : Addr) ≠ D) : DkAt k s G (upd H D o) := by
  exact d.move (Same.refl _) d.1 (upd_ne ne)
theorem Pre.put {D : Addr} {o : HO} (P : Pre k G H σ ρ s) (ne : (k : Addr) ≠ D) (h2 : G D = none) (ht : TabOk Z (upd H D o)) : Pre k G (upd H D o) σ ρ s :=
  ⟨⟨fun b x e => by rw [upd_ne (ne_of_none e h2)]; exact P.sub b x e, ht, P.sub.n⟩, P.dk.put ne, P.env, P.len⟩
/-- a comprehension with one for -/
theorem rd_lc {K : PySem.W.Frag} {tg : PTg} {it : PIt} {c : Option PX} {e : PX} {Q : VK} (h : SEM R E (.lc tg it c e) σ H Q) : tLc (SEMI R E it) (tgG K tg) (SEMO R c) (SEM R E0 e) (tgSl tg) σ H Q := by
  obtain ⟨k, G, ρ, s, P, h⟩ := h
  simp only [ev] at h
  refine ⟨k, G, ρ, s, P, h.bind.imp (.refl P.sub) fun xs s1 _ h1 J G0 H0 g0 dk0 yl D hD => ?_⟩
  generalize hT : (fun (x : PyData) (s : Dk) => onE (setT tg x (wipeE ρ (tgSl tg))) (fun r s => evt R.F c r s) s) = T at h1
  generalize hL : (fun (x : PyData) (s : Dk) => onE (setT tg x (wipeE ρ (tgSl tg))) (fun r s => ev R.F e r s) s) = L at h1
  cases el : lcLoop T L xs s1 with
  | no => rw [el] at h1; exact h1.elim
  | ex x s2 => rw [el] at h1; exact h1.elim
  | ok ys s2 =>
    rw [el] at h1
    simp only [Out.still, Out.bind] at h1
    split at h1
    · rename_i hz
      have P0 : Pre k G0 H0 σ ρ s1 := P.grow g0 dk0
      have nkD : k ≠ D := dk0.ne hD
      have gD : G0 D = none := none_of_same g0.gh hD
      obtain ⟨W, hW⟩ : ∃ W : Nat → Nat → Hp → Prop, W = fun i m H1 => ∃ G1 sa acc ys0 ys1, i ≤ xs.length ∧ m = xs.length - i ∧ Grow k G0 H0 G1 H1 ∧ Pre k G1 H1 (wipe σ (tgSl tg)) (wipeE ρ (tgSl tg)) sa ∧ H1 D = some (.lst acc) ∧ G1 D = none ∧ Reps k G1 acc ys0 ∧ ys0.length ≤ i ∧ lcLoop T L (xs.drop i) sa = .ok ys1 s2 ∧ ys = ys0 ++ ys1 := ⟨_, rfl⟩
      refine ⟨W, ⟨xs.length, by rw [hW]; exact ⟨G0, s1, [], [], ys, Nat.zero_le _, rfl, Grow.side g0.gh hD, (P0.wiped _).put nkD gD (g0.gh.t.new hD), upd_same, gD, .nil, Nat.zero_le _, el, rfl⟩⟩, ?_⟩
      intro i m H1 hw
      rw [hW] at hw
      obtain ⟨G1, sa, acc, ys0, ys1, hi, rfl, gr, P1, hDa, hDg, ra, hl0, el1, rfl⟩ := hw
      have yi := yl i G1 H1 gr.gg gr.gh P1.dk.there
      by_cases hlt : i < xs.length
      · have ed : xs.drop i = xs[i] :: xs.drop (i + 1) := List.drop_eq_getElem_cons hlt
        rw [ed] at el1
        simp only [lcLoop] at el1
        obtain ⟨b, sb, eT, el2⟩ := bind_ok el1
        refine .inr ⟨(yi.1 hlt).1, W (i + 1) (xs.length - (i + 1)), fun H' hN => ⟨_, by omega, hN⟩, fun x H' hy => ?_⟩
        obtain ⟨G2, d, g2, ek, ed2, rx⟩ := (yi.1 hlt).2 x H' hy
        have ed3 : d = xs[i] := by
          rw [List.getElem?_eq_getElem hlt] at ed2
          exact (Option.some.inj ed2).symm
        subst ed3
        have P2 : Pre k G2 H' (wipe σ (tgSl tg)) (wipeE ρ (tgSl tg)) sa := P1.grow g2 (P1.dk.keep g2 ek)
        replace eT : onE (setT tg xs[i] (wipeE ρ (tgSl tg))) (fun r s => evt R.F c r s) sa = .ok b sb := by rw [← hT] at eT; exact eT
        cases er : setT tg xs[i] (wipeE ρ (tgSl tg)) with
        | none => rw [er] at eT; cases eT
        | some r =>
          rw [er] at eT
          refine tg_set P2 rx er fun σ2 P3 hl2 hn2 => ⟨?_, ?_⟩
          · rw [wipe_eq hl2 (fun j hj => hn2 j hj)]
            exact wipe_eq (wipe_length σ (tgSl tg)) fun j hj => by rw [wipe_get, if_neg hj]
          · have base : ∀ {G3 H3 : Hp} {sc : Dk}, Grow k G2 H' G3 H3 → Pre k G3 H3 σ2 r sc → Grow k G0 H0 G3 H3 ∧ H3 D = some (.lst acc) ∧ G3 D = none ∧ Reps k G3 acc ys0 ∧ Pre k G3 H3 (wipe σ (tgSl tg)) (wipeE ρ (tgSl tg)) sc := fun {G3 H3 sc} g3 P4 => by
              have g13 := g2.trans g3
              refine ⟨gr.trans g13, g13.frl (Ne.symm nkD) hDa, ?_, ra.mono g13.gg, P1.grow g13 P4.dk⟩
              cases q : G3 D with
              | none => rfl
              | some o =>
                rcases g13.nw D o q with z | z
                · rw [hDg] at z; cases z
                · rw [hDa] at z; cases z
            refine semo_ok P3 eT fun G3 H3 g3 P4 => ?_
            cases b with
            | false =>
              rw [if_neg Bool.false_ne_true] at el2
              rw [if_neg Bool.false_ne_true]
              obtain ⟨b1, b2, b3, b4, b5⟩ := base g3 P4
              rw [hW]
              exact ⟨G3, sb, acc, ys0, ys1, hlt, rfl, b1, b5, b2, b3, b4, Nat.le_succ_of_le hl0, el2, rfl⟩
            | true =>
              rw [if_pos rfl] at el2
              rw [if_pos rfl]
              obtain ⟨y, sc, eL, el3⟩ := bind_ok el2
              replace eL : onE (setT tg xs[i] (wipeE ρ (tgSl tg))) (fun r s => ev R.F e r s) sb = .ok y sc := by rw [← hL] at eL; exact eL
              simp only [er, onE] at eL
              refine sem_ok P4 eL fun v G4 H4 g4 P5 rv => ?_
              obtain ⟨b1, b2, b3, b4, b5⟩ := base (g3.trans g4) P5
              obtain ⟨zs, sd, el4, el5⟩ := bind_ok el3
              cases el5
              refine ⟨acc, b2, by rw [ra.length]; omega, ?_⟩
              rw [hW]
              refine ⟨G4, sc, acc ++ [v], ys0 ++ [y], zs, hlt, rfl, b1.put hD b3 (b1.gh.t.lst b2), b5.put nkD b3 (b1.gh.t.lst b2), upd_same, b3, b4.append (.cons rv .nil), ?_, el4, ?_⟩
              · rw [List.length_append]; simp; omega
              · rw [List.append_assoc]; rfl
      · have ei : i = xs.length := by omega
        subst ei
        rw [List.drop_length] at el1
        cases el1
        refine .inl ⟨yi.2 (Nat.le_refl _), ?_⟩
        rw [List.append_nil] at h1
        exact h1 (.ref D) G1 H1 (g0.trans gr) P1.dk (.inl ⟨rfl, D, acc, ys0, rfl, rfl, g0.kt D hD, hDg, hDa, ra⟩)
    · exact h1.elim
end
end CH

set_option Elab.async false
set_option linter.all false
set_option maxRecDepth 100000
set_option maxHeartbeats 4000000
/-! comprehensions with two fors -/
namespace CH
variable {Z : St0}
open PySem L2
section
variable {R : Par Z} {E : XW} {k : KA Z} {G H : Hp} {σ : L2.St} {ρ : Env0} {s : Dk}
theorem gone_still {D : Addr} {o : HO} {G1 H1 G3 H3 : Hp} (g : Grow k G1 H1 G3 H3) (h : H1 D = some o) (hg : G1 D = none) : G3 D = none := by
  cases q : G3 D with
  | none => rfl
  | some o' =>
    rcases g.nw D o' q with z | z
    · rw [hg] at z; cases z
    · rw [h] at z; cases z
theorem rd_lc2 {K : PySem.W.Frag} {i1 i2 : Nat} {a1 a2 : PIt} {c : Option PX} {e : PX} {Q : VK} (h : SEM R E (.lc2 i1 a1 i2 a2 c e) σ H Q) :
    tLc2 (SEMI R E a1) (gName i1) tYes (SEMI R E0 a2) (gName i2) (SEMO R c) (SEM R E0 e) [i1, i2] [i2] σ H Q := by
  obtain ⟨k, G, ρ, s, P, h⟩ := h
  simp only [ev] at h
  refine ⟨k, G, ρ, s, P, h.bind.imp (.refl P.sub) fun xs s1 _ h1 J G0 H0 g0 dk0 yl D hD => ?_⟩
  obtain ⟨ρw, eρw⟩ : ∃ z, z = wipeE ρ [i1, i2] := ⟨_, rfl⟩
  rw [← eρw] at h1
  generalize hI : (fun (x : PyData) (s : Dk) => (evIt R.F a2 (ρw.set i1 (some x)) s).bind fun zs s1 =>
      lcLoop (fun z s => evt R.F c ((ρw.set i1 (some x)).set i2 (some z)) s) (fun z s => ev R.F e ((ρw.set i1 (some x)).set i2 (some z)) s) zs s1) = I at h1
  cases el : lcLoop2 I xs s1 with
  | no => rw [el] at h1; exact h1.elim
  | ex x s2 => rw [el] at h1; exact h1.elim
  | ok ys s2 =>
    rw [el] at h1
    simp only [Out.still, Out.bind] at h1
    split at h1
    · rename_i hz
      have P0 : Pre k G0 H0 σ ρ s1 := P.grow g0 dk0
      have nkD : k ≠ D := dk0.ne hD
      have gD : G0 D = none := none_of_same g0.gh hD
      obtain ⟨W, hW⟩ : ∃ W : Nat → Nat → Hp → Prop, W = fun i m H1 => ∃ G1 sa acc ys0 ys1, i ≤ xs.length ∧ m = xs.length - i ∧ Grow k G0 H0 G1 H1 ∧ Pre k G1 H1 (wipe σ [i1, i2]) ρw sa ∧ H1 D = some (.lst acc) ∧ G1 D = none ∧ Reps k G1 acc ys0 ∧
        lcLoop2 I (xs.drop i) sa = .ok ys1 s2 ∧ ys = ys0 ++ ys1 := ⟨_, rfl⟩
      refine ⟨W, ⟨xs.length, by rw [hW]; exact ⟨G0, s1, [], [], ys, Nat.zero_le _, rfl, Grow.side g0.gh hD, by rw [eρw]; exact (P0.wiped _).put nkD gD (g0.gh.t.new hD), upd_same, gD, .nil, el, rfl⟩⟩, ?_⟩
      intro i m H1 hw
      rw [hW] at hw
      obtain ⟨G1, sa, acc, ys0, ys1, hi, rfl, gr, P1, hDa, hDg, ra, el1, rfl⟩ := hw
      have yi := yl i G1 H1 gr.gg gr.gh P1.dk.there
      by_cases hlt : i < xs.length
      · rw [List.drop_eq_getElem_cons hlt] at el1
        simp only [lcLoop2] at el1
        obtain ⟨ysx, sb, eI, el2⟩ := bind_ok el1
        obtain ⟨rest, sz, el3, el4⟩ := bind_ok el2
        cases el4
        refine .inr ⟨(yi.1 hlt).1, W (i + 1) (xs.length - (i + 1)), fun H' hN => ⟨_, by omega, hN⟩, fun x H' hy => ?_⟩
        obtain ⟨G2, d, g2, ek, ed2, rx⟩ := (yi.1 hlt).2 x H' hy
        have ed3 : d = xs[i] := by
          rw [List.getElem?_eq_getElem hlt] at ed2
          exact (Option.some.inj ed2).symm
        subst ed3
        have P2 := P1.grow g2 (P1.dk.keep g2 ek)
        obtain ⟨ρx, eρx⟩ : ∃ z, z = ρw.set i1 (some xs[i]) := ⟨_, rfl⟩
        obtain ⟨σ2, eσ2⟩ : ∃ z, z = (wipe σ [i1, i2]).set i1 (some x) := ⟨_, rfl⟩
        have P3 : Pre k G2 H' σ2 ρx sa := by rw [eρx, eσ2]; exact P2.set rx
        replace eI : ((evIt R.F a2 ρx sa).bind fun zs s1 => lcLoop (fun z s => evt R.F c (ρx.set i2 (some z)) s) (fun z s => ev R.F e (ρx.set i2 (some z)) s) zs s1) = .ok ysx sb := by rw [← hI] at eI; rw [eρx]; exact eI
        obtain ⟨zs, sc, eZ, eL⟩ := bind_ok eI
        show wipe ((wipe σ [i1, i2]).set i1 (some x)) [i1, i2] = wipe σ [i1, i2] ∧ _
        rw [← eσ2]
        refine ⟨?_, ?_⟩
        · refine wipe_eq (by rw [eσ2, List.length_set, wipe_length]) fun j hj => ?_
          rw [eσ2, List.getElem?_set_ne (fun z => hj (by simp [z])), wipe_get, if_neg hj]
        · unfold tYes
          refine iteT ?_
          refine ⟨k, G2, ρx, sa, P3, ?_⟩
          rw [eZ]
          intro J1 G4 H4 g4 dk4 yl1
          have g14 := g2.trans g4
          have hD4 : H4 D = some (.lst acc) := g14.frl (Ne.symm nkD) hDa
          have hG4 : G4 D = none := gone_still g14 hDa hDg
          generalize hT : (fun (z : PyData) (s : Dk) => evt R.F c (ρx.set i2 (some z)) s) = T at eL
          generalize hLl : (fun (z : PyData) (s : Dk) => ev R.F e (ρx.set i2 (some z)) s) = L at eL
          obtain ⟨W1, hW1⟩ : ∃ W1 : Nat → Nat → Hp → Prop, W1 = fun j m H5 => ∃ G5 sd acc' ysa ysb, j ≤ zs.length ∧ m = zs.length - j ∧ Same G4 G5 ∧ Grow k G0 H0 G5 H5 ∧ Pre k G5 H5 (wipe σ [i1, i2]) ρw sd ∧ Pre k G5 H5 σ2 ρx sd ∧ H5 D = some (.lst acc') ∧ G5 D = none ∧
            Reps k G5 acc' (ys0 ++ ysa) ∧ lcLoop T L (zs.drop j) sd = .ok ysb sb ∧ ysx = ysa ++ ysb := ⟨_, rfl⟩
          refine ⟨W1, ⟨zs.length, ?_⟩, ?_⟩
          · rw [hW1]
            exact ⟨G4, sc, acc, [], ysx, Nat.zero_le _, rfl, Same.refl _, gr.trans g14, P1.grow g14 dk4, P3.grow g4 dk4, hD4, hG4, by rw [List.append_nil]; exact ra.mono g14.gg, eL, rfl⟩
          · intro j m1 H5 hw1
            rw [hW1] at hw1
            obtain ⟨G5, sd, acc', ysa, ysb, hj, rfl, s45, gr5, Pa, Pb, hDa5, hDg5, ra5, el5, rfl⟩ := hw1
            have yj := yl1 j G5 H5 s45 gr5.gh Pa.dk.there
            by_cases hjl : j < zs.length
            · rw [List.drop_eq_getElem_cons hjl] at el5
              simp only [lcLoop] at el5
              obtain ⟨b, se, eT, el6⟩ := bind_ok el5
              refine .inr ⟨(yj.1 hjl).1, W1 (j + 1) (zs.length - (j + 1)), fun H' hN => ⟨_, by omega, hN⟩, fun z H6 hz6 => ?_⟩
              obtain ⟨G6, dz, g6, ek6, ez, rz⟩ := (yj.1 hjl).2 z H6 hz6
              have ez3 : dz = zs[j] := by
                rw [List.getElem?_eq_getElem hjl] at ez
                exact (Option.some.inj ez).symm
              subst ez3
              have dk6 : DkAt k sd G6 H6 := Pb.dk.keep g6 ek6
              have P6 : Pre k G6 H6 ((wipe σ2 [i2]).set i2 (some z)) (ρx.set i2 (some zs[j])) sd := by
                have q := ((Pb.grow g6 dk6).wiped [i2]).set (i := i2) rz
                have e1 : (wipeE ρx [i2]).set i2 (some zs[j]) = ρx.set i2 (some zs[j]) := by
                  simp only [wipeE, List.set_set]
                rw [e1] at q
                exact q
              replace eT : evt R.F c (ρx.set i2 (some zs[j])) sd = .ok b se := by rw [← hT] at eT; exact eT
              show wipe ((wipe σ2 [i2]).set i2 (some z)) [i2] = wipe σ2 [i2] ∧ _
              refine ⟨?_, ?_⟩
              · refine wipe_eq (by rw [List.length_set, wipe_length]) fun j hj => ?_
                rw [List.getElem?_set_ne (fun z => hj (by simp [z])), wipe_get, if_neg hj]
              · have base : ∀ {G3 H3 : Hp} {sf : Dk}, Grow k G6 H6 G3 H3 → DkAt k sf G3 H3 → Same G4 G3 ∧ Grow k G0 H0 G3 H3 ∧ H3 D = some (.lst acc') ∧ G3 D = none ∧ Reps k G3 acc' (ys0 ++ ysa) ∧ Pre k G3 H3 (wipe σ [i1, i2]) ρw sf ∧ Pre k G3 H3 σ2 ρx sf := fun {G3 H3 sf} g3 dk3 => by
                  have g53 := g6.trans g3
                  exact ⟨s45.trans g53.gg, gr5.trans g53, g53.frl (Ne.symm nkD) hDa5, gone_still g53 hDa5 hDg5, ra5.mono g53.gg, Pa.grow g53 dk3, Pb.grow g53 dk3⟩
                refine semo_ok P6 eT fun G3 H3 g3 P7 => ?_
                cases b with
                | false =>
                  rw [if_neg Bool.false_ne_true] at el6
                  rw [if_neg Bool.false_ne_true]
                  obtain ⟨b1, b2, b3, b4, b5, b6, b7⟩ := base g3 P7.dk
                  rw [hW1]
                  exact ⟨G3, se, acc', ysa, ysb, hjl, rfl, b1, b2, b6, b7, b3, b4, b5, el6, rfl⟩
                | true =>
                  rw [if_pos rfl] at el6
                  rw [if_pos rfl]
                  obtain ⟨y, sf, eE, el7⟩ := bind_ok el6
                  replace eE : ev R.F e (ρx.set i2 (some zs[j])) se = .ok y sf := by rw [← hLl] at eE; exact eE
                  refine sem_ok P7 eE fun v G8 H8 g8 P8 rv => ?_
                  obtain ⟨b1, b2, b3, b4, b5, b6, b7⟩ := base (g3.trans g8) P8.dk
                  obtain ⟨ws, sg, el8, el9⟩ := bind_ok el7
                  cases el9
                  refine ⟨acc', b3, ?_, ?_⟩
                  · rw [ra5.length]
                    simp only [List.length_append, List.length_cons] at hz ⊢
                    omega
                  · rw [hW1]
                    refine ⟨G8, sf, acc' ++ [v], ysa ++ [y], ws, hjl, rfl, b1, b2.put hD b4 (b2.gh.t.lst b3), b6.put nkD b4 (b2.gh.t.lst b3), b7.put nkD b4 (b2.gh.t.lst b3), upd_same, b4, ?_, el8, ?_⟩
                    · rw [← List.append_assoc]
                      exact b5.append (.cons rv .nil)
                    · rw [List.append_assoc]
                      rfl
            · have ej : j = zs.length := by omega
              subst ej
              rw [List.drop_length] at el5
              cases el5
              refine .inl ⟨yj.2 (Nat.le_refl _), ?_⟩
              rw [hW]
              refine ⟨G5, _, acc', ys0 ++ ysa, rest, hlt, rfl, gr5, Pa, hDa5, hDg5, ra5, el3, ?_⟩
              rw [List.append_nil, List.append_assoc]
      · have ei : i = xs.length := by omega
        subst ei
        rw [List.drop_length] at el1
        cases el1
        refine .inl ⟨yi.2 (Nat.le_refl _), ?_⟩
        rw [List.append_nil] at h1
        exact h1 (.ref D) G1 H1 (g0.trans gr) P1.dk (.inl ⟨rfl, D, acc, ys0, rfl, rfl, g0.kt D hD, hDg, hDa, ra⟩)
    · exact h1.elim
end
end CH

set_option Elab.async false
set_option linter.all false
set_option maxRecDepth 100000
set_option maxHeartbeats 4000000
/-! the other forms -/
namespace CH
variable {Z : St0}
open PySem L2 PyProof.Rows
/-! ### subscripts and slices -/
theorem atI_map {vs : List V} {ds : List D} {k : KA Z} {G : Hp} {i : Int} {d : D} (r : Reps k G vs ds) (e : atI ds i = some d) : ∃ v, atI vs i = some v ∧ Rep k G v d := by
  unfold atI at e ⊢
  rw [r.length]
  cases h : ixN ds.length i with
  | none => rw [h] at e; cases e
  | some j =>
    rw [h] at e
    exact r.get.1 d e
theorem cut_rep {vs : List V} {ds : List D} {k : KA Z} {G : Hp} (lo hi : Option Int) (r : Reps k G vs ds) : Reps k G (cutV vs lo hi) (cutL ds lo hi) := by
  unfold cutV cutL
  rw [r.length]
  exact (r.drop _).take _
theorem cut_all {α : Type} {xs : List α} {lo hi : Option Int} (h : HT.sIx xs.length 0 lo = 0 ∧ HT.sIx xs.length xs.length hi = xs.length) : cutL xs lo hi = xs := by
  unfold cutL
  rw [h.1, h.2, List.drop_zero, Nat.sub_zero, List.take_length]
section
variable {X : Cx}
def rIx : R2 := fun x y H Q => ∃ (Z : St0) (k : KA Z), ∃ G s a b d, SameT Z G H ∧ DkAt k s G H ∧ Rep k G x a ∧ Rep k G y b ∧ ixD s a b = some d ∧ Ends1 false k G H d Q
theorem ix_all : IxR X rIx := by
  intro value slice pins s σ H x y v u Q I rx ry h hs
  obtain ⟨Z, k, G, s', a, b, d, g, dk, ra, rb, e, q⟩ := h
  cases ra with
  | deck on =>
    cases rb with
    | int i =>
      obtain ⟨c, d1, d2, d3⟩ := dk.get on
      have e : dkIx s' i = some d := e
      have at4 : ∀ w : V, atI [.ref c, .int s'.pos, .int s'.big, .int s'.cnt] i = some w → Rep k G w d → wpAny (model X.prog X.w) X.A (subscriptTail value slice v u) (EP X pins σ Q) X.xe s := fun w ew rw =>
        ix_list value slice pins s σ H _ _ v u Q I rx ry ⟨_, _, i, w, rfl, rfl, .of d3, ew, q.flat g rw (fun z => by cases z)⟩ hs
      unfold dkIx at e
      split at e
      · rename_i h0; subst h0; cases e; exact at4 (.ref c) rfl (.lst d1 (Reps.of_ints s'.cells))
      · split at e
        · rename_i h0; subst h0; cases e; exact at4 (.int s'.pos) rfl (.int _)
        · split at e
          · rename_i h0; subst h0; cases e; exact at4 (.int s'.big) rfl (.int _)
          · split at e
            · rename_i h0; subst h0; cases e; exact at4 (.int s'.cnt) rfl (.int _)
            · cases e
    | _ => cases e
  | lst h1 r1 =>
    cases rb with
    | int i =>
      obtain ⟨w, ew, rw⟩ := atI_map r1 e
      exact ix_list value slice pins s σ H _ _ v u Q I rx ry ⟨_, _, i, w, rfl, rfl, .of (g _ _ h1), ew, q.flat g rw (fun z => by cases z)⟩ hs
    | _ => cases e
  | tup h1 r1 =>
    cases rb with
    | int i =>
      obtain ⟨w, ew, rw⟩ := atI_map r1 e
      exact ix_tup value slice pins s σ H _ _ v u Q I rx ry ⟨_, _, i, w, rfl, rfl, .of (g _ _ h1), ew, q.flat g rw (fun z => by cases z)⟩ hs
    | _ => cases e
  | _ => cases e
def rSl (x : V) (lo hi : Option Int) (H : Hp) (Q : VK) : Prop := ∃ (Z : St0) (k : KA Z), ∃ G s a d, SameT Z G H ∧ DkAt k s G H ∧ Rep k G x a ∧ slD a lo hi = some d ∧ Ends1 true k G H d Q
theorem sl_all : SlR X rSl := by
  intro pins s σ H x v vl vu lo hi sl Q I rx hs pl pu h
  obtain ⟨Z, k, G, s', a, d, g, dk, ra, e, q⟩ := h
  cases ra with
  | lst h1 r1 =>
    cases e
    exact sl_list pins s σ H _ v vl vu lo hi sl Q I rx hs pl pu ⟨_, _, rfl, .of (g _ _ h1), fun p hp => q.lst rfl g dk (cut_rep lo hi r1) hp⟩
  | tup h1 r1 =>
    rename_i a2 xs ds
    cases e
    refine sl_tupA pins s σ H _ v vl vu lo hi sl Q I rx hs pl pu ⟨_, _, rfl, .of (g _ _ h1), fun hw => ?_, fun _ p hp => q.tup g dk (cut_rep lo hi r1) hp⟩
    rw [r1.length] at hw
    rw [cut_all hw] at q
    exact q.scal g (.tup h1 r1) (fun ds z => by cases z)
  | str z =>
    simp only [slD] at e
    split at e
    · rename_i hz
      cases e
      exact sl_str pins s σ H _ v vl vu lo hi sl Q I rx hs pl pu ⟨_, rfl, hz, q.scal g (.str _) (fun ds z => by cases z)⟩
    · cases e
  | _ => cases e
/-! ### xs[::-1] -/
section
variable {prog : Program} {w : World} {A : Around} {E : Value → Shared → Prop} {s : Shared}
theorem sliceApplied_rev {sl : Addr} {t1 : Tok} {n : Nat} {Q : Int × Int × Nat → Shared → Prop} (hs : s.heap.IsSliceOf sl .none .none (.int (-1) t1))
    (h : Q ((n : Int) - 1, -1, n) s) : wpAny (model prog w) A (Builtin.Slice.sliceApplied (.ref sl) (pure (n : Int))) Q E s := by
  obtain ⟨os, hos, hcs, hds⟩ := id hs
  unfold Builtin.Slice.sliceApplied Builtin.Slice.sliceFields
  refine wpAny_bind (wpAny_bind (wpAny_field hos hds (x := .none) rfl (wpAny_bind (wpAny_field hos hds (x := .none) rfl (wpAny_bind (wpAny_field hos hds (x := .int (-1) t1) rfl (wpAny_pure ?_)))))))
  refine wpAny_bind (HT.slicePart_ (.int (-1) t1) ?_)
  show wpAny _ _ (if ((-1 : Int) == 0) = true then _ else _) _ _ s
  rw [if_neg (by decide)]
  refine wpAny_bind (HT.slicePart_ .none (wpAny_bind (HT.slicePart_ .none (wpAny_bind (wpAny_pure ?_)))))
  show wpAny _ _ (match Builtin.Slice.sliceAdjust none none (-1) (n : Int) with | (lo, hi) => pure (lo, (-1 : Int), Builtin.Slice.slicePlaces lo hi (-1))) _ _ s
  have e1 : Builtin.Slice.sliceAdjust none none (-1) (n : Int) = ((n : Int) - 1, -1) := rfl
  have e2 : Builtin.Slice.slicePlaces ((n : Int) - 1) (-1) (-1) = n := by
    unfold Builtin.Slice.slicePlaces
    rw [if_neg (by decide)]
    split
    · rw [show (-(-1) : Int) = 1 from rfl, Int.ediv_one]; omega
    · omega
  rw [e1]
  show wpAny _ _ (pure ((n : Int) - 1, (-1 : Int), Builtin.Slice.slicePlaces ((n : Int) - 1) (-1) (-1))) _ _ s
  rw [e2]
  exact wpAny_pure h
theorem fm_congr {α β : Type} {f g : α → Option β} : ∀ {l : List α}, (∀ x ∈ l, f x = g x) → l.filterMap f = l.filterMap g
  | [], _ => rfl
  | x :: r, h => by
    rw [List.filterMap_cons, List.filterMap_cons, h x List.mem_cons_self, fm_congr fun y hy => h y (List.mem_cons_of_mem _ hy)]
theorem pick_rev (xs : Array Value) : ((List.range xs.size).filterMap fun (m : Nat) => xs[(((xs.size : Nat) : Int) - 1 + (m : Int) * (-1)).toNat]?).toArray = xs.toList.reverse.toArray := by
  congr 1
  have e : ∀ m ∈ List.range xs.size, xs[(((xs.size : Nat) : Int) - 1 + (m : Int) * (-1)).toNat]? = xs.toList.reverse[m]? := fun m hm => by
    have hm := List.mem_range.mp hm
    have : (((xs.size : Nat) : Int) - 1 + (m : Int) * (-1)).toNat = xs.size - 1 - m := by omega
    rw [this, List.getElem?_reverse (by simpa using hm)]
    simp
  rw [fm_congr e]
  have g : ∀ (l : List Value), (List.range l.length).filterMap (fun m => l[m]?) = l := fun l => by
    induction l with
    | nil => rfl
    | cons x r ih =>
      rw [List.length_cons, List.range_succ_eq_map, List.filterMap_cons]
      simp only [List.getElem?_cons_zero, List.filterMap_map]
      congr 1
  have h := g xs.toList.reverse
  rw [List.length_reverse, Array.length_toList] at h
  exact h
theorem getItem_tuple_rev {t sl : Addr} {items : Array Value} {t1 : Tok} {Q : Value → Shared → Prop} (ht : IsTup s.heap t items) (hs : s.heap.IsSliceOf sl .none .none (.int (-1) t1))
    (h : Q (.ref s.heap.objs.size) { s with heap := s.heap.push { cls := .type "tuple", data := .seq items.toList.reverse.toArray } })
    (hsz : items.size ≤ sizeLine) : wpAny (model prog w) A (getItem (.ref t) (.ref sl)) Q E s := by
  have htake : sizeOk (.seq items.toList.reverse.toArray) := by
    show items.toList.reverse.toArray.size ≤ sizeLine
    rw [List.size_toArray, List.length_reverse, Array.length_toList]
    exact hsz
  obtain ⟨os, hos, hcs, hds⟩ := id hs
  have hTs : s.TypeIs (.ref sl) "slice" := ⟨os, hos, hcs⟩
  unfold getItem
  try with_reducible refine wpAny_holding ?_
  first | refine wpAny_bind (wpAny_pure ?_) | skip
  refine wpAny_bind (wpAny_sequenceKey ht.typeIs (by decide) ?_)
  refine wpAny_bind (wpAny_callSpecial?_slot (name := Str.ofString "__getitem__") ht.typeIs PyProof.Rows.slot_tuple_getitem
    (wpAny_call_entry PyProof.Rows.slot_tuple_getitem ht.typeIs entry_tuple_getitem ?_ (args_tuple_getitem _ _)))
  show wpAny _ _ (Builtin.Tuple.tupleItemsOf (.ref t) >>= _) _ _ s
  refine wpAny_bind (tupleItemsOf_ ht ?_)
  refine wpAny_bind (wpAny_typeOf hTs ?_)
  rw [if_pos (by decide)]
  refine wpAny_bind (sliceApplied_rev hs ?_)
  have hno : ¬ ((((items.size : Nat) : Int) - 1 == 0 && (-1 : Int) == 1 && items.size == items.size) = true) := by simp
  show wpAny _ _ (if (((items.size : Nat) : Int) - 1 == 0 && (-1 : Int) == 1 && items.size == items.size) = true then _ else _) _ _ s
  rw [if_neg hno, pick_rev]
  first
    | exact wpAny_bind (m := Builtin.Tuple.tupleExact _) (wpAny_newObj_type (wpAny_pure ⟨_, rfl, wpAny_pure h⟩) htake)
    | exact wpAny_bind (m := Builtin.Tuple.tupleExact _) (wpAny_newObj_type (wpAny_bind (wpAny_pure (wpAny_pure ⟨_, rfl, wpAny_pure h⟩))) htake)
    | exact wpAny_bind (wpAny_bind (m := Builtin.Tuple.tupleExact _) (wpAny_newObj_type (wpAny_pure (wpAny_pure ⟨_, rfl, wpAny_pure h⟩)) htake))
    | exact wpAny_bind (wpAny_bind (m := Builtin.Tuple.tupleExact _) (wpAny_newObj_type (wpAny_pure ⟨_, rfl, wpAny_pure h⟩) htake))
end
def tRevT (K : PySem.W.Frag) (te : TE) : TE := fun σ H Q => te σ H fun x H1 => ∃ a xs, x = .ref a ∧ SqT K H1 a xs ∧ ∀ p, H1 p = none → Q (.ref p) (upd H1 p (.tup xs.reverse))
/-- x[::-1], x a list or a tuple -/
theorem pe_rev {X : Cx} {e : Expr} {te : TE} {k : Nat} {p1 p2 p3 pos : Pos} (he : PE X e te) : PE X (.Subscript e (.Slice none none (some (.UnaryOp .USub (.Constant (.int 1) k p1) p2)) p3) pos) (fun σ H Q => te σ H fun x H1 => ∃ a xs, x = .ref a ∧ ((SqL X.K H1 a xs ∧ ∀ p, H1 p = none → Q (.ref p) (upd H1 p (.lst xs.reverse))) ∨ (SqT X.K H1 a xs ∧ ∀ p, H1 p = none → Q (.ref p) (upd H1 p (.tup xs.reverse))))) := by
  refine ⟨fun pins s σ H Q I h => ?_⟩
  refine Subscript_ (thn (he.run pins s σ H _ I h) fun v s1 ⟨x, H1, I1, r1, q1⟩ => ?_)
  obtain ⟨a, xs, ex, hx⟩ := q1
  subst ex
  cases r1
  have hst : PO X (some (.UnaryOp .USub (.Constant (.int 1) k p1) p2)) (tPart (tUn (rU fun i => .int (-i)) (tC (.int 1)))) := po_some (pe_un un_neg pe_int)
  refine wpAny_Slice (thn (po_none.run pins s1 σ H1 (fun o H2 => o = none ∧ H2 = H1) I1 ⟨rfl, rfl⟩) fun vl s2 ⟨l, H2, I2, pl, el, e2⟩ => ?_)
  subst el e2
  refine thn (po_none.run pins s2 σ H2 (fun o H3 => o = none ∧ H3 = H2) I2 ⟨rfl, rfl⟩) fun vu s3 ⟨u, H3, I3, pu, eu, e3⟩ => ?_
  subst eu e3
  refine thn (hst.run pins s3 σ H3 (fun o H4 => o = some (-1) ∧ H4 = H3) I3 ⟨1, rfl, -1, rfl, rfl, rfl⟩) fun vs s4 ⟨o, H4, I4, ps, eo, e4⟩ => ?_
  subst eo e4
  have I5 : Inv X pins σ H4 { s4 with heap := s4.heap.push { cls := .type "slice", data := .fields #[vl, vu, vs] } } := I4.kept (t' := s4.toks) fun b ob q => Heap.get?_push_of_some _ q
  rcases hx with ⟨hx, q⟩ | ⟨hx, q⟩
  · obtain ⟨its, r, ht, hz⟩ := I5.list hx
    have hlen := r.length
    show wpAny (model X.prog X.w) X.A (subscriptTail e (.Slice none none (some (.UnaryOp .USub (.Constant (.int 1) k p1) p2)) p3) (.ref a) (.ref s4.heap.objs.size)) (EP X pins σ Q) X.xe { s4 with heap := s4.heap.push { cls := .type "slice", data := .fields #[vl, vu, vs] } }
    refine tail_any (ops := [.ref a, .ref s4.heap.objs.size]) ht.isList.typeIs (PySem.slot_list_getitem.lookup) ?_ (by with_unfolding_all rfl)
    refine wpAny_getItem_list_slice ht.isList (Heap.IsSliceOf.new _ vl vu vs) pl pu ps (by decide) ?_ (by rw [List.size_toArray]; omega)
    rw [PySem.W.krv_pick]
    refine ⟨.ref _, _, I5.laid (t' := s4.toks) (o := .lst xs.reverse) (fun b ob q => Heap.get?_push_of_some _ q) (Nat.le_refl _) ?_, rfl, q _ (I5.hok.fresh (Nat.le_refl _))⟩
    exact ⟨by rw [List.length_reverse]; exact hz, _, 0, r.reverse, Heap.get?_push_size _ rfl⟩
  · obtain ⟨its, r, ht, hz⟩ := I5.tuple hx
    have hlen := r.length
    cases pl
    cases pu
    cases ps
    show wpAny (model X.prog X.w) X.A (subscriptTail e (.Slice none none (some (.UnaryOp .USub (.Constant (.int 1) k p1) p2)) p3) (.ref a) (.ref s4.heap.objs.size)) (EP X pins σ Q) X.xe { s4 with heap := s4.heap.push { cls := .type "slice", data := .fields #[.none, .none, .int (-1) _] } }
    refine tail_any (ops := [.ref a, .ref s4.heap.objs.size]) ht.typeIs (PyProof.Rows.slot_tuple_getitem.lookup) ?_ (by with_unfolding_all rfl)
    refine getItem_tuple_rev ht (Heap.IsSliceOf.new _ _ _ _) ?_ (by rw [List.size_toArray]; omega)
    refine ⟨.ref _, _, I5.laid (t' := s4.toks) (o := .tup xs.reverse) (fun b ob q => Heap.get?_push_of_some _ q) (Nat.le_refl _) ?_, rfl, q _ (I5.hok.fresh (Nat.le_refl _))⟩
    exact ⟨by rw [List.length_reverse]; exact hz, _, r.reverse, _, Heap.get?_push_size _ rfl, rfl, _, rfl⟩
/-! ### unary minus, is None -/
def negD : D → Option D
  | .int i => some (.int (-i))
  | _ => none
theorem un_negD : UnR X (unaryOp .USub) (r1 negD false) := by
  intro pins s σ H x v Q I rx h
  obtain ⟨Z, k, G, s', a, d, g, dk, ra, e, q⟩ := h
  cases ra with
  | int i =>
    cases e
    exact un_neg pins s σ H _ v Q I rx ⟨i, rfl, q.scal g (.int _) (fun ds z => by cases z)⟩
  | _ => cases e
end
section
variable {R : Par Z} {E : XW} {σ : L2.St} {H : Hp} {Q : VK}
theorem rd_neg {p : PX} (h : SEM R E (.neg p) σ H Q) : tUn (r1 negD false) (SEM R E p) σ H Q := by
  obtain ⟨k, G, ρ, s, P, h⟩ := h
  simp only [ev] at h
  refine rd_one (fr := false) P ?_
  cases e : ev R.F p ρ s with
  | no => rw [e] at h; exact h
  | ex x s1 => rw [e] at h; exact h
  | ok d s1 => rw [e] at h; cases d <;> exact h
theorem rep_none {k : KA Z} {G : Hp} {v : V} {d : D} (r : Rep k G v d) : decide (v = .non) = isNoneD d := by
  cases r <;> rfl
theorem rd_isn {p : PX} (h : SEM R E (.isn p) σ H Q) : tIsN (SEM R E p) σ H Q := by
  obtain ⟨k, G, ρ, s, P, h⟩ := h
  simp only [ev] at h
  refine sem_step P h fun x s1 v G1 H1 g1 P1 r1 h1 => ?_
  rw [rep_none r1]
  exact h1 _ G1 H1 g1 P1.dk (.inr ⟨fun z => by simp [PX.freshy] at z, .bl _⟩)
theorem rd_notn {p : PX} (h : SEM R E (.notn p) σ H Q) : tNotN (SEM R E p) σ H Q := by
  obtain ⟨k, G, ρ, s, P, h⟩ := h
  simp only [ev] at h
  refine sem_step P h fun x s1 v G1 H1 g1 P1 r1 h1 => ?_
  rw [rep_none r1]
  exact h1 _ G1 H1 g1 P1.dk (.inr ⟨fun z => by simp [PX.freshy] at z, .bl _⟩)
theorem rd_not {p : PX} (h : SEM R E (.not_ p) σ H Q) : tNotV (SEM R E p) σ H Q := by
  obtain ⟨k, G, ρ, s, P, h⟩ := h
  simp only [ev] at h
  exact sem_truth P h fun b s1 G1 H1 g1 P1 h1 => ⟨b, rfl, h1 _ G1 H1 g1 P1.dk (.inr ⟨fun z => by simp [PX.freshy] at z, .bl _⟩)⟩
theorem sem_here {k : KA Z} {G H : Hp} {ρ : Env0} {s : Dk} {p : PX} {fr : Bool} {G0 H0 : Hp} (P : Pre k G H σ ρ s) (g : Grow k G0 H0 G H) (h : Done R E k G H σ (ev R.F p ρ s) (Want fr k G0 H0 Q)) (hf : fr = false) : SEM R E p σ H Q := by
  refine ⟨k, G, ρ, s, P, h.imp (.refl P.sub) fun d s1 _ w v G' H' g' dk r => ?_⟩
  subst hf
  obtain ⟨G2, g2, dk2, r2⟩ := r.rep g' (fun a e => e) P.dk.there dk
  exact w v G2 H' (g.trans g2) dk2 (.inr ⟨(fun z => by cases z), r2⟩)
theorem rd_and {p q : PX} (h : SEM R E (.and_ p q) σ H Q) : tAndV (SEM R E p) (SEM R E q) σ H Q := by
  obtain ⟨k, G, ρ, s, P, h⟩ := h
  simp only [ev] at h
  refine sem_truth P h fun b s1 G1 H1 g1 P1 h1 => ⟨b, rfl, ?_⟩
  cases b with
  | true =>
    rw [if_pos rfl] at h1
    exact iteT (sem_here P1 g1 h1 rfl)
  | false =>
    rw [if_neg Bool.false_ne_true] at h1
    exact iteF (h1 _ G1 H1 g1 P1.dk (.inr ⟨fun z => by simp [PX.freshy] at z, .bl _⟩))
theorem rd_or {p q : PX} (h : SEM R E (.or_ p q) σ H Q) : tOrV (SEM R E p) (SEM R E q) σ H Q := by
  obtain ⟨k, G, ρ, s, P, h⟩ := h
  simp only [ev] at h
  refine sem_truth P h fun b s1 G1 H1 g1 P1 h1 => ⟨b, rfl, ?_⟩
  cases b with
  | true =>
    rw [if_pos rfl] at h1
    exact iteT (h1 _ G1 H1 g1 P1.dk (.inr ⟨fun z => by simp [PX.freshy] at z, .bl _⟩))
  | false =>
    rw [if_neg Bool.false_ne_true] at h1
    exact iteF (sem_here P1 g1 h1 rfl)
theorem sem_ite {k : KA Z} {G H : Hp} {ρ : Env0} {s : Dk} {p : PX} {fr : Bool} {G0 H0 : Hp} (P : Pre k G H σ ρ s) (g : Grow k G0 H0 G H) (h : Done R E k G H σ (ev R.F p ρ s) (Want fr k G0 H0 Q)) (hf : fr = true → p.freshy = true) : SEM R E p σ H Q := by
  cases fr with
  | false => exact sem_here P g h rfl
  | true =>
    refine ⟨k, G, ρ, s, P, h.imp (.refl P.sub) fun d s1 _ w => ?_⟩
    rw [hf rfl]
    exact Want.back g w
theorem rd_ite {c p q : PX} (h : SEM R E (.ite c p q) σ H Q) : tIf (SEMT R E c) (SEM R E p) (SEM R E q) σ H Q := by
  obtain ⟨k, G, ρ, s, P, h⟩ := h
  have hf : (PX.ite c p q).freshy = (p.freshy && q.freshy) := by simp only [PX.freshy]
  rw [hf] at h
  simp only [ev] at h
  refine semt_step P h fun b s1 G1 H1 g1 P1 h1 => ?_
  cases b with
  | true =>
    rw [if_pos rfl] at h1
    exact iteT (sem_ite P1 g1 h1 fun z => (Bool.and_eq_true _ _ ▸ z).1)
  | false =>
    rw [if_neg Bool.false_ne_true] at h1
    exact iteF (sem_ite P1 g1 h1 fun z => (Bool.and_eq_true _ _ ▸ z).2)
/-! ### tests -/
theorem rt_and {p q : PX} {Q : Bool → Hp → Prop} (h : SEMT R E (.and_ p q) σ H Q) : tAnd (SEMT R E p) (SEMT R E q) σ H Q := by
  obtain ⟨k, G, ρ, s, P, h⟩ := h
  simp only [ev] at h
  have h' : Done R E k G H σ ((truthO (ev R.F p ρ s)).bind fun t s1 => if t = true then truthO (ev R.F q ρ s1) else .ok false s1) fun b s' => ∀ G' H', Grow k G H G' H' → DkAt k s' G' H' → Q b H' := by
    cases e : truthO (ev R.F p ρ s) with
    | no => rw [e] at h; exact h
    | ex x s1 => rw [e] at h; exact h
    | ok t s1 => rw [e] at h; cases t <;> exact h
  refine semt_step P h' fun b s1 G1 H1 g1 P1 h1 => ?_
  cases b with
  | true =>
    rw [if_pos rfl] at h1
    exact iteT ⟨k, G1, ρ, s1, P1, h1.imp (.refl P1.sub) fun b s2 _ w G' H' g' dk => w G' H' (g1.trans g') dk⟩
  | false =>
    rw [if_neg Bool.false_ne_true] at h1
    exact iteF (h1 G1 H1 g1 P1.dk)
theorem rt_or {p q : PX} {Q : Bool → Hp → Prop} (h : SEMT R E (.or_ p q) σ H Q) : tOr (SEMT R E p) (SEMT R E q) σ H Q := by
  obtain ⟨k, G, ρ, s, P, h⟩ := h
  simp only [ev] at h
  have h' : Done R E k G H σ ((truthO (ev R.F p ρ s)).bind fun t s1 => if t = true then .ok true s1 else truthO (ev R.F q ρ s1)) fun b s' => ∀ G' H', Grow k G H G' H' → DkAt k s' G' H' → Q b H' := by
    cases e : truthO (ev R.F p ρ s) with
    | no => rw [e] at h; exact h
    | ex x s1 => rw [e] at h; exact h
    | ok t s1 => rw [e] at h; cases t <;> exact h
  refine semt_step P h' fun b s1 G1 H1 g1 P1 h1 => ?_
  cases b with
  | true =>
    rw [if_pos rfl] at h1
    exact iteT (h1 G1 H1 g1 P1.dk)
  | false =>
    rw [if_neg Bool.false_ne_true] at h1
    exact iteF ⟨k, G1, ρ, s1, P1, h1.imp (.refl P1.sub) fun b s2 _ w G' H' g' dk => w G' H' (g1.trans g') dk⟩
theorem rt_not {p : PX} {Q : Bool → Hp → Prop} (h : SEMT R E (.not_ p) σ H Q) : tNot (SEMT R E p) σ H Q := by
  obtain ⟨k, G, ρ, s, P, h⟩ := h
  simp only [ev] at h
  have h' : Done R E k G H σ ((truthO (ev R.F p ρ s)).bind fun t s1 => .ok (!t) s1) fun b s' => ∀ G' H', Grow k G H G' H' → DkAt k s' G' H' → Q b H' := by
    cases e : truthO (ev R.F p ρ s) with
    | no => rw [e] at h; exact h
    | ex x s1 => rw [e] at h; exact h
    | ok t s1 => rw [e] at h; exact h
  exact semt_step P h' fun b s1 G1 H1 g1 P1 h1 => h1 G1 H1 g1 P1.dk
theorem rd_chain {o1 o2 : CmpOp} {p q r : PX} (h : SEM R E (.chain o1 o2 p q r) σ H Q) : tChain (r2 (cB o1) false) (r2 (cB o2) false) (SEM R E p) (SEM R E q) (SEM R E r) σ H Q := by
  obtain ⟨k, G, ρ, s, P, h⟩ := h
  simp only [ev] at h
  refine sem_step P h fun x s1 v G1 H1 g1 P1 r1 h1 => sem_step P1 h1 fun y s2 w G2 H2 g2 P2 r2' h2 => ?_
  cases e : cmpD o1 x y with
  | none => rw [e] at h2; exact h2.elim
  | some b =>
    rw [e] at h2
    refine ⟨_, k, G2, s2, x, y, .bool b, P2.sub, P2.dk, r1.mono g2.gg, r2', by simp only [cB, e]; rfl, fun v' G' H' g' ek rb => ?_⟩
    have P3 := P2.grow g' (P2.dk.keep g' ek)
    rcases rb with ⟨z, _⟩ | ⟨_, rb⟩
    · cases z
    · cases rb
      refine ⟨b, rfl, ?_⟩
      cases b with
      | false => exact iteF (h2 _ G' H' ((g1.trans g2).trans g') P3.dk (.inr ⟨fun z => by simp [PX.freshy] at z, .bl _⟩))
      | true =>
        refine iteT (sem_step P3 (h2.imp g' fun _ _ _ z => z) fun z s3 u G3 H3 g3 P4 r3 h3 => ?_)
        obtain ⟨d, e4, q4⟩ := h3.of
        exact ⟨_, k, G3, s3, y, z, d, P4.sub, P4.dk, (r2'.mono g'.gg).mono g3.gg, r3, e4, (Want.back (((g1.trans g2).trans g').trans g3) q4).ends P4.dk⟩
def SEMP (R : Par Z) (E : XW) (o : Option PX) : TO := fun σ H Q => ∃ k G ρ s, Pre k G H σ ρ s ∧ Done R E k G H σ (evo R.F o ρ s) fun i s' => ∀ G' H', Grow k G H G' H' → DkAt k s' G' H' → Q i H'
theorem rp_none {Q : Option Int → Hp → Prop} (h : SEMP R E none σ H Q) : tNoPart σ H Q := by
  obtain ⟨k, G, ρ, s, P, h⟩ := h
  exact h G H (.refl P.sub) P.dk
theorem rp_some {p : PX} {Q : Option Int → Hp → Prop} (h : SEMP R E (some p) σ H Q) : tPart (SEM R E p) σ H Q := by
  obtain ⟨k, G, ρ, s, P, h⟩ := h
  simp only [evo] at h
  refine sem_step P h fun x s1 v G1 H1 g1 P1 r1 h1 => ?_
  cases r1 with
  | int i => exact ⟨i, rfl, h1 G1 H1 g1 P1.dk⟩
  | _ => exact h1.elim
theorem semp_step {k : KA Z} {G : Hp} {ρ : Env0} {s : Dk} {α : Type} {o : Option PX} {f : Option Int → Dk → Out α} {K : α → Dk → Prop} {Q : Option Int → Hp → Prop} (P : Pre k G H σ ρ s) (h : Done R E k G H σ ((evo R.F o ρ s).bind f) K)
    (q : ∀ i s1 G1 H1, Grow k G H G1 H1 → Pre k G1 H1 σ ρ s1 → Done R E k G1 H1 σ (f i s1) K → Q i H1) : SEMP R E o σ H Q :=
  ⟨k, G, ρ, s, P, h.bind.imp (.refl P.sub) fun x s1 _ h1 G' H' g dk => q x s1 G' H' g (P.grow g dk) (h1.imp g fun _ _ _ z => z)⟩
theorem rd_rev {K : PySem.W.Frag} {p : PX} (h : SEM R E (.rev p) σ H Q) : SEM R E p σ H fun x H1 => ∃ a xs, x = .ref a ∧ ((SqL K H1 a xs ∧ ∀ p, H1 p = none → Q (.ref p) (upd H1 p (.lst xs.reverse))) ∨ (SqT K H1 a xs ∧ ∀ p, H1 p = none → Q (.ref p) (upd H1 p (.tup xs.reverse)))) := by
  obtain ⟨k, G, ρ, s, P, h⟩ := h
  simp only [ev] at h
  refine sem_step P h fun x s1 v G1 H1 g1 P1 r1 h1 => ?_
  obtain ⟨d, e, q⟩ := h1.of
  have q := (Want.back g1 q).ends P1.dk
  cases r1 with
  | lst h2 r2 =>
    cases e
    exact ⟨_, _, rfl, .inl ⟨.of (P1.sub _ _ h2), fun p hp => q.lst rfl P1.sub P1.dk r2.rev hp⟩⟩
  | tup h2 r2 =>
    cases e
    exact ⟨_, _, rfl, .inr ⟨.of (P1.sub _ _ h2), fun p hp => q.tup P1.sub P1.dk r2.rev hp⟩⟩
  | _ => cases e
theorem rd_sl {p : PX} {lo hi : Option PX} (h : SEM R E (.sl p lo hi) σ H Q) : tSl rSl (SEM R E p) (SEMP R E lo) (SEMP R E hi) σ H Q := by
  obtain ⟨k, G, ρ, s, P, h⟩ := h
  simp only [ev] at h
  refine sem_step P h fun x s1 v G1 H1 g1 P1 r1 h1 => semp_step P1 h1 fun l s2 G2 H2 g2 P2 h2 => semp_step P2 h2 fun u s3 G3 H3 g3 P3 h3 => ?_
  obtain ⟨d, e, q⟩ := h3.of
  exact ⟨_, k, G3, s3, x, d, P3.sub, P3.dk, (r1.mono g2.gg).mono g3.gg, e, (Want.back ((g1.trans g2).trans g3) q).ends P3.dk⟩
end
/-! ### isinstance -/
def rIsiD (t : String) : List V → Hp → VK → Prop := fun xs H Q => ∃ (Z : St0) (k : KA Z), ∃ G s a v b, xs = [v, .ty t] ∧ SameT Z G H ∧ DkAt k s G H ∧ Rep k G v a ∧ isiD t a = some b ∧ Q (.bl b) H
section
variable {X : Cx}
theorem bi_isi {t : String} : CallR X (.builtin "isinstance") (rIsiD t) := by
  intro pins s σ H xs us Q I r h
  obtain ⟨Z, k, G, s', a, v, b, rfl, g, dk, ra, e, q⟩ := h
  have fin : ∀ {T : String} {b' : Bool}, TyX X.K H v (.type T) → kitB T t = some b' → b = b' → wpAny (model X.prog X.w) X.A (call (.builtin "isinstance") us) (EP X pins σ Q) X.xe s := fun {T b'} ty hk eb => by
    subst eb
    exact call_isi pins s σ H _ us Q I r ⟨v, _, .type T, .type t, b, rfl, .ty t, ty, kit_ty hk, q⟩
  have key : t = "int" ∨ t = "bool" ∨ t = "tuple" := by
    unfold isiD at e
    split at e <;> first | exact .inl rfl | exact .inr (.inl rfl) | exact .inr (.inr rfl) | cases e
  cases ra with
  | deck _ => simp [isiD] at e
  | obj _ _ _ _ => simp [isiD] at e
  | exc0 _ _ => simp [isiD] at e
  | exc1 _ _ _ _ _ => simp [isiD] at e
  | non =>
    rcases key with rfl | rfl | rfl <;> (simp [isiD] at e; subst e; exact fin (.base .non) (by decide +kernel) rfl)
  | bl x =>
    rcases key with rfl | rfl | rfl <;> (simp [isiD] at e; subst e; exact fin (.base (.bl x)) (by decide +kernel) rfl)
  | int x =>
    rcases key with rfl | rfl | rfl <;> (simp [isiD] at e; subst e; exact fin (.base (.int x)) (by decide +kernel) rfl)
  | str x =>
    rcases key with rfl | rfl | rfl <;> (simp [isiD] at e; subst e; exact fin (.base (.str x)) (by decide +kernel) rfl)
  | lst h1 r1 =>
    rcases key with rfl | rfl | rfl <;> (simp [isiD] at e; subst e; exact fin (.base (.lst (g _ _ h1))) (by decide +kernel) rfl)
  | tup h1 r1 =>
    rcases key with rfl | rfl | rfl <;> (simp [isiD] at e; subst e; exact fin (.base (.tup (g _ _ h1))) (by decide +kernel) rfl)
end
section
variable {R : Par Z} {E : XW} {σ : L2.St} {H : Hp} {Q : VK}
theorem rd_join {KK : PySem.W.Frag} {p q : PX} (h : SEM R E (.meth .join p [q]) σ H Q) : tM1 (fun x xs H Q => ∃ a p, ∃ ys : List Str, x = .str a ∧ xs = [.ref p] ∧ (SqL KK H p (ys.map V.str) ∨ SqT KK H p (ys.map V.str)) ∧ (ys.map (·.length)).sum + ys.length * a.length ≤ 16777216 ∧ Q (.str (Txt.join a ys)) H) (SEM R E p) (SEM R E q) σ H Q := by
  obtain ⟨k, G, ρ, s, P, h⟩ := h
  simp only [ev, evs] at h
  refine sem_step P h fun x s1 v G1 H1 g1 P1 r1 h1 => ?_
  cases r1 with
  | str y =>
    rw [if_pos (show isStrD (.str y) = true from rfl), bind_bind] at h1
    refine ⟨⟨y, rfl⟩, sem_step P1 h1 fun d s2 w G2 H2 g2 P2 r2 h2 => ?_⟩
    have h2 : Done R E k G2 H2 σ (Out.of (meD .join (.str y) [d]) s2) (Want false k G H Q) := h2
    obtain ⟨d2, e, q2⟩ := h2.of
    cases r2 with
    | lst h3 r3 =>
      simp only [meD] at e
      split at e
      · rename_i ss hs
        split at e
        · rename_i hz
          cases e
          have ex := r3.strs hs
          subst ex
          exact ⟨_, _, ss, rfl, rfl, .inl (.of (P2.sub _ _ h3)), hz, ((Want.back (g1.trans g2) q2).ends P2.dk).scal P2.sub (.str _) (fun ds z => by cases z)⟩
        · cases e
      · cases e
    | _ => cases e
  | _ => rw [if_neg (by simp [isStrD])] at h1; exact h1.elim
theorem rd_split {p q : PX} (h : SEM R E (.meth .split p [q]) σ H Q) : tM1 (fun x xs H Q => ∃ a b, x = .str a ∧ xs = [.str b] ∧ (b.length == 0) = false ∧ a.length + 2 ≤ sizeLine ∧ rNewStrs (Txt.split a b) H Q) (SEM R E p) (SEM R E q) σ H Q := by
  obtain ⟨k, G, ρ, s, P, h⟩ := h
  simp only [ev, evs] at h
  refine sem_step P h fun x s1 v G1 H1 g1 P1 r1 h1 => ?_
  cases r1 with
  | str y =>
    rw [if_pos (show isStrD (.str y) = true from rfl), bind_bind] at h1
    refine ⟨⟨y, rfl⟩, sem_step P1 h1 fun d s2 w G2 H2 g2 P2 r2 h2 => ?_⟩
    have h2 : Done R E k G2 H2 σ (Out.of (meD .split (.str y) [d]) s2) (Want true k G H Q) := h2
    obtain ⟨d2, e, q2⟩ := h2.of
    cases r2 with
    | str z =>
      simp only [meD] at e
      split at e
      · rename_i hz
        cases e
        exact ⟨_, _, rfl, rfl, hz.1, hz.2, fun p hp => ((Want.back (g1.trans g2) q2).ends P2.dk).lst rfl P2.sub P2.dk (Reps.of_strs _) hp⟩
      · cases e
    | _ => cases e
  | _ => rw [if_neg (by simp [isStrD])] at h1; exact h1.elim
theorem rd_isi {t : String} {p : PX} (h : SEM R E (.isi t p) σ H Q) : tCB (rIsiD t) (tCons (SEM R E p) (tCons (tC (.ty t)) tNil)) σ H Q := by
  obtain ⟨k, G, ρ, s, P, h⟩ := h
  simp only [ev] at h
  refine sem_step P h fun x s1 v G1 H1 g1 P1 r1 h1 => ?_
  obtain ⟨d, e, q⟩ := h1.of
  simp only [Option.map_eq_some_iff] at e
  obtain ⟨b, e1, e2⟩ := e
  subst e2
  exact ⟨_, k, G1, s1, x, v, b, rfl, P1.sub, P1.dk, r1, e1, q _ G1 H1 g1 P1.dk (.inr ⟨fun z => by simp [PX.freshy] at z, .bl _⟩)⟩
theorem rd_sortk {f : Addr} {p : PX} (h : SEM R E (.sortk p) σ H Q) : tCKw (rSortk f) (tCons (SEM R E p) tNil) (tCons (tC (.ref f)) tNil) σ H Q := by
  obtain ⟨k, G, ρ, s, P, h⟩ := h
  simp only [ev] at h
  refine sem_step P h fun x s1 v G1 H1 g1 P1 r1 h1 => ?_
  obtain ⟨d, e, q⟩ := h1.of
  exact ⟨_, k, G1, s1, x, d, v, rfl, rfl, P1.sub, P1.dk, r1, e, (Want.back g1 q).ends P1.dk⟩
theorem rd_mink {f : Addr} {p : PX} (h : SEM R E (.mink p) σ H Q) : tCKw (rMink f) (tCons (SEM R E p) tNil) (tCons (tC (.ref f)) (tCons (tC .non) tNil)) σ H Q := by
  obtain ⟨k, G, ρ, s, P, h⟩ := h
  simp only [ev] at h
  refine sem_step P h fun x s1 v G1 H1 g1 P1 r1 h1 => ?_
  obtain ⟨d, e, q⟩ := h1.of
  exact ⟨_, k, G1, s1, x, d, v, rfl, rfl, P1.sub, P1.dk, r1, e, (Want.back g1 q).ends P1.dk⟩
theorem rd_maxd {p q : PX} (h : SEM R E (.bi .maxd [p, q]) σ H Q) : tCKw rMaxd (tCons (SEM R E p) tNil) (tCons (SEM R E q) tNil) σ H Q := by
  obtain ⟨k, G, ρ, s, P, h⟩ := h
  simp only [ev] at h
  have h' : Done R E k G H σ ((ev R.F p ρ s).bind fun x s1 => (ev R.F q ρ s1).bind fun y s2 => .of (biD .maxd [x, y]) s2) (Want false k G H Q) := by
    simp only [evs] at h
    cases e : ev R.F p ρ s with
    | no => rw [e] at h; exact h
    | ex x s1 => rw [e] at h; exact h
    | ok d s1 =>
      rw [e] at h
      simp only [Out.bind] at h ⊢
      cases e2 : ev R.F q ρ s1 with
      | no => rw [e2] at h; exact h
      | ex x s2 => rw [e2] at h; exact h
      | ok d2 s2 => rw [e2] at h; exact h
  refine sem_step P h' fun x s1 v G1 H1 g1 P1 r1 h1 => sem_step P1 h1 fun y s2 w G2 H2 g2 P2 r2' h2 => ?_
  obtain ⟨d, e, q⟩ := h2.of
  exact ⟨_, k, G2, s2, x, y, d, v, w, rfl, rfl, P2.sub, P2.dk, r1.mono g2.gg, r2', e, (Want.back (g1.trans g2) q).ends P2.dk⟩
end
end CH

set_option Elab.async false
set_option linter.all false
set_option maxRecDepth 100000
set_option maxHeartbeats 4000000
/-! defs: what they promise, how they are called -/
namespace CH
variable {Z : St0}
open PySem L2 PyProof.Rows
/-- a def by its number: what its meaning says -/
def spOf (R : Par Z) (i : Nat) : Sp := fun vs H Q E => ∃ k G s ds, SameT Z G H ∧ DkAt k s G H ∧ Reps k G vs ds ∧ Done R (fun _ => E) k G H [] (R.F i ds s) (Want false k G H Q)
/-- a def that keeps its promise where no repr is under way -/
structure FnG (P : Program) (w : World) (K : PySem.W.Frag) (mg : Str → Option Value) (base : Heap) (k : Nat) (f : Addr) (fd : FuncData) (ps : List Str) (sp : Sp) : Prop where
  len : ∀ vs H Q E, sp vs H Q E → vs.length = ps.length
  runs : ∀ (A : Around) (out : List Env) (s : Shared) (H : Hp) (args : Args) (us : List Value) (vs : List V) (Q : VK) (E : XK), Room k A → A.guards = some [] → L2.Env0 P w K mg base A out s H → BindsTo s fd args (ps.zip us) → Vals vs us → sp vs H Q E →
    codeAny (model P w) A (.call (.ref f) args) (CR (L2.CX P w) out P w H s Q E) s
theorem FnG.mono {P : Program} {w : World} {K : PySem.W.Frag} {mg : Str → Option Value} {base : Heap} {j k : Nat} {f : Addr} {fd : FuncData} {ps : List Str} {sp : Sp} (F : FnG P w K mg base j f fd ps sp) (h : j ≤ k) :
    FnG P w K mg base k f fd ps sp := ⟨F.len, fun A out s H args us vs Q E hr hg => F.runs A out s H args us vs Q E (hr.mono h) hg⟩
theorem FnG.imp {P : Program} {w : World} {K : PySem.W.Frag} {mg : Str → Option Value} {base : Heap} {k : Nat} {f : Addr} {fd : FuncData} {ps : List Str} {sp sp' : Sp} (F : FnG P w K mg base k f fd ps sp) (h : ∀ vs H Q E, sp' vs H Q E → sp vs H Q E) :
    FnG P w K mg base k f fd ps sp' := ⟨fun vs H Q E q => F.len vs H Q E (h _ _ _ _ q), fun A out s H args us vs Q E hr hg e0 hb r q => F.runs A out s H args us vs Q E hr hg e0 hb r (h _ _ _ _ q)⟩
/-- by its body -/
theorem fnG_of {P : Program} {w : World} {K : PySem.W.Frag} {mg : Str → Option Value} {base : Heap} {k : Nat} {f : Addr} {x q : Str} {st : Stmt} {fd : FuncData} {N ps : List Str} {sp : Sp} (F : Fun K x q st f fd) (S : FnScope N ps (defScope st))
    (len : ∀ vs H Q E, sp vs H Q E → vs.length = ps.length)
    (hbody : ∀ (A : Around) (out : List Env) (s : Shared) (H : Hp) (vs : List V) (Q : VK) (E : XK), Room k (A.deeper (envOfC q (defScope st) s.heap.objs.size f fd.code)) → A.guards = some [] → sp vs H Q E →
      ∃ t, PSs (cxOf (L2.CX P w) P w K mg base N q (defScope st) f fd.code A out s H E) (defBody st) t ∧ t { nx := fun _ H' => Q .non H', rt := Q } (start N vs) H) :
    FnG P w K mg base (k + 1) f fd ps sp := by
  obtain ⟨c1, c2, kV, doc, pm, an, cd, ct, osl, rfl, lk, hcd⟩ := F.ex
  refine ⟨len, fun A out s H args us vs Q E hr hg e0 hb rv hsp => ?_⟩
  have fit : ∀ b o, K.lookup b = some o → s.heap.get? b = some o := e0.mod.kin.keeps fun b o e => (e0.bs b o e).1
  have nlm : s.heap.NoLimit := e0.mod.nolimit.keeps fun b o e => (e0.bs b o e).1
  have kinds : ∀ y ∈ ps.zip us, (defScope st).names.lookup y.1 = some .local ∨ ((defScope st).names.lookup y.1 = some .cell ∧ ((cellsFrom (s.heap.objs.size + 1) (defScope st).names []).lookup y.1).isSome = true) := by
    rintro ⟨n, v⟩ hy
    cases S.par n (List.of_mem_zip hy).1 with
    | inl q => exact .inl q
    | inr q => exact .inr ⟨q, PySem.W.cellsFrom_some _ _ _ (.inl q)⟩
  refine codeAny_call_function hr.depth (fit _ _ lk) rfl S.co S.gen rfl (PySem.W.codeRec_of (K := K) fit hcd) (hb _ _ _ _ (wpAny_newFunctionEnv_cells S.kind kinds fun env he s1 ic => ?_))
  subst he
  refine ⟨nlm.keeps ic.toInCall.keep, codeAny_func ?_⟩
  obtain ⟨t, ht, hq⟩ := hbody A out s H vs Q E (hr.deeper _) hg hsp
  have I0 : Inv (cxOf (L2.CX P w) P w K mg base N q (defScope st) f cd A out s H E) [] (start N vs) H s1 := inv_start S hr.hd e0 (len _ _ _ _ hsp) rv ic
  refine wpAny_mono (ht.run [] s1 (start N vs) H _ I0 hq) ?_ fun e s' hs => hs
  intro fl s' hs
  have ends : ∀ {τ : L2.St} {H' : Hp} {v : V} {u : Value}, Inv (cxOf (L2.CX P w) P w K mg base N q (defScope st) f cd A out s H E) [] τ H' s' → RelV v u → Q v H' → CE out P w H s Q u s' := by
    intro τ H' v u J r q
    exact ⟨v, H', J.os, J.bare, J.base, J.hok, r, q⟩
  cases fl with
  | next => exact let ⟨_, _, J, q⟩ := hs; ends (v := V.non) (u := Value.none) J rfl q
  | ret u => exact let ⟨_, _, _, J, r, q⟩ := hs; ends J r q
  | brk => exact let ⟨_, _, _, q⟩ := hs; q.elim
  | cont => exact let ⟨_, _, _, q⟩ := hs; q.elim
/-- a def as its callers see it -/
structure Callee (X : Cx) (R : Par Z) (i : Nat) (x : Str) : Prop where
  ex : ∃ f fd ps, FnG X.prog X.w X.K X.mg X.base R.lv f fd ps (spOf R i) ∧ X.mg x = some (.ref f) ∧ PySem.W.keepIn X.K (.ref f) = true ∧ Binds X.K fd ps []
section
variable {X : Cx} {R : Par Z} {i : Nat} {x : Str} {E : XW} {p pos : Pos} {e : Expr} {es : List Expr} {ta : TA}
theorem pe_fnS {j : Nat} {f : Addr} {fd : FuncData} {ps : List Str} {sp : Sp} (F : FnG X.prog X.w X.K X.mg X.base j f fd ps sp) (hr : Room j X.A) (hm : X.mg x = some (.ref f)) (hk : PySem.W.keepIn X.K (.ref f) = true) (hb : Binds X.K fd ps []) (hgu : X.A.guards = some []) (hg : Gl X x) (hx : ∀ σ, PassesAt (L2.CX X.prog X.w) X σ (E σ)) (ha : PA X (e :: es) ta) (hdb : (x == ("__debug__" : Str)) = false)
    (he : starEach (e :: es) X.env = (false, eval e X.env) :: starEach es X.env) (hpl : (backTo pos (starEach es X.env)).any (·.1) = false) : PE X (.Call (.Name x p) (e :: es) [] pos) (tCallS sp E ta) := by
  refine ⟨fun pins s σ H Q I h => wpAny_Call_Name_kw (ld_glob I hg hm ?_ hdb)⟩
  refine PySem.W.callWith_K (h₀ := X.base) I.ok.mod.kin hk (thn (ha.run pos pins s σ H _ I h) ?_) he hpl
  rintro us s1 ⟨vs, H1, I1, rv, q⟩
  refine ⟨I1.kIn, ?_⟩
  have hl : us.length = ps.length := rv.length.symm.trans (F.len _ _ _ _ q)
  have b := hb s1 us I1.kIn (by rw [List.append_nil, hl])
  rw [List.append_nil] at b
  refine wpAny_call (codeAny_mono (F.runs X.A X.stack s1 H1 ⟨us, []⟩ us vs Q (E σ) hr hgu I1.env0 b rv q) fun r s' hq => ?_)
  match r, hq with
  | .error ex, hq => exact hx σ pins H1 s1 ex s' I1 hq
  | .ok (.ret u), hq => exact I1.after hq
  | .ok .next, hq => exact hq.elim
  | .ok .brk, hq => exact hq.elim
  | .ok .cont, hq => exact hq.elim
theorem pe_fn (C : Callee X R i x) (hr : Room R.lv X.A) (hgu : X.A.guards = some []) (hg : Gl X x) (hx : ∀ σ, PassesAt (L2.CX X.prog X.w) X σ (E σ)) (ha : PA X (e :: es) ta) (hdb : (x == ("__debug__" : Str)) = false)
    (he : starEach (e :: es) X.env = (false, eval e X.env) :: starEach es X.env) (hpl : (backTo pos (starEach es X.env)).any (·.1) = false) : PE X (.Call (.Name x p) (e :: es) [] pos) (tCallS (spOf R i) E ta) := by
  obtain ⟨f, fd, ps, F, hm, hk, hb⟩ := C.ex
  exact pe_fnS F hr hm hk hb hgu hg hx ha hdb he hpl
theorem rd_call {σ : L2.St} {H : Hp} {Q : VK} {qs : List PX} (h : SEM R E (.call i qs) σ H Q) : tCallS (spOf R i) E (SEMA R E qs) σ H Q := by
  obtain ⟨k, G, ρ, s, P, h⟩ := h
  simp only [ev] at h
  refine sema_step P h fun xs s1 vs G1 H1 g1 P1 r1 h1 => ?_
  refine ⟨k, G1, s1, xs, P1.sub, P1.dk, r1, ?_⟩
  cases e : R.F i xs s1 with
  | no => rw [e] at h1; exact h1.elim
  | ex z s2 => rw [e] at h1; exact h1
  | ok d s2 => rw [e] at h1; exact Want.back g1 h1
end
end CH

set_option Elab.async false
set_option linter.all false
set_option maxRecDepth 100000
set_option maxHeartbeats 4000000
/-! objects: fields, methods, properties, how they are made -/
namespace CH
open PySem L2 PyProof.Rows
variable {Z : St0}
theorem getF_rep {k : KA Z} {G : Hp} {f : Str} : ∀ {vs : List (Str × V)} {fs : List (D × D)} {d : D}, Repf k G vs fs → getF f fs = some d → ∃ v, vs.lookup f = some v ∧ Rep k G v d
  | _, _, d, .nil, e => by cases e
  | _, _, d, .cons (f := g) h r, e => by
    unfold getF at e
    rw [List.lookup_cons]
    by_cases z : f = g
    · rw [if_pos z] at e
      cases e
      rw [beq_iff_eq.mpr z]
      exact ⟨_, rfl, h⟩
    · rw [if_neg z] at e
      rw [beq_eq_false_iff_ne.mpr z]
      exact getF_rep r e
/-- what is known of the program's own classes -/
structure ClsOk (Z : St0) (K : PySem.W.Frag) (flds : List Str) : Prop where
  cl : ∀ c C, Z.cls c = some C → Cls K C
  no : ∀ c C f, Z.cls c = some C → f ∈ flds → NoAttr K C f
section
variable {X : Cx} {R : Par Z} {E : XW} {σ : L2.St} {H : Hp} {Q : VK}
theorem rd_fld {flds : List Str} {p : PX} {f : Str} (A : ClsOk Z X.K flds) (hf : f ∈ flds) (h : SEM R E (.fld p f) σ H Q) : tFld X.K (SEM R E p) f σ H Q := by
  obtain ⟨k, G, ρ, s, P, h⟩ := h
  simp only [ev] at h
  refine sem_step P h fun x s1 v G1 H1 g1 P1 r1 h1 => ?_
  obtain ⟨d, e, q⟩ := h1.of
  cases r1 with
  | obj ha hx hc rf =>
    obtain ⟨w, e1, rw⟩ := getF_rep rf e
    exact ⟨_, _, _, _, w, rfl, P1.sub _ _ ha, A.cl _ _ hc, A.no _ _ f hc hf, e1, q w G1 H1 g1 P1.dk (.inr ⟨fun z => by simp [PX.freshy] at z, rw⟩)⟩
  | deck _ => cases e
  | _ => cases e
/-! ### calls of methods -/
theorem run_g {j : Nat} {f : Addr} {fd : FuncData} {ps : List Str} {sp : Sp} {E1 : XK} {pins : List (Addr × Obj)} {s : Shared} {us : List Value} {vs : List V} (F : FnG X.prog X.w X.K X.mg X.base j f fd ps sp) (hr : Room j X.A) (hb : Binds X.K fd ps []) (hgu : X.A.guards = some []) (hx : PassesAt (L2.CX X.prog X.w) X σ E1)
    (I : Inv X pins σ H s) (rv : Vals vs us) (q : sp vs H Q E1) : wpAny (model X.prog X.w) X.A (call (.ref f) us) (EP X pins σ Q) X.xe s := by
  have hl : us.length = ps.length := rv.length.symm.trans (F.len _ _ _ _ q)
  have b := hb s us I.kIn (by rw [List.append_nil, hl])
  rw [List.append_nil] at b
  refine wpAny_call (codeAny_mono (F.runs X.A X.stack s H ⟨us, []⟩ us vs Q E1 hr hgu I.env0 b rv q) fun r s' hq => ?_)
  match r, hq with
  | .error ex, hq => exact hx pins H s ex s' I hq
  | .ok (.ret u), hq => exact I.after hq
  | .ok .next, hq => exact hq.elim
  | .ok .brk, hq => exact hq.elim
  | .ok .cont, hq => exact hq.elim
def tMethG (C : Addr) (m : Str) (sp : Sp) (E : XW) (ta : TE) (t : TA) : TE := fun σ H Q => ta σ H fun x H1 => ∃ a dx fs, x = .ref a ∧ H1 a = some (.ins C dx fs) ∧ fs.lookup m = none ∧ t σ H1 fun vs H2 => sp (x :: vs) H2 Q (E σ)
theorem meth_tree {o : Expr} {m : Str} {apos pos : Pos} {args : List Expr} {env : Env} (hb : attributeBase o m env (eval o env) = eval o env) (hf : methodCallForm (args.length + ([] : List Keyword).length) (backTo pos (starEach args env)) (backToKw pos (keywordEach [] env)) = true) (hl : (apos.endLine == pos.line) = true) :
    eval (.Call (.Attribute o m apos) args [] pos) env = (do
      let ov ← eval o env
      standAt apos.atName
      let (f, first) ← holding [ov] (getMethod ov m (plainOf o env))
      callWith pos f first (backTo pos (starEach args env)) (backToKw pos (keywordEach [] env))) :=
  mcall_of hb fun _ => mcall_line hf hl
theorem pe_methG {o e : Expr} {es : List Expr} {m : Str} {apos pos : Pos} {C f : Addr} {j : Nat} {fd : FuncData} {ps : List Str} {sp : Sp} {ta : TE} {t : TA} (ho : PE X o ta) (c : Cls X.K C) (hm : Meth X.K C m f) (F : FnG X.prog X.w X.K X.mg X.base j f fd ps sp) (hr : Room j X.A) (hb : Binds X.K fd ps [])
    (hgu : X.A.guards = some []) (hx : ∀ σ, PassesAt (L2.CX X.prog X.w) X σ (E σ)) (ha : PA X (e :: es) t) (hst : starEach (e :: es) X.env = (false, eval e X.env) :: starEach es X.env) (hpl : (backTo pos (starEach es X.env)).any (·.1) = false)
    (hbase : attributeBase o m X.env (eval o X.env) = eval o X.env) (hf : methodCallForm ((e :: es).length + ([] : List Keyword).length) (backTo pos (starEach (e :: es) X.env)) (backToKw pos (keywordEach [] X.env)) = true) (hl : (apos.endLine == pos.line) = true) :
    PE X (.Call (.Attribute o m apos) (e :: es) [] pos) (tMethG C m sp E ta t) := by
  refine ⟨fun pins s σ H Q I h => ?_⟩
  refine PySem.W.methodCall_KW (pl := plainOf o X.env) (thn (ho.run pins s σ H _ I h) fun u s1 ⟨x, H1, I1, rx, a, dx, fs, ex, ea, l, q⟩ => ?_) (meth_tree hbase hf hl)
  subst ex
  obtain rfl : u = Value.ref a := rx
  refine getmeth_ok I1 ea c hm l ?_
  refine PySem.W.callWith_K (first := [.ref a]) (h₀ := X.base) I.ok.mod.kin hm.kp (thn (ha.run pos pins s1 σ H1 _ I1 q) fun us s2 ⟨vs, H2, I2, r, q2⟩ => ⟨I2.kIn, ?_⟩) hst hpl
  exact run_g (us := .ref a :: us) (vs := .ref a :: vs) F hr hb hgu (hx σ) I2 (.cons rfl r) q2
theorem pe_methG0 {o : Expr} {m : Str} {apos pos : Pos} {C f : Addr} {j : Nat} {fd : FuncData} {ps : List Str} {sp : Sp} {ta : TE} (ho : PE X o ta) (c : Cls X.K C) (hm : Meth X.K C m f) (F : FnG X.prog X.w X.K X.mg X.base j f fd ps sp) (hr : Room j X.A) (hb : Binds X.K fd ps [])
    (hgu : X.A.guards = some []) (hx : ∀ σ, PassesAt (L2.CX X.prog X.w) X σ (E σ)) (hbase : attributeBase o m X.env (eval o X.env) = eval o X.env) (hl : (apos.endLine == pos.line) = true) :
    PE X (.Call (.Attribute o m apos) [] [] pos) (tMethG C m sp E ta tNil) := by
  refine ⟨fun pins s σ H Q I h => ?_⟩
  refine PySem.W.methodCall_KW (pl := plainOf o X.env) (thn (ho.run pins s σ H _ I h) fun u s1 ⟨x, H1, I1, rx, a, dx, fs, ex, ea, l, q⟩ => ?_) (meth_tree (args := []) hbase rfl hl)
  subst ex
  obtain rfl : u = Value.ref a := rx
  refine getmeth_ok I1 ea c hm l ?_
  exact PySem.W.callWith_K0 (first := [.ref a]) I1.kIn hm.kp (run_g (us := [.ref a]) (vs := [.ref a]) F hr hb hgu (hx σ) I1 (.cons rfl .nil) q)
theorem lookup_none {k : KA Z} {G : Hp} {m : Str} : ∀ {vs : List (Str × V)} {fs : List (D × D)}, Repf k G vs fs → getF m fs = none → vs.lookup m = none
  | _, _, .nil, _ => rfl
  | _, _, .cons (f := g) h r, e => by
    unfold getF at e
    rw [List.lookup_cons]
    by_cases z : m = g
    · rw [if_pos z] at e; cases e
    · rw [if_neg z] at e
      rw [beq_eq_false_iff_ne.mpr z]
      exact lookup_none r e
/-- the readings: with arguments, without -/
theorem isMeth_rep {k : KA Z} {G : Hp} {c m : Str} {v : V} {x : D} (r : Rep k G v x) (h : isMeth c m x = true) : ∃ a dx C vs, v = .ref a ∧ G a = some (.ins C dx vs) ∧ Z.cls c = some C ∧ vs.lookup m = none := by
  cases r with
  | obj ha hx hc rf =>
    simp only [isMeth, Bool.and_eq_true, decide_eq_true_eq, Option.isNone_iff_eq_none] at h
    obtain ⟨rfl, h2⟩ := h
    exact ⟨_, _, _, _, rfl, ha, hc, lookup_none rf h2⟩
  | _ => cases h
theorem rd_pcall {c m : Str} {i : Nat} {p : PX} {qs : List PX} {C : Addr} (hC : Z.cls c = some C) (h : SEM R E (.pcall c m i p qs) σ H Q) : tMethG C m (spOf R i) E (SEM R E p) (SEMA R E qs) σ H Q := by
  obtain ⟨k, G, ρ, s, P, h⟩ := h
  simp only [ev] at h
  refine sem_step P h fun x s1 v G1 H1 g1 P1 r1 h1 => ?_
  split at h1
  · rename_i hm
    obtain ⟨a, dx, C', vs, rfl, ha, hc, hl⟩ := isMeth_rep r1 hm
    rw [hC] at hc
    cases hc
    refine ⟨a, dx, vs, rfl, P1.sub _ _ ha, hl, ?_⟩
    refine sema_step P1 h1 fun ds s2 ws G2 H2 g2 P2 r2 h2 => ?_
    refine ⟨k, G2, s2, x :: ds, P2.sub, P2.dk, .cons (r1.mono g2.gg) r2, ?_⟩
    cases e : R.F i (x :: ds) s2 with
    | no => rw [e] at h2; exact h2.elim
    | ex z s3 => rw [e] at h2; exact h2
    | ok d s3 => rw [e] at h2; exact Want.back (g1.trans g2) h2
  · exact h1.elim
theorem rd_pcall0 {c m : Str} {i : Nat} {p : PX} {C : Addr} (hC : Z.cls c = some C) (h : SEM R E (.pcall c m i p []) σ H Q) : tMethG C m (spOf R i) E (SEM R E p) tNil σ H Q := by
  have z := rd_pcall hC h
  obtain ⟨k, G, ρ, s, P, z⟩ := z
  refine ⟨k, G, ρ, s, P, z.imp (.refl P.sub) fun d s' _ w v G' H' g dk r => ?_⟩
  obtain ⟨a, dx, fs, ex, ea, l, q⟩ := w v G' H' g dk r
  exact ⟨a, dx, fs, ex, ea, l, rd_nil q⟩
/-! ### properties -/
theorem no_cx {prog : Program} {w : World} {st : List Env} {H1 : Hp} {s : Shared} {e : Value} {s' : Shared} (h : L2.CX prog w st H1 s (fun _ _ _ => False) e s') : False := by
  obtain ⟨_, _, _, _, _, _, _, _, _, _, _, _, z⟩ := h
  exact z
def tPropG (C : Addr) (sp : Sp) (ta : TE) : TE := fun σ H Q => ta σ H fun x H1 => ∃ a dx fs, x = .ref a ∧ H1 a = some (.ins C dx fs) ∧ sp [.ref a] H1 Q fun _ _ _ => False
theorem pe_propG {o : Expr} {f : Str} {pos : Pos} {C p g : Addr} {j : Nat} {fd : FuncData} {ps : List Str} {sp : Sp} {ta : TE} (ho : PE X o ta) (c : Cls X.K C) (hp : PropOf X.K C f p g) (F : FnG X.prog X.w X.K X.mg X.base j g fd ps sp) (hr : Room (j + 1) X.A) (hb : Binds X.K fd ps []) (hgu : X.A.guards = some [])
    (hbase : attributeBase o f X.env (eval o X.env) = eval o X.env) : PE X (.Attribute o f pos) (tPropG C sp ta) := by
  refine ⟨fun pins s σ H Q I h => attr_of hbase (thn (ho.run pins s σ H _ I h) fun u s1 ⟨x, H1, I1, rx, a, dx, fs, ex, ea, q⟩ => ?_)⟩
  subst ex
  obtain rfl : u = Value.ref a := rx
  obtain ⟨mA, O, _⟩ := ins_get I1.hok ea
  obtain ⟨od, J, _⟩ := O.look
  obtain ⟨rest, hrec⟩ := hp.rec_
  have lc : (PySem.W.clsIn X.K C).isSome = true := (PySem.W.any_some c.hd).elim fun cd z => by rw [z.1]; rfl
  have J1 := I1.tok (s1.toks + 1)
  have l1 : ([Value.ref a] ++ []).length = ps.length := F.len _ _ _ _ q
  have bb := hb { s1 with toks := s1.toks + 1 } [.ref a] J1.kIn l1
  refine PySem.W.get_bind I1.kIn J (PySem.W.plainGet_of (c.get f)).1 (PySem.W.findObj_data lc hp.at_ hp.get hp.tak) (PySem.W.plainGet_of (c.get f)).2 (wpAny_call (PySem.W.prop_get (s := { s1 with toks := s1.toks + 1 }) I1.kIn hrec ?_))
  have run := F.runs X.A.in1 X.stack { s1 with toks := s1.toks + 1 } H1 ⟨[.ref a], []⟩ [.ref a] [.ref a] Q (fun _ _ _ => False) hr.in1 hgu J1.env0.in1 (by simpa using bb) (.cons rfl .nil) q
  refine codeAny_mono run fun r s' hq => ?_
  match r, hq with
  | .error er, hq => exact (no_cx hq).elim
  | .ok (.ret u), hq =>
    obtain ⟨v, H', I3, rv, q3⟩ := J1.after hq
    show wpAny _ _ (handedOut u) _ _ _
    rw [PySem.W.handedOut_of (handed_of rv)]
    exact wpAny_pure ⟨v, H', I3, rv, q3⟩
  | .ok .next, hq => exact hq.elim
  | .ok .brk, hq => exact hq.elim
  | .ok .cont, hq => exact hq.elim
theorem isObj_rep {k : KA Z} {G : Hp} {c : Str} {v : V} {x : D} (r : Rep k G v x) (h : isObj c x = true) : ∃ a dx C vs, v = .ref a ∧ G a = some (.ins C dx vs) ∧ Z.cls c = some C := by
  cases r with
  | obj ha hx hc rf =>
    simp only [isObj, decide_eq_true_eq] at h
    subst h
    exact ⟨_, _, _, _, rfl, ha, hc⟩
  | _ => cases h
theorem rd_prop {c : Str} {i : Nat} {p : PX} {C : Addr} (hC : Z.cls c = some C) (h : SEM R E (.prop c i p) σ H Q) : tPropG C (spOf R i) (SEM R E p) σ H Q := by
  obtain ⟨k, G, ρ, s, P, h⟩ := h
  simp only [ev] at h
  refine sem_step P h fun x s1 v G1 H1 g1 P1 r1 h1 => ?_
  split at h1
  · rename_i hm
    obtain ⟨a, dx, C', vs, rfl, ha, hc⟩ := isObj_rep r1 hm
    rw [hC] at hc
    cases hc
    refine ⟨a, dx, vs, rfl, P1.sub _ _ ha, k, G1, s1, [x], P1.sub, P1.dk, .cons r1 .nil, ?_⟩
    cases e : R.F i [x] s1 with
    | no => rw [e] at h1; exact h1.elim
    | ex z s3 => rw [e] at h1; exact h1.elim
    | ok d s3 => rw [e] at h1; exact Want.back g1 h1
  · exact h1.elim
/-! ### how they are made -/
/-- an __init__: the new instance stands at a, its dict at dx -/
def spIniO (R : Par Z) (c : Str) (i : Nat) : Sp := fun vs H Q E => ∃ (k : KA Z), ∃ G H0 s ds us a dx C, vs = .ref a :: us ∧ H0 a = none ∧ H0 dx = none ∧ dx ≠ a ∧ H = upd (upd H0 dx (.own a)) a (.ins C dx []) ∧ Z.cls c = some C ∧ SameT Z G H0 ∧ DkAt k s G H0 ∧ Reps k G us ds ∧
  Done R (fun _ => E) k G H0 [] (R.F i ds s) fun d s' => ∀ G' H', Grow k G H0 G' H' → DkAt k s' G' H' → Rep k G' (.ref a) d → Q .non H'
def tMakeG (C : Addr) (sp : Sp) (E : XW) (t : TA) : TE := fun σ H Q => t σ H fun vs H1 => ∀ x dx, H1 x = none → H1 dx = none → dx ≠ x →
  sp (.ref x :: vs) (upd (upd H1 dx (.own x)) x (.ins C dx [])) (fun v H2 => v = .non ∧ Q (.ref x) H2) (E σ)
theorem make_guards {A : Around} {C : Addr} {us : List Value} {kw : List (Str × Value)} : (A.under (.builtin "type.__call__" ⟨.ref C :: us, kw⟩)).guards = A.guards := by
  first | rfl | simp [Around.under, Code.weight, Code.isCreation, Code.isGuard, Code.isCaller, Code.frames, Code.isFrame, guardIds]
theorem run_makeG {C f : Addr} {j : Nat} {fd : FuncData} {ps : List Str} {sp : Sp} {E1 : XK} {pins : List (Addr × Obj)} {s : Shared} {us : List Value} {vs : List V} (M : Mk X.K C f) (F : FnG X.prog X.w X.K X.mg X.base j f fd ps sp) (hr : Room (j + 1) X.A) (hb : Binds X.K fd ps []) (hgu : X.A.guards = some [])
    (hx : PassesAt (L2.CX X.prog X.w) X σ E1) (I : Inv X pins σ H s) (rv : Vals vs us)
    (h : ∀ x dx, H x = none → H dx = none → dx ≠ x → sp (.ref x :: vs) (upd (upd H dx (.own x)) x (.ins C dx [])) (fun v H2 => v = .non ∧ Q (.ref x) H2) E1) : wpAny (model X.prog X.w) X.A (call (.ref C) us) (EP X pins σ Q) X.xe s := by
  obtain ⟨n, hn⟩ : ∃ n, n = s.heap.objs.size := ⟨_, rfl⟩
  have q := h (s.heap.objs.size + 1) s.heap.objs.size (I.hok.fresh (Nat.le_succ _)) (I.hok.fresh (Nat.le_refl _)) (Nat.ne_of_lt (Nat.lt_succ_self _))
  have J := Inv.made (C := C) I
  have rv2 : Vals (.ref (s.heap.objs.size + 1) :: vs) (.ref (s.heap.objs.size + 1) :: us) := .cons rfl rv
  have l1 : (Value.ref (s.heap.objs.size + 1) :: us).length = ps.length := rv2.length.symm.trans (F.len _ _ _ _ q)
  have bb := hb _ (.ref (s.heap.objs.size + 1) :: us) J.kIn (by rw [List.append_nil]; exact l1)
  rw [List.append_nil] at bb
  refine wpAny_call (make_map (f := f) I.kIn M.makes M.init (beq_iff_eq.mp M.fn) ?_)
  refine codeAny_mono (F.runs _ X.stack _ _ ⟨.ref (s.heap.objs.size + 1) :: us, []⟩ (.ref (s.heap.objs.size + 1) :: us) _ _ E1 (hr.make C us []) (make_guards.trans hgu) (J.env0.make C us []) bb rv2 q) fun r s' hq => ?_
  match r, hq with
  | .error ex, hq => exact hx pins _ _ ex s' J hq
  | .ok (.ret u), hq =>
    obtain ⟨v, H', I3, ru, ev, q3⟩ := J.after hq
    subst ev
    exact ⟨ru, .ref (s.heap.objs.size + 1), H', I3, rfl, q3⟩
  | .ok .next, hq => exact hq.elim
  | .ok .brk, hq => exact hq.elim
  | .ok .cont, hq => exact hq.elim
theorem pe_makeG {x : Str} {e : Expr} {es : List Expr} {p pos : Pos} {C f : Addr} {j : Nat} {fd : FuncData} {ps : List Str} {sp : Sp} {t : TA} (M : Mk X.K C f) (F : FnG X.prog X.w X.K X.mg X.base j f fd ps sp) (hr : Room (j + 1) X.A) (hb : Binds X.K fd ps []) (hgu : X.A.guards = some [])
    (hx : ∀ σ, PassesAt (L2.CX X.prog X.w) X σ (E σ)) (hg : Gl X x) (hm : X.mg x = some (.ref C)) (ha : PA X (e :: es) t) (hdb : (x == ("__debug__" : Str)) = false) (hst : starEach (e :: es) X.env = (false, eval e X.env) :: starEach es X.env) (hpl : (backTo pos (starEach es X.env)).any (·.1) = false) :
    PE X (.Call (.Name x p) (e :: es) [] pos) (tMakeG C sp E t) := by
  refine ⟨fun pins s σ H Q I h => wpAny_Call_Name_kw (ld_glob I hg hm ?_ hdb)⟩
  refine PySem.W.callWith_K (h₀ := X.base) I.ok.mod.kin M.kp (thn (ha.run pos pins s σ H _ I h) ?_) hst hpl
  rintro us s1 ⟨vs, H1, I1, rv, q⟩
  exact ⟨I1.kIn, run_makeG M F hr hb hgu (hx σ) I1 rv q⟩
theorem rd_new {c : Str} {i : Nat} {qs : List PX} {C : Addr} (hC : Z.cls c = some C) (h : SEM R E (.new c i qs) σ H Q) : tMakeG C (spIniO R c i) E (SEMA R E qs) σ H Q := by
  obtain ⟨k, G, ρ, s, P, h⟩ := h
  simp only [ev] at h
  refine sema_step P h fun xs s1 vs G1 H1 g1 P1 r1 h1 => fun x dx nx nd ne => ?_
  refine ⟨k, G1, H1, s1, xs, vs, x, dx, C, rfl, nx, nd, ne, rfl, hC, P1.sub, P1.dk, r1, ?_⟩
  cases e : R.F i xs s1 with
  | no => rw [e] at h1; exact h1.elim
  | ex z s2 => rw [e] at h1; exact h1
  | ok d s2 =>
    rw [e] at h1
    exact fun G' H' g' dk' r' => ⟨rfl, h1 _ G' H' (g1.trans g') dk' (.inr ⟨fun z => by simp [PX.freshy] at z, r'⟩)⟩
end
end CH

set_option Elab.async false
set_option linter.all false
set_option maxRecDepth 100000
set_option maxHeartbeats 4000000
/-! lambdas with one parameter: how they are made, how they are called -/
namespace CH
open PySem PySem.Spec L2 PyProof.Rows LamX NdefX
variable {Z : St0}
/-- a lambda: its words, the cells that it captured, its code object -/
structure LF where
  qual : Str
  params : Arguments
  body : Expr
  scope : Scope
  cl : List (Str × Addr)
  c : Addr
abbrev LF.nf (F : LF) : NF := ⟨"<lambda>", F.qual, F.params, [], F.scope, F.cl, F.c⟩
abbrev LF.obj (F : LF) (pm ctv : Value) : Obj := PySem.W.kla_obj "<lambda>" F.qual F.params F.body F.scope F.cl pm F.c ctv
/-- the object at f is this lambda -/
def LamO (f : Addr) (F : LF) : HO := .ext fun h => ∃ pm ctv : Value, h.get? f = some (F.obj pm ctv)
theorem lamO_tbl {f : Addr} {F : LF} (ps : Array Value) : LamO f F ≠ .tbl ps := fun z => by
  unfold LamO at z
  cases z
theorem codeO_tbl {c : Addr} {q : Str} (ps : Array Value) : CodeO c q ≠ .tbl ps := fun z => by
  unfold CodeO at z
  cases z
section
variable {X : Cx} {pins : List (Addr × Obj)} {σ : L2.St} {H : Hp} {s : Shared}
theorem lam_at {P : Program} {w : World} {h : Heap} {f : Addr} {F : LF} (ok : HOk P w H h) (e : H f = some (LamO f F)) : ∃ pm ctv : Value, h.get? f = some (F.obj pm ctv) := (ok f _ e).1
/-- a lambda's object, just made, is known -/
theorem lam_known {F : LF} {pm ctv : Value} {t' : Nat} (I : Inv X pins σ H s) : Inv X pins σ (upd H s.heap.objs.size (LamO s.heap.objs.size F)) { s with heap := s.heap.push (F.obj pm ctv), toks := t' } := by
  have here : (s.heap.push (F.obj pm ctv)).get? s.heap.objs.size = some (F.obj pm ctv) := Heap.get?_push_size _ rfl
  exact I.laid (a := s.heap.objs.size) (fun b u e => Heap.get?_push_of_some _ e) (Nat.le_refl _) ⟨⟨pm, ctv, here⟩, ⟨_, here⟩, fun h1 h2 ⟨p, c, z⟩ st => ⟨p, c, st _ z⟩⟩
/-- what the making of a lambda leaves -/
structure LamGrow (Z : St0) (H H1 : Hp) : Prop where
  fr : ∀ b o, (∀ ps, o ≠ .tbl ps) → H b = some o → H1 b = some o
  kt : ∀ b, H1 b = none → H b = none
  tb : TabOk Z H1
def tLamG (Z : St0) (mk : Addr → LF) : TE := fun σ H Q => TabOk Z H ∧ ∀ f c' H1, LamGrow Z H H1 → H f = none → H1 f = some (LamO f (mk c')) → H1 c' = some (CodeO c' (mk c').qual) → Q (.ref f) H1
/-- what is known of the def that makes a lambda: its code object, the table -/
structure LamAt (Z : St0) (X : Cx) : Prop where
  ex : ∃ c P, X.env.code = .ref c ∧ TabB X.base X.mg c P ∧ (P, X.env.qual ++ "<lambda>") ∈ Z.tabs ∧ ∀ p ∈ Z.tabs, p.1 = P → p.2 = X.env.qual ++ "<lambda>"
theorem pe_lam {params : Arguments} {body : Expr} {scope : Scope} {pos : Pos} (A : LamAt Z X) (hdef : defaultsOf params X.env = ([], [])) (hfree : ∀ y ∈ scope.names, y.2 = .free → X.env.scope.names.lookup y.1 = some .cell ∨ X.env.scope.names.lookup y.1 = some .free) :
    PE X (.Lambda params body scope pos) (tLamG Z fun c' => ⟨X.env.qual ++ "<lambda>", params, body, scope, cloFrom X.env.cells scope.names [], c'⟩) := by
  refine ⟨fun pins s σ H Q I h => ?_⟩
  obtain ⟨c, P, hcode, TB, hm, hu⟩ := A.ex
  obtain ⟨hT, h⟩ := h
  have hcl : ∀ y ∈ scope.names, y.2 = .free → ∃ a, X.env.cells.lookup y.1 = some a := fun y hy e => (hfree y hy e).elim (fun z => I.ok.has _ (.inl z)) fun z => I.ok.has _ (.inr z)
  obtain ⟨ps, hP, tri, told⟩ := hT _ hm
  have onP : s.heap.get? P = some { cls := .none, data := .fields ps } := I.hok P _ hP
  have bP : s.heap.BuiltinsAt X.mg P := TB.bm.keeps I.bk
  refine PySem.W.kla_eval hdef ?_
  cases hc : codeAmong pos ps.toList with
  | some cv =>
    obtain ⟨c', e, hco⟩ := told pos cv hc
    subst e
    refine PySem.W.kla_makeFunctionHit (mg := X.mg) (c := c) (P := P) (ps := ps) (closure_ok hcl) I.ok.glob (I.mod.glob.keeps I.bk) hcode (TB.code.keeps I.bk) onP tri hc bP fun ctv h' tk kept hz => ?_
    have I1 : Inv X pins σ H { s with heap := h', toks := tk } := I.kept kept
    have nf : H h'.objs.size = none := I1.hok.fresh (Nat.le_refl _)
    have I2 := lam_known (F := ⟨X.env.qual ++ "<lambda>", params, body, scope, cloFrom X.env.cells scope.names [], c'⟩) (pm := (X.mg "__name__").getD .none) (ctv := ctv) (t' := tk) I1
    refine ⟨.ref h'.objs.size, _, I2, rfl, h _ c' _ ⟨fun b o _ e => ?_, fun b e => upd_none e, hT.new nf⟩ nf upd_same ?_⟩
    · rw [upd_ne (ne_of_none e nf)]; exact e
    · rw [upd_ne (ne_of_none hco nf)]; exact hco
  | none =>
    refine PySem.W.kla_makeFunction (mg := X.mg) (c := c) (P := P) (ps := ps) (closure_ok hcl) I.ok.glob (I.mod.glob.keeps I.bk) hcode (TB.code.keeps I.bk) onP tri hc TB.gP bP fun c' ctv h' tk keep new lt rec_ tab => ?_
    obtain ⟨c2, oc, vs, t, e2, g1, g2, g3⟩ := rec_
    cases e2
    have nc : H c' = none := I.hok.fresh new
    have I1 := inv_table (q := X.env.qual ++ "<lambda>") (t' := tk) (more := #[rawInt pos.line, rawInt pos.col, .ref c']) (h' := h') I hP (fun b o ne e => keep b o ne e) tab new ⟨oc, vs, t, g1, g2, g3⟩
    have nf := I1.hok.fresh (Nat.le_refl _)
    have nf1 := upd_none nf
    have nf0 : H h'.objs.size = none := upd_none nf1
    have I2 := lam_known (F := ⟨X.env.qual ++ "<lambda>", params, body, scope, cloFrom X.env.cells scope.names [], c'⟩) (pm := (X.mg "__name__").getD .none) (ctv := ctv) (t' := tk) I1
    have stay : ∀ b o, (∀ ps, o ≠ .tbl ps) → H b = some o → upd (upd (upd H P (.tbl (ps ++ #[rawInt pos.line, rawInt pos.col, .ref c']))) c' (CodeO c' (X.env.qual ++ "<lambda>"))) h'.objs.size (LamO h'.objs.size ⟨X.env.qual ++ "<lambda>", params, body, scope, cloFrom X.env.cells scope.names [], c'⟩) b = some o := fun b o n e => by
      rw [upd_ne (ne_of_none e nf0), upd_ne (ne_of_none e nc), upd_ne (fun z => by rw [z, hP] at e; exact n ps (Option.some.inj e).symm)]
      exact e
    have cat : upd (upd (upd H P (.tbl (ps ++ #[rawInt pos.line, rawInt pos.col, .ref c']))) c' (CodeO c' (X.env.qual ++ "<lambda>"))) h'.objs.size (LamO h'.objs.size ⟨X.env.qual ++ "<lambda>", params, body, scope, cloFrom X.env.cells scope.names [], c'⟩) c' = some (CodeO c' (X.env.qual ++ "<lambda>")) := by
      rw [upd_ne (Nat.ne_of_lt lt)]; exact upd_same
    have lst : (ps ++ #[rawInt pos.line, rawInt pos.col, .ref c']).toList = ps.toList ++ [rawInt pos.line, rawInt pos.col, .ref c'] := by simp
    refine ⟨.ref h'.objs.size, _, I2, rfl, h _ c' _ ⟨stay, fun b e => upd_none (upd_none (upd_none e)), fun p hp => ?_⟩ nf0 upd_same cat⟩
    by_cases hb : p.1 = P
    · rw [hu p hp hb, hb]
      refine ⟨ps ++ #[rawInt pos.line, rawInt pos.col, .ref c'], ?_, by rw [lst]; exact PySem.TriplesOk_snoc _ _ _ _ tri, fun p' cv hcv => ?_⟩
      · rw [upd_ne (fun z => by rw [← z, hP] at nf0; cases nf0), upd_ne (ne_of_none hP nc), upd_same]
      · rw [lst] at hcv
        rcases among_app _ tri hcv with z | z
        · obtain ⟨c0, e1, e2⟩ := told p' cv z
          exact ⟨c0, e1, stay _ _ codeO_tbl e2⟩
        · exact ⟨c', z, cat⟩
    · obtain ⟨ps', a1, a2, a3⟩ := hT p hp
      refine ⟨ps', ?_, a2, fun p' cv hcv => ?_⟩
      · rw [upd_ne (ne_of_none a1 nf0), upd_ne (ne_of_none a1 nc), upd_ne hb]; exact a1
      · obtain ⟨c0, e1, e2⟩ := a3 p' cv hcv
        exact ⟨c0, e1, stay _ _ codeO_tbl e2⟩
/-- the captured cells hold still what they held when the running frame began -/
theorem cells_later {cl : List (Str × Addr)} {fr : List Str} {ws : List (Option V)} (C : CellsAt cl fr ws X.s_0.heap X.H_0) (hx : X.ex = []) (I : Inv X pins σ H s) : CellsAt cl fr ws s.heap H := by
  have nx : ∀ b : Addr, b ∉ X.ex := fun b => by rw [hx]; exact List.not_mem_nil
  have kp : ∀ c v, X.H_0 c = none → X.s_0.heap.IsCell c v → s.heap.IsCell c v := fun c v n ⟨o, ho, hd⟩ => by
    obtain ⟨sl, z⟩ := I.base.any ho n (nx c)
    exact ⟨_, z, hd⟩
  refine ⟨C.len, fun y c e => ?_, C.inj, fun i y e => ?_⟩
  · obtain ⟨n, v, z⟩ := C.all y c e
    have z2 := z
    obtain ⟨o, ho, _⟩ := z2
    exact ⟨I.base.free c o ho n (nx c), v, kp c v n z⟩
  · obtain ⟨c, hc, hv⟩ := C.has i y e
    exact ⟨c, hc, fun v ev => let ⟨u, r, z⟩ := hv v ev; ⟨u, r, kp c _ (C.all y c hc).1 z⟩⟩
end
/-! ### the call of a lambda -/
/-- what a lambda does: its body's reading, at its parameter and what it captured -/
structure LamOk (P : Program) (w : World) (K : PySem.W.Frag) (mg : Str → Option Value) (base : Heap) (j : Nat) (F : LF) (N fr : List Str) (p : Str) (tb : TE) : Prop where
  mono : ∀ (σ : L2.St) (H : Hp) (Q Q' : VK), (∀ v H', Q v H' → Q' v H') → tb σ H Q → tb σ H Q'
  sc : NScope N [p] fr F.scope
  bind : ∀ (pm ctv : Value) (u : Value), bindArgs (PySem.W.kla_fn "<lambda>" F.qual F.params F.body F.scope F.cl pm (.ref F.c) ctv) ⟨[u], []⟩ = pure [(p, u)]
  body : ∀ (A : Around) (outer : List Env) (s : Shared) (H : Hp) (f : Addr), Room j (A.deeper (envF F.nf f s.heap.objs.size)) → A.guards = some [] → PE (ncx (L2.CX P w) P w K mg base N F.nf f A outer s H fun _ _ _ => False) F.body tb
section
variable {Y : Cx} {F : LF} {N fr : List Str} {p : Str} {tb : TE} {j : Nat} {ws : List (Option V)}
theorem pe_actG {a : Str} {e : Expr} {t : TA} {i : Nat} {p1 p2 : Pos} (L : LamOk Y.prog Y.w Y.K Y.mg Y.base j F N fr p tb) (C : CellsAt F.cl fr ws Y.s_0.heap Y.H_0) (hex : Y.ex = []) (hr : Room (j + 1) Y.A) (hgu : Y.A.guards = some []) (hN : Y.N[i]? = some a) (hv : Vis Y.env.scope a) (ha : PA Y [e] t)
    (hd : (a == ("__debug__" : Str)) = false) (hcd : (a == ("__classdict__" : Str)) = false) (hst : starEach [e] Y.env = (false, eval e Y.env) :: starEach [] Y.env) :
    PE Y (.Call (.Name a p1) [e] [] p2) (fun σ H Q => ∃ f, σ[i]? = some (some (.ref f)) ∧ H f = some (LamO f F) ∧ t σ H fun vs H1 => ∃ v, vs = [v] ∧ H1 f = some (LamO f F) ∧ H1 F.c = some (CodeO F.c F.qual) ∧ tb (startF N [v] ws) H1 Q) := by
  refine ⟨fun pins s σ H Q I h => ?_⟩
  obtain ⟨f, hs, hf, ht⟩ := h
  refine wpAny_Call_Name_kw (thn ((pe_var (pos := p1) hN hv hd hcd).run pins s σ H (fun v H1 => v = .ref f ∧ H1 = H) I ⟨.ref f, hs, rfl, rfl⟩) fun u s1 ⟨v, H1, I1, r1, q1⟩ => ?_)
  obtain ⟨ev, eH⟩ := q1
  subst ev
  rw [eH] at I1
  obtain rfl : u = Value.ref f := r1
  have fnat : ∀ {s' : Shared} {H' : Hp}, Inv Y pins σ H' s' → H' f = some (LamO f F) → PySem.W.FnAt f s'.heap := fun J e => by
    obtain ⟨pm, ctv, z⟩ := lam_at J.hok e
    exact ⟨_, _, _, _, z⟩
  refine PySem.W.callWith_F (first := []) (fnat I1 hf) (thn (ha.run p2 pins s1 σ H _ I1 ht) ?_) hst rfl
  rintro us s2 ⟨vs, H2, I2, rv, v, rfl, h1, h2, hb⟩
  refine ⟨fnat I2 h1, ?_⟩
  obtain ⟨u, rfl, ru⟩ := Vals.one rv
  show wpAny _ _ (call (.ref f) [u]) _ _ _
  obtain ⟨pm, ctv, ho⟩ := lam_at I2.hok h1
  have e0 := I2.env0
  have Cn := cells_later C hex I2
  have run : codeAny (model Y.prog Y.w) Y.A (.call (.ref f) ⟨[u], []⟩) (CR (L2.CX Y.prog Y.w) Y.stack Y.prog Y.w H2 s2 Q fun _ _ _ => False) s2 := by
    refine PySem.W.kla_callFunE hr.depth ho rfl L.sc.co L.sc.gen rfl (codeO_at e0.hok h2) ?_
    rw [L.bind pm ctv u]
    refine wpAny_pure (wpAny_newFunctionEnv L.sc.nocell (fun y hy => L.sc.par _ (by rw [List.mem_singleton.mp hy]; exact List.mem_cons_self)) (fun h₁ hns hsb => ⟨I2.nolimit.fresh _ hsb, ?_⟩) L.sc.kind)
    show codeAny _ _ (.expr F.body (envF F.nf f s2.heap.objs.size)) _ _
    have kp : ∀ b o, s2.heap.get? b = some o → h₁.get? b = some o := fun b o e => hsb.extBut b o (Nat.ne_of_lt (Heap.lt_size e)) (Heap.get?_push_of_some _ e)
    have J := inv_startN (CX := L2.CX Y.prog Y.w) (E := fun _ _ _ => False) (F := F.nf) (f := f) (tk := s2.toks + 1) L.sc hr.hd e0 (vs := [v]) (us := [u]) rfl (.cons ru .nil) Cn hns kp
    refine PySem.W.kla_codeExpr (wpAny_mono ((L.body Y.A Y.stack s2 H2 f (hr.deeper _) hgu).run [] _ _ H2 Q J hb) (fun u' s' hq => ?_) fun e s' hq => hq)
    obtain ⟨w', H', J', rv', q⟩ := hq
    exact ⟨w', H', J'.os, J'.bare, J'.base, J'.hok, rv', q⟩
  refine wpAny_call (codeAny_mono run fun r s' hq => ?_)
  match r, hq with
  | .error ex, hq => exact (no_cx hq).elim
  | .ok (.ret u), hq => exact I2.after hq
  | .ok .next, hq => exact hq.elim
  | .ok .brk, hq => exact hq.elim
  | .ok .cont, hq => exact hq.elim
end
end CH

set_option Elab.async false
set_option linter.all false
set_option maxRecDepth 100000
set_option maxHeartbeats 4000000
/-! last_that(lo, hi, lambda m: ..) -/
namespace CH
open PySem PySem.Spec L2 PyProof.Rows LamX NdefX
variable {Z : St0}
/-- a def called, its body told of the very state -/
theorem run_here {P : Program} {w : World} {K : PySem.W.Frag} {mg : Str → Option Value} {base : Heap} {k : Nat} {f : Addr} {x q : Str} {st : Stmt} {fd : FuncData} {N ps : List Str} (F : Fun K x q st f fd) (S : FnScope N ps (defScope st)) {A : Around} {out : List Env} {s : Shared} {H : Hp} {args : Args} {us : List Value} {vs : List V} {Q : VK} {E : XK}
    (hr : Room (k + 1) A) (e0 : L2.Env0 P w K mg base A out s H) (hb : BindsTo s fd args (ps.zip us)) (rv : Vals vs us) (hl : vs.length = ps.length)
    (hbody : ∀ cd : Value, Room k (A.deeper (envOfC q (defScope st) s.heap.objs.size f cd)) → ∃ t, PSs (cxOf (L2.CX P w) P w K mg base N q (defScope st) f cd A out s H E) (defBody st) t ∧ t { nx := fun _ H' => Q .non H', rt := Q } (start N vs) H) :
    codeAny (model P w) A (.call (.ref f) args) (CR (L2.CX P w) out P w H s Q E) s := by
  obtain ⟨c1, c2, kV, doc, pm, an, cd, ct, osl, rfl, lk, hcd⟩ := F.ex
  have fit : ∀ b o, K.lookup b = some o → s.heap.get? b = some o := e0.mod.kin.keeps fun b o e => (e0.bs b o e).1
  have nlm : s.heap.NoLimit := e0.mod.nolimit.keeps fun b o e => (e0.bs b o e).1
  have kinds : ∀ y ∈ ps.zip us, (defScope st).names.lookup y.1 = some .local ∨ ((defScope st).names.lookup y.1 = some .cell ∧ ((cellsFrom (s.heap.objs.size + 1) (defScope st).names []).lookup y.1).isSome = true) := by
    rintro ⟨n, v⟩ hy
    cases S.par n (List.of_mem_zip hy).1 with
    | inl q => exact .inl q
    | inr q => exact .inr ⟨q, PySem.W.cellsFrom_some _ _ _ (.inl q)⟩
  refine codeAny_call_function hr.depth (fit _ _ lk) rfl S.co S.gen rfl (PySem.W.codeRec_of (K := K) fit hcd) (hb _ _ _ _ (wpAny_newFunctionEnv_cells S.kind kinds fun env he s1 ic => ?_))
  subst he
  refine ⟨nlm.keeps ic.toInCall.keep, codeAny_func ?_⟩
  obtain ⟨t, ht, hq⟩ := hbody cd (hr.deeper _)
  have I0 : Inv (cxOf (L2.CX P w) P w K mg base N q (defScope st) f cd A out s H E) [] (start N vs) H s1 := inv_start S hr.hd e0 hl rv ic
  refine wpAny_mono (ht.run [] s1 (start N vs) H _ I0 hq) ?_ fun e s' hs => hs
  intro fl s' hs
  have ends : ∀ {τ : L2.St} {H' : Hp} {v : V} {u : Value}, Inv (cxOf (L2.CX P w) P w K mg base N q (defScope st) f cd A out s H E) [] τ H' s' → RelV v u → Q v H' → CE out P w H s Q u s' := by
    intro τ H' v u J r q
    exact ⟨v, H', J.os, J.bare, J.base, J.hok, r, q⟩
  cases fl with
  | next => exact let ⟨_, _, J, q⟩ := hs; ends (v := V.non) (u := Value.none) J rfl q
  | ret u => exact let ⟨_, _, _, J, r, q⟩ := hs; ends J r q
  | brk => exact let ⟨_, _, _, q⟩ := hs; q.elim
  | cont => exact let ⟨_, _, _, q⟩ := hs; q.elim
/-- last_that as it is written -/
def lastBody (p : Nat → Pos) (i j l : Nat) : List Stmt := [
  .While (.Compare (.BinOp (.Name "high" (p 0)) .Sub (.Name "low" (p 1)) (p 2)) [.Gt] [.Constant (.int 1) i (p 3)] (p 4)) [
    .Assign [.Name "middle" (p 5)] (.BinOp (.BinOp (.Name "low" (p 6)) .Add (.Name "high" (p 7)) (p 8)) .FloorDiv (.Constant (.int 2) j (p 9)) (p 10)) (p 11),
    .If (.Call (.Name "holds" (p 12)) [.Name "middle" (p 13)] [] (p 14)) [.Assign [.Name "low" (p 15)] (.Name "middle" (p 16)) (p 17)] [.Assign [.Name "high" (p 18)] (.Name "middle" (p 19)) (p 20)] (p 21)] [] (p 22),
  .Return (some (.Name "low" (p 23))) (p 24)]
abbrev lastN : List Str := ["low", "high", "holds", "middle"]
structure LastIn (K : PySem.W.Frag) (mg : Str → Option Value) : Prop where
  ex : ∃ (st : Stmt) (g : Addr) (fd : FuncData) (p : Nat → Pos) (i j l : Nat), Fun K "last_that" "last_that" st g fd ∧ mg ("last_that" : Str) = some (.ref g) ∧ Binds K fd ["low", "high", "holds"] [] ∧ FnScope lastN ["low", "high", "holds"] (defScope st) ∧ defBody st = lastBody p i j l
    ∧ (∀ x ∈ lastN, (defScope st).names.lookup x = some .local)
/-- the search: the lambda's reading tb at the middle, again and again -/
def tSearch (F : LF) (f : Addr) (tb : V → Hp → VK → Prop) (Q : VK) (lo hi : Int) (H : Hp) : Prop := ∃ W : Nat → Int → Int → Hp → Prop, (∃ n, W n lo hi H) ∧ ∀ n lo hi H, W n lo hi H → H f = some (LamO f F) ∧ H F.c = some (CodeO F.c F.qual) ∧
  if hi - lo > 1 then tb (.int ((lo + hi) / 2)) H fun v H' => ∃ b, v = .bl b ∧ ∃ m, m < n ∧ W m (if b = true then (lo + hi) / 2 else lo) (if b = true then hi else (lo + hi) / 2) H' else Q (.int lo) H
def tLastG (Z : St0) (mk : Addr → LF) (N : List Str) (js : List Nat) (tb : TE) (ta tc : TE) : TE := fun σ H Q => ta σ H fun x H1 => tc σ H1 fun y H2 => tLamG Z mk σ H2 fun z H3 =>
  ∃ lo hi f c', x = .int lo ∧ y = .int hi ∧ z = .ref f ∧ H3 f = some (LamO f (mk c')) ∧ H3 c' = some (CodeO c' (mk c').qual) ∧ (mk c').c = c' ∧ tSearch (mk c') f (fun v H Q => tb (startF N [v] (js.map (slotAt σ))) H Q) Q lo hi H3
section
variable {X : Cx} {N fr : List Str} {p : Str} {tb ta tc : TE} {j : Nat} {js : List Nat}
theorem pe_lastG {ea eb : Expr} {params : Arguments} {body : Expr} {scope : Scope} {lp np pos : Pos} (La : LastIn X.K X.mg) (A : LamAt Z X) (hdef : defaultsOf params X.env = ([], [])) (hfree : ∀ y ∈ scope.names, y.2 = .free → X.env.scope.names.lookup y.1 = some .cell ∨ X.env.scope.names.lookup y.1 = some .free)
    (hfr : ∀ y ∈ fr, (y, NameKind.free) ∈ scope.names) (hjs : js.map (fun j => X.N[j]?) = fr.map some)
    (L : ∀ c', LamOk X.prog X.w X.K X.mg X.base j ⟨X.env.qual ++ "<lambda>", params, body, scope, cloFrom X.env.cells scope.names [], c'⟩ N fr p tb) (hr : Room (j + 3) X.A) (hgu : X.A.guards = some []) (hg : Gl X ("last_that" : Str))
    (ha : PE X ea ta) (hc : PE X eb tc) (hsa : ∀ es, starEach (ea :: es) X.env = (false, eval ea X.env) :: starEach es X.env) (hsb : ∀ es, starEach (eb :: es) X.env = (false, eval eb X.env) :: starEach es X.env) :
    PE X (.Call (.Name "last_that" np) [ea, eb, .Lambda params body scope lp] [] pos) (tLastG Z (fun c' => ⟨X.env.qual ++ "<lambda>", params, body, scope, cloFrom X.env.cells scope.names [], c'⟩) N js tb ta tc) := by
  obtain ⟨st, g, fd, ps, i1, i2, i3, Fn, hm, hb, S, hbd, hloc⟩ := La.ex
  refine ⟨fun pins s σ H Q I h => wpAny_Call_Name_kw (ld_glob I hg hm ?_ (by decide +kernel))⟩
  have hargs : PA X [ea, eb, .Lambda params body scope lp] _ := pa_cons ha (pa_cons hc (pa_cons (pe_lam A hdef hfree) pa_nil rfl) (hsb _)) (hsa _)
  refine PySem.W.callWith_K (h₀ := X.base) I.ok.mod.kin Fn.kp (thn (hargs.run pos pins s σ H (fun vs H3 => match vs with
    | [x, y, z] => ∃ lo hi f c', x = .int lo ∧ y = .int hi ∧ z = .ref f ∧ H3 f = some (LamO f ⟨X.env.qual ++ "<lambda>", params, body, scope, cloFrom X.env.cells scope.names [], c'⟩) ∧ H3 c' = some (CodeO c' (X.env.qual ++ "<lambda>")) ∧ c' = c' ∧
      tSearch ⟨X.env.qual ++ "<lambda>", params, body, scope, cloFrom X.env.cells scope.names [], c'⟩ f (fun v H Q => tb (startF N [v] (js.map (slotAt σ))) H Q) Q lo hi H3
    | _ => False) I h) ?_) (hsa _) (by rw [hsb]; rfl)
  rintro us s1 ⟨vs, H1, I1, rv, hP⟩
  match vs, hP with
  | [_, _, _], ⟨lo, hi, f, c', rfl, rfl, rfl, hf, hco, _, W, ⟨n0, hW⟩, turn⟩ =>
    refine ⟨I1.kIn, ?_⟩
    have C := cells_of I1 (Caps.made (scope := scope) I1.ok hfree hfr hjs)
    have hl : us.length = 3 := rv.length.symm
    have bb := hb s1 us I1.kIn (by rw [List.append_nil]; exact hl)
    rw [List.append_nil] at bb
    have loc : ∀ x ∈ lastN, Vis (defScope st) x := fun x hx => .inl (hloc x hx)
    have run := run_here (k := j + 2) (Q := Q) (E := fun _ _ _ => False) Fn S hr I1.env0 bb rv rfl fun cd hr' => ?_
    · refine wpAny_call (codeAny_mono run fun r s' hq => ?_)
      match r, hq with
      | .error ex, hq => exact (no_cx hq).elim
      | .ok (.ret u), hq => exact I1.after hq
      | .ok .next, hq => exact hq.elim
      | .ok .brk, hq => exact hq.elim
      | .ok .cont, hq => exact hq.elim
    · rw [hbd]
      have v0 : ∀ p, PE (cxOf (L2.CX X.prog X.w) X.prog X.w X.K X.mg X.base lastN "last_that" (defScope st) g cd X.A X.stack s1 H1 fun _ _ _ => False) (.Name "low" p) (tVar 0) := fun p => pe_var rfl (loc _ (by decide +kernel)) (by decide +kernel) (by decide +kernel)
      have v1 : ∀ p, PE (cxOf (L2.CX X.prog X.w) X.prog X.w X.K X.mg X.base lastN "last_that" (defScope st) g cd X.A X.stack s1 H1 fun _ _ _ => False) (.Name "high" p) (tVar 1) := fun p => pe_var rfl (loc _ (by decide +kernel)) (by decide +kernel) (by decide +kernel)
      have v3 : ∀ p, PE (cxOf (L2.CX X.prog X.w) X.prog X.w X.K X.mg X.base lastN "last_that" (defScope st) g cd X.A X.stack s1 H1 fun _ _ _ => False) (.Name "middle" p) (tVar 3) := fun p => pe_var rfl (loc _ (by decide +kernel)) (by decide +kernel) (by decide +kernel)
      refine ⟨_, pss_cons (ps_while (passes_of rfl) (pt_cmpR op_gt (pe_op op_sub (v1 _) (v0 _)) pe_int rfl)
        (pss_cons (ps_set (i := 3) S.nd rfl (.inl (hloc _ (by decide +kernel))) (pe_op op_fdiv (pe_op op_add (v0 _) (v1 _)) pe_int) rfl (.inr (hloc _ (by decide +kernel))))
          (pss_one (ps_if (pt_val (pe_actG (i := 2) (L c') C rfl (hr'.mono (by omega)) hgu rfl (loc _ (by decide +kernel)) (pa_cons (v3 _) pa_nil rfl) (by decide +kernel) (by decide +kernel) rfl))
            (pss_one (ps_set (i := 0) S.nd rfl (.inl (hloc _ (by decide +kernel))) (v3 _) rfl (.inr (hloc _ (by decide +kernel)))))
            (pss_one (ps_set (i := 1) S.nd rfl (.inl (hloc _ (by decide +kernel))) (v3 _) rfl (.inr (hloc _ (by decide +kernel)))))))))
        (pss_one (ps_ret (v0 _))), ?_⟩
      refine ⟨fun n σ' H' => ∃ lo hi m, σ' = [some (.int lo), some (.int hi), some (.ref f), m] ∧ W n lo hi H', ⟨n0, lo, hi, none, rfl, hW⟩, ?_⟩
      rintro n σ' H' ⟨lo', hi', m, rfl, hw⟩
      obtain ⟨t1, t2, t3⟩ := turn n lo' hi' H' hw
      refine ⟨_, rfl, _, rfl, _, _, rfl, rfl, _, _, rfl, rfl, _, rfl, ?_⟩
      by_cases hgt : hi' - lo' > 1
      · rw [if_pos hgt] at t3
        rw [decide_eq_true hgt]
        refine iteT ⟨fun σ2 H2 => ∃ m', m' < n ∧ ∃ lo hi m, σ2 = [some (.int lo), some (.int hi), some (.ref f), m] ∧ W m' lo hi H2, fun σ2 H2 ⟨m', h1, h2⟩ => ⟨m', h1, h2⟩, ?_⟩
        refine ⟨_, rfl, _, rfl, _, _, rfl, rfl, _, _, rfl, rfl, ⟨by decide, by decide⟩, ?_⟩
        refine ⟨f, rfl, t1, _, rfl, _, rfl, t1, t2, ?_⟩
        refine (L c').mono _ _ _ _ (fun v H2 ⟨b, e, m', hm', w⟩ => ⟨b, e, ?_⟩) t3
        cases b with
        | true => exact iteT ⟨_, rfl, m', hm', _, _, _, rfl, w⟩
        | false => exact iteF ⟨_, rfl, m', hm', _, _, _, rfl, w⟩
      · rw [if_neg hgt] at t3
        rw [decide_eq_false hgt]
        exact iteF ⟨_, rfl, t3⟩
end
section
variable {R : Par Z} {E : XW} {σ : L2.St} {H : Hp} {Q Q' : VK}
theorem sem_mono {E : XW} {p : PX} (h : SEM R E p σ H Q) (q : ∀ v H', Q v H' → Q' v H') : SEM R E p σ H Q' := by
  obtain ⟨k, G, ρ, s, P, h⟩ := h
  exact ⟨k, G, ρ, s, P, h.imp (.refl P.sub) fun d s' _ w v G' H' g dk r => q _ _ (w v G' H' g dk r)⟩
theorem LamGrow.grow {k : KA Z} {G H H1 : Hp} {s : Dk} (g : SameT Z G H) (dk : DkAt k s G H) (l : LamGrow Z H H1) : Grow k G H G H1 ∧ DkAt k s G H1 := by
  have gr : Grow k G H G H1 := ⟨Same.refl _, ⟨fun b o e => l.fr b o (fun ps z => g.n b ps (by rw [e, z])) (g b o e), l.tb, g.n⟩, fun a o _ n e => l.fr a o n e, fun _ _ e => .inl e, l.kt, fun c r e => ⟨r, l.fr _ _ (fun _ z => nomatch z) e⟩⟩
  refine ⟨gr, ?_⟩
  obtain ⟨h0, ⟨o, c, h1, h2⟩ | ⟨o, ⟨u, t⟩, ps, h2⟩⟩ := dk
  · exact ⟨h0, .inl ⟨o, c, h1, l.fr _ _ (fun _ z => nomatch z) h2⟩⟩
  · obtain ⟨ps', q, _⟩ := l.tb _ t
    exact ⟨h0, .inr ⟨o, ⟨u, t⟩, ps', q⟩⟩
theorem lam_pre {k : KA Z} {G H : Hp} {ρ : Env0} {s : Dk} {js : List Nat} {N : List Str} {m : Int} (P : Pre k G H σ ρ s) (hN : N.length = js.length + 1) : Pre k G H (startF N [.int m] (js.map (slotAt σ))) (lamEnv ρ js m) s := by
  refine ⟨P.sub, P.dk, fun i d e => ?_, ?_⟩
  · unfold startF
    cases i with
    | zero =>
      cases e
      exact ⟨.int m, rfl, .int m⟩
    | succ i =>
      have e : (js.map fun j => (ρ[j]?).getD none)[i]? = some (some d) := e
      rw [List.getElem?_map] at e
      cases ej : js[i]? with
      | none => rw [ej] at e; cases e
      | some j =>
        rw [ej, Option.map_some] at e
        have hρ : ρ[j]? = some (some d) := by
          have e := Option.some.inj e
          cases q : ρ[j]? with
          | none => rw [q] at e; cases e
          | some x => rw [q] at e; exact congrArg some e
        obtain ⟨v, h1, h2⟩ := P.env j d hρ
        refine ⟨v, ?_, h2⟩
        show (js.map (slotAt σ) ++ _)[i]? = _
        rw [List.getElem?_append_left (by rw [List.length_map]; exact (List.getElem?_eq_some_iff.mp ej).1), List.getElem?_map, ej, Option.map_some, slotAt_of h1]
  · unfold lamEnv startF
    simp only [List.length_cons, List.length_map, List.length_append, List.length_replicate, List.length_nil]
    omega
theorem rd_last {mk : Addr → LF} (hmk : ∀ c', (mk c').c = c') {N : List Str} {js : List Nat} {pa pb e : PX} (hN : N.length = js.length + 1) (h : SEM R E (.last pa pb js e) σ H Q) : tLastG Z mk N js (SEM R E0 e) (SEM R E pa) (SEM R E pb) σ H Q := by
  obtain ⟨k, G, ρ, s, P, h⟩ := h
  simp only [ev] at h
  refine sem_step P h fun x s1 v G1 H1 g1 P1 r1 h1 => sem_step P1 h1 fun y s2 w G2 H2 g2 P2 r2 h2 => ⟨P2.sub.t, fun f c' H3 lg nf hf hco => ?_⟩
  cases r1 with
  | int i =>
    cases r2 with
    | int j =>
      generalize hT : (fun (m : Int) (s : Dk) => truthO (ev R.F e (lamEnv ρ js m) s)) = T at h2
      cases el : lastLoop T 400 i j s2 with
      | no => simp only [el, Out.still, Out.bind] at h2; exact h2.elim
      | ex x s3 => simp only [el, Out.still, Out.bind] at h2; exact h2.elim
      | ok z s3 =>
        simp only [el, Out.still, Out.bind] at h2
        obtain ⟨g3, dk3⟩ := lg.grow P2.sub P2.dk
        refine ⟨i, j, f, c', rfl, rfl, rfl, hf, hco, hmk c', fun n lo hi H' => ∃ G' sa, Grow k G H G' H' ∧ Pre k G' H' σ ρ sa ∧ H' f = some (LamO f (mk c')) ∧ H' (mk c').c = some (CodeO (mk c').c (mk c').qual) ∧ lastLoop T n lo hi sa = .ok z s3, ⟨400, G2, s2, (g1.trans g2).trans g3, P2.grow g3 dk3, hf, by rw [hmk]; exact hco, el⟩, ?_⟩
        rintro n lo hi H' ⟨G', sa, g', P', h3, h4, h5⟩
        refine ⟨h3, h4, ?_⟩
        cases n with
        | zero => cases h5
        | succ n =>
          unfold lastLoop at h5
          by_cases hgt : hi - lo > 1
          · rw [if_pos hgt] at h5 ⊢
            obtain ⟨b, sb, e1, e2⟩ := bind_ok h5
            rw [← hT] at e1
            have e3 : ev R.F e (lamEnv ρ js ((lo + hi) / 2)) sa = .ok (.bool b) sb := by
              have e1 : truthO (ev R.F e (lamEnv ρ js ((lo + hi) / 2)) sa) = .ok b sb := e1
              unfold truthO at e1
              obtain ⟨d, s4, q1, q2⟩ := bind_ok e1
              cases d with
              | bool b' => cases q2; exact q1
              | _ => cases q2
            refine ⟨k, G', _, sa, lam_pre P' hN, ?_⟩
            rw [e3]
            intro v G4 H4 g4 dk4 r4
            have nk : ∀ a F', H' a = some (HO.ext F') → a ≠ k := fun a F' q z => by
              obtain ⟨_, q3, q4⟩ := P'.dk.has
              rw [z, q3] at q
              cases q
              rcases q4 with ⟨_, z⟩ | ⟨_, z⟩ <;> cases z
            have hv : v = .bl b := by
              rcases r4 with ⟨_, _, _, _, _, q, _⟩ | ⟨_, r4⟩
              · cases q
              · cases r4; rfl
            refine ⟨b, hv, n, Nat.lt_succ_self n, G4, sb, g'.trans g4, P'.grow g4 dk4, g4.fr _ _ (nk _ _ h3) lamO_tbl h3, g4.fr _ _ (nk _ _ h4) codeO_tbl h4, ?_⟩
            cases b with
            | true => exact e2
            | false => exact e2
          · rw [if_neg hgt] at h5 ⊢
            cases h5
            exact h2 (.int z) G' H' g' P'.dk (.inr ⟨fun q => by simp [PX.freshy] at q, .int z⟩)
    | _ => exact h2.elim
  | _ => cases y <;> exact h2.elim
end
end CH

set_option Elab.async false
set_option linter.all false
set_option maxRecDepth 100000
set_option maxHeartbeats 4000000
/-! operators on objects of own classes: | & * -, ==, isinstance -/
namespace CH
open PySem L2 PyProof.Rows
variable {Z : St0}
section
variable {X : Cx} {R : Par Z} {E : XW}
/-- an operation whose reading knows the slots -/
def OpS (X : Cx) (f : Value → Value → Sem Value) (r : L2.St → R2) : Prop :=
  ∀ (pins : List (Addr × Obj)) (s : Shared) (σ : L2.St) (H : Hp) (x y : V) (v u : Value) (Q : VK), Inv X pins σ H s → RelV x v → RelV y u → r σ x y H Q →
    wpAny (model X.prog X.w) X.A (f v u) (EP X pins σ Q) X.xe s
def tOpS (r : L2.St → R2) (ta tb : TE) : TE := fun σ H Q => ta σ H fun x H1 => tb σ H1 fun y H2 => r σ x y H2 Q
theorem pe_opS {a b : Expr} {ta tb : TE} {pos : Pos} {op : Operator} {r : L2.St → R2} (ho : OpS X (binaryOp op) r) (ha : PE X a ta) (hb : PE X b tb) : PE X (.BinOp a op b pos) (tOpS r ta tb) := by
  refine ⟨fun pins s σ H Q I h => ?_⟩
  exact wpAny_BinOp (binT ha hb I h fun v u s2 x y H2 I2 rx ry q => ho pins s2 σ H2 x y v u Q I2 rx ry q)
theorem pe_cmpS {a b : Expr} {ta tb : TE} {pos : Pos} {op : CmpOp} {r : L2.St → R2} (ho : OpS X (compareOp op) r) (ha : PE X a ta) (hb : PE X b tb) (hm : behindInMarks op b = false) : PE X (.Compare a [op] [b] pos) (tOpS r ta tb) := by
  refine ⟨fun pins s σ H Q I h => ?_⟩
  exact wpAny_Compare1 (binT ha hb I h fun v u s2 x y H2 I2 rx ry q => ho pins s2 σ H2 x y v u Q I2 rx ry q) hm
theorem pt_cmpS {a b : Expr} {ta tb : TE} {pos : Pos} {op : CmpOp} {r : L2.St → R2} (ho : OpS X (compareOp op) r) (ha : PE X a ta) (hb : PE X b tb) (hm : behindInMarks op b = false) : PT X (.Compare a [op] [b] pos) (tTest (tOpS r ta tb)) := by
  refine ⟨fun pins s σ H Q I h => ?_⟩
  refine wpAny_isTrue_Compare1 (thn (ha.run pins s σ H _ I h) fun v s1 ⟨x, H1, I1, r1, q1⟩ => thn (hb.run pins s1 σ H1 _ I1 q1) fun u s2 ⟨y, H2, I2, r2, q2⟩ =>
    thn (ho pins s2 σ H2 x y v u _ I2 r1 r2 q2) fun c s3 ⟨z, H3, I3, r3, k, e, q3⟩ => ?_) hm
  subst e
  cases r3
  exact wpAny_truthy_bool ⟨H3, I3, q3⟩
/-- an operator of an own class whose right side is of a built-in class without it -/
theorem binop_T {prog : Program} {w : World} {A : Around} {E : Value → Shared → Prop} {s : Shared} {K : PySem.W.Frag} {x C L f : Addr} {h₀ : Heap} {m : Str → Option Value} {ox : Obj} {od : Option Obj} {op : Operator} {b : Value} {T : String} {Q : Value → Shared → Prop} (F : Fr h₀ L s.heap m) (X₀ : K.In h₀) (I : PySem.W.InstAt s.heap x ox C od)
    (hb : PySem.W.Looks (model prog w) s.heap (typeOf b) (.type T)) (hn : fillsNumberSlot (.type T) op.info.2 = pure false) (hc : PySem.W.selfFirst K C = true)
    (hs : PySem.W.findIn K (.ref C) (PySem.dunder op.info.2) = some (some (.ref f))) (hf : PySem.W.isFn K (.ref f) = true)
    (h : wpAny (model prog w) A (call (.ref f) [.ref x, b]) (PySem.W.CmpBack Q) E s) : wpAny (model prog w) A (binaryOp op (.ref x) b) Q E s := by
  have X := X₀.keeps F.keep
  obtain ⟨cd, hcd, hm⟩ := PySem.W.any_some hc
  obtain ⟨rest, hm⟩ : ∃ rest, cd.mro = .ref C :: rest := by
    cases q : cd.mro with
    | nil => rw [q] at hm; cases hm
    | cons a r => rw [q] at hm; exact ⟨r, by rw [List.head?_cons] at hm; cases (beq_iff_eq.mp hm); rfl⟩
  unfold binaryOp
  refine wpAny_holding (wpAny_bind ?_)
  unfold binaryOp1
  refine wpAny_bind (I.type.here (wpAny_bind (hb.here (wpAny_bind ((PySem.W.fills_K X hcd hm hs).here ?_)))))
  rw [if_neg (show ¬ ((Value.ref C == Value.type T) = true) by simp)]
  show wpAny (model prog w) A (fillsNumberSlot (.type T) op.info.2 >>= _) _ _ _
  rw [hn]
  refine wpAny_bind (wpAny_pure ?_)
  simp only [Bool.and_false, Bool.false_eq_true, if_false, Bool.false_and]
  refine wpAny_bind (wpAny_pure ?_)
  simp only [Bool.false_eq_true, if_false]
  refine wpAny_bind (m := tryMethod (.ref x) _ b) ?_
  unfold tryMethod
  refine wpAny_bind (PySem.W.special_fn X I hs (beq_iff_eq.mp hf) (wpAny_mono h (fun v s' hv => ?_) fun _ _ e => e))
  cases v <;> first | exact hv.elim | exact wpAny_pure (wpAny_pure (wpAny_pure hv))
theorem fills_tupsub : fillsNumberSlot (.type "tuple") "sub" = pure false := by
  have a : typeLookup (.type "tuple") (PySem.dunder "sub") = pure none := by rw [typeLookup_type, builtinLookup_eq_fast]; kernel_rfl
  have b : typeLookup (.type "tuple") (PySem.dunderR "sub") = pure none := by rw [typeLookup_type, builtinLookup_eq_fast]; kernel_rfl
  unfold fillsNumberSlot
  simp [a, b]
theorem fills_tupor : fillsNumberSlot (.type "tuple") "or" = pure false := by
  have a : typeLookup (.type "tuple") (PySem.dunder "or") = pure none := by rw [typeLookup_type, builtinLookup_eq_fast]; kernel_rfl
  have b : typeLookup (.type "tuple") (PySem.dunderR "or") = pure none := by rw [typeLookup_type, builtinLookup_eq_fast]; kernel_rfl
  unfold fillsNumberSlot
  simp [a, b]
theorem fills_tupand : fillsNumberSlot (.type "tuple") "and" = pure false := by
  have a : typeLookup (.type "tuple") (PySem.dunder "and") = pure none := by rw [typeLookup_type, builtinLookup_eq_fast]; kernel_rfl
  have b : typeLookup (.type "tuple") (PySem.dunderR "and") = pure none := by rw [typeLookup_type, builtinLookup_eq_fast]; kernel_rfl
  unfold fillsNumberSlot
  simp [a, b]
theorem fills_tupmul : fillsNumberSlot (.type "tuple") "mul" = pure false := PySem.fillsNumberSlot_seq (id := "tuple.__mul__") (r := some (.builtin "tuple.__rmul__")) PySem.F.slot_tuple_mul.lookup (by decide +kernel) PySem.F.slot_tuple_rmul.lookup (by decide +kernel)
/-- what an own operator asks of the class -/
structure OpC (K : PySem.W.Frag) (C f : Addr) (op : Operator) : Prop where
  sf : PySem.W.selfFirst K C = true
  at_ : PySem.W.findIn K (.ref C) (PySem.dunder op.info.2) = some (some (.ref f))
  fn : PySem.W.isFn K (.ref f) = true
structure EqC (K : PySem.W.Frag) (C f : Addr) : Prop where
  at_ : PySem.W.findIn K (.ref C) "__eq__" = some (some (.ref f))
  fn : PySem.W.isFn K (.ref f) = true
/-- the left side is an object of the class at C; so is the right side, or it is a tuple -/
def rOwnB (C : Addr) (sp : Sp) (E : XW) : L2.St → R2 := fun σ x y H Q => ∃ a dx fs, x = .ref a ∧ H a = some (.ins C dx fs) ∧
  ((∃ b dy gs, y = .ref b ∧ H b = some (.ins C dy gs)) ∨ ∃ b xs, y = .ref b ∧ H b = some (.tup xs)) ∧ sp [x, y] H Q (E σ)
theorem op_ownB {op : Operator} {C f : Addr} {j : Nat} {fd : FuncData} {ps : List Str} {sp : Sp} (O : OpC X.K C f op) (F : FnG X.prog X.w X.K X.mg X.base j f fd ps sp) (hr : Room j X.A) (hb : Binds X.K fd ps []) (hgu : X.A.guards = some [])
    (hx : ∀ σ, PassesAt (L2.CX X.prog X.w) X σ (E σ)) (ht : fillsNumberSlot (.type "tuple") op.info.2 = pure false) : OpS X (binaryOp op) (rOwnB C sp E) := by
  intro pins s σ H x y v u Q I rx ry h
  obtain ⟨a, dx, fs, rfl, ha, hy, q⟩ := h
  obtain rfl : v = Value.ref a := rx
  obtain ⟨mA, J, _⟩ := ins_get I.hok ha
  obtain ⟨od, J, _⟩ := J.look
  obtain ⟨m, hF⟩ := I.fr
  have run : ∀ b, y = .ref b → u = .ref b → wpAny (model X.prog X.w) X.A (call (.ref f) [.ref a, .ref b]) (PySem.W.CmpBack (EP X pins σ Q)) X.xe s := fun b ey eu => by
    subst ey
    refine wpAny_mono (run_g (us := [.ref a, .ref b]) (vs := [.ref a, .ref b]) F hr hb hgu (hx σ) I (.cons rfl (.cons rfl .nil)) q) (fun w s' z => ?_) fun _ _ e => e
    obtain ⟨z, H', I', rz, qz⟩ := z
    exact SlX.cmpback rz ⟨z, H', I', rz, qz⟩
  rcases hy with ⟨b, dy, gs, ey, hb'⟩ | ⟨b, xs, ey, hb'⟩
  · have eu : u = .ref b := by subst ey; exact ry
    have r := run b ey eu
    subst eu
    obtain ⟨mB, J', _⟩ := ins_get I.hok hb'
    obtain ⟨od', J', _⟩ := J'.look
    exact PySem.W.binop_K hF I.ok.mod.kin J J'.type O.sf O.at_ O.fn r
  · have eu : u = .ref b := by subst ey; exact ry
    have r := run b ey eu
    subst eu
    obtain ⟨its, _, ⟨ob, e, c, _⟩, _⟩ := I.tuple (.of hb')
    exact binop_T hF I.ok.mod.kin J (c ▸ (PySem.W.Looks.ld e).andThen .now) ht O.sf O.at_ O.fn r
/-! ### types, comparisons, isinstance -/
abbrev tyNames : List String := ["NoneType", "bool", "int", "str", "list", "tuple"]
/-- what == and isinstance ask of the class at C -/
structure OwnC (K : PySem.W.Frag) (C : Addr) : Prop where
  ca : PySem.W.findIn K (.ref C) "__class__" = some (some (.builtin "object.__class__"))
  cn : PySem.W.specialIn K (.builtin "object.__class__") "__get__" = some (some (.builtin "getset_descriptor.__get__"))
  ct : PySem.W.takesIn K (.builtin "object.__class__") = some true
  cm : PySem.W.mroIn K C (.type "object") = some true
  nf : ∀ T ∈ tyNames, PySem.W.subIn K (.type T) (.ref C) = some false
  ic : PySem.W.isClsIn K C = true
  tc : PySem.W.typeIn K (.ref C) = some (.type "type")
theorem OwnC.ks {K : PySem.W.Frag} {C : Addr} (_ : OwnC K C) : PySem.W.kitOne K (.ref C) (.ref C) = some true := by
  unfold PySem.W.kitOne
  rw [if_pos (by simp)]
theorem OwnC.ki {K : PySem.W.Frag} {C : Addr} (O : OwnC K C) (T : String) (hT : T ∈ tyNames) : PySem.W.kitOne K (.type T) (.ref C) = some false := by
  unfold PySem.W.kitOne
  rw [if_neg (by simp)]
  unfold PySem.W.kitCls
  have h : (PySem.W.clsIn K C).isSome = true := O.ic
  simp only [h, O.tc]
  rw [if_pos (by simp)]
  exact O.nf T hT
theorem rep_ty {k : KA Z} {G H : Hp} {v : V} {d : D} {c : Str} {C : Addr} {K : PySem.W.Frag} (g : Same G H) (hC : Z.cls c = some C) (cl : Cls K C) (O : OwnC K C) (r : Rep k G v d) (h : (isObj c d || noD d) = true) :
    ∃ t, TyX K H v t ∧ ((isObj c d = true ∧ t = .ref C ∧ ∃ a dx fs, v = .ref a ∧ H a = some (.ins C dx fs)) ∨ (isObj c d = false ∧ noD d = true ∧ ∃ T ∈ tyNames, t = .type T)) := by
  cases r with
  | non => exact ⟨_, .base .non, .inr ⟨rfl, rfl, "NoneType", by simp, rfl⟩⟩
  | bl x => exact ⟨_, .base (.bl x), .inr ⟨rfl, rfl, "bool", by simp, rfl⟩⟩
  | int x => exact ⟨_, .base (.int x), .inr ⟨rfl, rfl, "int", by simp, rfl⟩⟩
  | str x => exact ⟨_, .base (.str x), .inr ⟨rfl, rfl, "str", by simp, rfl⟩⟩
  | lst h1 r1 => exact ⟨_, .base (.lst (g _ _ h1)), .inr ⟨rfl, rfl, "list", by simp, rfl⟩⟩
  | tup h1 r1 => exact ⟨_, .base (.tup (g _ _ h1)), .inr ⟨rfl, rfl, "tuple", by simp, rfl⟩⟩
  | deck _ => cases h
  | exc0 _ _ => simp [isObj, noD] at h
  | exc1 _ _ _ _ _ => simp [isObj, noD] at h
  | obj ha hx hc rf =>
    rename_i a dx C' c' vs fs
    have e : c' = c := by simpa [isObj, noD] using h
    subst e
    rw [hC] at hc
    cases hc
    exact ⟨_, .base (.ins (g _ _ ha) cl O.ca O.cn O.ct O.cm), .inl ⟨by simp [isObj], rfl, _, _, _, rfl, g _ _ ha⟩⟩
/-- the left side is an object of the class at C, the right one a value of another type or of this class -/
def rOwnE (K : PySem.W.Frag) (C : Addr) (sp : Sp) (E : XW) : L2.St → R2 := fun σ x y H Q => ∃ a dx fs tb, x = .ref a ∧ H a = some (.ins C dx fs) ∧ TyX K H y tb ∧ PySem.W.notFirst K C tb = true ∧ sp [x, y] H (fun z H' => ∃ b, z = .bl b ∧ Q (.bl b) H') (E σ)
theorem op_ownE {C f : Addr} {j : Nat} {fd : FuncData} {ps : List Str} {sp : Sp} (hs : PySem.W.findIn X.K (.ref C) "__eq__" = some (some (.ref f))) (hf : PySem.W.isFn X.K (.ref f) = true) (F : FnG X.prog X.w X.K X.mg X.base j f fd ps sp) (hr : Room j X.A) (hb : Binds X.K fd ps []) (hgu : X.A.guards = some [])
    (hx : ∀ σ, PassesAt (L2.CX X.prog X.w) X σ (E σ)) : OpS X (compareOp .Eq) (rOwnE X.K C sp E) := by
  intro pins s σ H x y v u Q I rx ry h
  obtain ⟨a, dx, fs, tb, rfl, ha, ty, nf, q⟩ := h
  obtain rfl : v = Value.ref a := rx
  obtain ⟨mA, J, _⟩ := ins_get I.hok ha
  obtain ⟨od, J, _⟩ := J.look
  obtain ⟨m, hF⟩ := I.fr
  obtain ⟨P, KX, p, _⟩ := kit_of I ry ty
  show wpAny (model X.prog X.w) X.A (richCompare .Eq (.ref a) u) (EP X pins σ Q) X.xe s
  refine PySem.W.cmp_K (op := .Eq) (tb := tb) hr.units0 hF I.ok.mod.kin J (KX.ty _ _ I.kIn p) nf hs hf ?_
  refine wpAny_mono (run_g (us := [.ref a, u]) (vs := [.ref a, y]) F hr hb hgu (hx σ) I (.cons rfl (.cons ry .nil)) q) (fun w s' z => ?_) fun _ _ e => e
  obtain ⟨z, H', I', rz, b, ez, qz⟩ := z
  exact SlX.cmpback rz ⟨z, H', I', rz, by rw [ez]; exact qz⟩
/-! ### the readings -/
variable {σ : L2.St} {H : Hp} {Q : VK}
theorem rd_obin {op : Operator} {c : Str} {i : Nat} {p q : PX} {C : Addr} (hC : Z.cls c = some C) (h : SEM R E (.obin op c i p q) σ H Q) : tOpS (fun σ x y H Q => rOwnB C (spOf R i) E σ x y H Q ∨ r2 (binD op) false x y H Q) (SEM R E p) (SEM R E q) σ H Q := by
  obtain ⟨k, G, ρ, s, P, h⟩ := h
  simp only [ev] at h
  refine sem_step P h fun x s1 v G1 H1 g1 P1 r1 h1 => sem_step P1 h1 fun y s2 w G2 H2 g2 P2 rw h2 => ?_
  split at h2
  · rename_i hx
    split at h2
    · rename_i hy
      left
      obtain ⟨a, dx, C', vs, rfl, ha, hc⟩ := isObj_rep r1 hx
      rw [hC] at hc
      cases hc
      refine ⟨a, dx, vs, rfl, P2.sub _ _ (g2.gg _ _ ha), ?_, k, G2, s2, [x, y], P2.sub, P2.dk, .cons (r1.mono g2.gg) (.cons rw .nil), ?_⟩
      · cases ey : isObj c y with
        | true =>
          obtain ⟨b, dy, C', gs, rfl, hb, hc'⟩ := isObj_rep rw ey
          rw [hC] at hc'
          cases hc'
          exact .inl ⟨b, dy, gs, rfl, P2.sub _ _ hb⟩
        | false =>
          rw [ey, Bool.false_or] at hy
          cases rw with
          | tup h1 _ => exact .inr ⟨_, _, rfl, P2.sub _ _ h1⟩
          | _ => cases hy
      · cases e : R.F i [x, y] s2 with
        | no => rw [e] at h2; exact h2.elim
        | ex z s3 => rw [e] at h2; exact h2
        | ok d s3 => rw [e] at h2; exact Want.back (g1.trans g2) h2
    · exact h2.elim
  · right
    obtain ⟨d, e, q⟩ := h2.of
    exact ⟨_, k, G2, s2, x, y, d, P2.sub, P2.dk, r1.mono g2.gg, rw, e, (Want.back (g1.trans g2) q).ends P2.dk⟩
theorem rd_oeq {c : Str} {i : Nat} {p q : PX} {C : Addr} (hC : Z.cls c = some C) (cl : Cls X.K C) (O : OwnC X.K C) (h : SEM R E (.ocmp .Eq c i p q) σ H Q) : tOpS (fun σ x y H Q => rOwnE X.K C (spOf R i) E σ x y H Q ∨ r2 (cB .Eq) false x y H Q) (SEM R E p) (SEM R E q) σ H Q := by
  obtain ⟨k, G, ρ, s, P, h⟩ := h
  simp only [ev] at h
  refine sem_step P h fun x s1 v G1 H1 g1 P1 r1 h1 => sem_step P1 h1 fun y s2 w G2 H2 g2 P2 rw h2 => ?_
  split at h2
  · rename_i hx
    split at h2
    · rename_i hy
      left
      obtain ⟨a, dx, C', vs, rfl, ha, hc⟩ := isObj_rep r1 hx
      rw [hC] at hc
      cases hc
      obtain ⟨t, ty, ht⟩ := rep_ty P2.sub.s hC cl O rw hy
      refine ⟨a, dx, vs, t, rfl, P2.sub _ _ (g2.gg _ _ ha), ty, ?_, k, G2, s2, [x, y], P2.sub, P2.dk, .cons (r1.mono g2.gg) (.cons rw .nil), ?_⟩
      · rcases ht with ⟨_, rfl, _⟩ | ⟨_, _, T, hT, rfl⟩
        · simp [PySem.W.notFirst]
        · unfold PySem.W.notFirst
          rw [O.nf T hT]
          simp
      · cases e : R.F i [x, y] s2 with
        | no => rw [e] at h2; exact h2.elim
        | ex z s3 => rw [e] at h2; exact h2
        | ok d s3 =>
          rw [e] at h2
          cases d with
          | bool b =>
            intro z G' H' g' dk' r'
            have hz : z = .bl b := by
              rcases r' with ⟨f, _⟩ | ⟨_, r'⟩
              · cases f
              · cases r'; rfl
            exact ⟨b, hz, h2 _ G' H' ((g1.trans g2).trans g') dk' (.inr ⟨fun z => by simp [PX.freshy] at z, .bl b⟩)⟩
          | _ => exact h2.elim
    · exact h2.elim
  · right
    obtain ⟨d, e, q⟩ := h2.of
    exact ⟨_, k, G2, s2, x, y, d, P2.sub, P2.dk, r1.mono g2.gg, rw, e, (Want.back (g1.trans g2) q).ends P2.dk⟩
theorem OpS.or {f : Value → Value → Sem Value} {r r' : L2.St → R2} (h : OpS X f r) (h' : OpS X f r') : OpS X f (fun σ x y H Q => r σ x y H Q ∨ r' σ x y H Q) :=
  fun pins s σ H x y v u Q I rx ry q => q.elim (h pins s σ H x y v u Q I rx ry) (h' pins s σ H x y v u Q I rx ry)
theorem OpR.toS {f : Value → Value → Sem Value} {r : R2} (h : OpR X f r) : OpS X f (fun _ => r) := fun pins s σ H x y v u Q I rx ry q => h pins s σ H x y v u Q I rx ry q
/-- isinstance of an own class -/
theorem rd_isc {c : Str} {p : PX} {C : Addr} (hC : Z.cls c = some C) (cl : Cls X.K C) (O : OwnC X.K C) (h : SEM R E (.isc c p) σ H Q) : tCB (rIsi X.K) (tCons (SEM R E p) (tCons (tC (.ref C)) tNil)) σ H Q := by
  obtain ⟨k, G, ρ, s, P, h⟩ := h
  simp only [ev] at h
  refine sem_step P h fun x s1 v G1 H1 g1 P1 r1 h1 => ?_
  obtain ⟨d, e, q⟩ := h1.of
  obtain ⟨b, e1, rfl⟩ := Option.map_eq_some_iff.mp e
  have hy : (isObj c x || noD x) = true := by
    unfold iscD at e1
    split at e1
    · rename_i y fs
      split at e1
      · rename_i hxy; subst hxy; simp [isObj]
      · cases e1
    · cases e1
    · rename_i h2 h3
      cases x <;> simp_all [noD]
  obtain ⟨t, ty, ht⟩ := rep_ty P1.sub.s hC cl O r1 hy
  have fin : PySem.W.kitOne X.K t (.ref C) = some b := by
    rcases ht with ⟨h0, rfl, _⟩ | ⟨h0, h01, T, hT, rfl⟩
    · have : b = true := by
        unfold iscD at e1
        split at e1
        · split at e1
          · cases e1; rfl
          · cases e1
        · cases e1
        · rename_i h2 h3
          cases x <;> simp_all [isObj]
      rw [this]
      exact O.ks
    · have : b = false := by
        unfold iscD at e1
        split at e1
        · simp [noD] at h01
        · simp [noD] at h01
        · cases e1; rfl
      rw [this]
      exact O.ki T hT
  exact ⟨v, .ref C, t, .ref C, b, rfl, .own C, ty, fin, q _ G1 H1 g1 P1.dk (.inr ⟨fun z => by simp [PX.freshy] at z, .bl _⟩)⟩
end
end CH

set_option Elab.async false
set_option linter.all false
set_option maxRecDepth 100000
set_option maxHeartbeats 4000000
/-! calls by names: f(x=.., y=..), C(x=.., y=..) -/
namespace CH
open PySem L2 PyProof.Rows
variable {Z : St0}
/-- what is written, in the parameters' order -/
def permL {α : Type} : List Nat → List α → Option (List α)
  | [], _ => some []
  | i :: r, l => (l[i]?).bind fun a => (permL r l).map (a :: ·)
abbrev permT (pm : List Nat) (ws : List Value) : List Value := pm.map fun i => ws.getD i .none
theorem permD_eq : ∀ (pm : List Nat) (ds : List PyData), permD pm ds = permL pm ds
  | [], ds => by simp [permD, permL]
  | i :: r, ds => by
    have ih := permD_eq r ds
    unfold permD at ih ⊢
    rw [List.mapM_cons, ih]
    show _ = (ds[i]?).bind fun a => (permL r ds).map (a :: ·)
    generalize permL r ds = o
    cases ds[i]? with
    | none => rfl
    | some a => cases o <;> rfl
theorem perm_reps {k : KA Z} {G : Hp} {vs : List V} {ds : List PyData} (r : Reps k G vs ds) : ∀ {pm : List Nat} {es : List PyData}, permL pm ds = some es → ∃ us, permL pm vs = some us ∧ Reps k G us es
  | [], es, h => by cases h; exact ⟨[], rfl, .nil⟩
  | i :: pm, es, h => by
    obtain ⟨d, h1, h⟩ := Option.bind_eq_some_iff.mp h
    obtain ⟨es', h2, h3⟩ := Option.map_eq_some_iff.mp h
    obtain ⟨v, e1, r1⟩ := r.get.1 d h1
    obtain ⟨us, e2, r2⟩ := perm_reps r h2
    subst h3
    exact ⟨v :: us, by simp [permL, e1, e2], .cons r1 r2⟩
theorem perm_vals {vs : List V} {us : List Value} (r : Vals vs us) : ∀ {pm : List Nat} {zs : List V}, permL pm vs = some zs → Vals zs (permT pm us)
  | [], zs, h => by cases h; exact .nil
  | i :: pm, zs, h => by
    obtain ⟨d, h1, h⟩ := Option.bind_eq_some_iff.mp h
    obtain ⟨es', h2, h3⟩ := Option.map_eq_some_iff.mp h
    obtain ⟨u, e1, r1⟩ := Vals.get r h1
    subst h3
    have e : us.getD i .none = u := by simp [List.getD, e1]
    show Vals _ (us.getD i .none :: permT pm us)
    rw [e]
    exact .cons r1 (perm_vals r h2)
/-- how a call by the names ks binds -/
structure KB (K : PySem.W.Frag) (fd : FuncData) (ps ks : List Str) (pm : List Nat) : Prop where
  to : ∀ (s : Shared) (ws : List Value), K.In s.heap → ws.length = ks.length → BindsTo s fd ⟨[], ks.zip ws⟩ (ps.zip (permT pm ws))
/-- .. with one value ahead -/
structure KBi (K : PySem.W.Frag) (fd : FuncData) (ps ks : List Str) (pm : List Nat) : Prop where
  to : ∀ (s : Shared) (u : Value) (ws : List Value), K.In s.heap → ws.length = ks.length → BindsTo s fd ⟨[u], ks.zip ws⟩ (ps.zip (u :: permT pm ws))
/-- the names that are written -/
def kwNs : List Keyword → Option (List Str)
  | [] => some []
  | k :: r => k.arg.bind fun x => (kwNs r).map (x :: ·)
theorem kw_names {pos : Pos} {env : Env} : ∀ {kws : List Keyword} {ks : List Str}, kwNs kws = some ks → (backToKw pos (keywordEach kws env)).all (·.1.isSome) = true ∧ (backToKw pos (keywordEach kws env)).filterMap (·.1) = ks ∧ (backToKw pos (keywordEach kws env)).any (·.1.isNone) = false ∧ kws.length = ks.length
  | [], ks, h => by cases h; exact ⟨rfl, rfl, rfl, rfl⟩
  | ⟨nm, e, kp⟩ :: r, ks, h => by
    obtain ⟨x, h1, h⟩ := Option.bind_eq_some_iff.mp h
    obtain ⟨xs, h2, h3⟩ := Option.map_eq_some_iff.mp h
    have h1 : nm = some x := h1
    subst h1
    subst h3
    obtain ⟨a, b, c, d⟩ := kw_names (pos := pos) (env := env) h2
    refine ⟨a, ?_, c, congrArg Nat.succ d⟩
    show x :: (backToKw pos (keywordEach r env)).filterMap (·.1) = _
    rw [b]
section
variable {X : Cx} {R : Par Z} {E : XW} {σ : L2.St} {H : Hp} {Q : VK}
def tCallK (n : Nat) (pm : List Nat) (sp : Sp) (E : XW) (t : TA) : TE := fun σ H Q => t σ H fun zs H1 => zs.length = n ∧ ∃ vs, permL pm zs = some vs ∧ sp vs H1 Q (E σ)
def tMakeK (C : Addr) (n : Nat) (pm : List Nat) (sp : Sp) (E : XW) (t : TA) : TE := fun σ H Q => t σ H fun zs H1 => zs.length = n ∧ ∃ vs, permL pm zs = some vs ∧ ∀ x dx, H1 x = none → H1 dx = none → dx ≠ x →
  sp (.ref x :: vs) (upd (upd H1 dx (.own x)) x (.ins C dx [])) (fun v H2 => v = .non ∧ Q (.ref x) H2) (E σ)
variable {x : Str} {p pos : Pos} {kws : List Keyword} {ks ps : List Str} {pm : List Nat} {f C : Addr} {j : Nat} {fd : FuncData} {sp : Sp} {tk : TA}
theorem pe_callK (F : FnG X.prog X.w X.K X.mg X.base j f fd ps sp) (hr : Room j X.A) (hm : X.mg x = some (.ref f)) (hk : PySem.W.keepIn X.K (.ref f) = true) (hb : KB X.K fd ps ks pm) (hgu : X.A.guards = some []) (hg : Gl X x) (hx : ∀ σ, PassesAt (L2.CX X.prog X.w) X σ (E σ)) (hkw : PK X kws tk) (hdb : (x == ("__debug__" : Str)) = false)
    (hn : kwNs kws = some ks) : PE X (.Call (.Name x p) [] kws pos) (tCallK ks.length pm sp E tk) := by
  obtain ⟨n1, n2, n3, n4⟩ := kw_names (pos := pos) (env := X.env) hn
  refine ⟨fun pins s σ H Q I h => wpAny_Call_Name_kw (ld_glob I hg hm ?_ hdb)⟩
  refine PySem.W.callWith_KW0 (h₀ := X.base) I.ok.mod.kin hk n1 ?_ (by rw [n3]; rfl)
  refine thn (hkw.run pos pins s σ H _ I h) ?_
  rintro ws s1 ⟨zs, H1, I1, rz, l, vs, e, q⟩
  refine ⟨I1.kIn, ?_⟩
  rw [n2]
  refine wpAny_call (codeAny_mono (F.runs X.A X.stack s1 H1 ⟨[], ks.zip ws⟩ (permT pm ws) vs Q (E σ) hr hgu I1.env0 (hb.to s1 ws I1.kIn (rz.length.symm.trans l)) (perm_vals rz e) q) fun r s' hq => ?_)
  match r, hq with
  | .error ex, hq => exact hx σ pins H1 s1 ex s' I1 hq
  | .ok (.ret u), hq => exact I1.after hq
  | .ok .next, hq => exact hq.elim
  | .ok .brk, hq => exact hq.elim
  | .ok .cont, hq => exact hq.elim
theorem run_makeK {E1 : XK} {pins : List (Addr × Obj)} {s : Shared} {ws : List Value} {zs vs : List V} (M : Mk X.K C f) (F : FnG X.prog X.w X.K X.mg X.base j f fd ps sp) (hr : Room (j + 1) X.A) (hb : KBi X.K fd ps ks pm) (hgu : X.A.guards = some [])
    (hx : PassesAt (L2.CX X.prog X.w) X σ E1) (I : Inv X pins σ H s) (rz : Vals zs ws) (l : zs.length = ks.length) (e : permL pm zs = some vs)
    (h : ∀ x dx, H x = none → H dx = none → dx ≠ x → sp (.ref x :: vs) (upd (upd H dx (.own x)) x (.ins C dx [])) (fun v H2 => v = .non ∧ Q (.ref x) H2) E1) : wpAny (model X.prog X.w) X.A (call (.ref C) [] (ks.zip ws)) (EP X pins σ Q) X.xe s := by
  have q := h (s.heap.objs.size + 1) s.heap.objs.size (I.hok.fresh (Nat.le_succ _)) (I.hok.fresh (Nat.le_refl _)) (Nat.ne_of_lt (Nat.lt_succ_self _))
  have J := Inv.made (C := C) I
  have rv2 : Vals (.ref (s.heap.objs.size + 1) :: vs) (.ref (s.heap.objs.size + 1) :: permT pm ws) := .cons rfl (perm_vals rz e)
  have bb := hb.to _ (.ref (s.heap.objs.size + 1)) ws J.kIn (rz.length.symm.trans l)
  refine wpAny_call (make_map (f := f) I.kIn M.makes M.init (beq_iff_eq.mp M.fn) ?_)
  refine codeAny_mono (F.runs _ X.stack _ _ ⟨[.ref (s.heap.objs.size + 1)], ks.zip ws⟩ (.ref (s.heap.objs.size + 1) :: permT pm ws) _ _ E1 (hr.make C [] (ks.zip ws)) (make_guards.trans hgu) (J.env0.make C [] (ks.zip ws)) bb rv2 q) fun r s' hq => ?_
  match r, hq with
  | .error ex, hq => exact hx pins _ _ ex s' J hq
  | .ok (.ret u), hq =>
    obtain ⟨v, H', I3, ru, ev, q3⟩ := J.after hq
    subst ev
    exact ⟨ru, .ref (s.heap.objs.size + 1), H', I3, rfl, q3⟩
  | .ok .next, hq => exact hq.elim
  | .ok .brk, hq => exact hq.elim
  | .ok .cont, hq => exact hq.elim
theorem pe_makeK (M : Mk X.K C f) (F : FnG X.prog X.w X.K X.mg X.base j f fd ps sp) (hr : Room (j + 1) X.A) (hm : X.mg x = some (.ref C)) (hb : KBi X.K fd ps ks pm) (hgu : X.A.guards = some []) (hg : Gl X x) (hx : ∀ σ, PassesAt (L2.CX X.prog X.w) X σ (E σ)) (hkw : PK X kws tk) (hdb : (x == ("__debug__" : Str)) = false)
    (hn : kwNs kws = some ks) : PE X (.Call (.Name x p) [] kws pos) (tMakeK C ks.length pm sp E tk) := by
  obtain ⟨n1, n2, n3, n4⟩ := kw_names (pos := pos) (env := X.env) hn
  refine ⟨fun pins s σ H Q I h => wpAny_Call_Name_kw (ld_glob I hg hm ?_ hdb)⟩
  refine PySem.W.callWith_KW0 (h₀ := X.base) I.ok.mod.kin M.kp n1 ?_ (by rw [n3]; rfl)
  refine thn (hkw.run pos pins s σ H _ I h) ?_
  rintro ws s1 ⟨zs, H1, I1, rz, l, vs, e, q⟩
  refine ⟨I1.kIn, ?_⟩
  rw [n2]
  exact run_makeK M F hr hb hgu (hx σ) I1 rz l e q
/-! ### the readings -/
theorem evs_len {F : Fns} : ∀ {es : List PX} {ρ : Env0} {s s' : Dk} {ds : List PyData}, evs F es ρ s = .ok ds s' → ds.length = es.length
  | [], ρ, s, s', ds, h => by simp only [evs] at h; cases h; rfl
  | e :: r, ρ, s, s', ds, h => by
    simp only [evs] at h
    cases h1 : ev F e ρ s with
    | no => rw [h1] at h; cases h
    | ex x t => rw [h1] at h; cases h
    | ok d t =>
      rw [h1] at h
      simp only [Out.bind] at h
      cases h2 : evs F r ρ t with
      | no => rw [h2] at h; cases h
      | ex x t => rw [h2] at h; cases h
      | ok ds' t' =>
        rw [h2] at h
        cases h
        rw [List.length_cons, List.length_cons, evs_len h2]
theorem sema_stepL {α : Type} {k : KA Z} {G : Hp} {ρ : Env0} {s : Dk} {qs : List PX} {f : List PyData → Dk → Out α} {K : α → Dk → Prop} {Q : List V → Hp → Prop} (P : Pre k G H σ ρ s) (h : Done R E k G H σ ((evs R.F qs ρ s).bind f) K)
    (q : ∀ xs s1 vs G1 H1, xs.length = qs.length → Grow k G H G1 H1 → Pre k G1 H1 σ ρ s1 → Reps k G1 vs xs → Done R E k G1 H1 σ (f xs s1) K → Q vs H1) : SEMA R E qs σ H Q :=
  ⟨k, G, ρ, s, P, h.bind.imp (.refl P.sub) fun x s1 e h1 v G' H' g dk r => q x s1 v G' H' (evs_len e) g (P.grow g dk) r (h1.imp g fun _ _ _ z => z)⟩
theorem rd_callk {i : Nat} {qs : List PX} (h : SEM R E (.callk i pm qs) σ H Q) : tCallK qs.length pm (spOf R i) E (SEMA R E qs) σ H Q := by
  obtain ⟨k, G, ρ, s, P, h⟩ := h
  simp only [ev] at h
  refine sema_stepL P h fun xs s1 vs G1 H1 l g1 P1 r1 h1 => ?_
  rw [permD_eq] at h1
  cases ep : permL pm xs with
  | none => rw [ep] at h1; exact h1.elim
  | some es =>
    rw [ep] at h1
    obtain ⟨us, e, r2⟩ := perm_reps r1 ep
    refine ⟨r1.length.trans l, us, e, k, G1, s1, es, P1.sub, P1.dk, r2, ?_⟩
    have h1 : Done R E k G1 H1 σ (R.F i es s1) _ := h1
    cases e : R.F i es s1 with
    | no => rw [e] at h1; exact h1.elim
    | ex z s2 => rw [e] at h1; exact h1
    | ok d s2 => rw [e] at h1; exact Want.back g1 h1
theorem rd_newk {c : Str} {i : Nat} {qs : List PX} (hC : Z.cls c = some C) (h : SEM R E (.newk c i pm qs) σ H Q) : tMakeK C qs.length pm (spIniO R c i) E (SEMA R E qs) σ H Q := by
  obtain ⟨k, G, ρ, s, P, h⟩ := h
  simp only [ev] at h
  refine sema_stepL P h fun xs s1 vs G1 H1 l g1 P1 r1 h1 => ?_
  rw [permD_eq] at h1
  cases ep : permL pm xs with
  | none => rw [ep] at h1; exact h1.elim
  | some es =>
    rw [ep] at h1
    obtain ⟨us, e, r2⟩ := perm_reps r1 ep
    refine ⟨r1.length.trans l, us, e, fun x dx nx nd ne => ?_⟩
    refine ⟨k, G1, H1, s1, es, us, x, dx, C, rfl, nx, nd, ne, rfl, hC, P1.sub, P1.dk, r2, ?_⟩
    have h1 : Done R E k G1 H1 σ (R.F i es s1) _ := h1
    cases e : R.F i es s1 with
    | no => rw [e] at h1; exact h1.elim
    | ex z s2 => rw [e] at h1; exact h1
    | ok d s2 =>
      rw [e] at h1
      exact fun G' H' g' dk' r' => ⟨rfl, h1 _ G' H' (g1.trans g') dk' (.inr ⟨fun z => by simp [PX.freshy] at z, r'⟩)⟩
end
end CH

set_option Elab.async false
set_option linter.all false
set_option maxRecDepth 100000
set_option maxHeartbeats 4000000
/-! errors: their classes; errors that are held as values -/
namespace CH
open PySem PySem.Spec L2 PyProof.Rows
variable {Z : St0}
/-- what the module says of an error's class -/
structure XCls (K : PySem.W.Frag) (mg : Str → Option Value) (n : Str) (C : Addr) : Prop where
  g : mg n = some (.ref C)
  kC : PySem.W.keepIn K (.ref C) = true
  exC : PySem.W.subIn K (.ref C) (.type "BaseException") = some true
  tyC : PySem.W.typeIn K (.ref C) = some (.type "type")
  cl : (PySem.W.clsIn K C).isSome = true
  hdC : PySem.W.hasDictIn K C = true
  ga : PySem.W.findIn K (.ref C) "__getattribute__" = some (some (.builtin "BaseException.__getattribute__"))
  gg : PySem.W.findIn K (.ref C) "__getattr__" = some none
  ca : PySem.W.findIn K (.ref C) "__class__" = some (some (.builtin "object.__class__"))
  cn : PySem.W.specialIn K (.builtin "object.__class__") "__get__" = some (some (.builtin "getset_descriptor.__get__"))
  ct : PySem.W.takesIn K (.builtin "object.__class__") = some true
  mo : PySem.W.mroIn K C (.type "object") = some true
  noF : ∀ f ∈ exFld n, PySem.W.findIn K (.ref C) f = some none
  ve : PySem.W.subIn K (.ref C) (.type "ValueError") = some true
structure XAll (K : PySem.W.Frag) (mg : Str → Option Value) (xs : List Str) : Prop where
  cls : ∀ n ∈ xs, ∃ C, XCls K mg n C
  sub : ∀ n ∈ xs, ∀ m ∈ xs, ∀ C D, mg n = some (.ref C) → mg m = some (.ref D) → PySem.W.subIn K (.ref C) (.ref D) = some (exIs n m)
  ve : xs ≠ [] → mg ("ValueError" : Str) = none
theorem exIs_self {n : Str} : exIs n n = true := by
  unfold exIs exSup
  split
  · rename_i h
    rw [beq_iff_eq.mp h]
    decide +kernel
  · simp
theorem XAll.kit {K : PySem.W.Frag} {mg : Str → Option Value} {xs : List Str} (A : XAll K mg xs) {n m : Str} {C D : Addr} (hn : n ∈ xs) (hm : m ∈ xs) (hC : mg n = some (.ref C)) (hD : mg m = some (.ref D)) : PySem.W.kitOne K (.ref C) (.ref D) = some (exIs n m) ∧ PySem.W.exmOne K (.ref C) (.ref D) = some (exIs n m) := by
  obtain ⟨D', X⟩ := A.cls m hm
  have e : D' = D := by
    have := X.g.symm.trans hD
    cases this; rfl
  subst e
  have s := A.sub n hn m hm C D' hC hD
  have kc : PySem.W.kitCls K (.ref C) (.ref D') = some (exIs n m) := by
    unfold PySem.W.kitCls
    dsimp only
    rw [X.cl, X.tyC]
    simpa using s
  refine ⟨?_, ?_⟩
  · unfold PySem.W.kitOne
    split
    · rename_i h
      have e : C = D' := by simpa using h
      subst e
      have s2 := A.sub m hm m hm C C hD hD
      rw [exIs_self] at s2
      rw [s] at s2
      rw [← s2]
    · exact kc
  · unfold PySem.W.exmOne
    rw [if_pos (by rw [X.exC]; rfl)]
    exact kc
theorem XCls.kve {K : PySem.W.Frag} {mg : Str → Option Value} {n : Str} {C : Addr} (X : XCls K mg n C) : PySem.W.kitOne K (.ref C) (.type "ValueError") = some true := by
  unfold PySem.W.kitOne
  rw [if_neg (by simp)]
  unfold PySem.W.kitCls
  dsimp only
  rw [if_pos (by decide +kernel)]
  exact X.ve
theorem boo_ve : bootBuiltins ("ValueError" : Str) = some (.type "ValueError") := by decide +kernel
theorem boo_isi' : bootBuiltins ("isinstance" : Str) = some (.builtin "isinstance") := by decide +kernel
/-- what the __init__ of the class n promises -/
def spIni (K : PySem.W.Frag) (n : Str) : Sp := fun vs H Q _ => ∃ (a C : Addr) (us : List V), vs = .ref a :: us ∧ us.length = (exFld n).length ∧ H a = some (exo a C none) ∧ OexC K C ∧ (∀ f ∈ exFld n, PySem.W.findIn K (.ref C) f = some none) ∧
  ∀ dx H', dx ≠ a → H dx = none → H' a = some (exo a C (some dx)) → H' dx = some (exd dx ((exFld n).zip us).reverse) → (∀ b, b ≠ a → b ≠ dx → H' b = H b) → Q .non H'
/-- what the module says of the making of an error of the class n -/
inductive XMake (P : Program) (w : World) (K : PySem.W.Frag) (mg : Str → Option Value) (base : Heap) (n : Str) (C : Addr) : Prop
  | plain (h : exFld n = []) (q : PySem.W.excIn K C [.type "ValueError", .type "Exception", .type "BaseException", .type "object"] "ValueError.__new__" = true)
  | own {fI : Addr} {fd : FuncData} (h : exFld n ≠ []) (T : OexC K C) (noF : ∀ f ∈ exFld n, PySem.W.findIn K (.ref C) f = some none) (iC : PySem.W.findIn K (.ref C) "__init__" = some (some (.ref fI))) (tI : PySem.W.typeIn K (.ref fI) = some (.type "function"))
      (F1 : FnOk P w K mg base (L2.CX P w) 1 fI fd ("self" :: exFld n) (spIni K n)) (hb : Binds K fd ("self" :: exFld n) [])
theorem exFld_le (n : Str) : (exFld n).length ≤ 2 := by
  unfold exFld
  split
  · decide
  · split <;> decide
/-- what is needed of errors that are values -/
structure XvOk (Z : St0) (P : Program) (w : World) (K : PySem.W.Frag) (mg : Str → Option Value) (base : Heap) (xv : List Str) : Prop where
  all : XAll K mg xv
  z : ∀ n C, Z.xc n = some C → n ∈ xv ∧ mg n = some (.ref C)
  z' : ∀ n ∈ xv, ∃ C, Z.xc n = some C
  made : ∀ n ∈ xv, n ≠ ("HeapError" : Str) → ∃ C, mg n = some (.ref C) ∧ XMake P w K mg base n C
section
variable {X : Cx} {R : Par Z} {E : XW} {σ : L2.St} {H : Hp} {Q : VK}
/-! ### making -/
/-- an exception's dict, told so -/
theorem xd_of {pins : List (Addr × Obj)} {s : Shared} {dx : Addr} {fs : List (Str × V)} (I : Inv X pins σ H s) (e : H dx = some (exd dx fs)) : Inv X pins σ (upd H dx (.xd fs)) s := by
  obtain ⟨mA, hns, rel⟩ := exd_at I.hok e
  have hd : ∃ o, s.heap.get? dx = some o := by
    obtain ⟨o, _, _, e', _⟩ := hns
    exact ⟨o, e'⟩
  exact I.write (t' := s.toks) (x := dx) (e := dx) (o := .xd fs) (by rw [e]; exact True.intro) (.inl rfl) (fun _ _ _ z => z) hd ⟨mA, hns, rel⟩
theorem pe_mkx0 {n : Str} {C : Addr} {p pos : Pos} (kC : PySem.W.keepIn X.K (.ref C) = true) (q : PySem.W.excIn X.K C [.type "ValueError", .type "Exception", .type "BaseException", .type "object"] "ValueError.__new__" = true) (gC : X.mg n = some (.ref C)) (hg : Gl X n) (hdb : (n == ("__debug__" : Str)) = false) :
    PE X (.Call (.Name n p) [] [] pos) (fun σ H Q => ∀ a, H a = none → Q (.ref a) (upd H a (exo a C none))) := by
  refine ⟨fun pins s σ H Q I h => ?_⟩
  refine wpAny_Call_Name_kw (ld_glob I hg gC ?_ hdb)
  refine PySem.W.callWith_K0 I.kIn kC ?_
  show wpAny _ _ (call (.ref C) []) _ _ _
  obtain ⟨bm, N, nm, qn, bs, hdct, sn, sub, ab, col, dd, k0, k1, k2, k3, k5, mN, hC, hN, hni, T⟩ := exc_obj I.kIn q
  refine wpAny_call_exc_subT F.excBase_ValueError T hC hN hni (fun h' a hm => ?_) (Nat.zero_le _)
  have hn : H a = none := I.hok.gone hm.new
  obtain ⟨t, ht, _, _⟩ := hm.there
  exact ⟨.ref a, upd H a (exo a C none), I.laidN hm.keeps hm.new hn (L2.exo_ok ht), rfl, h a hn⟩
/-- C(e, ..), kept as a value -/
def tMkV (C : Addr) (sp : Sp) (ta : TA) : TE := fun σ H Q => ta σ H fun vs H1 => vs.length ≤ 1000 ∧ ∀ a, H1 a = none → sp (.ref a :: vs) (upd H1 a (exo a C none)) (fun v H2 => v = .non ∧ ∃ dx fs, H2 dx = some (exd dx fs) ∧ Q (.ref a) (upd H2 dx (.xd fs))) (fun _ _ _ => False)
theorem pe_mkx1 {CX : CXT} {x : Str} {C fI : Addr} {k : Nat} {fd : FuncData} {ps : List Str} {sp : Sp} {e : Expr} {es : List Expr} {ta : TA} {p pos : Pos} (T : OexC X.K C) (iC : PySem.W.findIn X.K (.ref C) "__init__" = some (some (.ref fI))) (tI : PySem.W.typeIn X.K (.ref fI) = some (.type "function"))
    (F1 : FnOk X.prog X.w X.K X.mg X.base CX k fI fd ps sp) (hr : Room (k + 1) X.A) (hb : Binds X.K fd ps []) (hx : Passes CX X (fun _ _ _ => False)) (hg : Gl X x) (hm : X.mg x = some (.ref C)) (ha : PA X (e :: es) ta)
    (hdb : (x == ("__debug__" : Str)) = false) (he : starEach (e :: es) X.env = (false, eval e X.env) :: starEach es X.env) (hpl : (backTo pos (starEach es X.env)).any (·.1) = false) :
    PE X (.Call (.Name x p) (e :: es) [] pos) (tMkV C sp ta) := by
  refine ⟨fun pins s σ H Q I h => ?_⟩
  obtain ⟨nm, q, N, bs, bm, sn, sub, ab, col, dd, k0, k1, k2, k3, k5, hC, hbm⟩ := T.cls
  refine wpAny_Call_Name_kw (ld_glob I hg hm ?_ hdb)
  refine PySem.W.callWith_K (h₀ := X.base) I.ok.mod.kin T.kC (thn (ha.run pos pins s σ H _ I h) fun us s1 ⟨vs, H1, I1, r1, hz, q1⟩ => ⟨I1.kIn, ?_⟩) he hpl
  show wpAny _ _ (call (.ref C) us) _ _ _
  obtain ⟨hp, g, dr, tk, os⟩ := s1
  have hsz : hp.objs.size ≤ hp.objs.size + 1 := Nat.le_succ _
  have hn : H1 (hp.objs.size + 1) = none := I1.hok.fresh hsz
  have hq := q1 (hp.objs.size + 1) hn
  have kk : ∀ b o, hp.get? b = some o → ((hp.push (PySem.W.kdv_tup us)).push (PySem.HandSPX.excO C hp.objs.size)).get? b = some o := fun b o e => Heap.get?_push_of_some _ (Heap.get?_push_of_some _ e)
  have hget : ((hp.push (PySem.W.kdv_tup us)).push (PySem.HandSPX.excO C hp.objs.size)).get? (hp.objs.size + 1) = some (PySem.HandSPX.excO C hp.objs.size) := by heap_get
  have I2 : Inv X pins σ (upd H1 (hp.objs.size + 1) (exo (hp.objs.size + 1) C none)) ⟨(hp.push (PySem.W.kdv_tup us)).push (PySem.HandSPX.excO C hp.objs.size), g, dr, tk, os⟩ :=
    I1.laid (t' := tk) (a := hp.objs.size + 1) (o := exo (hp.objs.size + 1) C none) (h' := (hp.push (PySem.W.kdv_tup us)).push (PySem.HandSPX.excO C hp.objs.size)) kk hsz (L2.exo_ok hget)
  have r2 : Vals (V.ref (hp.objs.size + 1) :: vs) (Value.ref (hp.objs.size + 1) :: us) := .cons rfl r1
  have hl : (Value.ref (hp.objs.size + 1) :: us).length = ps.length := by
    have e := r2.length
    rw [F1.len _ _ _ _ hq] at e
    exact e.symm
  have hus : us.length ≤ sizeLine := by
    rw [← Paired.length r1, sizeLine_eq]
    omega
  refine wpAny_call (PySem.HandSPX.call_own F.excBase_ValueError (fun Y => PySem.HandSPX.refsVE_contains Y bm hbm) (I1.kIn _ _ hC) (PySem.W.looks_findIn I1.kIn iC) (fun self => PySem.W.bind_fn I1.kIn self tI) hus
    (codeAny_mono (F1.run _ X.stack _ _ ⟨Value.ref (hp.objs.size + 1) :: us, []⟩ (Value.ref (hp.objs.size + 1) :: us) _ _ (fun _ _ _ => False) (hr.make C us []) (I2.env0.make C us []) (by have z := hb _ (Value.ref (hp.objs.size + 1) :: us) I2.kIn (by rw [List.append_nil]; exact hl); rw [List.append_nil] at z; exact z) r2 hq) fun r s' hq' => ?_))
  cases r with
  | error er => exact hx pins σ _ _ er s' I2 hq'
  | ok fl =>
    cases fl with
    | ret u =>
      obtain ⟨v, H', I3, rv, ev, dx, fs, ed, q3⟩ := I2.after hq'
      subst ev
      exact ⟨rv, .ref (hp.objs.size + 1), _, xd_of I3 ed, rfl, q3⟩
    | next => exact False.elim hq'
    | brk => exact False.elim hq'
    | cont => exact False.elim hq'
/-! ### asking -/
/-- the error's dict stands, or there is none -/
def DictV (d : Option Addr) (H : Hp) : Prop := d = none ∨ ∃ dd fs, d = some dd ∧ H dd = some (.xd fs)
theorem inst_exv {pins : List (Addr × Obj)} {s : Shared} {a C : Addr} {d : Option Addr} (I : Inv X pins σ H s) (ha : H a = some (exo a C d)) (hd : DictV d H) : ∃ oe od, PySem.W.InstAt s.heap a oe C od := by
  obtain ⟨t1, hg⟩ := exo_at I.hok ha
  rcases hd with e | ⟨dd, fs, e, hx⟩
  · subst e
    exact ⟨_, none, hg, rfl, rfl, trivial⟩
  · subst e
    have hk : ObjOk X.prog X.w H s.heap dd (.xd fs) := I.hok dd _ hx
    obtain ⟨mA, hns, hr⟩ := hk
    obtain ⟨od, ho, hl⟩ := lookIn_ns hns
    exact ⟨_, some od, hg, rfl, rfl, ho⟩
def rIsv (K : PySem.W.Frag) (mg : Str → Option Value) : List V → Hp → VK → Prop := fun xs H Q => ∃ (a : Addr) (d : Option Addr) (c : V) (u : Value) (b : Bool) (n : Str) (C : Addr), xs = [.ref a, c] ∧ ClsV c u ∧ XCls K mg n C ∧ H a = some (exo a C d) ∧ DictV d H ∧ PySem.W.kitOne K (.ref C) u = some b ∧ Q (.bl b) H
theorem call_isv {mg : Str → Option Value} : CallR X (.builtin "isinstance") (rIsv X.K mg) := by
  intro pins s σ H xs us Q I r h
  obtain ⟨a, d, c, u, b, n, C, rfl, k, XC, ha, hd, e, q⟩ := h
  obtain ⟨u1, u2, rfl, r1, r2⟩ := vals2 r
  have e2 := k.eq r2
  subst e2
  cases (show u1 = Value.ref a from r1)
  obtain ⟨oe, od, J⟩ := inst_exv I ha hd
  exact PySem.W.kia_one (PySem.W.kitx_exc XC.cl XC.ga XC.gg XC.exC XC.ca XC.cn XC.ct XC.mo) I.kIn J e (fun z => nomatch z) fun tk => ⟨.bl b, H, I.tok tk, rfl, q⟩
/-- e.f -/
def tFldv (K : PySem.W.Frag) (mg : Str → Option Value) (f : Str) (te : TE) : TE := fun σ H Q => te σ H fun x H1 => ∃ (a : Addr) (n : Str) (C dd : Addr) (fs : List (Str × V)) (w : V), x = .ref a ∧ XCls K mg n C ∧ H1 a = some (exo a C (some dd)) ∧ PySem.W.findIn K (.ref C) f = some none ∧ H1 dd = some (.xd fs) ∧ fs.lookup f = some w ∧ Q w H1
theorem pe_fldv {mg : Str → Option Value} {e : Expr} {te : TE} {f : Str} {pos : Pos} (he : PE X e te) (hb : attributeBase e f X.env (eval e X.env) = eval e X.env) : PE X (.Attribute e f pos) (tFldv X.K mg f te) := by
  refine ⟨fun pins s σ H Q I h => ?_⟩
  refine attr_of hb (thn (he.run pins s σ H _ I h) fun u s1 hh => ?_)
  obtain ⟨x, H1, I1, rx, a, n, C, dd, fs, w, ex, XC, ha, hno, ea, hl, q⟩ := hh
  subst ex
  obtain rfl : u = Value.ref a := rx
  obtain ⟨t1, hg⟩ := exo_at I1.hok ha
  have hx : ObjOk X.prog X.w H1 s1.heap dd (.xd fs) := I1.hok dd _ ea
  obtain ⟨mA, hns, hr⟩ := hx
  obtain ⟨od, ho, hl2⟩ := lookIn_ns hns
  obtain ⟨u, hu, ru⟩ := RelO.some_of (v := w) (o := mA f) (by rw [← hl]; exact hr f)
  have J : PySem.W.InstAt s1.heap a _ C (some od) := ⟨hg, rfl, rfl, ho⟩
  exact HandSPX.exc_get I1.kIn J XC.ga XC.gg XC.exC (PySem.W.findObj_own XC.hdC hno rfl (by rw [hl2, hu])) (handed_of ru) ⟨w, H1, I1.tok _, ru, q⟩
/-! ### the readings -/
theorem fields_rep {k : KA Z} {G : Hp} {n : Str} {vs : List V} {ds : List D} (r : Reps k G vs ds) (hl : ds.length = (exFld n).length) : Repf k G ((exFld n).zip vs).reverse (fieldsD (exFld n) ds).reverse := by
  unfold exFld at hl ⊢
  split at hl
  · rename_i h
    rw [if_pos h]
    match ds, vs, r, hl with
    | [d], [w], .cons r1 .nil, _ => exact .cons r1 .nil
  · rename_i h
    rw [if_neg h]
    split at hl
    · rename_i h2
      rw [if_pos h2]
      match ds, vs, r, hl with
      | [d1, d2], [w1, w2], .cons r1 (.cons r2 .nil), _ => exact .cons r2 (.cons r1 .nil)
    · rename_i h2
      rw [if_neg h2]
      exact .nil
theorem fields_in {n : Str} {vs : List V} : ∀ f v, ((exFld n).zip vs).reverse.lookup f = some v → f ∈ exFld n := fun f v h =>
  (List.of_mem_zip (List.mem_reverse.mp (PySem.mem_of_lookup h))).1
theorem rd_mkx0 {n : Str} {C : Addr} (hC : Z.xc n = some C) (h0 : exFld n = []) (h : SEM R E (.mkx n []) σ H Q) : ∀ a, H a = none → Q (.ref a) (upd H a (exo a C none)) := by
  obtain ⟨k, G, ρ, s, P, h⟩ := h
  simp only [ev, evs, Out.bind] at h
  rw [if_pos (by rw [h0]; rfl)] at h
  intro a ha
  have gb : Grow k G H (upd G a (exo a C none)) (upd H a (exo a C none)) := Grow.both P.sub ha fun _ => exo_tbl
  refine h (.ref a) _ _ gb (P.dk.keep gb (by rw [upd_ne (P.dk.ne ha)])) (.inr ⟨fun z => by simp [PX.freshy] at z, ?_⟩)
  unfold exD
  rw [h0]
  exact .exc0 upd_same hC
theorem rd_mkx1 {n : Str} {ps : List PX} {C : Addr} (hC : Z.xc n = some C) (T : OexC X.K C) (noF : ∀ f ∈ exFld n, PySem.W.findIn X.K (.ref C) f = some none) (h : SEM R E (.mkx n ps) σ H Q) : tMkV C (spIni X.K n) (SEMA R E ps) σ H Q := by
  obtain ⟨k, G, ρ, s, P, h⟩ := h
  simp only [ev] at h
  refine sema_step P h fun ds s1 vs G1 H1 g1 P1 r1 h1 => ?_
  split at h1
  · rename_i hl
    have lv : vs.length = (exFld n).length := r1.length.trans hl
    have l2 := exFld_le n
    refine ⟨by omega, fun a ha => ⟨a, C, vs, rfl, lv, upd_same, T, noF, fun dx H' ne hdx h3 h4 h5 => ⟨rfl, dx, _, h4, ?_⟩⟩⟩
    rw [upd_ne ne] at hdx
    have e : upd H' dx (.xd ((exFld n).zip vs).reverse) = upd (upd H1 a (exo a C (some dx))) dx (.xd ((exFld n).zip vs).reverse) := by
      funext b
      by_cases h6 : b = dx
      · rw [h6, upd_same, upd_same]
      · rw [upd_ne h6, upd_ne h6]
        by_cases h7 : b = a
        · rw [h7, upd_same, h3]
        · rw [upd_ne h7, h5 b h7 h6, upd_ne h7]
    rw [e]
    have ga : Grow k G1 H1 (upd G1 a (exo a C (some dx))) (upd H1 a (exo a C (some dx))) := Grow.both P1.sub ha fun _ => exo_tbl
    have da := P1.dk.keep ga (by rw [upd_ne (P1.dk.ne ha)])
    have hdx' : upd H1 a (exo a C (some dx)) dx = none := by rw [upd_ne ne]; exact hdx
    have gb := Grow.both (k := k) (o := HO.xd ((exFld n).zip vs).reverse) ga.gh hdx'
    have gt := ga.trans gb
    have dt := da.keep gb (by rw [upd_ne (da.ne hdx')])
    refine h1 (.ref a) _ _ (g1.trans gt) dt (.inr ⟨fun z => by simp [PX.freshy] at z, ?_⟩)
    exact .exc1 (by rw [upd_ne ne.symm, upd_same]) upd_same hC fields_in (fields_rep (r1.mono gt.gg) hl)
  · exact h1.elim
/-- an error that is held -/
theorem exv_rep {k : KA Z} {G : Hp} {v : V} {x : D} {c : Str} {b : Bool} (r : Rep k G v x) (h : isxD c x = some b) : ∃ a d n C, v = .ref a ∧ G a = some (exo a C d) ∧ DictV d G ∧ Z.xc n = some C ∧ b = exIs n c := by
  cases r with
  | exc0 ha hc =>
    simp only [isxD, Option.some.injEq] at h
    exact ⟨_, _, _, _, rfl, ha, .inl rfl, hc, h.symm⟩
  | exc1 ha hd hc hn rf =>
    simp only [isxD, Option.some.injEq] at h
    exact ⟨_, _, _, _, rfl, ha, .inr ⟨_, _, rfl, hd⟩, hc, h.symm⟩
  | _ => cases h
theorem xfl_rep {k : KA Z} {G : Hp} {v : V} {x d : D} {f : Str} (r : Rep k G v x) (h : xflD f x = some d) : ∃ a n C dd fs w, v = .ref a ∧ G a = some (exo a C (some dd)) ∧ G dd = some (.xd fs) ∧ Z.xc n = some C ∧ f ∈ exFld n ∧ fs.lookup f = some w ∧ Rep k G w d := by
  cases r with
  | exc0 ha hc => cases h
  | exc1 ha hd hc hn rf =>
    obtain ⟨w, e1, rw⟩ := getF_rep rf h
    exact ⟨_, _, _, _, _, w, rfl, ha, hd, hc, hn _ _ e1, e1, rw⟩
  | _ => cases h
theorem rd_isx {P : Program} {w : World} {base : Heap} {xv : List Str} {c : Str} {p : PX} {D : Addr} (O : XvOk Z P w X.K X.mg base xv) (hc : c ∈ xv) (hD : X.mg c = some (.ref D)) (h : SEM R E (.isx c p) σ H Q) : tCB (rIsv X.K X.mg) (tCons (SEM R E p) (tCons (tC (.ref D)) tNil)) σ H Q := by
  obtain ⟨k, G, ρ, s, P, h⟩ := h
  simp only [ev] at h
  refine sem_step P h fun x s1 v G1 H1 g1 P1 r1 h1 => ?_
  obtain ⟨d, e, q⟩ := h1.of
  obtain ⟨b, e1, e2⟩ := Option.map_eq_some_iff.mp e
  subst e2
  obtain ⟨a, d, n, C, rfl, ha, hd, hn, eb⟩ := exv_rep r1 e1
  obtain ⟨hx, hm⟩ := O.z n C hn
  obtain ⟨C2, X2⟩ := O.all.cls n hx
  have e2 : C2 = C := by have := X2.g.symm.trans hm; cases this; rfl
  subst e2
  refine ⟨a, d, .ref D, .ref D, b, n, C2, rfl, .own D, X2, P1.sub _ _ ha, ?_, by rw [eb]; exact (O.all.kit hx hc hm hD).1, q (.bl b) G1 H1 g1 P1.dk (.inr ⟨fun z => by simp [PX.freshy] at z, .bl _⟩)⟩
  rcases hd with e | ⟨dd, fs, e, hx⟩
  · exact .inl e
  · exact .inr ⟨dd, fs, e, P1.sub _ _ hx⟩
theorem rd_isxv {P : Program} {w : World} {base : Heap} {xv : List Str} {p : PX} (O : XvOk Z P w X.K X.mg base xv) (h : SEM R E (.isx "ValueError" p) σ H Q) : tCB (rIsv X.K X.mg) (tCons (SEM R E p) (tCons (tC (.ty "ValueError")) tNil)) σ H Q := by
  obtain ⟨k, G, ρ, s, P, h⟩ := h
  simp only [ev] at h
  refine sem_step P h fun x s1 v G1 H1 g1 P1 r1 h1 => ?_
  obtain ⟨d, e, q⟩ := h1.of
  obtain ⟨b, e1, e2⟩ := Option.map_eq_some_iff.mp e
  subst e2
  obtain ⟨a, d, n, C, rfl, ha, hd, hn, eb⟩ := exv_rep r1 e1
  obtain ⟨hx, hm⟩ := O.z n C hn
  obtain ⟨C2, X2⟩ := O.all.cls n hx
  have e2 : C2 = C := by have := X2.g.symm.trans hm; cases this; rfl
  subst e2
  have hv : exIs n ("ValueError" : Str) = true := by
    unfold exIs exSup
    split
    · decide +kernel
    · simp
  refine ⟨a, d, .ty "ValueError", .type "ValueError", b, n, C2, rfl, .ty _, X2, P1.sub _ _ ha, ?_, by rw [eb, hv]; exact X2.kve, q (.bl b) G1 H1 g1 P1.dk (.inr ⟨fun z => by simp [PX.freshy] at z, .bl _⟩)⟩
  rcases hd with e | ⟨dd, fs, e, hx⟩
  · exact .inl e
  · exact .inr ⟨dd, fs, e, P1.sub _ _ hx⟩
theorem rd_xfl {P : Program} {w : World} {base : Heap} {xv : List Str} {f : Str} {p : PX} (O : XvOk Z P w X.K X.mg base xv) (h : SEM R E (.xfl p f) σ H Q) : tFldv X.K X.mg f (SEM R E p) σ H Q := by
  obtain ⟨k, G, ρ, s, P, h⟩ := h
  simp only [ev] at h
  refine sem_step P h fun x s1 v G1 H1 g1 P1 r1 h1 => ?_
  obtain ⟨d, e, q⟩ := h1.of
  obtain ⟨a, n, C, dd, fs, w, rfl, ha, hd, hn, hf, hl, rw⟩ := xfl_rep r1 e
  obtain ⟨hx, hm⟩ := O.z n C hn
  obtain ⟨C2, X2⟩ := O.all.cls n hx
  have e2 : C2 = C := by have := X2.g.symm.trans hm; cases this; rfl
  subst e2
  exact ⟨a, n, C2, dd, fs, w, rfl, X2, P1.sub _ _ ha, X2.noF _ hf, P1.sub _ _ hd, hl, q w G1 H1 g1 P1.dk (.inr ⟨fun z => by simp [PX.freshy] at z, rw⟩)⟩
end
end CH

set_option Elab.async false
set_option linter.all false
set_option maxRecDepth 100000
set_option maxHeartbeats 4000000
/-! from the program's trees to the small language: expressions -/
namespace CH
variable {Z : St0}
open PySem L2 PyProof.Rows NdefX
/-- the program's own classes: fields, methods and properties with class and number, classes with the number of their __init__ -/
structure Co where
  fl : List Str
  ms : List (Str × Str × Nat)
  ps : List (Str × Str × Nat)
  ks : List (Str × Nat)
  /-- operators of an own class: name, class, number; own ==; names that hold objects -/
  op : List (String × Str × Nat)
  eq : Option (Str × Nat)
  ob : List Str
  /-- calls by names, of defs and of own classes: name, number, the names in the order in which they are written, and which of them each parameter is -/
  kf : List (Str × Nat × List Str × List Nat)
  kn : List (Str × Nat × List Str × List Nat)
  /-- the error classes whose errors are made by hand and held -/
  xv : List Str
/-- what a def's text stands in: its names, its scope, the defs and constants of the module by number -/
structure Cn where
  N : List Str
  sc : Scope
  fn : Str → Bool
  fs : List (Str × Nat)
  cs : List (Str × D)
  hk : Bool
  xs : List Str
  co : Co
  /-- how much room there is above that of a call; lt: lambdas may be made here -/
  ex : Nat
  lt : Bool
def Cn.vis (c : Cn) (x : Str) : Bool := match c.sc.names.lookup x with
  | some .local => true
  | some .cell => true
  | some .free => true
  | _ => false
def Cn.glb (c : Cn) (x : Str) : Bool := decide (c.sc.names.lookup x = some .globalImplicit)
/-- a name that is stored to -/
def Cn.sto (c : Cn) (x : Str) : Bool := decide (c.sc.names.lookup x = some .local) || (decide (c.sc.names.lookup x = some .cell) && c.fn x)
def Cn.blk (c : Cn) (scope : Scope) : Cn := { c with sc := relS scope c.sc, fn := fun x => scope.names.lookup x == some .cell, lt := false }
/-- within a lambda -/
def Cn.lam (c : Cn) (p : Str) (fr : List Str) (scope : Scope) : Cn := { c with N := p :: fr, sc := scope, fn := fun _ => false, ex := 0, lt := false }
def noStar : Expr → Bool
  | .Starred .. => false
  | _ => true
def noSlice : Expr → Bool
  | .Slice .. => false
  | _ => true
def noSet : Expr → Bool
  | .Set .. => false
  | _ => true
def noIte : Expr → Bool
  | .IfExp .. => false
  | _ => true
def mapO {α β : Type} (f : α → Option β) : List α → Option (List β)
  | [] => some []
  | a :: r => (f a).bind fun b => (mapO f r).bind fun bs => some (b :: bs)
def chk {α : Type} (b : Bool) (o : Option α) : Option α := if b = true then o else none
def cName (c : Cn) (x : Str) : Option PX :=
  if c.vis x then chk (!(x == ("__debug__" : Str)) && !(x == ("__classdict__" : Str))) ((c.N.idxOf? x).map .var)
  else chk (c.glb x && !(x == ("__debug__" : Str))) ((c.cs.lookup x).map .cst)
def cCst : Const → Option PX
  | .none => some (.cst .none)
  | .bool b => some (.cst (.bool b))
  | .int i => some (.cst (.int i))
  | .str x => some (.cst (.str x))
  | _ => none
def okOp : Operator → Bool
  | .Add => true
  | .Sub => true
  | .Mult => true
  | .FloorDiv => true
  | .Mod => true
  | .Pow => true
  | _ => false
def okCmp : CmpOp → Bool
  | .Is => false
  | .IsNot => false
  | _ => true
def isNon : Expr → Bool
  | .Constant .none _ _ => true
  | _ => false
/-- the built-ins by name and number of arguments -/
def biT1 : List (Str × BI) := [("len", .len), ("all", .all), ("any", .any), ("int", .int), ("abs", .abs), ("list", .list), ("tuple", .tuple), ("sum", .sum), ("max", .max), ("min", .min), ("sorted", .sorted), ("repr", .repr), ("str", .str)]
def biT2 : List (Str × BI) := [("max", .max2), ("min", .min2)]
def biN (x : Str) : Nat → Option BI
  | 1 => biT1.lookup x
  | 2 => biT2.lookup x
  | _ => none
def tyT : List (Str × String) := [("int", "int"), ("bool", "bool"), ("tuple", "tuple")]
def tyN (x : Str) : Option String := tyT.lookup x
/-- an expression that gives an object, by its look -/
def isObE (c : Cn) : Expr → Bool
  | .Name x _ => c.co.ob.contains x
  | .BinOp _ .BitOr _ _ => true
  | .BinOp _ .BitAnd _ _ => true
  | _ => false
def cObin (c : Cn) (a : Expr) (op : Operator) : Option (Str × Nat) := if isObE c a = true then c.co.op.lookup op.info.2 else none
section
variable (g : Cn → Expr → Option PX)
def cCmpO (c : Cn) (op : CmpOp) (p : PX) (b : Expr) : Option PX := match op, c.co.eq with
  | .Eq, some (k, i) => (g c b).bind fun q => chk (!behindInMarks .Eq b && !c.co.ob.isEmpty) (some (.ocmp .Eq k i p q))
  | _, _ => none
def cOpt (c : Cn) : Option Expr → Option (Option PX)
  | none => some none
  | some e => (g c e).map some
def cAnd (c : Cn) : List Expr → Option PX
  | [] => none
  | [a] => g c a
  | a :: r => (g c a).bind fun p => (cAnd c r).bind fun q => some (.and_ p q)
def cOr (c : Cn) : List Expr → Option PX
  | [] => none
  | [a] => g c a
  | a :: r => (g c a).bind fun p => (cOr c r).bind fun q => some (.or_ p q)
def cCmp1 (c : Cn) (a : Expr) (op : CmpOp) (b : Expr) : Option PX := (g c a).bind fun p => if isObE c a = true then cCmpO g c op p b else match op with
  | .Is => chk (isNon b) (some (.isn p))
  | .IsNot => chk (isNon b) (some (.notn p))
  | op => (g c b).bind fun q => chk (!behindInMarks op b) (some (.cmp op p q))
def cCmp (c : Cn) (a : Expr) : List CmpOp → List Expr → Option PX
  | [op], [b] => cCmp1 g c a op b
  | [o1, o2], [b, d] => (g c a).bind fun p => (g c b).bind fun q => (g c d).bind fun r => chk (okCmp o1 && okCmp o2 && !lastMarks [o1, o2] [b, d]) (some (.chain o1 o2 p q r))
  | _, _ => none
def cSub (c : Cn) (a : Expr) : Expr → Option PX
  | .Slice none none (some (.UnaryOp .USub (.Constant (.int 1) _ _) _)) _ => (g c a).map .rev
  | .Slice lo hi none _ => (g c a).bind fun p => (cOpt g c lo).bind fun q => (cOpt g c hi).bind fun r => some (.sl p q r)
  | i => chk (noSlice i) ((g c a).bind fun p => (g c i).bind fun q => some (.ix p q))
def cIsi (c : Cn) : List Expr → Option PX
  | [e, .Name t _] => match tyN t with
    | some T => chk (c.glb t && noStar e) ((g c e).map (.isi T))
    | none => if c.co.xv.contains t || (t == ("ValueError" : Str) && !c.co.xv.isEmpty) then chk (c.glb t && noStar e && !(t == ("__debug__" : Str))) ((g c e).map (.isx t))
      else chk (c.glb t && noStar e && !c.co.ob.isEmpty && (c.co.ks.lookup t).isSome && !(t == ("__debug__" : Str))) ((g c e).map (.isc t))
  | _ => none
/-- list(range(..)) -/
def cLrg (c : Cn) : List Expr → Option PX
  | [.Call (.Name y _) [a] [] _] => chk (c.glb y && y == ("range" : Str) && noStar a) ((g c a).map fun p => .bi .lrng [p])
  | [.Call (.Name y _) [a, b] [] _] => chk (c.glb y && y == ("range" : Str) && noStar a && noStar b) ((g c a).bind fun p => (g c b).map fun q => .bi .lrng [p, q])
  | _ => none
/-- sorted(set(..)) -/
def cSst (c : Cn) : List Expr → Option PX
  | [.Call (.Name y _) [a] [] _] => chk (c.glb y && y == ("set" : Str) && noStar a) ((g c a).map fun p => .bi .sset [p])
  | _ => none
def isSt : List Expr → Bool
  | [.Call (.Name y _) _ _ _] => y == ("set" : Str)
  | _ => false
def isRg : List Expr → Bool
  | [.Call (.Name y _) _ _ _] => y == ("range" : Str)
  | _ => false
/-- last_that(a, b, lambda p: e) -/
def frOf (sc : Scope) : List Str := (sc.names.filter fun y => decide (y.2 = .free)).map (·.1)
def lamB (c : Cn) (p : Str) (scope : Scope) : Bool := c.lt && decide (3 ≤ c.ex) && nscB (p :: frOf scope) [p] (frOf scope) scope &&
  scope.names.all (fun y => !decide (y.2 = .free) || decide (c.sc.names.lookup y.1 = some .cell) || decide (c.sc.names.lookup y.1 = some .free)) && (frOf scope).all (fun y => decide ((y, NameKind.free) ∈ scope.names))
def cLast (c : Cn) : List Expr → Option PX
  | [a, b, .Lambda ⟨[], [⟨p, none, _⟩], none, [], [], none, []⟩ body scope _] => chk (noStar a && noStar b && lamB c p scope)
      ((g c a).bind fun pa => (g c b).bind fun pb => (mapO (fun y => c.N.idxOf? y) (frOf scope)).bind fun js => (g (c.lam p (frOf scope) scope) body).map (.last pa pb js))
  | _ => none
def cCall (c : Cn) (x : Str) (es : List Expr) : Option PX :=
  chk (c.glb x && es.all noStar && !es.isEmpty && !(x == ("__debug__" : Str))) (if x == ("isinstance" : Str) then cIsi g c es
    else if x == ("list" : Str) && isRg es then cLrg g c es
    else if x == ("sorted" : Str) && isSt es then cSst g c es
    else match c.fs.lookup x with
    | some i => (mapO (g c) es).map (.call i)
    | none => match c.co.ks.lookup x with
    | some i => chk (decide (1 ≤ c.ex)) ((mapO (g c) es).map (.new x i))
    | none => if x == ("last_that" : Str) then cLast g c es else (biN x es.length).bind fun b => (mapO (g c) es).map (.bi b))
/-- an error that is made by hand -/
def isMkx (c : Cn) (x : Str) : Bool := c.co.xv.contains x && !(x == ("HeapError" : Str))
def cMkx (c : Cn) (x : Str) (es : List Expr) : Option PX := chk (c.glb x && !(x == ("__debug__" : Str)) && es.all noStar && (es.length == (exFld x).length) && decide (2 ≤ c.ex)) ((mapO (g c) es).map (.mkx x))
/-- a call by names -/
def cCallK (c : Cn) (x : Str) (kws : List Keyword) : Option PX :=
  chk (c.glb x && !(x == ("__debug__" : Str))) ((kwNs kws).bind fun ks => (mapO (g c) (kws.map (·.value))).bind fun ps => match c.co.kf.lookup x with
    | some (i, kl, pm) => chk (decide (kl = ks)) (some (.callk i pm ps))
    | none => match c.co.kn.lookup x with
      | some (i, kl, pm) => chk (decide (kl = ks) && decide (1 ≤ c.ex)) (some (.newk x i pm ps))
      | none => none)
def noSup : Expr → Bool
  | .Call _ [] [] _ => false
  | _ => true
/-- a method of a text -/
def cM (c : Cn) (o : Expr) (m : Str) (ap : Pos) (e : Expr) (cp : Pos) : Option PX :=
  chk (noSup o && noStar e && ap.endLine == cp.line) ((g c o).bind fun p => (g c e).bind fun q => if m == ("join" : Str) then some (.meth .join p [q]) else if m == ("split" : Str) then some (.meth .split p [q]) else none)
/-- a method of an object, or of a text -/
def cMs (c : Cn) (o : Expr) (m : Str) (ap : Pos) (es : List Expr) (cp : Pos) : Option PX := match c.co.ms.lookup m with
  | some (k, i) => chk (noSup o && es.all noStar && ap.endLine == cp.line && decide (es.length < 30)) ((g c o).bind fun p => (mapO (g c) es).map (.pcall k m i p))
  | none => match es with
    | [e] => cM g c o m ap e cp
    | _ => none
/-- a field, or a property -/
def cAttr (c : Cn) (o : Expr) (f : Str) : Option PX := chk (noSup o) (match c.co.ps.lookup f with
  | some (k, i) => chk (decide (1 ≤ c.ex)) ((g c o).map (.prop k i))
  | none => if c.co.xv.isEmpty then chk (decide (f ∈ c.co.fl)) ((g c o).map fun p => .fld p f) else (g c o).map fun p => .xfl p f)
def cKw (c : Cn) (x : Str) (e : Expr) (kn : Option Str) (v : Expr) : Option PX :=
  chk (c.glb x && noStar e) (if x == ("sorted" : Str) && (kn == some (Str.ofString "key")) then (match v with
      | .Name y _ => chk (y == ("heap_key" : Str) && c.glb y && c.hk) ((g c e).map .sortk)
      | _ => none)
    else if x == ("max" : Str) && (kn == some (Str.ofString "default")) then (g c e).bind fun p => (g c v).bind fun q => some (.bi .maxd [p, q])
    else none)
/-- min of a row of pairs, the second of it -/
def cMnd (c : Cn) (x : Str) (e : Expr) : Option PX := chk (c.glb x && noStar e && x == ("min" : Str)) ((g c e).map fun p => .ix (.bi .minkd [p]) (.cst (.int 1)))
def cMin (c : Cn) (x : Str) (e : Expr) (k1 : Option Str) (y : Str) (k2 : Option Str) : Option PX :=
  chk (c.glb x && noStar e && x == ("min" : Str) && k1 == some (Str.ofString "key") && k2 == some (Str.ofString "default") && y == ("heap_key" : Str) && c.glb y && c.hk) ((g c e).map .mink)
def tgName (N : List Str) : Expr → Option (Str × Nat)
  | .Name x _ => (N.idxOf? x).map fun i => (x, i)
  | _ => none
/-- the targets of a loop: the names, their slots -/
def cTg (c : Cn) : Expr → Option (PTg × List (Str × Nat))
  | .Name x _ => chk (c.sto x) ((c.N.idxOf? x).map fun i => (.one i, [(x, i)]))
  | .Tuple es _ _ => (mapO (tgName c.N) es).bind fun l => chk (l.all fun p => c.sto p.1) (some (.many (l.map (·.2)), l))
  | _ => none
def isTup : Expr → Bool
  | .Tuple .. => true
  | _ => false
def cIt (c : Cn) (tg : Expr) (it : Expr) : Option PIt :=
  match it with
  | .Call (.Name x _) es [] _ =>
    if x == ("range" : Str) then (match es with
      | [a] => chk (c.glb x && noStar a) ((g c a).map .rng1)
      | [a, b] => chk (c.glb x && noStar a && noStar b) ((g c a).bind fun p => (g c b).bind fun q => some (.rng2 p q))
      | _ => none)
    else if x == ("enumerate" : Str) then (match es with
      | [a] => chk (c.glb x && noStar a && isTup tg) ((g c a).map .enum)
      | _ => none)
    else if x == ("zip" : Str) then (match es with
      | [a, b] => chk (c.glb x && noStar a && noStar b && isTup tg) ((g c a).bind fun p => (g c b).bind fun q => some (.zip p q))
      | _ => none)
    else (g c it).map .seq
  | it => (g c it).map .seq
def cIfs (c : Cn) : List Expr → Option (Option PX)
  | [] => some none
  | [t] => chk (noIte t) ((g c t).map some)
  | _ => none
def cLc (c : Cn) (elt : Expr) (scope : Scope) : List Comprehension → Option PX
  | [⟨tg, it, ifs, 0⟩] => (cTg (c.blk scope) tg).bind fun (t, own) => (cIt g c tg it).bind fun i => (cIfs g (c.blk scope) ifs).bind fun w => (g (c.blk scope) elt).bind fun p =>
      chk (noSet it && blkC c.N c.sc scope own) (some (.lc t i w p))
  | [⟨tg, it, [], 0⟩, ⟨tg1, it1, ifs, 0⟩] => (cTg (c.blk scope) tg).bind fun (t, own) => (cTg (c.blk scope) tg1).bind fun (t1, own1) => match t, t1 with
    | .one i1, .one i2 => (cIt g c tg it).bind fun i => (cIt g (c.blk scope) tg1 it1).bind fun j => (cIfs g (c.blk scope) ifs).bind fun w => (g (c.blk scope) elt).bind fun p =>
      chk (noSet it && noSet it1 && blkC c.N c.sc scope (own ++ own1)) (some (.lc2 i1 i i2 j w p))
    | _, _ => none
  | _ => none
end
def cE : Nat → Cn → Expr → Option PX
  | 0, _, _ => none
  | n + 1, c, e => match e with
    | .Name x _ => cName c x
    | .Constant v _ _ => cCst v
    | .Tuple es _ _ => chk (es.all noStar) ((mapO (cE n c) es).map .tup)
    | .List es _ => chk (es.all noStar) ((mapO (cE n c) es).map .lst)
    | .BinOp a op b _ => match cObin c a op with
      | some (k, i) => (cE n c a).bind fun p => (cE n c b).bind fun q => some (.obin op k i p q)
      | none => chk (okOp op) ((cE n c a).bind fun p => (cE n c b).bind fun q => some (.bin op p q))
    | .UnaryOp .USub a _ => (cE n c a).map .neg
    | .UnaryOp .Not a _ => chk (noIte a) ((cE n c a).map .not_)
    | .BoolOp .And vs _ => chk (vs.all noIte) (cAnd (cE n) c vs)
    | .BoolOp .Or vs _ => chk (vs.all noIte) (cOr (cE n) c vs)
    | .IfExp t a b _ => chk (noIte t) ((cE n c t).bind fun p => (cE n c a).bind fun q => (cE n c b).bind fun r => some (.ite p q r))
    | .Compare a ops bs _ => cCmp (cE n) c a ops bs
    | .Subscript (.Call (.Name x _) [e] [] _) (.Constant (.int 1) _ _) _ => cMnd (cE n) c x e
    | .Subscript a i _ => cSub (cE n) c a i
    | .Call (.Name x _) es [] _ => if isMkx c x then cMkx (cE n) c x es else cCall (cE n) c x es
    | .Call (.Name x _) [] kws _ => cCallK (cE n) c x kws
    | .Call (.Name x _) [e] [⟨kn, v, _⟩] _ => cKw (cE n) c x e kn v
    | .Call (.Name x _) [e] [⟨k1, .Name y _, _⟩, ⟨k2, .Constant .none _ _, _⟩] _ => cMin (cE n) c x e k1 y k2
    | .ListComp elt gs scope _ => cLc (cE n) c elt scope gs
    | .Call (.Attribute o m ap) es [] cp => cMs (cE n) c o m ap es cp
    | .Attribute o f _ => cAttr (cE n) c o f
    | _ => none
end CH

set_option Elab.async false
set_option linter.all false
set_option maxRecDepth 100000
set_option maxHeartbeats 4000000
/-! the translation of expressions is sound -/
namespace CH
variable {Z : St0}
open PySem L2 PyProof.Rows
def bNames : List Str := ["len", "all", "any", "int", "abs", "list", "tuple", "sum", "max", "min", "sorted", "repr", "range", "enumerate", "zip", "isinstance", "bool", "str", "set"]
/-- the program's own classes, as they are -/
structure CoOk (P : Program) (w : World) (K : PySem.W.Frag) (mg : Str → Option Value) (base : Heap) (R : Par Z) (co : Co) : Prop where
  cls : ClsOk Z K co.fl
  mths : ∀ m k i, co.ms.lookup m = some (k, i) → ∃ C f fd ps, Z.cls k = some C ∧ Meth K C m f ∧ FnG P w K mg base R.lv f fd ps (spOf R i) ∧ Binds K fd ps []
  prps : ∀ m k i, co.ps.lookup m = some (k, i) → ∃ C p f fd ps, Z.cls k = some C ∧ PropOf K C m p f ∧ FnG P w K mg base R.lv f fd ps (spOf R i) ∧ Binds K fd ps []
  news : ∀ x i, co.ks.lookup x = some i → ∃ C f fd ps, Z.cls x = some C ∧ mg x = some (.ref C) ∧ Mk K C f ∧ FnG P w K mg base R.lv f fd ps (spIniO R x i) ∧ Binds K fd ps []
  ops : ∀ (o : Operator) k i, co.op.lookup o.info.2 = some (k, i) → ∃ C f fd ps, Z.cls k = some C ∧ OpC K C f o ∧ FnG P w K mg base R.lv f fd ps (spOf R i) ∧ Binds K fd ps [] ∧ fillsNumberSlot (.type "tuple") o.info.2 = pure false
  eqs : ∀ k i, co.eq = some (k, i) → ∃ C f fd ps, Z.cls k = some C ∧ EqC K C f ∧ FnG P w K mg base R.lv f fd ps (spOf R i) ∧ Binds K fd ps []
  kfs : ∀ x i ks pm, co.kf.lookup x = some (i, ks, pm) → ∃ f fd ps, FnG P w K mg base R.lv f fd ps (spOf R i) ∧ mg x = some (.ref f) ∧ PySem.W.keepIn K (.ref f) = true ∧ KB K fd ps ks pm
  kns : ∀ x i ks pm, co.kn.lookup x = some (i, ks, pm) → ∃ C f fd ps, Z.cls x = some C ∧ mg x = some (.ref C) ∧ Mk K C f ∧ FnG P w K mg base R.lv f fd ps (spIniO R x i) ∧ KBi K fd ps ks pm
  own : co.ob ≠ [] → ∀ k C, Z.cls k = some C → OwnC K C
  xv : co.xv ≠ [] → XvOk Z P w K mg base co.xv
structure Fits (X : Cx) (R : Par Z) (E : XW) (c : Cn) : Prop where
  N : X.N = c.N
  nd : c.N.Nodup
  sc : X.env.scope = c.sc
  fn : X.fn = c.fn
  calm : X.calm = true
  gd : X.A.guards = some []
  room : Room (R.lv + c.ex) X.A
  blt : ∀ x ∈ bNames, X.mg x = none
  cst : ∀ x d, c.cs.lookup x = some d → ∃ u v, X.mg x = some u ∧ RelV v u ∧ ∀ (k : KA Z) (G : Hp), Rep k G v d
  key : c.hk = true → ∃ f, X.mg ("heap_key" : Str) = some (.ref f) ∧ KeyAt X.prog X.w X.base f
  fns : ∀ i x, c.fs.lookup x = some i → Callee X R i x
  tk : L2.Takes X (fun c d σ H => E σ c d H)
  co : CoOk X.prog X.w X.K X.mg X.base R c.co
  lam : c.lt = true → LastIn X.K X.mg ∧ LamAt Z X
theorem Fits.pass {X : Cx} {R : Par Z} {E : XW} {c : Cn} (F : Fits X R E c) (σ : L2.St) : PassesAt (L2.CX X.prog X.w) X σ (E σ) := passAt F.tk σ
theorem takes_false {X : Cx} : L2.Takes X (fun _ _ _ _ => False) := fun _ _ ⟨_, _, _, _, _, _, _, _, _, _, _, _, _, _, _, _, w⟩ => w.elim
theorem Fits.blk {X : Cx} {R : Par Z} {E : XW} {c : Cn} (F : Fits X R E c) (s : Shared) (H : Hp) (scope : Scope) (C : Addr) (cl : List (Str × Addr)) (fp : List Addr) : Fits (X.blk s H scope (compEnvC scope cl C X.env) fp) R E0 (c.blk scope) where
  N := F.N
  nd := F.nd
  sc := by
    show relS scope X.env.scope = relS scope c.sc
    rw [F.sc]
  fn := rfl
  calm := F.calm
  gd := F.gd
  room := F.room
  blt := F.blt
  cst := F.cst
  key := F.key
  fns := fun i x h => let ⟨f, fd, ps, q⟩ := (F.fns i x h).ex; ⟨f, fd, ps, q⟩
  tk := takes_false
  co := F.co
  lam := fun z => nomatch (show false = true from z)
theorem Fits.lv {X : Cx} {R : Par Z} {E : XW} {c : Cn} (F : Fits X R E c) : Room R.lv X.A := F.room.mono (Nat.le_add_right _ _)
def OKE (X : Cx) (R : Par Z) (E : XW) (e : Expr) (p : PX) : Prop := PE X e (SEM R E p) ∧ (noIte e = true → PT X e (SEMT R E p))
def IHg (g : Cn → Expr → Option PX) (R : Par Z) : Prop := ∀ (X : Cx) (E : XW) (c : Cn) (e : Expr) (p : PX), Fits X R E c → g c e = some p → OKE X R E e p
theorem chk_some {α : Type} {b : Bool} {o : Option α} {a : α} (h : chk b o = some a) : b = true ∧ o = some a := by
  unfold chk at h
  split at h
  · exact ⟨by assumption, h⟩
  · cases h
theorem ob {α β : Type} {o : Option α} {f : α → Option β} {b : β} (h : o.bind f = some b) : ∃ a, o = some a ∧ f a = some b := by
  cases o with
  | none => cases h
  | some a => exact ⟨a, rfl, h⟩
theorem om {α β : Type} {o : Option α} {f : α → β} {b : β} (h : o.map f = some b) : ∃ a, o = some a ∧ f a = b := by
  cases o with
  | none => cases h
  | some a => exact ⟨a, rfl, Option.some.inj h⟩
theorem star1 {e : Expr} (h : noStar e = true) (es : List Expr) (env : Env) : starEach (e :: es) env = (false, eval e env) :: starEach es env := by
  cases e <;> first | rfl | cases h
theorem starAny : ∀ {es : List Expr} (h : es.all noStar = true) (pos : Pos) (env : Env), (backTo pos (starEach es env)).any (·.1) = false
  | [], _, _, _ => rfl
  | e :: r, h, pos, env => by
    rw [List.all_cons, Bool.and_eq_true] at h
    rw [star1 h.1]
    show ((backTo pos (starEach r env)).any (·.1)) = false
    exact starAny h.2 pos env
section
variable {X : Cx} {R : Par Z} {E : XW} {c : Cn} {g : Cn → Expr → Option PX}
/-- a plain expression as a test -/
theorem oke {e : Expr} {p : PX} (h : PE X e (SEM R E p)) (he : noIte e = true → ∀ whole, isTrue e X.env whole = (do let v ← whole; standAt e.pos; holding [v] (truthy v))) : OKE X R E e p :=
  ⟨h, fun hn => (pt_val h (he hn)).wk fun σ H Q z => semt_val z⟩
theorem oke' {e : Expr} {p : PX} {t : TE} (h : PE X e t) (q : ∀ σ H Q, SEM R E p σ H Q → t σ H Q) (he : ∀ whole, isTrue e X.env whole = (do let v ← whole; standAt e.pos; holding [v] (truthy v))) : OKE X R E e p := oke (h.wk q) fun _ => he
theorem pa_all (ih : IHg g R) (F : Fits X R E c) : ∀ {es : List Expr} {ps : List PX}, es.all noStar = true → mapO (g c) es = some ps → PA X es (SEMA R E ps)
  | [], ps, _, h => by
    cases h
    exact pa_nil.wk fun _ _ _ z => rd_nil z
  | e :: r, ps, hs, h => by
    rw [List.all_cons, Bool.and_eq_true] at hs
    obtain ⟨p, h1, h⟩ := ob h
    obtain ⟨qs, h2, h⟩ := ob h
    cases h
    exact (pa_cons (ih X E c e p F h1).1 (pa_all ih F hs.2 h2) (star1 hs.1 _ _)).wk fun _ _ _ z => rd_cons z
theorem mapO_len {α β : Type} {f : α → Option β} : ∀ {as : List α} {bs : List β}, mapO f as = some bs → bs.length = as.length
  | [], bs, h => by cases h; rfl
  | a :: r, bs, h => by
    obtain ⟨b, _, h⟩ := ob h
    obtain ⟨cs, h2, h⟩ := ob h
    cases h
    rw [List.length_cons, List.length_cons, mapO_len h2]
theorem vis_ok {x : Str} (F : Fits X R E c) (h : c.vis x = true) : Vis X.env.scope x := by
  unfold Vis
  rw [F.sc]
  unfold Cn.vis at h
  split at h
  · exact .inl (by assumption)
  · exact .inr (.inl (by assumption))
  · exact .inr (.inr (by assumption))
  · cases h
theorem glb_ok {x : Str} (F : Fits X R E c) (h : c.glb x = true) : Gl X x := by
  show X.env.scope.names.lookup x = _
  rw [F.sc]
  simpa [Cn.glb] using h
theorem idx_ok {l : List Str} {x : Str} {i : Nat} (h : l.idxOf? x = some i) : l[i]? = some x := by
  have := List.findIdx?_eq_some_iff_getElem.mp (show l.findIdx? (· == x) = some i from h)
  obtain ⟨h1, h2, _⟩ := this
  rw [List.getElem?_eq_getElem h1]
  simpa using h2
theorem name_ok {x : Str} {pos : Pos} {p : PX} (F : Fits X R E c) (h : cName c x = some p) : OKE X R E (.Name x pos) p := by
  unfold cName at h
  split at h
  · rename_i hv
    obtain ⟨h1, h⟩ := chk_some h
    simp only [Bool.and_eq_true, Bool.not_eq_true'] at h1
    obtain ⟨i, h2, h3⟩ := om h
    subst h3
    exact oke' (pe_var (by rw [F.N]; exact idx_ok h2) (vis_ok F hv) h1.1 h1.2) (fun _ _ _ z => rd_var z) fun _ => rfl
  · obtain ⟨h1, h⟩ := chk_some h
    simp only [Bool.and_eq_true, Bool.not_eq_true'] at h1
    obtain ⟨d, h2, h3⟩ := om h
    subst h3
    obtain ⟨u, v, hm, r, hr⟩ := F.cst x d h2
    exact oke' (pe_glob (glb_ok F h1.1) hm r h1.2) (fun _ _ _ z => rd_cst hr z) fun _ => rfl
theorem cst_ok {v : Const} {j : Nat} {pos : Pos} {p : PX} (h : cCst v = some p) : OKE X R E (.Constant v j pos) p := by
  cases v with
  | none => cases h; exact oke' pe_non (fun _ _ _ z => rd_cst (fun _ _ => .non) z) fun _ => rfl
  | bool b => cases h; exact oke' pe_bl (fun _ _ _ z => rd_cst (fun _ _ => .bl _) z) fun _ => rfl
  | int i => cases h; exact oke' pe_int (fun _ _ _ z => rd_cst (fun _ _ => .int _) z) fun _ => rfl
  | str x => cases h; exact oke' pe_str (fun _ _ _ z => rd_cst (fun _ _ => .str _) z) fun _ => rfl
  | _ => cases h
theorem rd_bin {op : Operator} {a b : PX} {fr : Bool} {σ : L2.St} {H : Hp} {Q : VK} (hf : (PX.bin op a b).freshy = fr) (h : SEM R E (.bin op a b) σ H Q) : tOp (r2 (binD op) fr) (SEM R E a) (SEM R E b) σ H Q := by
  obtain ⟨k, G, ρ, s, P, h⟩ := h
  rw [hf] at h
  simp only [ev] at h
  exact rd_two P h
theorem rd_cmp {op : CmpOp} {a b : PX} {σ : L2.St} {H : Hp} {Q : VK} (h : SEM R E (.cmp op a b) σ H Q) : tOp (r2 (cB op) false) (SEM R E a) (SEM R E b) σ H Q := by
  obtain ⟨k, G, ρ, s, P, h⟩ := h
  simp only [ev] at h
  exact rd_two P h
theorem rd_ix {a b : PX} {σ : L2.St} {H : Hp} {Q : VK} (h : SEM R E (.ix a b) σ H Q) : tOp rIx (SEM R E a) (SEM R E b) σ H Q := by
  obtain ⟨k, G, ρ, s, P, h⟩ := h
  simp only [ev] at h
  refine sem_step P h fun x s1 v G1 H1 g1 P1 r1 h1 => sem_step P1 h1 fun y s2 w G2 H2 g2 P2 rw h2 => ?_
  obtain ⟨d, e, q⟩ := h2.of
  exact ⟨_, k, G2, s2, x, y, d, P2.sub, P2.dk, r1.mono g2.gg, rw, e, (Want.back (g1.trans g2) q).ends P2.dk⟩
theorem rd_bi {b : BI} {ps : List PX} {fr : Bool} {σ : L2.St} {H : Hp} {Q : VK} (hf : (PX.bi b ps).freshy = fr) (h : SEM R E (.bi b ps) σ H Q) : tCB (rN (biD b) fr) (SEMA R E ps) σ H Q := by
  obtain ⟨k, G, ρ, s, P, h⟩ := h
  rw [hf] at h
  simp only [ev] at h
  exact rd_args P h
theorem bin_ok {a b : Expr} {op : Operator} {pos : Pos} {p q : PX} (h : okOp op = true) (ha : OKE X R E a p) (hb : OKE X R E b q) : OKE X R E (.BinOp a op b pos) (.bin op p q) := by
  cases op with
  | Add => exact oke' (pe_op bin_add ha.1 hb.1) (fun _ _ _ z => rd_bin rfl z) fun _ => rfl
  | Sub => exact oke' (pe_op bin_sub ha.1 hb.1) (fun _ _ _ z => rd_bin rfl z) fun _ => rfl
  | Mult => exact oke' (pe_op bin_mul ha.1 hb.1) (fun _ _ _ z => rd_bin rfl z) fun _ => rfl
  | FloorDiv => exact oke' (pe_op bin_fdiv ha.1 hb.1) (fun _ _ _ z => rd_bin rfl z) fun _ => rfl
  | Mod => exact oke' (pe_op bin_mod ha.1 hb.1) (fun _ _ _ z => rd_bin rfl z) fun _ => rfl
  | Pow => exact oke' (pe_op bin_pow ha.1 hb.1) (fun _ _ _ z => rd_bin rfl z) fun _ => rfl
  | _ => cases h
theorem cmp_lt {X : Cx} (hu : X.A.units + 64 < cLine) : OpR X (compareOp .Lt) (r2 (cB .Lt) false) := by
  intro pins s σ H x y v u Q I rx ry h
  obtain ⟨Z, k, G, s', a, b, d, g, dk, ra, rb, e, q⟩ := h
  cases ra with
  | int i =>
    cases rb with
    | int j =>
      cases e
      exact op_lt pins s σ H _ _ v u Q I rx ry ⟨i, j, rfl, rfl, q.scal g (.bl _) (fun ds z => by cases z)⟩
    | _ => cases e
  | tup h1 r1 =>
    cases rb with
    | tup h2 r2 =>
      simp only [cB, cmpD, Option.map_eq_some_iff] at e
      obtain ⟨t, e1, e2⟩ := e
      split at e1
      · rename_i ns ms n1 n2
        cases e1
        cases e2
        rw [r1.ints n1] at h1
        rw [r2.ints n2] at h2
        exact op_ltT (by omega) pins s σ H _ _ v u Q I rx ry ⟨_, _, ns, ms, rfl, rfl, .of (g _ _ h1), .of (g _ _ h2), q.scal g (.bl _) (fun ds z => by cases z)⟩
      · split at e1
        · rename_i hc
          simp only [Bool.and_eq_true, Bool.not_eq_true', decide_eq_true_eq] at hc
          obtain ⟨⟨⟨c1, c2⟩, c3⟩, c4⟩ := hc
          cases e1
          cases e2
          obtain ⟨as, ra⟩ := Dp.reads I _ _ _ (Rep.dp g (d := .tuple _) (by simpa [PyData.hasDict] using c2) (.tup h1 r1)) rx
          obtain ⟨bs, rb⟩ := Dp.reads I _ _ _ (Rep.dp g (d := .tuple _) (by simpa [PyData.hasDict] using c3) (.tup h2 r2)) ry
          exact PySem.W.lt_data ra rb c1 (fun z => nomatch z) (Nat.lt_of_le_of_lt (Nat.add_le_add_left (Nat.le_trans (Nat.min_le_left _ _) c4) _) hu) ⟨.bl _, H, I, rfl, q.scal g (.bl _) (fun ds z => by cases z)⟩
        · cases e1
    | _ => cases e
  | _ => cases rb <;> cases e
theorem cmp_ge {X : Cx} (hu : X.A.units + 64 < cLine) : OpR X (compareOp .GtE) (r2 (cB .GtE) false) := by
  intro pins s σ H x y v u Q I rx ry h
  obtain ⟨Z, k, G, s', a, b, d, g, dk, ra, rb, e, q⟩ := h
  cases ra with
  | int i =>
    cases rb with
    | int j =>
      cases e
      exact op_ge pins s σ H _ _ v u Q I rx ry ⟨i, j, rfl, rfl, q.scal g (.bl _) (fun ds z => by cases z)⟩
    | _ => cases e
  | tup h1 r1 =>
    cases rb with
    | tup h2 r2 =>
      simp only [cB, cmpD, Option.map_eq_some_iff] at e
      obtain ⟨t, e1, e2⟩ := e
      split at e1
      · rename_i hc
        simp only [Bool.and_eq_true, Bool.not_eq_true', decide_eq_true_eq] at hc
        obtain ⟨⟨⟨c1, c2⟩, c3⟩, c4⟩ := hc
        cases e1
        cases e2
        obtain ⟨as, ra⟩ := Dp.reads I _ _ _ (Rep.dp g (d := .tuple _) (by simpa [PyData.hasDict] using c2) (.tup h1 r1)) rx
        obtain ⟨bs, rb⟩ := Dp.reads I _ _ _ (Rep.dp g (d := .tuple _) (by simpa [PyData.hasDict] using c3) (.tup h2 r2)) ry
        exact PySem.W.ge_data ra rb c1 (fun z => nomatch z) (Nat.lt_of_le_of_lt (Nat.add_le_add_left (Nat.le_trans (Nat.min_le_left _ _) c4) _) hu) ⟨.bl _, H, I, rfl, q.scal g (.bl _) (fun ds z => by cases z)⟩
      · cases e1
    | _ => cases e
  | _ => cases rb <;> cases e
theorem cmp_all (F : Fits X R E c) {op : CmpOp} (h : okCmp op = true) : OpR X (compareOp op) (r2 (cB op) false) := by
  have hu := F.room.un
  cases op with
  | Eq => exact cmp_eq (by omega)
  | NotEq => exact cmp_ne (by omega)
  | Lt => exact cmp_lt (by omega)
  | LtE => exact cmp_le (by omega)
  | Gt => exact cmp_gt
  | GtE => exact cmp_ge (by omega)
  | In => exact cmp_in (by omega)
  | NotIn => exact cmp_notIn (by omega)
  | _ => cases h
theorem ob_ne {l : List Str} (h : (!l.isEmpty) = true) : l ≠ [] := by
  intro e
  rw [e] at h
  cases h
theorem cmpO_ok {a b : Expr} {op : CmpOp} {p r : PX} {pos : Pos} (ih : IHg g R) (F : Fits X R E c) (ha : OKE X R E a p) (h : cCmpO g c op p b = some r) : OKE X R E (.Compare a [op] [b] pos) r := by
  unfold cCmpO at h
  split at h
  · rename_i k i he
    obtain ⟨q, h2, h⟩ := ob h
    obtain ⟨h3, h⟩ := chk_some h
    cases h
    rw [Bool.and_eq_true] at h3
    have hm : behindInMarks .Eq b = false := by simpa using h3.1
    have hb := ih X E c b q F h2
    obtain ⟨C, f, fd, ps, n1, n2, n3, n4⟩ := F.co.eqs k i he
    have O := F.co.own (ob_ne h3.2) _ _ n1
    have both := (op_ownE n2.at_ n2.fn n3 F.lv n4 F.gd F.pass).or (OpR.toS (cmp_all F (op := .Eq) rfl))
    exact ⟨(pe_cmpS both ha.1 hb.1 hm).wk fun _ _ _ z => rd_oeq n1 (F.co.cls.cl _ _ n1) O z, fun _ => (pt_cmpS both ha.1 hb.1 hm).wk fun _ _ _ z => rd_oeq n1 (F.co.cls.cl _ _ n1) O (semt_val z)⟩
  · cases h
theorem cmp1_ok {a b : Expr} {op : CmpOp} {pos : Pos} {r : PX} (ih : IHg g R) (F : Fits X R E c) (h : cCmp1 g c a op b = some r) : OKE X R E (.Compare a [op] [b] pos) r := by
  unfold cCmp1 at h
  obtain ⟨p, h1, h⟩ := ob h
  have ha := ih X E c a p F h1
  split at h
  · exact cmpO_ok ih F ha h
  have gen : okCmp op = true → ((g c b).bind fun q => chk (!behindInMarks op b) (some (PX.cmp op p q))) = some r → OKE X R E (.Compare a [op] [b] pos) r := fun hk h => by
    obtain ⟨q, h2, h⟩ := ob h
    obtain ⟨h3, h⟩ := chk_some h
    cases h
    have hm : behindInMarks op b = false := by simpa using h3
    have hb := ih X E c b q F h2
    exact ⟨(pe_cmpR (cmp_all F hk) ha.1 hb.1 hm).wk fun _ _ _ z => rd_cmp z, fun _ => (pt_cmpR (cmp_all F hk) ha.1 hb.1 hm).wk fun _ _ _ z => rd_cmp (semt_val z)⟩
  cases op with
  | Is =>
    obtain ⟨h3, h⟩ := chk_some h
    cases h
    unfold isNon at h3
    split at h3
    · exact ⟨(pe_cmp (pc_isN ha.1) rfl).wk fun _ _ _ z => rd_isn z, fun _ => (pt_cmp (pc_isN ha.1) rfl).wk fun _ _ _ z => rd_isn (semt_val z)⟩
    · cases h3
  | IsNot =>
    obtain ⟨h3, h⟩ := chk_some h
    cases h
    unfold isNon at h3
    split at h3
    · exact ⟨(pe_cmp (pc_notN ha.1) rfl).wk fun _ _ _ z => rd_notn z, fun _ => (pt_cmp (pc_notN ha.1) rfl).wk fun _ _ _ z => rd_notn (semt_val z)⟩
    · cases h3
  | _ => exact gen rfl h
theorem cmp_ok {a : Expr} {ops : List CmpOp} {bs : List Expr} {pos : Pos} {r : PX} (ih : IHg g R) (F : Fits X R E c) (h : cCmp g c a ops bs = some r) : OKE X R E (.Compare a ops bs pos) r := by
  unfold cCmp at h
  split at h
  · exact cmp1_ok ih F h
  · obtain ⟨p, h1, h⟩ := ob h
    obtain ⟨q, h2, h⟩ := ob h
    obtain ⟨z, h3, h⟩ := ob h
    obtain ⟨h4, h⟩ := chk_some h
    cases h
    simp only [Bool.and_eq_true, Bool.not_eq_true'] at h4
    obtain ⟨⟨h5, h6⟩, h7⟩ := h4
    exact ⟨(pe_chain (cmp_all F h5) (cmp_all F h6) (ih X E c _ _ F h1).1 (ih X E c _ _ F h2).1 (ih X E c _ _ F h3).1 h7).wk fun _ _ _ z => rd_chain z,
      fun _ => (pt_chain (cmp_all F h5) (cmp_all F h6) (ih X E c _ _ F h1).1 (ih X E c _ _ F h2).1 (ih X E c _ _ F h3).1 h7).wk fun _ _ _ z => rd_chain (semt_val z)⟩
  · cases h
theorem and_ok (ih : IHg g R) (F : Fits X R E c) {pos : Pos} : ∀ {vs : List Expr} {p : PX}, vs.all noIte = true → cAnd g c vs = some p → PE X (.BoolOp .And vs pos) (SEM R E p) ∧ PW X (.BoolOp .And vs pos) (SEMT R E p)
  | [], p, _, h => by cases h
  | [a], p, hs, h => by
    simp only [List.all_cons, List.all_nil, Bool.and_true] at hs
    have z := ih X E c a p F h
    exact ⟨pe_one z.1, pw_and1 (z.2 hs)⟩
  | a :: b :: r, p, hs, h => by
    rw [List.all_cons, Bool.and_eq_true] at hs
    simp only [cAnd] at h
    obtain ⟨p1, h1, h⟩ := ob h
    obtain ⟨p2, h2, h⟩ := ob h
    cases h
    have z := ih X E c a p1 F h1
    have w := and_ok ih F (pos := pos) hs.2 h2
    exact ⟨(pe_and z.1 w.1).wk fun _ _ _ y => rd_and y, (pw_and (z.2 hs.1) w.2).wk fun _ _ _ y => rt_and y⟩
theorem or_ok (ih : IHg g R) (F : Fits X R E c) {pos : Pos} : ∀ {vs : List Expr} {p : PX}, vs.all noIte = true → cOr g c vs = some p → PE X (.BoolOp .Or vs pos) (SEM R E p) ∧ PW X (.BoolOp .Or vs pos) (SEMT R E p)
  | [], p, _, h => by cases h
  | [a], p, hs, h => by
    simp only [List.all_cons, List.all_nil, Bool.and_true] at hs
    have z := ih X E c a p F h
    exact ⟨pe_one z.1, pw_or1 (z.2 hs)⟩
  | a :: b :: r, p, hs, h => by
    rw [List.all_cons, Bool.and_eq_true] at hs
    simp only [cOr] at h
    obtain ⟨p1, h1, h⟩ := ob h
    obtain ⟨p2, h2, h⟩ := ob h
    cases h
    have z := ih X E c a p1 F h1
    have w := or_ok ih F (pos := pos) hs.2 h2
    exact ⟨(pe_or z.1 w.1).wk fun _ _ _ y => rd_or y, (pw_or (z.2 hs.1) w.2).wk fun _ _ _ y => rt_or y⟩
theorem opt_ok {o : Option Expr} {p : Option PX} (ih : IHg g R) (F : Fits X R E c) (h : cOpt g c o = some p) : PO X o (SEMP R E p) := by
  cases o with
  | none =>
    cases h
    exact ⟨fun pins s σ H Q I z => po_none.run pins s σ H Q I (rp_none z)⟩
  | some e =>
    obtain ⟨q, h1, h2⟩ := om h
    subst h2
    exact ⟨fun pins s σ H Q I z => (po_some (ih X E c e q F h1).1).run pins s σ H Q I (rp_some z)⟩
theorem ix_ok {a i : Expr} {pos : Pos} {r : PX} (ih : IHg g R) (F : Fits X R E c) (h : chk (noSlice i) ((g c a).bind fun p => (g c i).bind fun q => some (.ix p q)) = some r) : OKE X R E (.Subscript a i pos) r := by
  obtain ⟨h0, h⟩ := chk_some h
  obtain ⟨p, h1, h⟩ := ob h
  obtain ⟨q, h2, h⟩ := ob h
  cases h
  refine oke' (pe_ix ix_all (ih X E c a p F h1).1 (ih X E c i q F h2).1 fun o j => ?_) (fun _ _ _ z => rd_ix z) fun _ => rfl
  cases i <;> first | rfl | cases h0
theorem sub_ok {a i : Expr} {pos : Pos} {r : PX} (ih : IHg g R) (F : Fits X R E c) (h : cSub g c a i = some r) : OKE X R E (.Subscript a i pos) r := by
  unfold cSub at h
  split at h
  · obtain ⟨p, h1, h⟩ := om h
    subst h
    exact oke' (pe_rev (ih X E c a p F h1).1) (fun _ _ _ z => rd_rev z) fun _ => rfl
  · obtain ⟨p, h1, h⟩ := ob h
    obtain ⟨q, h2, h⟩ := ob h
    obtain ⟨t, h3, h⟩ := ob h
    cases h
    exact oke' (pe_slice sl_all (ih X E c a p F h1).1 (opt_ok ih F h2) (opt_ok ih F h3)) (fun _ _ _ z => rd_sl z) fun _ => rfl
  · exact ix_ok ih F h
end
end CH

set_option Elab.async false
set_option linter.all false
set_option maxRecDepth 100000
set_option maxHeartbeats 4000000
/-! the translation of expressions is sound: calls, comprehensions -/
namespace CH
variable {Z : St0}
open PySem L2 PyProof.Rows NdefX
section
variable {X : Cx} {R : Par Z} {E : XW} {c : Cn} {g : Cn → Expr → Option PX}
theorem boo_all : bootBuiltins ("all" : Str) = some (.builtin "all") := by decide +kernel
theorem boo_any : bootBuiltins ("any" : Str) = some (.builtin "any") := by decide +kernel
theorem boo_int : bootBuiltins ("int" : Str) = some (.type "int") := by decide +kernel
theorem boo_bool : bootBuiltins ("bool" : Str) = some (.type "bool") := by decide +kernel
theorem boo_abs : bootBuiltins ("abs" : Str) = some (.builtin "abs") := by decide +kernel
theorem boo_list : bootBuiltins ("list" : Str) = some (.type "list") := by decide +kernel
theorem boo_tuple : bootBuiltins ("tuple" : Str) = some (.type "tuple") := by decide +kernel
theorem boo_sum : bootBuiltins ("sum" : Str) = some (.builtin "sum") := by decide +kernel
theorem boo_max : bootBuiltins ("max" : Str) = some (.builtin "max") := by decide +kernel
theorem boo_min : bootBuiltins ("min" : Str) = some (.builtin "min") := by decide +kernel
theorem boo_sorted : bootBuiltins ("sorted" : Str) = some (.builtin "sorted") := by decide +kernel
theorem boo_repr : bootBuiltins ("repr" : Str) = some (.builtin "repr") := by decide +kernel
theorem boo_isi : bootBuiltins ("isinstance" : Str) = some (.builtin "isinstance") := by decide +kernel
theorem boo_str : bootBuiltins ("str" : Str) = some (.type "str") := by decide +kernel
theorem boo_set : bootBuiltins ("set" : Str) = some (.type "set") := by decide +kernel
theorem boo_len : bootBuiltins ("len" : Str) = some (.builtin "len") := by decide +kernel
theorem bi_fn {x : Str} {id : String} {b : BI} {fr : Bool} {es : List Expr} {ps : List PX} {p pos : Pos} (F : Fits X R E c) (hx : x ∈ bNames) (hc : CallR X (.builtin id) (rN (biD b) fr)) (hf : (PX.bi b ps).freshy = fr) (hg : Gl X x) (hv : bootBuiltins x = some (.builtin id)) (ha : PA X es (SEMA R E ps))
    (hn : x ≠ "__name__") (hd : (x == ("__debug__" : Str)) = false) (hs : es.all noStar = true) (he : es ≠ []) : OKE X R E (.Call (.Name x p) es [] pos) (.bi b ps) := by
  match es, he with
  | e :: r, _ =>
    rw [List.all_cons, Bool.and_eq_true] at hs
    exact oke' (pe_callB hc hg (F.blt x hx) hv ha hn hd (star1 hs.1 _ _) (starAny hs.2 _ _)) (fun _ _ _ z => rd_bi hf z) fun _ => rfl
theorem bi_ty {x : Str} {id : String} {b : BI} {fr : Bool} {es : List Expr} {ps : List PX} {p pos : Pos} (F : Fits X R E c) (hx : x ∈ bNames) (hc : CallR X (.type id) (rN (biD b) fr)) (hf : (PX.bi b ps).freshy = fr) (hg : Gl X x) (hv : bootBuiltins x = some (.type id)) (ha : PA X es (SEMA R E ps))
    (hn : x ≠ "__name__") (hd : (x == ("__debug__" : Str)) = false) (hs : es.all noStar = true) (he : es ≠ []) : OKE X R E (.Call (.Name x p) es [] pos) (.bi b ps) := by
  match es, he with
  | e :: r, _ =>
    rw [List.all_cons, Bool.and_eq_true] at hs
    exact oke' (pe_callTy hc hg (F.blt x hx) hv ha hn hd (star1 hs.1 _ _) (starAny hs.2 _ _)) (fun _ _ _ z => rd_bi hf z) fun _ => rfl
theorem eq_str {x y : Str} (h : (x == y) = true) : x = y := by simpa using h
theorem biN_ok {x : Str} {n : Nat} {b : BI} {es : List Expr} {ps : List PX} {p pos : Pos} (F : Fits X R E c) (h : biN x n = some b) (hg : Gl X x) (ha : PA X es (SEMA R E ps)) (hs : es.all noStar = true) (he : es ≠ []) : OKE X R E (.Call (.Name x p) es [] pos) (.bi b ps) := by
  have hu := F.room.un
  have ml : ∀ {l : List (Str × BI)}, l.lookup x = some b → (x, b) ∈ l := fun h => PySem.mem_of_lookup h
  unfold biN at h
  split at h
  · replace h := ml h
    rcases List.mem_cons.mp h with e | h
    · cases e
      exact bi_fn F (by decide +kernel) bi_len rfl hg boo_len ha (by decide +kernel) (by decide +kernel) hs he
    rcases List.mem_cons.mp h with e | h
    · cases e
      exact bi_fn F (by decide +kernel) (bi_all F.calm) rfl hg boo_all ha (by decide +kernel) (by decide +kernel) hs he
    rcases List.mem_cons.mp h with e | h
    · cases e
      exact bi_fn F (by decide +kernel) (bi_any F.calm) rfl hg boo_any ha (by decide +kernel) (by decide +kernel) hs he
    rcases List.mem_cons.mp h with e | h
    · cases e
      exact bi_ty F (by decide +kernel) bi_int rfl hg boo_int ha (by decide +kernel) (by decide +kernel) hs he
    rcases List.mem_cons.mp h with e | h
    · cases e
      exact bi_fn F (by decide +kernel) bi_abs rfl hg boo_abs ha (by decide +kernel) (by decide +kernel) hs he
    rcases List.mem_cons.mp h with e | h
    · cases e
      exact bi_ty F (by decide +kernel) bi_list rfl hg boo_list ha (by decide +kernel) (by decide +kernel) hs he
    rcases List.mem_cons.mp h with e | h
    · cases e
      exact bi_ty F (by decide +kernel) bi_tuple rfl hg boo_tuple ha (by decide +kernel) (by decide +kernel) hs he
    rcases List.mem_cons.mp h with e | h
    · cases e
      exact bi_fn F (by decide +kernel) (bi_sum F.calm) rfl hg boo_sum ha (by decide +kernel) (by decide +kernel) hs he
    rcases List.mem_cons.mp h with e | h
    · cases e
      exact bi_fn F (by decide +kernel) (bi_max F.calm (by omega)) rfl hg boo_max ha (by decide +kernel) (by decide +kernel) hs he
    rcases List.mem_cons.mp h with e | h
    · cases e
      exact bi_fn F (by decide +kernel) (bi_min F.calm (by omega)) rfl hg boo_min ha (by decide +kernel) (by decide +kernel) hs he
    rcases List.mem_cons.mp h with e | h
    · cases e
      exact bi_fn F (by decide +kernel) (bi_sorted (by omega)) rfl hg boo_sorted ha (by decide +kernel) (by decide +kernel) hs he
    rcases List.mem_cons.mp h with e | h
    · cases e
      exact bi_fn F (by decide +kernel) (bi_repr F.gd (by omega)) rfl hg boo_repr ha (by decide +kernel) (by decide +kernel) hs he
    rcases List.mem_cons.mp h with e | h
    · cases e
      exact bi_ty F (by decide +kernel) bi_str rfl hg boo_str ha (by decide +kernel) (by decide +kernel) hs he
    cases h
  · replace h := ml h
    rcases List.mem_cons.mp h with e | h
    · cases e
      exact bi_fn F (by decide +kernel) (bi_max2 F.calm) rfl hg boo_max ha (by decide +kernel) (by decide +kernel) hs he
    rcases List.mem_cons.mp h with e | h
    · cases e
      exact bi_fn F (by decide +kernel) (bi_min2 F.calm) rfl hg boo_min ha (by decide +kernel) (by decide +kernel) hs he
    cases h
  · cases h
theorem tyN_ok {t : Str} {T : String} {p : Pos} (F : Fits X R E c) (h : tyN t = some T) (hg : Gl X t) : PE X (.Name t p) (tC (.ty T)) := by
  have h : (t, T) ∈ tyT := PySem.mem_of_lookup h
  rcases List.mem_cons.mp h with e | h
  · cases e
    exact pe_bltn hg (F.blt _ (by decide +kernel)) boo_int rfl (by decide +kernel) (by decide +kernel)
  rcases List.mem_cons.mp h with e | h
  · cases e
    exact pe_bltn hg (F.blt _ (by decide +kernel)) boo_bool rfl (by decide +kernel) (by decide +kernel)
  rcases List.mem_cons.mp h with e | h
  · cases e
    exact pe_bltn hg (F.blt _ (by decide +kernel)) boo_tuple rfl (by decide +kernel) (by decide +kernel)
  cases h
theorem isi_ok {es : List Expr} {p pos : Pos} {r : PX} (ih : IHg g R) (F : Fits X R E c) (hg : Gl X ("isinstance" : Str)) (h : cIsi g c es = some r) : OKE X R E (.Call (.Name ("isinstance" : Str) p) es [] pos) r := by
  unfold cIsi at h
  split at h
  · split at h
    rotate_left
    · rename_i t pt x hT
      split at h
      · rename_i hx
        obtain ⟨h2, h⟩ := chk_some h
        simp only [Bool.and_eq_true, Bool.not_eq_true'] at h2
        obtain ⟨⟨g1, g2⟩, g5⟩ := h2
        obtain ⟨q, h3, h⟩ := om h
        subst h
        rw [Bool.or_eq_true] at hx
        by_cases hc : t ∈ c.co.xv
        · have O := F.co.xv (List.ne_nil_of_mem hc)
          obtain ⟨D, XD⟩ := O.all.cls t hc
          exact oke' (pe_callB (call_isv (mg := X.mg)) hg (F.blt _ (by decide +kernel)) boo_isi (pa_cons (ih X E c _ q F h3).1 (pa_cons (pe_glob (glb_ok F g1) XD.g (v := .ref D) rfl g5) pa_nil rfl) (star1 g2 _ _)) (by decide +kernel) (by decide +kernel) (star1 g2 _ _) rfl) (fun _ _ _ z => rd_isx O hc XD.g z) fun _ => rfl
        · have hx := hx.resolve_left (by simpa using hc)
          rw [Bool.and_eq_true] at hx
          have ht := eq_str hx.1
          subst ht
          have hne : c.co.xv ≠ [] := by
            have z := hx.2
            intro e
            rw [e] at z
            cases z
          have O := F.co.xv hne
          exact oke' (pe_callB (call_isv (mg := X.mg)) hg (F.blt _ (by decide +kernel)) boo_isi (pa_cons (ih X E c _ q F h3).1 (pa_cons (pe_bltn (v := .ty "ValueError") (glb_ok F g1) (O.all.ve hne) boo_ve rfl (by decide +kernel) (by decide +kernel)) pa_nil rfl) (star1 g2 _ _)) (by decide +kernel) (by decide +kernel) (star1 g2 _ _) rfl) (fun _ _ _ z => rd_isxv O z) fun _ => rfl
      obtain ⟨h2, h⟩ := chk_some h
      simp only [Bool.and_eq_true, Bool.not_eq_true'] at h2
      obtain ⟨⟨⟨⟨g1, g2⟩, g3⟩, g4⟩, g5⟩ := h2
      obtain ⟨q, h3, h⟩ := om h
      subst h
      obtain ⟨i, hi⟩ := Option.isSome_iff_exists.mp g4
      obtain ⟨C, f, fd, ps, n1, n2, _⟩ := F.co.news _ i hi
      have O := F.co.own (ob_ne (by rw [g3]; rfl)) _ _ n1
      exact oke' (pe_callB call_isi hg (F.blt _ (by decide +kernel)) boo_isi (pa_cons (ih X E c _ q F h3).1 (pa_cons (pe_glob (glb_ok F g1) n2 (v := .ref C) rfl g5) pa_nil rfl) (star1 g2 _ _)) (by decide +kernel) (by decide +kernel) (star1 g2 _ _) rfl) (fun _ _ _ z => rd_isc n1 (F.co.cls.cl _ _ n1) O z) fun _ => rfl
    rename_i T h1
    have q := chk_some h
    clear h
    obtain ⟨h2, h⟩ := q
    rw [Bool.and_eq_true] at h2
    obtain ⟨q, h3, h⟩ := om h
    subst h
    refine oke' (pe_callB (bi_isi (t := T)) hg (F.blt _ (by decide +kernel)) boo_isi (pa_cons (ih X E c _ q F h3).1 (pa_cons (tyN_ok F h1 (glb_ok F h2.1)) pa_nil rfl) (star1 h2.2 _ _)) (by decide +kernel) (by decide +kernel) (star1 h2.2 _ _) rfl) (fun _ _ _ z => rd_isi z) fun _ => rfl
  · cases h
theorem boo_range : bootBuiltins ("range" : Str) = some (.type "range") := by decide +kernel
theorem rg_ok {a b : Int} (h : rgB a b = true) : RgOk a b := by
  simp only [rgB, decide_eq_true_eq] at h
  exact h
theorem rgV_rep {k : KA Z} {G : Hp} {a b : Int} : Reps k G (rgV a b) (rngD a b) := by
  have e1 : rgV a b = ((List.range (b - a).toNat).map fun i : Nat => a + (i : Int)).map V.int := by rw [List.map_map]; rfl
  have e2 : rngD a b = ((List.range (b - a).toNat).map fun i : Nat => a + (i : Int)).map .int := by rw [List.map_map]; rfl
  rw [e1, e2]
  exact Reps.of_ints _
theorem rd_lrg1 {p : PX} {σ : L2.St} {H : Hp} {Q : VK} (h : SEM R E (.bi .lrng [p]) σ H Q) : tLstRg (tRg1 (SEM R E p)) σ H Q := by
  obtain ⟨k, G, ρ, s, P, h⟩ := h
  simp only [ev, evs] at h
  rw [bind_bind] at h
  refine sem_step P h fun x s1 v G1 H1 g1 P1 r1 h1 => ?_
  have h1 : Done R E k G1 H1 σ (Out.of (biD .lrng [x]) s1) (Want true k G H Q) := h1
  obtain ⟨d, e, q⟩ := h1.of
  have q := (Want.back g1 q).ends P1.dk
  cases r1 with
  | int n =>
    simp only [biD] at e
    split at e
    · rename_i hr
      cases e
      exact ⟨n, rfl, rg_ok hr, fun p hp => q.lst rfl P1.sub P1.dk rgV_rep hp⟩
    · cases e
  | _ => cases e
theorem rd_lrg2 {p p' : PX} {σ : L2.St} {H : Hp} {Q : VK} (h : SEM R E (.bi .lrng [p, p']) σ H Q) : tLstRg (tRg2 (SEM R E p) (SEM R E p')) σ H Q := by
  obtain ⟨k, G, ρ, s, P, h⟩ := h
  simp only [ev, evs] at h
  rw [bind_bind] at h
  refine sem_step P h fun x s1 v G1 H1 g1 P1 r1 h1 => ?_
  rw [bind_bind, bind_bind] at h1
  refine sem_step P1 h1 fun y s2 w G2 H2 g2 P2 rw h2 => ?_
  have h2 : Done R E k G2 H2 σ (Out.of (biD .lrng [x, y]) s2) (Want true k G H Q) := h2
  obtain ⟨d, e, q⟩ := h2.of
  have q := (Want.back (g1.trans g2) q).ends P2.dk
  cases r1 with
  | int n =>
    cases rw with
    | int m =>
      simp only [biD] at e
      split at e
      · rename_i hr
        cases e
        exact ⟨n, m, rfl, rfl, rg_ok hr, fun p hp => q.lst rfl P2.sub P2.dk rgV_rep hp⟩
      · cases e
    | _ => cases e
  | _ => cases e
theorem lrg_ok {es : List Expr} {p pos : Pos} {r : PX} (ih : IHg g R) (F : Fits X R E c) (hg : Gl X ("list" : Str)) (h : cLrg g c es = some r) : OKE X R E (.Call (.Name ("list" : Str) p) es [] pos) r := by
  unfold cLrg at h
  split at h
  · have q := chk_some h
    clear h
    obtain ⟨h2, h⟩ := q
    simp only [Bool.and_eq_true, beq_iff_eq] at h2
    obtain ⟨⟨h3, rfl⟩, h4⟩ := h2
    obtain ⟨q, h5, h⟩ := om h
    subst h
    exact oke' (pe_listRg F.calm hg (F.blt _ (by decide +kernel)) (prg_1 (glb_ok F h3) (F.blt _ (by decide +kernel)) (ih X E c _ q F h5).1 (star1 h4 _ _)) (star1 rfl _ _)) (fun _ _ _ z => rd_lrg1 z) fun _ => rfl
  · have q := chk_some h
    clear h
    obtain ⟨h2, h⟩ := q
    simp only [Bool.and_eq_true, beq_iff_eq] at h2
    obtain ⟨⟨⟨h3, rfl⟩, h4⟩, h4'⟩ := h2
    obtain ⟨q, h5, h⟩ := ob h
    obtain ⟨q', h6, h⟩ := om h
    subst h
    exact oke' (pe_listRg F.calm hg (F.blt _ (by decide +kernel)) (prg_2 (glb_ok F h3) (F.blt _ (by decide +kernel)) (ih X E c _ q F h5).1 (ih X E c _ q' F h6).1 (star1 h4 _ _) (star1 h4' _ _) (starAny (es := [_]) (by simpa using h4') _ _)) (star1 rfl _ _)) (fun _ _ _ z => rd_lrg2 z) fun _ => rfl
  · cases h
def rSetTup (K : PySem.W.Frag) (w : World) : List V → Hp → VK → Prop := fun xs H Q => ∃ (a : Addr) (ns : List Int), xs = [.ref a] ∧ SqT K H a (ns.map V.int) ∧ ns.length ≤ 50 ∧ ∀ p c, H p = none → c ≤ ns.length → Q (.ref p) (upd H p (SetO w p (fun j => decide (j ∈ ns)) c))
theorem cr_setTup (hc : X.calm = true) : CallR X (.type "set") (rSetTup X.K X.w) := by
  intro pins s σ H xs us Q I r h
  obtain ⟨a, ns, rfl, hS, hl, q⟩ := h
  rw [Vals.ref1 r]
  obtain ⟨its, rv, pt, hz⟩ := I.tuple hS
  have hi : IntsAre its.toArray.toList ns := ints_of_vals rv
  refine call_set_tupI ns (I.ok.hd hc) (show s.heap.IsTuple a its.toArray from pt) hi (by unfold scanBound; omega) fun h' tk c R1 hcn k => ?_
  exact ⟨.ref _, upd H s.heap.objs.size (SetO X.w s.heap.objs.size (fun j => decide (j ∈ ns)) c), I.laid (t' := tk) k (Nat.le_refl _) (setO_new R1), rfl, q _ c (I.hok.fresh (Nat.le_refl _)) hcn⟩
theorem insU_asc {x : Int} : ∀ {l : List Int}, l.Pairwise (· < ·) → (insU x l).Pairwise (· < ·) ∧ ∀ y, y ∈ insU x l ↔ y = x ∨ y ∈ l
  | [], _ => ⟨by simp [insU], fun y => by simp [insU]⟩
  | z :: r, h => by
    obtain ⟨h1, h2⟩ := List.pairwise_cons.mp h
    obtain ⟨i1, i2⟩ := insU_asc (x := x) h2
    unfold insU
    split
    · rename_i hx
      exact ⟨List.pairwise_cons.mpr ⟨fun y hy => by
        rcases List.mem_cons.mp hy with e | hy
        · rw [e]; exact hx
        · exact Int.lt_trans hx (h1 y hy), h⟩, fun y => by simp⟩
    · split
      · rename_i hx hz
        subst hz
        exact ⟨h, fun y => by simp⟩
      · rename_i hx hz
        refine ⟨List.pairwise_cons.mpr ⟨fun y hy => ?_, i1⟩, fun y => ?_⟩
        · rcases (i2 y).mp hy with e | hy
          · rw [e]; omega
          · exact h1 y hy
        · rw [List.mem_cons, i2, List.mem_cons]
          constructor
          · rintro (a | b | c)
            · exact .inr (.inl a)
            · exact .inl b
            · exact .inr (.inr c)
          · rintro (b | a | c)
            · exact .inr (.inl b)
            · exact .inl a
            · exact .inr (.inr c)
theorem sortU_asc : ∀ ns : List Int, (sortU ns).Pairwise (· < ·) ∧ ∀ y, y ∈ sortU ns ↔ y ∈ ns
  | [] => ⟨.nil, fun y => Iff.rfl⟩
  | x :: r => by
    obtain ⟨h1, h2⟩ := sortU_asc r
    obtain ⟨i1, i2⟩ := insU_asc (x := x) h1
    exact ⟨i1, fun y => by show y ∈ insU x (sortU r) ↔ _; rw [i2, h2, List.mem_cons]⟩
theorem asc_eq : ∀ {l m : List Int}, l.Pairwise (· < ·) → m.Pairwise (· < ·) → (∀ x, x ∈ l ↔ x ∈ m) → l = m
  | [], [], _, _, _ => rfl
  | [], y :: m, _, _, h => by have := (h y).mpr List.mem_cons_self; cases this
  | x :: l, [], _, _, h => by have := (h x).mp List.mem_cons_self; cases this
  | x :: l, y :: m, hl, hm, h => by
    obtain ⟨h1, h2⟩ := List.pairwise_cons.mp hl
    obtain ⟨k1, k2⟩ := List.pairwise_cons.mp hm
    have e : x = y := by
      rcases List.mem_cons.mp ((h x).mp List.mem_cons_self) with e | hx
      · exact e
      · rcases List.mem_cons.mp ((h y).mpr List.mem_cons_self) with e | hy
        · exact e.symm
        · have := k1 x hx; have := h1 y hy; omega
    subst e
    rw [asc_eq h2 k2 fun z => ?_]
    constructor
    · intro hz
      rcases List.mem_cons.mp ((h z).mp (List.mem_cons_of_mem _ hz)) with e | hz'
      · subst e; have := h1 z hz; omega
      · exact hz'
    · intro hz
      rcases List.mem_cons.mp ((h z).mpr (List.mem_cons_of_mem _ hz)) with e | hz'
      · subst e; have := k1 z hz; omega
      · exact hz'
theorem rd_sset {K : PySem.W.Frag} {w : World} {p : PX} {σ : L2.St} {H : Hp} {Q : VK} (h : SEM R E (.bi .sset [p]) σ H Q) : tCB (rSortedSet w) (tCons (tCB (rSetTup K w) (tCons (SEM R E p) tNil)) tNil) σ H Q := by
  obtain ⟨k, G, ρ, s, P, h⟩ := h
  simp only [ev, evs] at h
  rw [bind_bind] at h
  refine sem_step P h fun x s1 v G1 H1 g1 P1 r1 h1 => ?_
  have h1 : Done R E k G1 H1 σ (Out.of (biD .sset [x]) s1) (Want true k G H Q) := h1
  obtain ⟨d, e, q⟩ := h1.of
  cases r1 with
  | tup h3 r3 =>
    simp only [biD] at e
    split at e
    · rename_i ns hns
      split at e
      · rename_i hl
        cases e
        have ex := r3.ints hns
        subst ex
        refine ⟨_, ns, rfl, .of (P1.sub _ _ h3), hl, fun p c hp hc => ?_⟩
        refine ⟨p, _, c, rfl, upd_same, by omega, fun ns' q' hs hm hl' hq => ?_⟩
        have es : ns' = sortU ns := asc_eq hs (sortU_asc ns).1 fun y => by rw [hm y, (sortU_asc ns).2 y]; simp
        subst es
        have gs : Grow k G1 H1 G1 (upd H1 p (SetO w p (fun j => decide (j ∈ ns)) c)) := Grow.side P1.sub hp
        have dk := P1.dk.keep gs (by rw [upd_ne (P1.dk.ne hp)])
        exact ((Want.back (g1.trans gs) q).ends dk).lst rfl gs.gh dk (Reps.of_ints _) hq
      · cases e
    · cases e
  | _ => cases e
theorem sst_ok {es : List Expr} {p pos : Pos} {r : PX} (ih : IHg g R) (F : Fits X R E c) (hg : Gl X ("sorted" : Str)) (h : cSst g c es = some r) : OKE X R E (.Call (.Name ("sorted" : Str) p) es [] pos) r := by
  unfold cSst at h
  split at h
  · obtain ⟨h1, h⟩ := chk_some h
    obtain ⟨q, h2, h3⟩ := om h
    subst h3
    simp only [Bool.and_eq_true] at h1
    obtain ⟨⟨h4, h5⟩, h6⟩ := h1
    have e5 := eq_str h5
    subst e5
    refine oke' (pe_callB (cr_sortedSet F.calm) hg (F.blt _ (by decide +kernel)) boo_sorted (pa_cons (pe_callTy (cr_setTup F.calm) (glb_ok F h4) (F.blt _ (by decide +kernel)) boo_set (pa_cons (ih X E c _ _ F h2).1 pa_nil (star1 h6 _ _)) (by decide +kernel) (by decide +kernel) (star1 h6 _ _) rfl) pa_nil rfl) (by decide +kernel) (by decide +kernel) rfl rfl) (fun _ _ _ z => rd_sset z) fun _ => rfl
  · cases h
theorem meth_base {o : Expr} {m : Str} {env : Env} {wh : Sem Value} (h : noSup o = true) : attributeBase o m env wh = wh := by
  cases o with
  | Call f as ks p =>
    cases as with
    | nil =>
      cases ks with
      | nil => cases h
      | cons a b => cases f <;> rfl
    | cons a b => cases f <;> rfl
  | _ => rfl
theorem cM_ok {o e : Expr} {m : Str} {ap cp : Pos} {r : PX} (ih : IHg g R) (F : Fits X R E c) (h : cM g c o m ap e cp = some r) : OKE X R E (.Call (.Attribute o m ap) [e] [] cp) r := by
  unfold cM at h
  obtain ⟨h1, h⟩ := chk_some h
  simp only [Bool.and_eq_true] at h1
  obtain ⟨⟨h2, h3⟩, h4⟩ := h1
  obtain ⟨p, hp, h5⟩ := ob h
  obtain ⟨q, hq, h6⟩ := ob h5
  clear h h5
  split at h6
  · rename_i hm
    have hm := eq_str hm
    subst hm
    cases h6
    exact oke' (pe_join (ih X E c _ _ F hp).1 (ih X E c _ _ F hq).1 (star1 h3 _ _) (meth_base h2) h4) (fun _ _ _ z => rd_join z) fun _ => rfl
  · split at h6
    · rename_i hm
      have hm := eq_str hm
      subst hm
      cases h6
      exact oke' (pe_split (ih X E c _ _ F hp).1 (ih X E c _ _ F hq).1 (star1 h3 _ _) (meth_base h2) h4) (fun _ _ _ z => rd_split z) fun _ => rfl
    · cases h6
theorem form_ok {es : List Expr} {pos : Pos} {env : Env} (h : es.all noStar = true) (hl : es.length < 30) : methodCallForm (es.length + ([] : List Keyword).length) (backTo pos (starEach es env)) (backToKw pos (keywordEach [] env)) = true := by
  have h1 := starAny h pos env
  have h2 : (backTo pos (starEach es env)).all (!·.1) = true := by
    rw [List.any_eq_false] at h1
    rw [List.all_eq_true]
    intro x hx
    have := h1 x hx
    simpa using this
  unfold methodCallForm
  rw [h2]
  show (true && true && decide (es.length + 0 + 0 < 30)) = true
  simpa using hl
theorem cMs_ok {o : Expr} {es : List Expr} {m : Str} {ap cp : Pos} {r : PX} (ih : IHg g R) (F : Fits X R E c) (h : cMs g c o m ap es cp = some r) : OKE X R E (.Call (.Attribute o m ap) es [] cp) r := by
  unfold cMs at h
  split at h
  · rename_i k i hm
    obtain ⟨h1, h⟩ := chk_some h
    simp only [Bool.and_eq_true, decide_eq_true_eq] at h1
    obtain ⟨⟨⟨h2, h3⟩, h4⟩, h5⟩ := h1
    obtain ⟨p, hp, h⟩ := ob h
    obtain ⟨ps, hq, h⟩ := om h
    subst h
    obtain ⟨C, f, fd, pn, n1, n2, n4, n5⟩ := F.co.mths m k i hm
    match es, h3, h5, hq with
    | [], _, _, hq =>
      cases hq
      exact oke' (pe_methG0 (ih X E c _ _ F hp).1 (F.co.cls.cl _ _ n1) n2 n4 F.lv n5 F.gd F.pass (meth_base h2) h4) (fun _ _ _ z => rd_pcall0 n1 z) fun _ => rfl
    | e :: es, h3, h5, hq =>
      have h3' := h3
      rw [List.all_cons, Bool.and_eq_true] at h3'
      exact oke' (pe_methG (ih X E c _ _ F hp).1 (F.co.cls.cl _ _ n1) n2 n4 F.lv n5 F.gd F.pass (pa_all ih F h3 hq) (star1 h3'.1 _ _) (starAny h3'.2 _ _) (meth_base h2) (form_ok h3 h5) h4) (fun _ _ _ z => rd_pcall n1 z) fun _ => rfl
  · split at h
    · exact cM_ok ih F h
    · cases h
theorem attr_ok {o : Expr} {f : Str} {pos : Pos} {r : PX} (ih : IHg g R) (F : Fits X R E c) (h : cAttr g c o f = some r) : OKE X R E (.Attribute o f pos) r := by
  unfold cAttr at h
  obtain ⟨h1, h⟩ := chk_some h
  split at h
  · rename_i k i hm
    obtain ⟨h2, h⟩ := chk_some h
    have h2 : 1 ≤ c.ex := by simpa using h2
    obtain ⟨p, hp, h⟩ := om h
    subst h
    obtain ⟨C, pr, f, fd, pn, n1, n2, n4, n5⟩ := F.co.prps _ _ _ hm
    exact oke' (pe_propG (ih X E c _ _ F hp).1 (F.co.cls.cl _ _ n1) n2 n4 (F.room.mono (by omega)) n5 F.gd (meth_base h1)) (fun _ _ _ z => rd_prop n1 z) fun _ => rfl
  · split at h
    rotate_left
    · rename_i hx
      obtain ⟨p, hp, h⟩ := om h
      subst h
      have O := F.co.xv (fun e => hx (by rw [e]; rfl))
      exact oke' (pe_fldv (mg := X.mg) (ih X E c _ _ F hp).1 (meth_base h1)) (fun _ _ _ z => rd_xfl O z) fun _ => rfl
    obtain ⟨h2, h⟩ := chk_some h
    obtain ⟨p, hp, h⟩ := om h
    subst h
    exact oke' (pe_fld (ih X E c _ _ F hp).1 (meth_base h1)) (fun _ _ _ z => rd_fld F.co.cls (by simpa using h2) z) fun _ => rfl
theorem mapO_idx {N : List Str} : ∀ {xs : List Str} {js : List Nat}, mapO (fun y => N.idxOf? y) xs = some js → js.map (fun j => N[j]?) = xs.map some
  | [], js, h => by cases h; rfl
  | x :: r, js, h => by
    obtain ⟨i, h1, h⟩ := ob h
    obtain ⟨is, h2, h⟩ := ob h
    cases h
    rw [List.map_cons, List.map_cons, idx_ok h1, mapO_idx h2]
theorem Fits.ncx {p : Str} {scope : Scope} {F0 : NF} {f : Addr} {A : Around} {outer : List Env} {s : Shared} {H : Hp} (F : Fits X R E c) (hs : F0.scope = scope) (S : NScope (p :: frOf scope) [p] (frOf scope) scope) (hr : Room R.lv (A.deeper (envF F0 f s.heap.objs.size))) (hg : A.guards = some []) :
    Fits (NdefX.ncx (L2.CX X.prog X.w) X.prog X.w X.K X.mg X.base (p :: frOf scope) F0 f A outer s H fun _ _ _ => False) R E0 (c.lam p (frOf scope) scope) where
  N := rfl
  nd := S.nd
  sc := hs
  fn := rfl
  calm := rfl
  gd := hg
  room := hr
  blt := F.blt
  cst := F.cst
  key := F.key
  fns := fun i x h => let ⟨f, fd, ps, q⟩ := (F.fns i x h).ex; ⟨f, fd, ps, q⟩
  tk := takes_false
  co := F.co
  lam := fun z => nomatch (show false = true from z)
theorem bind_lam {x q : Str} {xp : Pos} {body : Expr} {scope : Scope} {cl : List (Str × Addr)} {pm cd ctv u : Value} : bindArgs (PySem.W.kla_fn "<lambda>" q ⟨[], [⟨x, none, xp⟩], none, [], [], none, []⟩ body scope cl pm cd ctv) ⟨[u], []⟩ = pure [(x, u)] := by
  have lk : ∀ v : Value, List.lookup x [(x, v)] = some v := fun v => by rw [List.lookup_cons, beq_self_eq_true]
  unfold bindArgs
  simp [seqItems?, lk]
  rfl
theorem last_ok {es : List Expr} {p pos : Pos} {r : PX} (ih : IHg g R) (F : Fits X R E c) (hg : Gl X ("last_that" : Str)) (h : cLast g c es = some r) : OKE X R E (.Call (.Name ("last_that" : Str) p) es [] pos) r := by
  unfold cLast at h
  split at h
  · rename_i a b x xp body scope lp
    obtain ⟨h1, h⟩ := chk_some h
    obtain ⟨pa, ha, h⟩ := ob h
    obtain ⟨pb, hb, h⟩ := ob h
    obtain ⟨js, hj, h⟩ := ob h
    obtain ⟨e, he, h⟩ := om h
    subst h
    unfold lamB at h1
    simp only [Bool.and_eq_true, decide_eq_true_eq, List.all_eq_true, Bool.or_eq_true, Bool.not_eq_true', decide_eq_false_iff_not] at h1
    obtain ⟨⟨k1, k2⟩, ⟨⟨⟨⟨k3, k4⟩, k5⟩, k6⟩, k7⟩⟩ := h1
    have S := nscope_by k5
    obtain ⟨La, LA⟩ := F.lam k3
    have hjs := mapO_idx hj
    have hl := mapO_len hj
    refine oke' (pe_lastG (N := x :: frOf scope) (fr := frOf scope) (p := x) (tb := SEM R E0 e) (j := R.lv) (js := js) La LA rfl (fun y hy z => ?_) (fun y hy => k7 y hy) (by rw [F.N]; exact hjs) (fun c' => ?_) (F.room.mono (by omega)) F.gd hg (ih X E c _ _ F ha).1 (ih X E c _ _ F hb).1 (fun es => star1 k1 _ _) (fun es => star1 k2 _ _)) (fun σ H Q z => rd_last (fun _ => rfl) (by rw [List.length_cons, hl]) z) fun _ => rfl
    · rw [F.sc]
      rcases k6 y hy with (w | w) | w
      · exact absurd z w
      · exact .inl w
      · exact .inr w
    · refine ⟨fun σ H Q Q' q z => sem_mono z q, S, fun _ _ _ => bind_lam, fun A outer s H f hr hgu => ?_⟩
      exact (ih _ E0 _ _ _ (F.ncx rfl S hr hgu) he).1
  · cases h
theorem call_ok {x : Str} {es : List Expr} {p pos : Pos} {r : PX} (ih : IHg g R) (F : Fits X R E c) (h : cCall g c x es = some r) : OKE X R E (.Call (.Name x p) es [] pos) r := by
  unfold cCall at h
  have q := chk_some h
  clear h
  obtain ⟨h1, h⟩ := q
  simp only [Bool.and_eq_true, Bool.not_eq_true'] at h1
  obtain ⟨⟨⟨h2, h3⟩, h4⟩, h5⟩ := h1
  have he : es ≠ [] := fun z => by subst z; simp at h4
  have hg := glb_ok F h2
  split at h
  · rename_i hx
    have hx := eq_str hx
    subst hx
    exact isi_ok ih F hg h
  · split at h
    · rename_i hx
      rw [Bool.and_eq_true] at hx
      have hx := eq_str hx.1
      subst hx
      exact lrg_ok ih F hg h
    split at h
    · rename_i hx
      rw [Bool.and_eq_true] at hx
      have hx := eq_str hx.1
      subst hx
      exact sst_ok ih F hg h
    split at h
    · rename_i i hi
      obtain ⟨ps, h6, h⟩ := om h
      subst h
      match es, he with
      | e :: es, _ =>
        have h3' := h3
        rw [List.all_cons, Bool.and_eq_true] at h3'
        exact oke' (pe_fn (F.fns i x hi) F.lv F.gd hg F.pass (pa_all ih F h3 h6) h5 (star1 h3'.1 _ _) (starAny h3'.2 _ _)) (fun _ _ _ z => rd_call z) fun _ => rfl
    split at h
    · rename_i i hi
      obtain ⟨hx, h⟩ := chk_some h
      have hx : 1 ≤ c.ex := by simpa using hx
      obtain ⟨ps, h6, h⟩ := om h
      subst h
      match es, he with
      | e :: es, _ =>
        have h3' := h3
        rw [List.all_cons, Bool.and_eq_true] at h3'
        obtain ⟨C, f, fd, pn, n1, n2, n3, n4, n5⟩ := F.co.news x i hi
        exact oke' (pe_makeG n3 n4 (F.room.mono (by omega)) n5 F.gd F.pass hg n2 (pa_all ih F h3 h6) h5 (star1 h3'.1 _ _) (starAny h3'.2 _ _)) (fun _ _ _ z => rd_new n1 z) fun _ => rfl
    split at h
    · rename_i hx
      have hx := eq_str hx
      subst hx
      exact last_ok ih F hg h
    · obtain ⟨b, h6, h⟩ := ob h
      obtain ⟨ps, h7, h⟩ := om h
      subst h
      exact biN_ok F h6 hg (pa_all ih F h3 h7) h3 he
theorem mkx_ok {x : Str} {es : List Expr} {p pos : Pos} {r : PX} (ih : IHg g R) (F : Fits X R E c) (hx : isMkx c x = true) (h : cMkx g c x es = some r) : OKE X R E (.Call (.Name x p) es [] pos) r := by
  unfold isMkx at hx
  simp only [Bool.and_eq_true, Bool.not_eq_true'] at hx
  have hc : x ∈ c.co.xv := by simpa using hx.1
  have hne : x ≠ ("HeapError" : Str) := by simpa using hx.2
  unfold cMkx at h
  obtain ⟨h1, h⟩ := chk_some h
  simp only [Bool.and_eq_true, Bool.not_eq_true', decide_eq_true_eq, beq_iff_eq] at h1
  obtain ⟨⟨⟨⟨h2, h3⟩, h4⟩, h5⟩, h6⟩ := h1
  obtain ⟨ps, h7, h⟩ := om h
  subst h
  have O := F.co.xv (List.ne_nil_of_mem hc)
  obtain ⟨C, gC, M⟩ := O.made x hc hne
  obtain ⟨C', XC⟩ := O.all.cls x hc
  have e : C' = C := by have := XC.g.symm.trans gC; cases this; rfl
  subst e
  obtain ⟨C2, hz⟩ := O.z' x hc
  have e2 : C2 = C' := by have := (O.z x C2 hz).2.symm.trans gC; cases this; rfl
  subst e2
  have hgl := glb_ok F h2
  cases M with
  | plain h0 q =>
    have e0 : es = [] := List.eq_nil_of_length_eq_zero (by rw [h5, h0]; rfl)
    subst e0
    cases h7
    exact oke' (pe_mkx0 XC.kC q gC hgl h3) (fun _ _ _ z => rd_mkx0 hz h0 z) fun _ => rfl
  | own h0 T noF iC tI F1 hb =>
    match es, ps, h7, h4, h5 with
    | [], _, _, _, hl => exact absurd (List.eq_nil_of_length_eq_zero hl.symm) h0
    | e :: r, ps, h7, hs, hl =>
      have hs' := hs
      rw [List.all_cons, Bool.and_eq_true] at hs'
      exact oke' (pe_mkx1 T iC tI F1 (F.room.mono (by omega)) hb (passes_call F.tk (E := fun _ _ _ => False) (fun _ _ _ _ z => z.elim)) hgl gC (pa_all ih F hs h7) h3 (star1 hs'.1 _ _) (starAny hs'.2 _ _)) (fun _ _ _ z => rd_mkx1 hz T noF z) fun _ => rfl
theorem pk_wk {kws : List Keyword} {t t' : TA} (h : PK X kws t) (q : ∀ σ H Q, t' σ H Q → t σ H Q) : PK X kws t' := ⟨fun pos pins s σ H Q I z => h.run pos pins s σ H Q I (q σ H Q z)⟩
theorem pk_all (ih : IHg g R) (F : Fits X R E c) : ∀ {kws : List Keyword} {ps : List PX}, mapO (g c) (kws.map (·.value)) = some ps → PK X kws (SEMA R E ps)
  | [], ps, h => by
    cases h
    exact pk_wk pk_nil fun _ _ _ z => rd_nil z
  | ⟨nm, e, kp⟩ :: r, ps, h => by
    obtain ⟨p, h1, h⟩ := ob h
    obtain ⟨qs, h2, h⟩ := ob h
    cases h
    exact pk_wk (pk_cons (ih X E c e p F h1).1 (pk_all ih F h2)) fun _ _ _ z => rd_cons z
theorem callk_ok {x : Str} {kws : List Keyword} {p pos : Pos} {r : PX} (ih : IHg g R) (F : Fits X R E c) (h : cCallK g c x kws = some r) : OKE X R E (.Call (.Name x p) [] kws pos) r := by
  unfold cCallK at h
  obtain ⟨h1, h⟩ := chk_some h
  simp only [Bool.and_eq_true, Bool.not_eq_true'] at h1
  obtain ⟨ks, h2, h⟩ := ob h
  obtain ⟨ps, h3, h⟩ := ob h
  have hg := glb_ok F h1.1
  have hl : ks.length = ps.length := by rw [mapO_len h3, List.length_map]; exact (kw_names (pos := pos) (env := X.env) h2).2.2.2.symm
  split at h
  · rename_i i kl pm hi
    obtain ⟨h4, h5⟩ := chk_some h
    clear h
    have h4 : kl = ks := by simpa using h4
    subst h4
    cases h5
    obtain ⟨f, fd, pn, n1, n2, n3, n4⟩ := F.co.kfs x i kl pm hi
    exact oke' (pe_callK n1 F.lv n2 n3 n4 F.gd hg F.pass (pk_all ih F h3) h1.2 h2) (fun _ _ _ z => by rw [hl]; exact rd_callk z) fun _ => rfl
  split at h
  · rename_i i kl pm hi
    obtain ⟨h4, h5⟩ := chk_some h
    clear h
    simp only [Bool.and_eq_true, decide_eq_true_eq] at h4
    obtain ⟨h4, hx⟩ := h4
    subst h4
    cases h5
    obtain ⟨C, f, fd, pn, n1, n2, n3, n4, n5⟩ := F.co.kns x i kl pm hi
    exact oke' (pe_makeK n3 n4 (F.room.mono (by omega)) n2 n5 F.gd hg F.pass (pk_all ih F h3) h1.2 h2) (fun _ _ _ z => by rw [hl]; exact rd_newk n1 z) fun _ => rfl
  · cases h
theorem kw_ok {x : Str} {e v : Expr} {kn : Option Str} {p kp pos : Pos} {r : PX} (ih : IHg g R) (F : Fits X R E c) (h : cKw g c x e kn v = some r) : OKE X R E (.Call (.Name x p) [e] [⟨kn, v, kp⟩] pos) r := by
  have hu := F.room.un
  unfold cKw at h
  have q := chk_some h
  clear h
  obtain ⟨h1, h⟩ := q
  rw [Bool.and_eq_true] at h1
  have hg := glb_ok F h1.1
  split at h
  · rename_i hx
    simp only [Bool.and_eq_true, beq_iff_eq] at hx
    obtain ⟨rfl, rfl⟩ := hx
    split at h
    · have q := chk_some h
      clear h
      obtain ⟨h2, h⟩ := q
      simp only [Bool.and_eq_true, beq_iff_eq] at h2
      obtain ⟨⟨rfl, h3⟩, hk⟩ := h2
      obtain ⟨q, h4, h⟩ := om h
      subst h
      obtain ⟨f, hm, ky⟩ := F.key hk
      refine oke' (pe_callBK (bi_sortk (by omega) F.room.hd F.room.depth ky) hg (F.blt _ (by decide +kernel)) boo_sorted (pa_cons (ih X E c _ q F h4).1 pa_nil (star1 h1.2 _ _)) (pk_cons (pe_glob (v := .ref f) (glb_ok F h3) hm rfl (by decide +kernel)) pk_nil) (by decide +kernel) (by decide +kernel)
        (by rw [star1 h1.2]; rfl) (starAny (es := [_]) (by simpa using h1.2) _ _) rfl rfl rfl) (fun _ _ _ z => rd_sortk z) fun _ => rfl
    · cases h
  · split at h
    · rename_i hx
      simp only [Bool.and_eq_true, beq_iff_eq] at hx
      obtain ⟨rfl, rfl⟩ := hx
      obtain ⟨p1, h2, h⟩ := ob h
      obtain ⟨p2, h3, h⟩ := ob h
      cases h
      refine oke' (pe_callBK (bi_maxd F.calm) hg (F.blt _ (by decide +kernel)) boo_max (pa_cons (ih X E c _ p1 F h2).1 pa_nil (star1 h1.2 _ _)) (pk_cons (ih X E c _ p2 F h3).1 pk_nil) (by decide +kernel) (by decide +kernel)
        (by rw [star1 h1.2]; rfl) (starAny (es := [_]) (by simpa using h1.2) _ _) rfl rfl rfl) (fun _ _ _ z => rd_maxd z) fun _ => rfl
    · cases h
theorem min_ok {x y : Str} {e : Expr} {k1 k2 : Option Str} {p p1 q1 kp kp2 pos : Pos} {j : Nat} {r : PX} (ih : IHg g R) (F : Fits X R E c) (h : cMin g c x e k1 y k2 = some r) : OKE X R E (.Call (.Name x p) [e] [⟨k1, .Name y p1, kp⟩, ⟨k2, .Constant .none j q1, kp2⟩] pos) r := by
  have hu := F.room.un
  unfold cMin at h
  have q := chk_some h
  clear h
  obtain ⟨h1, h⟩ := q
  simp only [Bool.and_eq_true, beq_iff_eq] at h1
  obtain ⟨⟨⟨⟨⟨⟨⟨hgl, hst⟩, rfl⟩, rfl⟩, rfl⟩, rfl⟩, h3⟩, hk⟩ := h1
  have hg := glb_ok F hgl
  obtain ⟨q, h4, h⟩ := om h
  subst h
  obtain ⟨f, hm, ky⟩ := F.key hk
  refine oke' (pe_callBK (bi_mink (by omega) F.room.hd F.room.depth ky) hg (F.blt _ (by decide +kernel)) (by decide +kernel) (pa_cons (ih X E c _ q F h4).1 pa_nil (star1 hst _ _)) (pk_cons (pe_glob (v := .ref f) (glb_ok F h3) hm rfl (by decide +kernel)) (pk_cons pe_non pk_nil)) (by decide +kernel) (by decide +kernel)
    (by rw [star1 hst]; rfl) (starAny (es := [_]) (by simpa using hst) _ _) rfl rfl rfl) (fun _ _ _ z => rd_mink z) fun _ => rfl
theorem mnd_ok {x : Str} {e : Expr} {p kp pos q1 : Pos} {j : Nat} {r : PX} (ih : IHg g R) (F : Fits X R E c) (h : cMnd g c x e = some r) : OKE X R E (.Subscript (.Call (.Name x p) [e] [] kp) (.Constant (.int 1) j q1) pos) r := by
  have hu := F.room.un
  unfold cMnd at h
  have q := chk_some h
  clear h
  obtain ⟨h1, h⟩ := q
  simp only [Bool.and_eq_true, beq_iff_eq] at h1
  obtain ⟨⟨hgl, hst⟩, rfl⟩ := h1
  have hg := glb_ok F hgl
  obtain ⟨q, h4, h⟩ := om h
  subst h
  have o1 : OKE X R E (.Call (.Name ("min" : Str) p) [e] [] kp) (.bi .minkd [q]) := bi_fn F (by decide +kernel) (bi_minkd (by omega) F.room.hd) rfl hg boo_min (pa_all (es := [_]) (ps := [q]) ih F (by simpa using hst) (by simp [mapO, h4])) (by decide +kernel) (by decide +kernel) (by simpa using hst) (by simp)
  exact oke' (pe_ix ix_all o1.1 (cst_ok (v := .int 1) rfl).1 fun o j => rfl) (fun _ _ _ z => rd_ix z) fun _ => rfl
/-! ### targets, iterables -/
theorem sto_ok {x : Str} {i : Nat} {pos : Pos} (F : Fits X R E c) (h : c.sto x = true) (hi : c.N.idxOf? x = some i) : PG X (.Name x pos) (gName i) := by
  simp only [Cn.sto, Bool.or_eq_true, Bool.and_eq_true, decide_eq_true_eq] at h
  have hN : X.N.Nodup := by rw [F.N]; exact F.nd
  have hi' : X.N[i]? = some x := by rw [F.N]; exact idx_ok hi
  rcases h with h | ⟨h, h'⟩
  · exact pg_name hN hi' (.inl (by rw [F.sc]; exact h)) (.inr (by rw [F.sc]; exact h))
  · exact pg_name hN hi' (.inr (by rw [F.sc]; exact h)) (.inl (by rw [F.fn]; exact h'))
theorem names_ok (F : Fits X R E c) : ∀ {es : List Expr} {l : List (Str × Nat)}, mapO (tgName c.N) es = some l → (l.all fun p => c.sto p.1) = true → PGs X es (gNames (l.map (·.2))) ∧ (assignEach es X.env).length = l.length ∧ (assignEach es X.env).findIdx? (·.1) = none
  | [], l, h, _ => by
    cases h
    exact ⟨pgs_nil, rfl, rfl⟩
  | e :: r, l, h, hs => by
    obtain ⟨⟨x, i⟩, h1, h⟩ := ob h
    obtain ⟨l', h2, h⟩ := ob h
    cases h
    rw [List.all_cons, Bool.and_eq_true] at hs
    unfold tgName at h1
    split at h1
    · obtain ⟨j, h3, h4⟩ := om h1
      cases h4
      obtain ⟨z1, z2, z3⟩ := names_ok F h2 hs.2
      refine ⟨pgs_cons (sto_ok F hs.1 h3) z1 rfl, ?_, ?_⟩
      · show (assignEach r X.env).length + 1 = _
        rw [z2]; rfl
      · show List.findIdx? _ ((false, _) :: assignEach r X.env) = none
        rw [List.findIdx?_cons]
        simp only [Bool.false_eq_true, if_false]
        rw [z3]; rfl
    · cases h1
theorem tg_ok {tg : Expr} {t : PTg} {own : List (Str × Nat)} (F : Fits X R E c) (h : cTg c tg = some (t, own)) : PG X tg (tgG X.K t) ∧ own.map (·.2) = tgSl t := by
  unfold cTg at h
  split at h
  · have q := chk_some h
    clear h
    obtain ⟨h1, h⟩ := q
    obtain ⟨i, h2, h3⟩ := om h
    cases h3
    exact ⟨sto_ok F h1 h2, rfl⟩
  · obtain ⟨l, h1, h⟩ := ob h
    have q := chk_some h
    clear h
    obtain ⟨h2, h⟩ := q
    cases h
    obtain ⟨z1, z2, z3⟩ := names_ok F h1 h2
    refine ⟨?_, rfl⟩
    show PG X _ (gTup X.K (own.map (·.2)).length (gNames (own.map (·.2))))
    rw [List.length_map]
    exact pg_tup F.calm z1 z2 z3
  · cases h
theorem it_ok {tg it : Expr} {r : PIt} (ih : IHg g R) (F : Fits X R E c) (h : cIt g c tg it = some r) : PI X tg it (SEMI R E r) := by
  have seq : ∀ {e : Expr}, ((g c e).map PIt.seq) = some r → PI X tg e (SEMI R E r) := fun {e} h => by
    obtain ⟨p, h1, h2⟩ := om h
    subst h2
    exact (pi_seqA (ih X E c e p F h1).1).wk fun _ _ _ z => ri_seq z
  unfold cIt at h
  split at h
  · split at h
    · rename_i hx
      have hx := eq_str hx
      subst hx
      split at h
      · have q := chk_some h
        clear h
        obtain ⟨h1, h⟩ := q
        simp only [Bool.and_eq_true] at h1
        obtain ⟨p, h2, h3⟩ := om h
        subst h3
        exact (pi_range1 (glb_ok F h1.1) (F.blt _ (by decide +kernel)) (pa_all (es := [_]) (ps := [p]) ih F (by simp [h1.2]) (by simp [mapO, h2])) (star1 h1.2 [] _)).wk fun _ _ _ z => ri_rng1 z
      · have q := chk_some h
        clear h
        obtain ⟨h1, h⟩ := q
        simp only [Bool.and_eq_true] at h1
        obtain ⟨p, h2, h⟩ := ob h
        obtain ⟨q, h3, h⟩ := ob h
        cases h
        exact (pi_range2 (glb_ok F h1.1.1) (F.blt _ (by decide +kernel)) (pa_all (es := [_, _]) (ps := [p, q]) ih F (by simp [h1.1.2, h1.2]) (by simp [mapO, h2, h3])) (by rw [star1 h1.1.2, star1 h1.2]; rfl) (star1 h1.2 [] _)).wk fun _ _ _ z => ri_rng2 z
      · cases h
    · split at h
      · rename_i hx
        have hx := eq_str hx
        subst hx
        split at h
        · have q := chk_some h
          clear h
          obtain ⟨h1, h⟩ := q
          simp only [Bool.and_eq_true] at h1
          obtain ⟨p, h2, h3⟩ := om h
          subst h3
          have ht := h1.2
          unfold isTup at ht
          split at ht
          · exact (pi_enumA (glb_ok F h1.1.1) (F.blt _ (by decide +kernel)) (pa_all (es := [_]) (ps := [p]) ih F (by simp [h1.1.2]) (by simp [mapO, h2])) (star1 h1.1.2 [] _)).wk fun _ _ _ z => ri_enum z
          · cases ht
        · cases h
      · split at h
        · rename_i hx
          have hx := eq_str hx
          subst hx
          split at h
          · have q := chk_some h
            clear h
            obtain ⟨h1, h⟩ := q
            simp only [Bool.and_eq_true] at h1
            obtain ⟨p, h2, h⟩ := ob h
            obtain ⟨q, h3, h⟩ := ob h
            cases h
            have ht := h1.2
            unfold isTup at ht
            split at ht
            · exact (pi_zipS (glb_ok F h1.1.1.1) (F.blt _ (by decide +kernel)) (pa_all (es := [_, _]) (ps := [p, q]) ih F (by simp [h1.1.1.2, h1.1.2]) (by simp [mapO, h2, h3])) (star1 h1.1.1.2 _ _) (starAny (es := [_]) (by simpa using h1.1.2) _ _)).wk fun _ _ _ z => ri_zip z
            · cases ht
          · cases h
        · exact seq h
  · exact seq h
theorem ifs_ok {ifs : List Expr} {w : Option PX} (ih : IHg g R) (F : Fits X R E0 c) (h : cIfs g c ifs = some w) : PTs X ifs (SEMO R w) := by
  unfold cIfs at h
  split at h
  · cases h
    exact pts_nil
  · have q := chk_some h
    clear h
    obtain ⟨h1, h⟩ := q
    obtain ⟨p, h2, h3⟩ := om h
    subst h3
    exact pts_one ((ih X E0 c _ p F h2).2 h1)
  · cases h
theorem nofold {e : Expr} (h : noSet e = true) (env : Env) (x : Value) : foldedSetIterable e env x = pure x := by
  cases e <;> first | rfl | cases h
/-- a comprehension, as a value or stored into a plain name -/
theorem lc_ok {elt : Expr} {scope : Scope} {pos : Pos} {gs : List Comprehension} {r : PX} (ih : IHg g R) (F : Fits X R E c) (h : cLc g c elt scope gs = some r) : OKE X R E (.ListComp elt gs scope pos) r ∧
    ∀ {i : Nat} {y : Str} {py spos : Pos}, X.N[i]? = some y → X.env.scope.names.lookup y = some .local → swapsWith (.ListComp elt gs scope pos) (some (.Name y py)) spos.line X.env = pure true → PS X (.Assign [.Name y py] (.ListComp elt gs scope pos) spos) (tAsg (SEM R E r) (gName i)) := by
  have nd : X.N.Nodup := by rw [F.N]; exact F.nd
  unfold cLc at h
  split at h
  · obtain ⟨⟨t, own⟩, h1, h⟩ := ob h
    obtain ⟨i, h2, h⟩ := ob h
    obtain ⟨w, h3, h⟩ := ob h
    obtain ⟨p, h4, h⟩ := ob h
    have q := chk_some h
    clear h
    obtain ⟨h5, h⟩ := q
    cases h
    simp only [Bool.and_eq_true] at h5
    have ok : BlkOk X.N X.env.scope scope own := by
      rw [F.N, F.sc]
      exact blkOk_by h5.2
    have e := (tg_ok (F.blk (X.s_0) X.H_0 scope 0 [] []) h1).2
    have pg := fun s H C cl fp => (tg_ok (F.blk s H scope C cl fp) h1).1
    have pw := fun s H C cl fp => ifs_ok ih (F.blk s H scope C cl fp) h3
    have pv := fun s H C cl fp => (ih _ E0 _ _ p (F.blk s H scope C cl fp) h4).1
    refine ⟨oke' (pe_lc (g := tgG X.K t) (tt := SEMO R w) (te := SEM R E0 p) F.calm nd (it_ok ih F h2) ok pg pw pv (nofold h5.1 _)) (fun _ _ _ z => by rw [e]; exact rd_lc z) fun _ => rfl, fun {k y py spos} hN hl hsw => ?_⟩
    have main2 : PS X _ (tAsg (tLc (SEMI R E i) (tgG X.K t) (SEMO R w) (SEM R E0 p) (own.map (·.2))) (gName k)) := ps_setLc F.calm nd hN hl hsw (it_ok ih F h2) ok pg pw pv (nofold h5.1 _)
    refine main2.wk fun _ _ _ z => ?_
    show tLc _ _ _ _ _ _ _ _
    rw [e]
    exact rd_lc z
  · obtain ⟨⟨t, own⟩, h1, q1⟩ := ob h
    clear h
    obtain ⟨⟨t1, own1⟩, h1', h⟩ := ob q1
    clear q1
    match t, t1, h, h1, h1' with
    | .one i1, .one i2, h, h1, h1' =>
      obtain ⟨i, h2, h⟩ := ob h
      obtain ⟨j, h2', h⟩ := ob h
      obtain ⟨w, h3, h⟩ := ob h
      obtain ⟨p, h4, h⟩ := ob h
      have q := chk_some h
      clear h
      obtain ⟨h5, h⟩ := q
      cases h
      simp only [Bool.and_eq_true] at h5
      have ok : BlkOk X.N X.env.scope scope (own ++ own1) := by
        rw [F.N, F.sc]
        exact blkOk_by h5.2
      have e := (tg_ok (F.blk (X.s_0) X.H_0 scope 0 [] []) h1).2
      have e1 := (tg_ok (F.blk (X.s_0) X.H_0 scope 0 [] []) h1').2
      have e2 : (own ++ own1).map (·.2) = [i1, i2] := by rw [List.map_append, e, e1]; rfl
      have hv : ∀ n ∈ [i2], n ∈ (own ++ own1).map (·.2) := fun n hn => by rw [e2]; exact List.mem_cons_of_mem _ hn
      have main : PE X (.ListComp elt _ scope pos) (tLc2 (SEMI R E i) (gName i1) tYes (SEMI R E0 j) (gName i2) (SEMO R w) (SEM R E0 p) ((own ++ own1).map (·.2)) [i2]) := pe_lc2 F.calm nd (it_ok ih F h2) ok hv (fun s H C cl fp => (tg_ok (F.blk s H scope C cl fp) h1).1) (fun s H C cl fp => pts_nil) (fun s H C cl fp => it_ok ih (F.blk s H scope C cl fp) h2')
        (fun s H C cl fp => (tg_ok (F.blk s H scope C cl fp) h1').1) (fun s H C cl fp => ifs_ok ih (F.blk s H scope C cl fp) h3) (fun s H C cl fp => (ih _ E0 _ _ p (F.blk s H scope C cl fp) h4).1) (nofold h5.1.1 _) (fun env => nofold h5.1.2 env)
      refine ⟨oke' main (fun _ _ _ z => by rw [e2]; exact rd_lc2 (K := X.K) z) fun _ => rfl, fun {k y py spos} hN hl hsw => ?_⟩
      have main2 : PS X _ (tAsg (tLc2 (SEMI R E i) (gName i1) tYes (SEMI R E0 j) (gName i2) (SEMO R w) (SEM R E0 p) ((own ++ own1).map (·.2)) [i2]) (gName k)) := ps_setLc2 F.calm nd hN hl hsw (it_ok ih F h2) ok hv (fun s H C cl fp => (tg_ok (F.blk s H scope C cl fp) h1).1) (fun s H C cl fp => pts_nil) (fun s H C cl fp => it_ok ih (F.blk s H scope C cl fp) h2')
        (fun s H C cl fp => (tg_ok (F.blk s H scope C cl fp) h1').1) (fun s H C cl fp => ifs_ok ih (F.blk s H scope C cl fp) h3) (fun s H C cl fp => (ih _ E0 _ _ p (F.blk s H scope C cl fp) h4).1) (nofold h5.1.1 _) (fun env => nofold h5.1.2 env)
      refine main2.wk fun _ _ _ z => ?_
      show tLc2 _ _ _ _ _ _ _ _ _ _ _ _
      rw [e2]
      exact rd_lc2 (K := X.K) z
    | .one _, .many _, h, _, _ => cases h
    | .many _, .one _, h, _, _ => cases h
    | .many _, .many _, h, _, _ => cases h
  · cases h
theorem r2_low {sem : D → D → Option D} {x y : V} {H : Hp} {Q : VK} (h : r2 sem false x y H Q) : r2 sem true x y H Q := by
  obtain ⟨Z, k, G, s', a, b, d, g, dk, ra, rb, e, q⟩ := h
  refine ⟨Z, k, G, s', a, b, d, g, dk, ra, rb, e, fun v G' H' gr ek r => ?_⟩
  obtain ⟨G2, g2, dk2, r2⟩ := r.rep gr (fun a e => e) dk.there (dk.keep gr ek)
  exact q v G2 H' g2 ek (.inr ⟨(fun z => nomatch z), r2⟩)
theorem bin_any {op : Operator} : OpR X (binaryOp op) (r2 (binD op) false) := by
  intro pins s σ H x y v u Q I rx ry h
  cases op with
  | Add => exact bin_add pins s σ H x y v u Q I rx ry (r2_low h)
  | Sub => exact bin_sub pins s σ H x y v u Q I rx ry h
  | Mult => exact bin_mul pins s σ H x y v u Q I rx ry (r2_low h)
  | FloorDiv => exact bin_fdiv pins s σ H x y v u Q I rx ry h
  | Mod => exact bin_mod pins s σ H x y v u Q I rx ry h
  | Pow => exact bin_pow pins s σ H x y v u Q I rx ry h
  | _ =>
    obtain ⟨Z, k, G, s', a, b, d, _, _, _, _, e, _⟩ := h
    unfold binD at e
    cases a <;> cases b <;> cases e
theorem obin_ok {a b : Expr} {op : Operator} {pos : Pos} {k : Str} {i : Nat} {p q : PX} (F : Fits X R E c) (h : cObin c a op = some (k, i)) (ha : OKE X R E a p) (hb : OKE X R E b q) : OKE X R E (.BinOp a op b pos) (.obin op k i p q) := by
  unfold cObin at h
  split at h
  · obtain ⟨C, f, fd, ps, n1, n2, n3, n4, n5⟩ := F.co.ops op k i h
    exact oke' (pe_opS ((op_ownB n2 n3 F.lv n4 F.gd F.pass n5).or (OpR.toS bin_any)) ha.1 hb.1) (fun _ _ _ z => rd_obin n1 z) fun _ => rfl
  · cases h
/-- THE translation of expressions is sound -/
theorem cE_ok (R : Par Z) : ∀ n : Nat, IHg (cE n) R
  | 0 => fun X E c e p F h => by cases h
  | n + 1 => fun X E c e p F h => by
    have ih := cE_ok R n
    unfold cE at h
    split at h
    · exact name_ok F h
    · exact cst_ok h
    · obtain ⟨h1, h⟩ := chk_some h
      obtain ⟨ps, h2, h3⟩ := om h
      subst h3
      exact oke' (pe_tup (pa_all ih F h1 h2)) (fun _ _ _ z => rd_tup z) fun _ => rfl
    · obtain ⟨h1, h⟩ := chk_some h
      obtain ⟨ps, h2, h3⟩ := om h
      subst h3
      exact oke' (pe_lst (pa_all ih F h1 h2)) (fun _ _ _ z => rd_lst z) fun _ => rfl
    · split at h
      · rename_i k i hO
        obtain ⟨p1, h2, h⟩ := ob h
        obtain ⟨p2, h3, h⟩ := ob h
        cases h
        exact obin_ok F hO (ih X E c _ _ F h2) (ih X E c _ _ F h3)
      · obtain ⟨h1, h⟩ := chk_some h
        obtain ⟨p1, h2, h⟩ := ob h
        obtain ⟨p2, h3, h⟩ := ob h
        cases h
        exact bin_ok h1 (ih X E c _ _ F h2) (ih X E c _ _ F h3)
    · obtain ⟨p1, h2, h3⟩ := om h
      subst h3
      exact oke' (pe_un un_negD (ih X E c _ _ F h2).1) (fun _ _ _ z => rd_neg z) fun _ => rfl
    · obtain ⟨h1, h⟩ := chk_some h
      obtain ⟨p1, h2, h3⟩ := om h
      subst h3
      have z := ih X E c _ _ F h2
      exact ⟨(pe_not z.1).wk fun _ _ _ y => rd_not y, fun _ => (pt_not (z.2 h1)).wk fun _ _ _ y => rt_not y⟩
    · obtain ⟨h1, h⟩ := chk_some h
      exact ⟨(and_ok ih F h1 h).1, fun _ => (and_ok ih F h1 h).2.pt⟩
    · obtain ⟨h1, h⟩ := chk_some h
      exact ⟨(or_ok ih F h1 h).1, fun _ => (or_ok ih F h1 h).2.pt⟩
    · obtain ⟨h1, h⟩ := chk_some h
      obtain ⟨p1, h2, h⟩ := ob h
      obtain ⟨p2, h3, h⟩ := ob h
      obtain ⟨p3, h4, h⟩ := ob h
      cases h
      exact ⟨(pe_ifExp ((ih X E c _ _ F h2).2 h1) (ih X E c _ _ F h3).1 (ih X E c _ _ F h4).1).wk fun _ _ _ y => rd_ite y, fun z => by cases z⟩
    · exact cmp_ok ih F h
    · exact mnd_ok ih F h
    · exact sub_ok ih F h
    · split at h
      · rename_i hx
        exact mkx_ok ih F hx h
      · exact call_ok ih F h
    · exact callk_ok ih F h
    · exact kw_ok ih F h
    · exact min_ok ih F h
    · exact (lc_ok ih F h).1
    · exact cMs_ok ih F h
    · exact attr_ok ih F h
    · cases h
end
end CH

set_option Elab.async false
set_option linter.all false
set_option maxRecDepth 100000
set_option maxHeartbeats 4000000
/-! the state in a def's body -/
namespace CH
variable {Z : St0}
open PySem L2 PyProof.Rows
theorem mix_get {u : Nat → Bool} : ∀ {ρ : Env1} {n i : Nat}, (mixF u n ρ)[i]? = (ρ[i]?).map fun x => if u (n + i) = true then x.frz else x.hid
  | [], _, _ => by simp [mixF]
  | x :: r, n, 0 => by simp [mixF]
  | x :: r, n, i + 1 => by
    rw [mixF, List.getElem?_cons_succ, List.getElem?_cons_succ, mix_get]
    have : n + 1 + i = n + (i + 1) := by omega
    rw [this]
theorem fix_get {u : Nat → Bool} : ∀ {ρ : Env1} {n i : Nat}, (fixF u n ρ)[i]? = (ρ[i]?).map fun x => if u (n + i) = true then x.fix else x
  | [], _, _ => by simp [fixF]
  | x :: r, n, 0 => by simp [fixF]
  | x :: r, n, i + 1 => by
    rw [fixF, List.getElem?_cons_succ, List.getElem?_cons_succ, fix_get]
    have : n + 1 + i = n + (i + 1) := by omega
    rw [this]
theorem mix_len {u : Nat → Bool} : ∀ {ρ : Env1} {n : Nat}, (mixF u n ρ).length = ρ.length
  | [], _ => rfl
  | x :: r, n => congrArg (· + 1) mix_len
theorem fix_len {u : Nat → Bool} : ∀ {ρ : Env1} {n : Nat}, (fixF u n ρ).length = ρ.length
  | [], _ => rfl
  | x :: r, n => congrArg (· + 1) fix_len
structure PreS (k : KA Z) (G0 H0 G H : Hp) (σ : L2.St) (ρ : Env1) (s : Dk) : Prop where
  gr : Grow k G0 H0 G H
  dk : DkAt k s G H
  len : ρ.length = σ.length
  val : ∀ (i : Nat) (d : D), ρ[i]? = some (.val d) → ∃ v, σ[i]? = some (some v) ∧ Rep k G v d
  own : ∀ (i : Nat) (ds : List D), ρ[i]? = some (.own ds) → ∃ a xs, σ[i]? = some (some (.ref a)) ∧ a ≠ k ∧ H0 a = none ∧ G a = none ∧ H a = some (.lst xs) ∧ Reps k G xs ds
  inj : ∀ (i j : Nat) (ds es : List D) (a : Addr), i ≠ j → ρ[i]? = some (.own ds) → ρ[j]? = some (.own es) → σ[i]? = some (some (.ref a)) → σ[j]? ≠ some (some (.ref a))
/-- the addresses of the own lists in the slots of u -/
def Own (u : Nat → Bool) (σ : L2.St) (ρ : Env1) (b : Addr) : Prop := ∃ i ds, u i = true ∧ ρ[i]? = some (.own ds) ∧ σ[i]? = some (some (.ref b))
open Classical in
noncomputable def shown (u : Nat → Bool) (G H : Hp) (σ : L2.St) (ρ : Env1) : Hp := fun b => if Own u σ ρ b then H b else G b
open Classical in
noncomputable def hidden (u : Nat → Bool) (G : Hp) (σ : L2.St) (ρ : Env1) : Hp := fun b => if Own u σ ρ b then none else G b
section
variable {k : KA Z} {G0 H0 G H G1 H1 : Hp} {σ τ : L2.St} {ρ π : Env1} {s s1 : Dk} {u : Nat → Bool}
theorem PreS.no (P : PreS k G0 H0 G H σ ρ s) {b : Addr} (h : Own u σ ρ b) : G b = none ∧ H0 b = none ∧ b ≠ k ∧ ∃ xs, H b = some (.lst xs) := by
  obtain ⟨i, ds, _, h1, h2⟩ := h
  obtain ⟨a, xs, e, n, h0, hg, hh, _⟩ := P.own i ds h1
  rw [h2] at e
  cases e
  exact ⟨hg, h0, n, xs, hh⟩
theorem shown_own {b : Addr} (h : Own u σ ρ b) : shown u G H σ ρ b = H b := if_pos h
theorem shown_not {b : Addr} (h : ¬ Own u σ ρ b) : shown u G H σ ρ b = G b := if_neg h
theorem PreS.same (P : PreS k G0 H0 G H σ ρ s) : Same G (shown u G H σ ρ) := fun b o e => by
  by_cases h : Own u σ ρ b
  · rw [(P.no h).1] at e; cases e
  · rw [shown_not h]; exact e
theorem PreS.sub (P : PreS k G0 H0 G H σ ρ s) : SameT Z (shown u G H σ ρ) H := ⟨fun b o e => by
  by_cases h : Own u σ ρ b
  · rw [shown_own h] at e; exact e
  · rw [shown_not h] at e; exact P.gr.gh b o e, P.gr.gh.t, fun b ps e => by
  by_cases h : Own u σ ρ b
  · obtain ⟨_, _, _, xs, hh⟩ := P.no h
    rw [shown_own h, hh] at e; cases e
  · rw [shown_not h] at e; exact P.gr.gh.n b ps e⟩
/-- what an expression reads -/
theorem PreS.pre (P : PreS k G0 H0 G H (σ ++ τ) (ρ ++ π) s) (hl : ρ.length = σ.length) (hu : ∀ i, u i = true → i < ρ.length) : Pre k (shown u G H (σ ++ τ) (ρ ++ π)) H σ (mixF u 0 ρ) s := by
  refine ⟨P.sub, ?_, fun i d e => ?_, by rw [mix_len]; exact hl⟩
  · refine P.dk.move P.same ?_ rfl
    have h2 := P.dk.1
    by_cases h : Own u (σ ++ τ) (ρ ++ π) k
    · exact absurd rfl (P.no h).2.2.1
    · rw [shown_not h]; exact h2
  · rw [mix_get, Nat.zero_add] at e
    cases q : ρ[i]? with
    | none => rw [q] at e; cases e
    | some x =>
      have hi : i < ρ.length := by
        by_cases z : i < ρ.length
        · exact z
        · rw [List.getElem?_eq_none (by omega)] at q; cases q
      have q' : (ρ ++ π)[i]? = some x := by rw [List.getElem?_append_left hi]; exact q
      have qs : (σ ++ τ)[i]? = σ[i]? := List.getElem?_append_left (by omega)
      rw [q] at e
      cases x with
      | un => simp [Slot.frz, Slot.hid] at e
      | val d' =>
        simp [Slot.frz, Slot.hid] at e
        subst e
        obtain ⟨v, h1, h2⟩ := P.val i d' q'
        exact ⟨v, by rw [← qs]; exact h1, h2.mono P.same⟩
      | own ds =>
        by_cases z : u i = true
        · simp [Slot.frz, Slot.hid, z] at e
          subst e
          obtain ⟨a, xs, h1, n, h0, hg, hh, r⟩ := P.own i ds q'
          exact ⟨.ref a, by rw [← qs]; exact h1, .lst (by rw [shown_own ⟨i, ds, z, q', h1⟩]; exact hh) (r.mono P.same)⟩
        · simp [Slot.hid, z] at e
/-- behind an expression: nothing of the own lists stands still -/
theorem PreS.away (P : PreS k G0 H0 G H σ ρ s) (g : Grow k (shown u G H σ ρ) H G1 H1) (dk : DkAt k s1 G1 H1) : PreS k G0 H0 (hidden u G1 σ ρ) H1 σ ρ s1 := by
  have sm : Same G (hidden u G1 σ ρ) := fun b o e => by
    by_cases h : Own u σ ρ b
    · rw [(P.no h).1] at e; cases e
    · unfold hidden
      rw [if_neg h]
      exact g.gg b o (by rw [shown_not h]; exact e)
  have hid : ∀ {b o}, hidden u G1 σ ρ b = some o → ¬ Own u σ ρ b ∧ G1 b = some o := fun {b o} e => by
    unfold hidden at e
    by_cases h : Own u σ ρ b
    · rw [if_pos h] at e; cases e
    · rw [if_neg h] at e; exact ⟨h, e⟩
  refine ⟨⟨P.gr.gg.trans sm, ⟨fun b o e => g.gh b o (hid e).2, g.gh.t, fun b ps e => g.gh.n b ps (hid e).2⟩, fun a o n t e => g.fr a o n t (P.gr.fr a o n t e), fun a o e => ?_, fun a e => P.gr.kt a (g.kt a e), fun c r e => let ⟨r1, e1⟩ := P.gr.ck c r e; g.ck c r1 e1⟩, ?_, P.len, fun i d e => ?_, fun i ds e => ?_, P.inj⟩
  · obtain ⟨h, e1⟩ := hid e
    rcases g.nw a o e1 with z | z
    · rw [shown_not h] at z; exact P.gr.nw a o z
    · exact .inr (P.gr.kt a z)
  · have hk : hidden u G1 σ ρ k = none := by
      unfold hidden
      by_cases h : Own u σ ρ k
      · rw [if_pos h]
      · rw [if_neg h]; exact dk.1
    cases on : k.on with
    | false =>
      obtain ⟨_, ⟨o, _⟩ | w⟩ := dk
      · rw [on] at o; cases o
      · exact ⟨hk, .inr w⟩
    | true =>
      obtain ⟨c, h1, h2, h3⟩ := P.dk.get on
      obtain ⟨c', q1, q2, q3⟩ := dk.get on
      obtain ⟨r', e'⟩ := g.ck c _ h3
      rw [q3] at e'
      cases e'
      refine ⟨hk, .inl ⟨on, c, ?_, q3⟩⟩
      unfold hidden
      rw [if_neg fun h => by rw [(P.no h).1] at h1; cases h1]
      exact q1
  · obtain ⟨v, h1, h2⟩ := P.val i d e
    exact ⟨v, h1, h2.mono sm⟩
  · obtain ⟨a, xs, h1, n, h0, hg, hh, r⟩ := P.own i ds e
    refine ⟨a, xs, h1, n, h0, ?_, g.frl n hh, r.mono sm⟩
    unfold hidden
    by_cases h : Own u σ ρ a
    · rw [if_pos h]
    · rw [if_neg h]
      cases q : G1 a with
      | none => rfl
      | some o =>
        rcases g.nw a o q with z | z
        · rw [shown_not h, hg] at z; cases z
        · rw [hh] at z; cases z
theorem away_rep (P : PreS k G0 H0 G H σ ρ s) (g : Grow k (shown u G H σ ρ) H G1 H1) {v : V} {d : D} (hn : noL d = true) (r : Rep k G1 v d) : Rep k (hidden u G1 σ ρ) v d := by
  refine r.noL (fun a xs e => ?_) hn
  unfold hidden
  by_cases h : Own u σ ρ a
  · obtain ⟨_, _, n, ys, hh⟩ := P.no h
    have := g.gg a (.lst ys) (by rw [shown_own h]; exact hh)
    rw [e] at this; cases this
  · rw [if_neg h]; exact e
theorem away_reps (P : PreS k G0 H0 G H σ ρ s) (g : Grow k (shown u G H σ ρ) H G1 H1) {vs : List V} {ds : List D} (hn : noLs ds = true) (r : Reps k G1 vs ds) : Reps k (hidden u G1 σ ρ) vs ds := by
  refine r.noLs (fun a xs e => ?_) hn
  unfold hidden
  by_cases h : Own u σ ρ a
  · obtain ⟨_, _, n, ys, hh⟩ := P.no h
    have := g.gg a (.lst ys) (by rw [shown_own h]; exact hh)
    rw [e] at this; cases this
  · rw [if_neg h]; exact e
theorem hid_none {a : Addr} (h : G1 a = none) : hidden u G1 σ ρ a = none := by
  unfold hidden
  split
  · rfl
  · exact h
theorem plain_fresh {p : PX} (h : plainLc p = true) : p.freshy = true := by
  cases p <;> first | rfl | cases h
/-- behind an expression: the own lists of u stand still -/
theorem PreS.still (P : PreS k G0 H0 G H (σ ++ τ) (ρ ++ π) s) (hu : ∀ i, u i = true → i < ρ.length) (g : Grow k (shown u G H (σ ++ τ) (ρ ++ π)) H G1 H1) (dk : DkAt k s1 G1 H1) : PreS k G0 H0 G1 H1 (σ ++ τ) (fixF u 0 ρ ++ π) s1 := by
  have gt : ∀ i, (fixF u 0 ρ ++ π)[i]? = ((ρ ++ π)[i]?).map fun x => if u i = true then x.fix else x := fun i => by
    by_cases hi : i < ρ.length
    · rw [List.getElem?_append_left (by rw [fix_len]; exact hi), List.getElem?_append_left hi, fix_get, Nat.zero_add]
    · rw [List.getElem?_append_right (by rw [fix_len]; omega), List.getElem?_append_right (by omega), fix_len]
      have : u i ≠ true := fun z => hi (hu i z)
      cases q : π[i - ρ.length]? with
      | none => rfl
      | some x => simp [this]
  have back : ∀ {i ds}, (fixF u 0 ρ ++ π)[i]? = some (.own ds) → u i ≠ true ∧ (ρ ++ π)[i]? = some (.own ds) := fun {i ds} e => by
    rw [gt] at e
    cases q : (ρ ++ π)[i]? with
    | none => rw [q] at e; cases e
    | some x =>
      rw [q] at e
      by_cases z : u i = true
      · cases x <;> simp [z, Slot.fix] at e
      · simp [z] at e
        exact ⟨z, by rw [e]⟩
  refine ⟨⟨P.gr.gg.trans (P.same.trans g.gg), g.gh, fun a o n t e => g.fr a o n t (P.gr.fr a o n t e), fun a o e => ?_, fun a e => P.gr.kt a (g.kt a e), fun c r e => let ⟨r1, e1⟩ := P.gr.ck c r e; g.ck c r1 e1⟩, dk, ?_, fun i d e => ?_, fun i ds e => ?_, fun i j ds es a n e1 e2 => ?_⟩
  · rcases g.nw a o e with z | z
    · by_cases h : Own u (σ ++ τ) (ρ ++ π) a
      · exact .inr (P.no h).2.1
      · rw [shown_not h] at z; exact P.gr.nw a o z
    · exact .inr (P.gr.kt a z)
  · have := P.len
    simp only [List.length_append] at this ⊢
    rw [fix_len]; exact this
  · rw [gt] at e
    cases q : (ρ ++ π)[i]? with
    | none => rw [q] at e; cases e
    | some x =>
      rw [q] at e
      cases x with
      | un =>
        by_cases z : u i = true <;> simp [z, Slot.fix] at e
      | val d' =>
        have : d' = d := by by_cases z : u i = true <;> simp [z, Slot.fix] at e <;> exact e
        subst this
        obtain ⟨v, h1, h2⟩ := P.val i d' q
        exact ⟨v, h1, (h2.mono P.same).mono g.gg⟩
      | own ds =>
        by_cases z : u i = true
        · simp [z, Slot.fix] at e
          subst e
          obtain ⟨a, xs, h1, n, h0, hg, hh, r⟩ := P.own i ds q
          exact ⟨.ref a, h1, .lst (g.gg a _ (by rw [shown_own ⟨i, ds, z, q, h1⟩]; exact hh)) ((r.mono P.same).mono g.gg)⟩
        · simp [z] at e
  · obtain ⟨z, q⟩ := back e
    obtain ⟨a, xs, h1, n, h0, hg, hh, r⟩ := P.own i ds q
    refine ⟨a, xs, h1, n, h0, ?_, g.frl n hh, (r.mono P.same).mono g.gg⟩
    have hn : ¬ Own u (σ ++ τ) (ρ ++ π) a := fun ⟨j, es, zj, qj, hj⟩ => by
      have ne : i ≠ j := fun y => by subst y; exact z zj
      exact P.inj i j ds es a ne q qj h1 hj
    cases q1 : G1 a with
    | none => rfl
    | some o =>
      rcases g.nw a o q1 with y | y
      · rw [shown_not hn, hg] at y; cases y
      · rw [hh] at y; cases y
  · exact P.inj i j ds es a n (back e1).2 (back e2).2
end
section
variable {k : KA Z} {G : Hp} {m : Nat}
/-! ### an item of a list holds not the list -/
mutual
theorem Rep.fun (h0 : G k = none) : ∀ {v : V} {d e : D}, Rep k G v d → Rep k G v e → d = e
  | _, _, _, .non, r => by cases r; rfl
  | _, _, _, .bl b, r => by cases r; rfl
  | _, _, _, .int b, r => by cases r; rfl
  | _, _, _, .str b, r => by cases r; rfl
  | _, _, _, .lst h q, r => by
    cases r with
    | lst h' q' => rw [h] at h'; cases h'; rw [Reps.fun h0 q q']
    | tup h' q' => rw [h] at h'; cases h'
    | deck _ => rw [h0] at h; cases h
    | obj h' _ _ _ => rw [h] at h'; cases h'
    | exc0 h' _ => rw [h] at h'; exact absurd (Option.some.inj h').symm exo_lst
    | exc1 h' _ _ _ _ => rw [h] at h'; exact absurd (Option.some.inj h').symm exo_lst
  | _, _, _, .tup h q, r => by
    cases r with
    | tup h' q' => rw [h] at h'; cases h'; rw [Reps.fun h0 q q']
    | lst h' q' => rw [h] at h'; cases h'
    | deck _ => rw [h0] at h; cases h
    | obj h' _ _ _ => rw [h] at h'; cases h'
    | exc0 h' _ => rw [h] at h'; exact absurd (Option.some.inj h').symm exo_tup
    | exc1 h' _ _ _ _ => rw [h] at h'; exact absurd (Option.some.inj h').symm exo_tup
  | _, _, _, .obj h _ hc q, r => by
    cases r with
    | tup h' q' => rw [h] at h'; cases h'
    | lst h' q' => rw [h] at h'; cases h'
    | deck _ => rw [h0] at h; cases h
    | obj h' _ hc' q' =>
      rw [h] at h'
      cases h'
      rw [Repf.fun h0 q q', Z.inj hc hc']
    | exc0 h' _ => rw [h] at h'; exact absurd (Option.some.inj h').symm exo_ins
    | exc1 h' _ _ _ _ => rw [h] at h'; exact absurd (Option.some.inj h').symm exo_ins
  | _, _, _, .exc0 h hc, r => by
    cases r with
    | tup h' q' => rw [h] at h'; exact absurd (Option.some.inj h') exo_tup
    | lst h' q' => rw [h] at h'; exact absurd (Option.some.inj h') exo_lst
    | deck _ => rw [h0] at h; cases h
    | obj h' _ _ _ => rw [h] at h'; exact absurd (Option.some.inj h') exo_ins
    | exc0 h' hc' =>
      rw [h] at h'
      obtain ⟨e, _⟩ := exo_inj (Option.some.inj h')
      subst e
      rw [Z.xinj hc hc']
    | exc1 h' _ _ _ _ =>
      rw [h] at h'
      obtain ⟨_, e⟩ := exo_inj (Option.some.inj h')
      cases e
  | _, _, _, .exc1 h hd hc hn q, r => by
    cases r with
    | tup h' q' => rw [h] at h'; exact absurd (Option.some.inj h') exo_tup
    | lst h' q' => rw [h] at h'; exact absurd (Option.some.inj h') exo_lst
    | deck _ => rw [h0] at h; cases h
    | obj h' _ _ _ => rw [h] at h'; exact absurd (Option.some.inj h') exo_ins
    | exc0 h' hc' =>
      rw [h] at h'
      obtain ⟨_, e⟩ := exo_inj (Option.some.inj h')
      cases e
    | exc1 h' hd' hc' hn' q' =>
      rw [h] at h'
      obtain ⟨e, e2⟩ := exo_inj (Option.some.inj h')
      subst e
      cases e2
      rw [hd] at hd'
      cases hd'
      rw [Repf.fun h0 q q', Z.xinj hc hc']
  | _, _, _, .deck _, r => by
    cases r with
    | lst h' q' => rw [h0] at h'; cases h'
    | tup h' q' => rw [h0] at h'; cases h'
    | obj h' _ _ _ => rw [h0] at h'; cases h'
    | exc0 h' _ => rw [h0] at h'; cases h'
    | exc1 h' _ _ _ _ => rw [h0] at h'; cases h'
    | deck _ => rfl
theorem Reps.fun (h0 : G k = none) : ∀ {vs : List V} {ds es : List D}, Reps k G vs ds → Reps k G vs es → ds = es
  | _, _, _, .nil, r => by cases r; rfl
  | _, _, _, .cons h q, r => by
    cases r with
    | cons h' q' => rw [Rep.fun h0 h h', Reps.fun h0 q q']
theorem Repf.fun (h0 : G k = none) : ∀ {vs : List (Str × V)} {ds es : List (D × D)}, Repf k G vs ds → Repf k G vs es → ds = es
  | _, _, _, .nil, r => by cases r; rfl
  | _, _, _, .cons h q, r => by
    cases r with
    | cons h' q' => rw [Rep.fun h0 h h', Repf.fun h0 q q']
end
mutual
theorem Rep.less (h0 : G k = none) {G' : Hp} (hG : ∀ b o, G b = some o → (∀ xs ds, o = .lst xs → Reps k G xs ds → sizeOf ds ≤ m) → G' b = some o) : ∀ {v : V} {d : D}, sizeOf d ≤ m → Rep k G v d → Rep k G' v d
  | _, _, _, .non => .non
  | _, _, _, .bl b => .bl b
  | _, _, _, .int b => .int b
  | _, _, _, .str b => .str b
  | _, .list ds, z, .lst h q => by
    have z' : sizeOf ds ≤ m := by simp at z; omega
    exact .lst (hG _ _ h fun ys es e q2 => by cases e; rw [Reps.fun h0 q2 q]; exact z') (Reps.less h0 hG z' q)
  | _, .tuple ds, z, .tup h q => by
    have z' : sizeOf ds ≤ m := by simp at z; omega
    exact .tup (hG _ _ h fun ys es e q2 => by cases e) (Reps.less h0 hG z' q)
  | _, _, _, .deck o => .deck o
  | _, .dict ((.str c, .none) :: fs), z, .obj h e hc q => by
    have z' : sizeOf fs ≤ m := by simp at z; omega
    exact .obj (hG _ _ h fun ys es e _ => by cases e) (hG _ _ e fun ys es e _ => by cases e) hc (Repf.less h0 hG z' q)
  | _, .dict [(.str c, .bool true)], z, .exc0 h hc => .exc0 (hG _ _ h fun ys es e _ => absurd e exo_lst) hc
  | _, .dict ((.str c, .bool true) :: fs), z, .exc1 h e hc hn q => by
    have z' : sizeOf fs ≤ m := by simp at z; omega
    exact .exc1 (hG _ _ h fun ys es e _ => absurd e exo_lst) (hG _ _ e fun ys es e _ => by cases e) hc hn (Repf.less h0 hG z' q)
theorem Reps.less (h0 : G k = none) {G' : Hp} (hG : ∀ b o, G b = some o → (∀ xs ds, o = .lst xs → Reps k G xs ds → sizeOf ds ≤ m) → G' b = some o) : ∀ {vs : List V} {ds : List D}, sizeOf ds ≤ m → Reps k G vs ds → Reps k G' vs ds
  | _, _, _, .nil => .nil
  | _, _ :: _, z, .cons h q => by
    have z1 := z
    simp at z1
    exact .cons (Rep.less h0 hG (by omega) h) (Reps.less h0 hG (by omega) q)
theorem Repf.less (h0 : G k = none) {G' : Hp} (hG : ∀ b o, G b = some o → (∀ xs ds, o = .lst xs → Reps k G xs ds → sizeOf ds ≤ m) → G' b = some o) : ∀ {vs : List (Str × V)} {ds : List (D × D)}, sizeOf ds ≤ m → Repf k G vs ds → Repf k G' vs ds
  | _, _, _, .nil => .nil
  | _, _ :: _, z, .cons h q => by
    have z1 := z
    simp at z1
    exact .cons (Rep.less h0 hG (by omega) h) (Repf.less h0 hG (by omega) q)
end
end
section
variable {k : KA Z} {G0 H0 G H G1 H1 : Hp} {σ τ : L2.St} {ρ π : Env1} {s s1 : Dk} {u : Nat → Bool}
theorem atI_mem {α : Type} {xs : List α} {i : Int} {x : α} (h : L2.atI xs i = some x) : x ∈ xs := by
  unfold L2.atI at h
  obtain ⟨j, _, h2⟩ := ob h
  exact List.mem_of_getElem? h2
theorem size_item {d : D} {ds : List D} (h : d ∈ ds) : sizeOf d < sizeOf ds := List.sizeOf_lt_of_mem h
theorem ixD_item {s : Dk} {ds : List D} {y d : D} (h : ixD s (.list ds) y = some d) : d ∈ ds := by
  cases y with
  | int i => exact atI_mem h
  | _ => cases h
theorem ixD_list {s : Dk} {x : D} {es : List D} : ixD s x (.list es) = none := by
  cases x <;> first | rfl | (rename_i l; cases l <;> rfl)
/-- what such an item is not: an own list that the expression names -/
theorem item_small {F : Fns} {p : PX} {u : Nat → Bool} {ρ : Env1} {s s1 : Dk} {d : D} {i : Nat} {ds : List D} (hp : ixOwn p = true) (hu : u i = true) (hpu : p.at i = true) (hi : ρ[i]? = some (.own ds)) (e : ev F p (mixF u 0 ρ) s = .ok d s1) : sizeOf d < sizeOf ds := by
  unfold ixOwn at hp
  split at hp
  · rename_i j e2
    simp only [ev] at e
    obtain ⟨x, s2, h1, e⟩ := bind_ok e
    obtain ⟨y, s3, h2, e⟩ := bind_ok e
    have ee : ixD s3 x y = some d := by
      cases q : ixD s3 x y with
      | none => rw [q] at e; cases e
      | some z => rw [q] at e; cases e; rfl
    have gi : (mixF u 0 ρ)[i]? = some (some (.list ds)) := by
      rw [mix_get, hi, Nat.zero_add, Option.map_some, if_pos hu]; rfl
    by_cases hj : j = i
    · subst hj
      rw [gi] at h1
      cases h1
      exact size_item (ixD_item ee)
    · exfalso
      cases e2 with
      | var m =>
        have hm : m = i := by
          simp only [PX.at, PX.uses, Bool.or_eq_true, beq_iff_eq] at hpu
          rcases hpu with z | z
          · exact absurd z hj
          · exact z
        subst hm
        simp only [ev, gi] at h2
        cases h2
        rw [ixD_list] at ee
        cases ee
      | cst c =>
        simp only [PX.at, PX.uses, Bool.or_eq_true, beq_iff_eq] at hpu
        rcases hpu with z | z
        · exact hj z
        · cases z
      | neg q =>
        cases q with
        | cst c =>
          simp only [PX.at, PX.uses, Bool.or_eq_true, beq_iff_eq] at hpu
          rcases hpu with z | z
          · exact hj z
          · cases z
        | _ => cases hp
      | _ => cases hp
  · cases hp
theorem away_item {F : Fns} {p : PX} {v : V} {d : D} (P : PreS k G0 H0 G H (σ ++ τ) (ρ ++ π) s) (hp : ixOwn p = true) (hu : ∀ i, u i = true → i < ρ.length ∧ p.at i = true) (e : ev F p (mixF u 0 ρ) s = .ok d s1) (g : Grow k (shown u G H (σ ++ τ) (ρ ++ π)) H G1 H1) (dk : DkAt k s1 G1 H1)
    (r : Rep k G1 v d) : Rep k (hidden u G1 (σ ++ τ) (ρ ++ π)) v d := by
  have h0 : G1 k = none := dk.1
  refine Rep.less h0 (m := sizeOf d) (fun b o hb hl => ?_) (Nat.le_refl _) r
  by_cases h : Own u (σ ++ τ) (ρ ++ π) b
  · exfalso
    obtain ⟨i, ds, h1, h2, h3⟩ := h
    obtain ⟨a, xs, q1, _, _, _, q5, q6⟩ := P.own i ds h2
    rw [h3] at q1
    cases q1
    have e1 := g.gg b _ ((shown_own ⟨i, ds, h1, h2, h3⟩).trans q5)
    rw [hb] at e1
    have z := hl xs ds (Option.some.inj e1) ((q6.mono P.same).mono g.gg)
    have hi : ρ[i]? = some (.own ds) := by rw [List.getElem?_append_left (hu i h1).1] at h2; exact h2
    have := item_small hp h1 (hu i h1).2 hi e
    omega
  · unfold hidden
    rw [if_neg h]
    exact hb
end
/-- a value behind an expression: new and not yet taken in, or standing -/
def RepF (fr : Bool) (k : KA Z) (H0 G H : Hp) (σ : L2.St) (ρ : Env1) (v : V) (d : D) : Prop :=
  (fr = true ∧ ∃ a xs ds, v = .ref a ∧ d = .list ds ∧ H0 a = none ∧ a ≠ k ∧ G a = none ∧ H a = some (.lst xs) ∧ Reps k G xs ds ∧ ∀ (j : Nat) (es : List D), ρ[j]? = some (.own es) → σ[j]? ≠ some (some (.ref a))) ∨ ((fr = true → ∀ ds, d ≠ .list ds) ∧ Rep k G v d)
section
variable {R : Par Z} {E : XW} {k : KA Z} {G0 H0 G H G1 H1 : Hp} {σ τ : L2.St} {ρ π : Env1} {s s1 : Dk}
/-- what may follow an expression in a statement -/
def DoneS (R : Par Z) (E : XW) (fr : Bool) (k : KA Z) (G0 H0 : Hp) (σ τ : L2.St) (π : Env1) (ρx : Env1) (o : Out (D × Env1)) (K : D → Env1 → Dk → V → Hp → Prop) : Prop := match o with
  | .ok x s1 => ∀ v G1 H1, PreS k G0 H0 G1 H1 (σ ++ τ) (x.2 ++ π) s1 → RepF fr k H0 G1 H1 (σ ++ τ) (x.2 ++ π) v x.1 → K x.1 x.2 s1 v H1
  | .ex x s1 => ∀ c d G1 H1, PreS k G0 H0 G1 H1 (σ ++ τ) (ρx ++ π) s1 → R.RX k G1 x c d → E σ c d H1
  | .no => False
theorem uses_lt : ∀ (e : Nat → Bool) (n : Nat), ∀ i, (decide (i < n) && e i) = true → i < n := fun e n i h => by simp at h; exact h.1
theorem mixF_cut {e : Nat → Bool} {m : Nat} : ∀ {n : Nat} {ρ : Env1}, n + ρ.length ≤ m → mixF (fun i => decide (i < m) && e i) n ρ = mixF e n ρ
  | _, [], _ => rfl
  | n, x :: r, h => by
    rw [List.length_cons] at h
    rw [mixF, mixF, mixF_cut (by omega)]
    have : decide (n < m) = true := by simp; omega
    simp [this]
theorem fixF_cut {e : Nat → Bool} {m : Nat} : ∀ {n : Nat} {ρ : Env1}, n + ρ.length ≤ m → fixF (fun i => decide (i < m) && e i) n ρ = fixF e n ρ
  | _, [], _ => rfl
  | n, x :: r, h => by
    rw [List.length_cons] at h
    rw [fixF, fixF, fixF_cut (by omega)]
    have : decide (n < m) = true := by simp; omega
    simp [this]
/-- an expression in a statement -/
theorem evSB_sem {b : PX → D → Bool} {p : PX} {Q : VK} {K : D → Env1 → Dk → V → Hp → Prop} (hb : ∀ d, b p d = true → noL d = true ∨ (p.freshy = true ∧ lstNo d = true) ∨ ixOwn p = true) (P : PreS k G0 H0 G H (σ ++ τ) (ρ ++ π) s) (hl : ρ.length = σ.length) (h : DoneS R E p.freshy k G0 H0 σ τ π (fixF p.at 0 ρ) (evSB R.F b p ρ s) K) (q : ∀ d ρ1 s1 v H1, K d ρ1 s1 v H1 → Q v H1) : SEM R E p σ H Q := by
  obtain ⟨u, hu⟩ : ∃ u : Nat → Bool, u = fun i => decide (i < ρ.length) && p.at i := ⟨_, rfl⟩
  have em : mixF p.at 0 ρ = mixF u 0 ρ := by rw [hu]; exact (mixF_cut (by omega)).symm
  have ef : fixF p.at 0 ρ = fixF u 0 ρ := by rw [hu]; exact (fixF_cut (by omega)).symm
  have hlt : ∀ i, u i = true → i < ρ.length := by rw [hu]; exact uses_lt _ _
  have hlu : ∀ i, u i = true → i < ρ.length ∧ p.at i = true := by rw [hu]; intro i hi; simpa using hi
  have fresh : ∀ {G1 H1 : Hp} {ρ1 : Env1} {v : V} {d : D}, (∀ (j : Nat) (es : List D), (ρ1 ++ π)[j]? = some (.own es) → (ρ ++ π)[j]? = some (.own es)) → RepB p.freshy k G1 H H1 v d → RepF p.freshy k H0 G1 H1 (σ ++ τ) (ρ1 ++ π) v d := fun {G1 H1 ρ1 v d} hb r => by
    rcases r with ⟨hf, a, xs, ds, rfl, rfl, h1, h2, h3, h4⟩ | r
    · refine .inl ⟨hf, a, xs, ds, rfl, rfl, P.gr.kt a h1, fun z => P.dk.there (by rw [← z]; exact h1), h2, h3, h4, fun j es e z => ?_⟩
      obtain ⟨b, ys, e1, _, _, _, hh, _⟩ := P.own j es (hb j es e)
      rw [e1] at z
      cases z
      rw [h1] at hh; cases hh
    · exact .inr r
  refine ⟨k, shown u G H (σ ++ τ) (ρ ++ π), mixF u 0 ρ, s, P.pre hl hlt, ?_⟩
  unfold evSB at h
  rw [em] at h
  cases e : ev R.F p (mixF u 0 ρ) s with
  | no => rw [e] at h; exact h
  | ex x s1 =>
    rw [e] at h
    intro c d G1 H1 g dk rx
    rw [ef] at h
    exact h c d G1 H1 (P.still hlt g dk) rx
  | ok d s1 =>
    rw [e] at h
    intro v G1 H1 g dk rv
    by_cases hn : b p d = true
    · have h' : DoneS R E p.freshy k G0 H0 σ τ π (fixF p.at 0 ρ) (.ok (d, ρ) s1) K := by
        have z := h
        simp only [Out.bind, hn, if_true] at z
        exact z
      refine q d ρ s1 v H1 (h' v _ H1 (P.away (u := u) g dk) ?_)
      rcases rv with ⟨hf, a, xs, ds, rfl, rfl, h1, h2, h3, h4⟩ | ⟨n, rv⟩
      · have hn2 : noLs ds = true := by
          rcases hb _ hn with z | ⟨_, z⟩ | z
          · cases z
          · exact z
          · exfalso
            cases p <;> first | cases z | cases hf
        exact fresh (fun j es e => e) (.inl ⟨hf, a, xs, ds, rfl, rfl, h1, hid_none h2, h3, away_reps P g hn2 h4⟩)
      · refine .inr ⟨n, ?_⟩
        rcases hb _ hn with z | ⟨hf, hd⟩ | z
        · exact away_rep P g z rv
        · exfalso
          cases d with
          | list ds => exact n hf ds rfl
          | _ => cases hd
        · exact away_item P z hlu e g dk rv
    · have h' : DoneS R E p.freshy k G0 H0 σ τ π (fixF p.at 0 ρ) (.ok (d, fixF u 0 ρ) s1) K := by
        have z := h
        simp only [Out.bind, hn, if_false, Bool.false_eq_true] at z
        rw [ef] at z ⊢
        exact z
      refine q d _ s1 v H1 (h' v G1 H1 (P.still hlt g dk) (fresh (fun j es e => ?_) rv))
      by_cases hj : j < ρ.length
      · rw [List.getElem?_append_left (by rw [fix_len]; exact hj), fix_get] at e
        rw [List.getElem?_append_left hj]
        cases q : ρ[j]? with
        | none => rw [q] at e; cases e
        | some x =>
          rw [q, Nat.zero_add] at e
          by_cases z : u j = true
          · cases x <;> simp [z, Slot.fix] at e
          · simp [z] at e
            rw [e]
      · rw [List.getElem?_append_right (by rw [fix_len]; omega), fix_len] at e
        rw [List.getElem?_append_right (by omega)]
        exact e
theorem noLf_ok {p : PX} (d : D) (h : noLf p d = true) : noL d = true ∨ (p.freshy = true ∧ lstNo d = true) ∨ ixOwn p = true := by
  unfold noLf at h
  simp only [Bool.or_eq_true, Bool.and_eq_true] at h
  rcases h with (h | h) | h
  · exact .inl h
  · exact .inr (.inl ⟨plain_fresh h.1, h.2⟩)
  · exact .inr (.inr h)
theorem noLg_ok {p : PX} (d : D) (h : noLg p d = true) : noL d = true ∨ (p.freshy = true ∧ lstNo d = true) ∨ ixOwn p = true := by
  unfold noLg at h
  simp only [Bool.or_eq_true, Bool.and_eq_true] at h
  rcases h with h | h
  · exact noLf_ok d h
  · exact .inr (.inl h)
theorem evS_sem {p : PX} {Q : VK} {K : D → Env1 → Dk → V → Hp → Prop} (P : PreS k G0 H0 G H (σ ++ τ) (ρ ++ π) s) (hl : ρ.length = σ.length) (h : DoneS R E p.freshy k G0 H0 σ τ π (fixF p.at 0 ρ) (evS R.F p ρ s) K) (q : ∀ d ρ1 s1 v H1, K d ρ1 s1 v H1 → Q v H1) : SEM R E p σ H Q := evSB_sem noLf_ok P hl h q
end
end CH

set_option Elab.async false
set_option linter.all false
set_option maxRecDepth 100000
set_option maxHeartbeats 4000000
/-! statements: what they leave -/
namespace CH
variable {Z : St0}
open PySem L2 PyProof.Rows
section
variable {k : KA Z} {G0 H0 G H G1 H1 : Hp} {σ : L2.St} {ρ : Env1} {s : Dk}
/-- a value taken in -/
theorem PreS.take {fr : Bool} {v : V} {d : D} (P : PreS k G0 H0 G H σ ρ s) (r : RepF fr k H0 G H σ ρ v d) : ∃ G2, PreS k G0 H0 G2 H σ ρ s ∧ Rep k G2 v d ∧ Same G G2 := by
  rcases r with ⟨_, a, xs, ds, rfl, rfl, h0, nk, hg, hh, rr, hj⟩ | ⟨_, r⟩
  · have sg : Same G (upd G a (.lst xs)) := fun b o e => by rw [upd_ne (ne_of_none e hg)]; exact e
    refine ⟨upd G a (.lst xs), ⟨⟨P.gr.gg.trans sg, ⟨fun b o e => ?_, P.gr.gh.t, no_tbl P.gr.gh.n fun _ z => nomatch z⟩, P.gr.fr, fun b o e => ?_, P.gr.kt, P.gr.ck⟩, ?_, P.len, fun i d e => ?_, fun i es e => ?_, P.inj⟩, .lst upd_same (rr.mono sg), sg⟩
    · by_cases z : b = a
      · subst z; rw [upd_same] at e; rw [← e]; exact hh
      · rw [upd_ne z] at e; exact P.gr.gh b o e
    · by_cases z : b = a
      · subst z; exact .inr h0
      · rw [upd_ne z] at e; exact P.gr.nw b o e
    · exact P.dk.move sg (by rw [upd_ne (Ne.symm nk)]; exact P.dk.1) rfl
    · obtain ⟨v, h1, h2⟩ := P.val i d e
      exact ⟨v, h1, h2.mono sg⟩
    · obtain ⟨b, ys, h1, n, z0, zg, zh, r⟩ := P.own i es e
      refine ⟨b, ys, h1, n, z0, ?_, zh, r.mono sg⟩
      rw [upd_ne fun z => hj i es e (by rw [h1, z])]
      exact zg
  · exact ⟨G, P, r, Same.refl _⟩
theorem set_get {α : Type} {l : List α} {i j : Nat} {x y : α} (h : (l.set i x)[j]? = some y) : (i = j ∧ j < l.length ∧ x = y) ∨ (i ≠ j ∧ l[j]? = some y) := by
  by_cases e : i = j
  · subst e
    rw [List.getElem?_set] at h
    simp only [if_true] at h
    split at h
    · rename_i hl; exact .inl ⟨rfl, hl, Option.some.inj h⟩
    · cases h
  · rw [List.getElem?_set_ne e] at h; exact .inr ⟨e, h⟩
theorem set_here {α : Type} {l : List α} {i : Nat} {x : α} (h : i < l.length) : (l.set i x)[i]? = some x := by simp [h]
theorem PreS.set (P : PreS k G0 H0 G H σ ρ s) {i : Nat} {v : V} {d : D} (r : Rep k G v d) : PreS k G0 H0 G H (σ.set i (some v)) (ρ.set i (.val d)) s := by
  refine ⟨P.gr, P.dk, by rw [List.length_set, List.length_set]; exact P.len, fun j e h => ?_, fun j ds h => ?_, fun j l ds es a n h1 h2 h3 h4 => ?_⟩
  · rcases set_get h with ⟨rfl, hl, e'⟩ | ⟨ne, h⟩
    · cases e'
      exact ⟨v, set_here (by rw [← P.len]; exact hl), r⟩
    · rw [List.getElem?_set_ne ne]; exact P.val j e h
  · rcases set_get h with ⟨rfl, hl, e'⟩ | ⟨ne, h⟩
    · cases e'
    · rw [List.getElem?_set_ne ne]; exact P.own j ds h
  · rcases set_get h1 with ⟨rfl, _, e'⟩ | ⟨ne, h1⟩
    · cases e'
    · rcases set_get h2 with ⟨rfl, _, e'⟩ | ⟨ne2, h2⟩
      · cases e'
      · rw [List.getElem?_set_ne ne] at h3
        rw [List.getElem?_set_ne ne2] at h4
        exact P.inj j l ds es a n h1 h2 h3 h4
/-- an own list comes to stand in a slot -/
theorem PreS.setOwn (P : PreS k G0 H0 G H σ ρ s) {i : Nat} {a : Addr} {xs : List V} {ds : List D} (h0 : H0 a = none) (nk : a ≠ k) (hg : G a = none) (hh : H a = some (.lst xs)) (r : Reps k G xs ds)
    (hj : ∀ (j : Nat) (es : List D), ρ[j]? = some (.own es) → σ[j]? ≠ some (some (.ref a))) : PreS k G0 H0 G H (σ.set i (some (.ref a))) (ρ.set i (.own ds)) s := by
  refine ⟨P.gr, P.dk, by rw [List.length_set, List.length_set]; exact P.len, fun j e h => ?_, fun j es h => ?_, fun j l es fs b n h1 h2 h3 h4 => ?_⟩
  · rcases set_get h with ⟨rfl, hl, e'⟩ | ⟨ne, h⟩
    · cases e'
    · rw [List.getElem?_set_ne ne]; exact P.val j e h
  · rcases set_get h with ⟨rfl, hl, e'⟩ | ⟨ne, h⟩
    · cases e'
      exact ⟨a, xs, set_here (by rw [← P.len]; exact hl), nk, h0, hg, hh, r⟩
    · rw [List.getElem?_set_ne ne]; exact P.own j es h
  · rcases set_get h1 with ⟨rfl, _, e'⟩ | ⟨ne, h1⟩
    · rcases set_get h2 with ⟨rfl, _, _⟩ | ⟨ne2, h2⟩
      · exact n rfl
      · rw [List.getElem?_set_ne ne2] at h4
        rcases set_get h3 with ⟨_, _, e3⟩ | ⟨ne3, _⟩
        · cases e3
          exact hj l fs h2 h4
        · exact ne3 rfl
    · rw [List.getElem?_set_ne ne] at h3
      rcases set_get h2 with ⟨rfl, _, _⟩ | ⟨ne2, h2⟩
      · rcases set_get h4 with ⟨_, _, e4⟩ | ⟨ne4, _⟩
        · cases e4
          exact hj j es h1 h3
        · exact ne4 rfl
      · rw [List.getElem?_set_ne ne2] at h4
        exact P.inj j l es fs b n h1 h2 h3 h4
/-- an own list changes -/
theorem PreS.upd (P : PreS k G0 H0 G H σ ρ s) {i : Nat} {a : Addr} {ds ds' : List D} {xs' : List V} (ho : ρ[i]? = some (.own ds)) (ha : σ[i]? = some (some (.ref a))) (r : Reps k G xs' ds') : PreS k G0 H0 G (upd H a (.lst xs')) σ (ρ.set i (.own ds')) s := by
  obtain ⟨b, xs, h1, nk, h0, hg, hh, _⟩ := P.own i ds ho
  rw [ha] at h1
  cases h1
  refine ⟨P.gr.put h0 hg (P.gr.gh.t.lst hh), P.dk.put (Ne.symm nk), by rw [List.length_set]; exact P.len, fun j e h => ?_, fun j es h => ?_, fun j l es fs b n h1 h2 h3 h4 => ?_⟩
  · rcases set_get h with ⟨rfl, hl, e'⟩ | ⟨ne, h⟩
    · cases e'
    · exact P.val j e h
  · rcases set_get h with ⟨rfl, hl, e'⟩ | ⟨ne, h⟩
    · cases e'
      exact ⟨a, xs', ha, nk, h0, hg, upd_same, r⟩
    · obtain ⟨b, ys, q1, q2, q3, q4, q5, q6⟩ := P.own j es h
      refine ⟨b, ys, q1, q2, q3, q4, ?_, q6⟩
      rw [upd_ne fun z => P.inj i j ds es a ne ho h ha (by rw [q1, z])]
      exact q5
  · have w : ∀ {m : Nat} {gs : List D}, (ρ.set i (.own ds'))[m]? = some (.own gs) → ∃ gs', ρ[m]? = some (.own gs') := fun {m gs} h => by
      rcases set_get h with ⟨rfl, _, _⟩ | ⟨_, h⟩
      · exact ⟨ds, ho⟩
      · exact ⟨gs, h⟩
    obtain ⟨_, w1⟩ := w h1
    obtain ⟨_, w2⟩ := w h2
    exact P.inj j l _ _ b n w1 w2 h3 h4
/-- a new object that nobody speaks of -/
theorem PreS.put (P : PreS k G0 H0 G H σ ρ s) {p : Addr} {o : HO} (h : H p = none) : PreS k G0 H0 G (L2.upd H p o) σ ρ s := by
  refine ⟨P.gr.put (P.gr.kt p h) (none_of_same P.gr.gh h) (P.gr.gh.t.new h), P.dk.put (P.dk.ne h), P.len, P.val, fun i ds e => ?_, P.inj⟩
  obtain ⟨b, ys, q1, q2, q3, q4, q5, q6⟩ := P.own i ds e
  exact ⟨b, ys, q1, q2, q3, q4, by rw [upd_ne (ne_of_none q5 h)]; exact q5, q6⟩
theorem PreS.base (g : Grow k G0 H0 G1 H1) (P : PreS k G1 H0 G H σ ρ s) : PreS k G0 H0 G H σ ρ s :=
  ⟨⟨g.gg.trans P.gr.gg, P.gr.gh, P.gr.fr, fun a o e => (P.gr.nw a o e).elim (g.nw a o) .inr, P.gr.kt, P.gr.ck⟩, P.dk, P.len, P.val, P.own, P.inj⟩
theorem PreS.rebase (P : PreS k G0 H0 G H σ ρ s) : PreS k G H0 G H σ ρ s :=
  ⟨⟨Same.refl _, P.gr.gh, P.gr.fr, fun a o e => .inl e, P.gr.kt, P.gr.ck⟩, P.dk, P.len, P.val, P.own, P.inj⟩
end
section
variable {R : Par Z} {E : XW} {k : KA Z} {G0 H0 G H G1 H1 : Hp} {σ : L2.St} {ρ : Env1} {s : Dk} {D : Ends}
/-- what a statement leaves -/
def AtS (R : Par Z) (E : XW) (k : KA Z) (G0 H0 : Hp) (o : OutS) (D : Ends) : Prop := match o with
  | .nx ρ s => ∀ σ G H, PreS k G0 H0 G H σ ρ s → D.nx σ H
  | .ct ρ s => ∀ σ G H, PreS k G0 H0 G H σ ρ s → D.ct σ H
  | .rt d s => ∀ v G H, Grow k G0 H0 G H → DkAt k s G H → Rep k G v d → D.rt v H
  | .ex x ρ s => ∀ σ c d G H, PreS k G0 H0 G H σ ρ s → R.RX k G x c d → E σ c d H
  | .no => False
theorem AtS.base {o : OutS} (g : Grow k G0 H0 G1 H1) (h : AtS R E k G0 H0 o D) : AtS R E k G1 H0 o D := by
  cases o with
  | nx ρ s => exact fun σ G H P => h σ G H (P.base g)
  | ct ρ s => exact fun σ G H P => h σ G H (P.base g)
  | rt d s => exact fun v G H q dk r => h v G H ⟨g.gg.trans q.gg, q.gh, q.fr, fun a o e => (q.nw a o e).elim (g.nw a o) .inr, q.kt, q.ck⟩ dk r
  | ex x ρ s => exact fun σ c d G H P => h σ c d G H (P.base g)
  | no => exact h
def SEMS (R : Par Z) (E : XW) (x : List PSm) : TS := fun D σ H => ∃ k G0 H0 G ρ s, PreS k G0 H0 G H σ ρ s ∧ AtS R E k G0 H0 (runs R.F x ρ s) D
def SEM1 (R : Par Z) (E : XW) (x : PSm) : TS := fun D σ H => ∃ k G0 H0 G ρ s, PreS k G0 H0 G H σ ρ s ∧ AtS R E k G0 H0 (run1 R.F x ρ s) D
theorem done_then {fr : Bool} {ρx : Env1} {o : Out (PyData × Env1)} {f : PyData × Env1 → Dk → OutS} (h : AtS R E k G0 H0 (o.thenS ρx f) D) :
    DoneS R E fr k G0 H0 σ [] [] ρx o fun d ρ1 s1 v H1 => ∃ G1, PreS k G0 H0 G1 H1 σ ρ1 s1 ∧ RepF fr k H0 G1 H1 σ ρ1 v d ∧ AtS R E k G0 H0 (f (d, ρ1) s1) D := by
  cases o with
  | no => exact h
  | ex x s1 => exact fun c d G1 H1 P r => h σ c d G1 H1 (by simpa using P) r
  | ok x s1 => exact fun v G1 H1 P r => ⟨G1, by simpa using P, by simpa using r, h⟩
/-- an expression in a statement, then the rest -/
theorem evS_then {p : PX} {f : PyData × Env1 → Dk → OutS} {Q : VK} (P : PreS k G0 H0 G H σ ρ s) (h : AtS R E k G0 H0 ((evS R.F p ρ s).thenS (fixF p.at 0 ρ) f) D)
    (q : ∀ d ρ1 s1 v G1 H1, PreS k G0 H0 G1 H1 σ ρ1 s1 → RepF p.freshy k H0 G1 H1 σ ρ1 v d → AtS R E k G0 H0 (f (d, ρ1) s1) D → Q v H1) : SEM R E p σ H Q :=
  evS_sem (τ := []) (π := []) (by simpa using P) P.len (done_then h) fun d ρ1 s1 v H1 ⟨G1, a, b, c⟩ => q d ρ1 s1 v G1 H1 a b c
theorem evSB_then {b : PX → PyData → Bool} {p : PX} {f : PyData × Env1 → Dk → OutS} {Q : VK} (hb : ∀ d, b p d = true → noL d = true ∨ (p.freshy = true ∧ lstNo d = true) ∨ ixOwn p = true) (P : PreS k G0 H0 G H σ ρ s) (h : AtS R E k G0 H0 ((evSB R.F b p ρ s).thenS (fixF p.at 0 ρ) f) D)
    (q : ∀ d ρ1 s1 v G1 H1, PreS k G0 H0 G1 H1 σ ρ1 s1 → RepF p.freshy k H0 G1 H1 σ ρ1 v d → AtS R E k G0 H0 (f (d, ρ1) s1) D → Q v H1) : SEM R E p σ H Q :=
  evSB_sem (τ := []) (π := []) hb (by simpa using P) P.len (done_then h) fun d ρ1 s1 v H1 ⟨G1, a, b, c⟩ => q d ρ1 s1 v G1 H1 a b c
/-- a test in a statement -/
theorem evS_test {p : PX} {yes no : Env1 → Dk → OutS} {Q : Bool → Hp → Prop} (P : PreS k G0 H0 G H σ ρ s) (h : AtS R E k G0 H0 (testS (evS R.F p ρ s) (fixF p.at 0 ρ) yes no) D)
    (q : ∀ b s1 G1 H1, PreS k G0 H0 G1 H1 σ ρ s1 → AtS R E k G0 H0 (if b = true then yes ρ s1 else no ρ s1) D → Q b H1) : SEMT R E p σ H Q := by
  obtain ⟨u, hu⟩ : ∃ u : Nat → Bool, u = fun i => decide (i < ρ.length) && p.at i := ⟨_, rfl⟩
  have em : mixF p.at 0 ρ = mixF u 0 ρ := by rw [hu]; exact (mixF_cut (by omega)).symm
  have ef : fixF p.at 0 ρ = fixF u 0 ρ := by rw [hu]; exact (fixF_cut (by omega)).symm
  have hlt : ∀ i, u i = true → i < ρ.length := by rw [hu]; exact uses_lt _ _
  have P' : PreS k G0 H0 G H (σ ++ []) (ρ ++ []) s := by simpa using P
  refine ⟨k, shown u G H (σ ++ []) (ρ ++ []), mixF u 0 ρ, s, P'.pre P.len hlt, ?_⟩
  unfold evS evSB at h
  rw [em] at h
  cases e : ev R.F p (mixF u 0 ρ) s with
  | no => rw [e] at h; exact h
  | ex x s1 =>
    rw [e] at h
    rw [ef] at h
    exact fun c d G1 H1 g dk rx => h σ c d G1 H1 (by simpa using P'.still hlt g dk) rx
  | ok d s1 =>
    rw [e] at h
    cases d with
    | bool b =>
      exact fun G1 H1 g dk => q b s1 _ H1 (by simpa using P'.away (u := u) g dk) h
    | _ => exact h.elim
/-! ### the statements -/
theorem rs_set {i : Nat} {p : PX} (h : SEM1 R E (.set i p) D σ H) : tAsg (SEM R E p) (gName i) D σ H := by
  obtain ⟨k, G0, H0, G, ρ, s, P, h⟩ := h
  refine evS_then P h fun d ρ1 s1 v G1 H1 P1 r1 h1 => ?_
  obtain ⟨G2, P2, r2, _⟩ := P1.take r1
  exact h1 _ _ _ (P2.set r2)
theorem slotOf_own {fr : Bool} {p : PX} {d : PyData} {y : Slot} {v : V} (r : RepF p.freshy k H0 G H σ ρ v d) (h : slotOf true p d = some y) : ∃ a xs ds, y = .own ds ∧ v = .ref a ∧ d = .list ds ∧ H0 a = none ∧ a ≠ k ∧ G a = none ∧ H a = some (.lst xs) ∧ Reps k G xs ds ∧ ∀ (j : Nat) (es : List PyData), ρ[j]? = some (.own es) → σ[j]? ≠ some (some (.ref a)) := by
  unfold slotOf at h
  split at h
  · rename_i ds _
    split at h
    · rename_i hf
      cases h
      rcases r with ⟨_, a, xs, ds', rfl, e, h0, nk, hg, hh, rr, hj⟩ | ⟨n, _⟩
      · cases e
        exact ⟨a, xs, ds, rfl, rfl, rfl, h0, nk, hg, hh, rr, hj⟩
      · exact absurd rfl (n hf ds)
    · cases h
  · cases h
  · contradiction
theorem rs_own {i : Nat} {p : PX} (h : SEM1 R E (.own i p) D σ H) : tAsg (SEM R E p) (gName i) D σ H := by
  obtain ⟨k, G0, H0, G, ρ, s, P, h⟩ := h
  refine evS_then P h fun d ρ1 s1 v G1 H1 P1 r1 h1 => ?_
  split at h1
  · rename_i y e
    obtain ⟨a, xs, ds, rfl, rfl, rfl, h0, nk, hg, hh, rr, hj⟩ := slotOf_own (fr := true) r1 e
    exact h1 _ _ _ (P1.setOwn h0 nk hg hh rr hj)
  · exact h1.elim
theorem names_setS : ∀ {is : List Nat} {vs : List V} {xs : List PyData} {σ : L2.St} {ρ : Env1} {Q : L2.St → Hp → Prop}, PreS k G0 H0 G H σ ρ s → Reps k G vs xs → is.length = xs.length →
    (∀ σ', PreS k G0 H0 G H σ' ((is.zip xs).foldl (fun r p => r.set p.1 (.val p.2)) ρ) s → Q σ' H) → gNames is vs σ H Q
  | [], [], [], σ, ρ, Q, P, _, _, q => ⟨rfl, q σ P⟩
  | i :: is, v :: vs, x :: xs, σ, ρ, Q, P, .cons r rr, hl, q => ⟨v, vs, rfl, names_setS (P.set r) rr (Nat.succ.inj hl) q⟩
  | [], _ :: _, _, _, _, _, _, .cons _ _, hl, _ => by cases hl
  | _ :: _, [], _, _, _, _, _, .nil, hl, _ => by cases hl
theorem tg_setS {K : PySem.W.Frag} {tg : PTg} {x : PyData} {v : V} {r : Env1} {Q : L2.St → Hp → Prop} (P : PreS k G0 H0 G H σ ρ s) (rv : Rep k G v x) (e : setS tg x ρ = some r) (q : ∀ σ', PreS k G0 H0 G H σ' r s → Q σ' H) : tgG K tg v σ H Q := by
  cases tg with
  | one i =>
    cases e
    exact q _ (P.set rv)
  | many is =>
    cases rv with
    | tup hh rr =>
      simp only [setS] at e
      split at e
      · rename_i hl
        cases e
        exact ⟨_, _, rfl, .of (P.gr.gh _ _ hh), by rw [rr.length]; exact hl.symm, names_setS P rr hl q⟩
      · cases e
    | _ => cases e
/-- names that a tuple's or a list's items are stored to -/
def gUG (K : PySem.W.Frag) (is : List Nat) : TG := fun v σ H Q => gTup K is.length (gNames is) v σ H Q ∨ gUnl K is.length (gNames is) v σ H Q
theorem pg_un {es : List Expr} {k : Nat} {pos : Pos} {is : List Nat} {X : Cx} (h1 : PG X (.Tuple es k pos) (gTup X.K is.length (gNames is))) (h2 : PG X (.Tuple es k pos) (gUnl X.K is.length (gNames is))) : PG X (.Tuple es k pos) (gUG X.K is) :=
  ⟨fun pins s σ H v u Q I r hw => hw.elim (fun hw => h1.1 pins s σ H v u Q I r hw) fun hw => h2.1 pins s σ H v u Q I r hw⟩
theorem rs_unp {K : PySem.W.Frag} {is : List Nat} {p : PX} (h : SEM1 R E (.unp is p) D σ H) : tAsg (SEM R E p) (gUG K is) D σ H := by
  obtain ⟨k, G0, H0, G, ρ, s, P, h⟩ := h
  refine evS_then P h fun d ρ1 s1 v G1 H1 P1 r1 h1 => ?_
  obtain ⟨G2, P2, r2, _⟩ := P1.take r1
  split at h1
  · rename_i ρ2 e
    cases r2 with
    | lst hh rr =>
      simp only [untup, setS] at e
      split at e
      · rename_i hl
        cases e
        exact .inr ⟨_, _, rfl, .of (P2.gr.gh _ _ hh), by rw [rr.length]; exact hl.symm, names_setS P2 rr hl fun σ' P3 => h1 _ _ _ P3⟩
      · cases e
    | tup hh rr =>
      simp only [untup, setS] at e
      split at e
      · rename_i hl
        cases e
        exact .inl ⟨_, _, rfl, .of (P2.gr.gh _ _ hh), by rw [rr.length]; exact hl.symm, names_setS P2 rr hl fun σ' P3 => h1 _ _ _ P3⟩
      · cases e
    | _ => cases e
  · exact h1.elim
theorem rs_drop {p : PX} (h : SEM1 R E (.drop p) D σ H) : tDrop (SEM R E p) D σ H := by
  obtain ⟨k, G0, H0, G, ρ, s, P, h⟩ := h
  refine evS_then P h fun d ρ1 s1 v G1 H1 P1 r1 h1 => ?_
  exact h1 _ _ _ P1
theorem Grow.deck {s1 s2 : Dk} {o : HO} {c : Addr} {r : List V} (g : Grow k G0 H0 G H) (hg : G k = none) (ho : o = .lst (.ref c :: r)) (hc : ∃ r', H k = some (.lst (.ref c :: r'))) : Grow k G0 H0 G (upd H k o) where
  gg := g.gg
  gh := ⟨fun b x e => by rw [upd_ne (ne_of_none e hg)]; exact g.gh b x e, let ⟨_, h⟩ := hc; g.gh.t.lst h, g.gh.n⟩
  fr := fun a x n t e => by rw [upd_ne n]; exact g.fr a x n t e
  nw := g.nw
  kt := fun a e => by
    by_cases z : a = k
    · subst z; rw [upd_same] at e; cases e
    · rw [upd_ne z] at e; exact g.kt a e
  ck := fun c' r' e => by
    obtain ⟨r2, e2⟩ := g.ck c' r' e
    obtain ⟨r3, e3⟩ := hc
    rw [e2] at e3
    cases e3
    exact ⟨r, by rw [upd_same, ho]⟩
theorem PreS.deck {s' : Dk} {c : Addr} (on : k.on = true) (P : PreS k G0 H0 G H σ ρ s) (hc : H k = some (.lst [.ref c, .int s.pos, .int s.big, .int s.cnt])) (ec : s'.cells = s.cells) : PreS k G0 H0 G (L2.upd H k (.lst [.ref c, .int s'.pos, .int s'.big, .int s'.cnt])) σ ρ s' := by
  obtain ⟨c', d1, d2, d3⟩ := P.dk.get on
  rw [hc] at d3
  cases d3
  refine ⟨Grow.deck (s1 := s) (s2 := s) P.gr d2 rfl ⟨_, hc⟩, ⟨d2, .inl ⟨on, c, by rw [ec]; exact d1, upd_same⟩⟩, P.len, P.val, fun i ds e => ?_, P.inj⟩
  obtain ⟨b, ys, q1, q2, q3, q4, q5, q6⟩ := P.own i ds e
  exact ⟨b, ys, q1, q2, q3, q4, by rw [upd_ne q2]; exact q5, q6⟩
theorem rs_dset {i : Nat} {j : Int} {p : PX} (h : SEM1 R E (.dset i j p) D σ H) : tAsg (SEM R E p) (gSub (tVar i) (tC (.int j)) rSetL) D σ H := by
  obtain ⟨k, G0, H0, G, ρ, s, P, h⟩ := h
  refine evS_then P h fun d ρ1 s1 v G1 H1 P1 r1 h1 => ?_
  dsimp only at h1
  split at h1
  · rename_i v' e1
    split at h1
    · rename_i s2 e3
      obtain ⟨G2, P2, r2, _⟩ := P1.take r1
      obtain ⟨w, q1, q2⟩ := P2.val i _ e1
      cases r2
      cases q2
      rename_i on
      obtain ⟨c, d1, d2, d3⟩ := P2.dk.get on
      have fin : ∀ (n : Nat) (s' : Dk), dkSet s1 j v' = some s' → s'.cells = s1.cells → ixN 4 j = some n → [V.ref c, .int s1.pos, .int s1.big, .int s1.cnt].set n (.int v') = [.ref c, .int s'.pos, .int s'.big, .int s'.cnt] → gSub (tVar i) (tC (.int j)) rSetL (.int v') σ H1 D.nx := fun n s' e ec en es => by
        rw [e3] at e
        cases e
        refine ⟨.ref k, q1, k, _, j, n, rfl, rfl, d3, en, ?_⟩
        rw [es]
        exact h1 σ G2 _ (PreS.deck on P2 d3 ec)
      have e3' := e3
      unfold dkSet at e3'
      split at e3'
      · rename_i h0; subst h0; exact fin 1 { s1 with pos := v' } rfl rfl rfl rfl
      · split at e3'
        · rename_i h0; subst h0; exact fin 2 { s1 with big := v' } rfl rfl rfl rfl
        · split at e3'
          · rename_i h0; subst h0; exact fin 3 { s1 with cnt := v' } rfl rfl rfl rfl
          · cases e3'
    · exact h1.elim
  · exact h1.elim
theorem own_ty {K : PySem.W.Frag} {i : Nat} {ds : List PyData} (P : PreS k G0 H0 G H σ ρ s) (h : ρ[i]? = some (.own ds)) : ∃ a xs, σ[i]? = some (some (.ref a)) ∧ tyV K "list" (.ref a) H ∧ H a = some (.lst xs) ∧ Reps k G xs ds := by
  obtain ⟨a, xs, h1, _, _, _, hh, r⟩ := P.own i ds h
  exact ⟨a, xs, h1, .inl ⟨rfl, _, .of hh⟩, hh, r⟩
theorem rs_app {K : PySem.W.Frag} {i : Nat} {p : PX} (h : SEM1 R E (.app i p) D σ H) : tDrop (tBM K "list" rAppend (tVar i) (tCons (SEM R E p) tNil)) D σ H := by
  obtain ⟨k, G0, H0, G, ρ, s, P, h⟩ := h
  simp only [run1] at h
  split at h
  · rename_i ds0 e0
    obtain ⟨a, xs0, h1, ty, _, _⟩ := own_ty (K := K) P e0
    refine ⟨.ref a, h1, ty, ?_⟩
    refine evS_then P h fun d ρ1 s1 v G1 H1 P1 r1 h1' => ?_
    obtain ⟨G2, P2, r2, _⟩ := P1.take r1
    split at h1'
    · rename_i ds e
      split at h1'
      · rename_i hz
        obtain ⟨b, xs, q1, _, _, _, hh, r⟩ := P2.own i ds e
        rw [h1] at q1
        cases q1
        exact ⟨a, xs, v, rfl, rfl, hh, by rw [r.length]; exact hz, h1' _ _ _ (P2.upd e h1 (r.append (.cons r2 .nil)))⟩
      · exact h1'.elim
    · exact h1'.elim
  · exact h.elim
theorem Reps.set {k : KA Z} {G : Hp} : ∀ {xs : List V} {ds : List PyData} {v : V} {d : PyData} (n : Nat), Reps k G xs ds → Rep k G v d → Reps k G (xs.set n v) (ds.set n d)
  | _, _, _, _, _, .nil, _ => .nil
  | _, _, _, _, 0, .cons _ r, h => .cons h r
  | _, _, _, _, n + 1, .cons q r, h => .cons q (Reps.set n r h)
/-- the reading of a plain place -/
def tIxP : PX → TE
  | .var k => tVar k
  | .cst (.int n) => tC (.int n)
  | .neg (.cst (.int n)) => tUn (rU fun i => .int (-i)) (tC (.int n))
  | _ => fun _ _ _ => False
theorem plainIx_sem {j : PX} {n : Int} {Q : VK} (P : PreS k G0 H0 G H σ ρ s) (h : plainIx ρ j = some n) (q : Q (.int n) H) : tIxP j σ H Q := by
  unfold plainIx at h
  split at h
  · rename_i i
    split at h
    · rename_i m e
      cases h
      obtain ⟨w, q1, q2⟩ := P.val i _ e
      cases q2
      exact ⟨.int n, q1, q⟩
    · cases h
  · cases h
    exact q
  · cases h
    exact ⟨_, rfl, q⟩
  · cases h
theorem rs_lset {i : Nat} {j p : PX} (h : SEM1 R E (.lset i j p) D σ H) : tAsg (SEM R E p) (gSub (tVar i) (tIxP j) rSetL) D σ H := by
  obtain ⟨k, G0, H0, G, ρ, s, P, h⟩ := h
  refine evSB_then noLg_ok P h fun d ρ1 s1 v G1 H1 P1 r1 h1 => ?_
  dsimp only at h1
  split at h1
  · rename_i ds n e1 e2
    split at h1
    · rename_i m e3
      obtain ⟨G2, P2, r2, _⟩ := P1.take r1
      obtain ⟨a, xs, q1, _, _, _, hh, r⟩ := P2.own i ds e1
      refine ⟨.ref a, q1, plainIx_sem P2 e2 ⟨a, xs, n, m, rfl, rfl, hh, by rw [r.length]; exact e3, ?_⟩⟩
      exact h1 _ _ _ (P2.upd e1 q1 (r.set m r2))
    · exact h1.elim
  · exact h1.elim
theorem rs_ext {K : PySem.W.Frag} {i : Nat} {p : PX} (h : SEM1 R E (.ext i p) D σ H) : tDrop (tBM K "list" rExtend (tVar i) (tCons (SEM R E p) tNil)) D σ H := by
  obtain ⟨k, G0, H0, G, ρ, s, P, h⟩ := h
  simp only [run1] at h
  split at h
  · rename_i ds0 e0
    obtain ⟨a, xs0, h1, ty, _, _⟩ := own_ty (K := K) P e0
    refine ⟨.ref a, h1, ty, ?_⟩
    refine evS_then P h fun d ρ1 s1 v G1 H1 P1 r1 h1' => ?_
    obtain ⟨G2, P2, r2, _⟩ := P1.take r1
    split at h1'
    · rename_i ds es e ed
      split at h1'
      · rename_i hz
        obtain ⟨b, xs, q1, _, _, _, hh, r⟩ := P2.own i ds e
        rw [h1] at q1
        cases q1
        have ed : d = .list es := ed
        subst ed
        cases r2 with
        | lst hb rb => exact ⟨a, _, xs, _, rfl, rfl, hh, P2.gr.gh _ _ hb, by rw [r.length, rb.length]; exact hz, h1' _ _ _ (P2.upd e h1 (r.append rb))⟩
      · exact h1'.elim
    · exact h1'.elim
  · exact h.elim
theorem Reps.dropLast {k : KA Z} {G : Hp} {xs : List V} {ds : List PyData} (r : Reps k G xs ds) : Reps k G xs.dropLast ds.dropLast := by
  rw [List.dropLast_eq_take, List.dropLast_eq_take, r.length]
  exact r.take _
theorem rs_pop {K : PySem.W.Frag} {i : Nat} (h : SEM1 R E (.pop i) D σ H) : tDrop (tBM0 K "list" rPop (tVar i)) D σ H := by
  obtain ⟨k, G0, H0, G, ρ, s, P, h⟩ := h
  simp only [run1] at h
  split at h
  · rename_i ds e
    split at h
    · exact h.elim
    · rename_i hn
      obtain ⟨a, xs, h1, ty, hh, r⟩ := own_ty (K := K) P e
      have hl : xs.length ≠ 0 := by
        rw [r.length]
        exact fun z => hn (List.length_eq_zero_iff.mp z)
      obtain ⟨y, hy⟩ : ∃ y, xs[xs.length - 1]? = some y := ⟨_, List.getElem?_eq_getElem (by omega)⟩
      exact ⟨.ref a, h1, ty, a, xs, y, rfl, rfl, hh, hy, h _ _ _ (P.upd e h1 r.dropLast)⟩
  · exact h.elim
end
end CH

set_option Elab.async false
set_option linter.all false
set_option maxRecDepth 100000
set_option maxHeartbeats 4000000
/-! statements: rows, loops -/
namespace CH
variable {Z : St0}
open PySem L2 PyProof.Rows
section
variable {k : KA Z} {G0 H0 G H G1 H1 : Hp} {σ σ' τ : L2.St} {ρ ρ' π : Env1} {s s1 : Dk}
/-- the slots in another order -/
theorem PreS.remap (P : PreS k G0 H0 G H σ ρ s) (f : Nat → Nat) (hl : ρ'.length = σ'.length) (hf : ∀ (i : Nat) (x : Slot), ρ'[i]? = some x → x ≠ .un → ρ[f i]? = some x ∧ σ'[i]? = σ[f i]?) (inj : ∀ i j, i ≠ j → i < ρ'.length → j < ρ'.length → f i ≠ f j) : PreS k G0 H0 G H σ' ρ' s := by
  refine ⟨P.gr, P.dk, hl, fun i d e => ?_, fun i ds e => ?_, fun i j ds es a n e1 e2 h1 h2 => ?_⟩
  · obtain ⟨q1, q2⟩ := hf i _ e (fun z => by cases z)
    rw [q2]
    exact P.val _ _ q1
  · obtain ⟨q1, q2⟩ := hf i _ e (fun z => by cases z)
    rw [q2]
    exact P.own _ _ q1
  · obtain ⟨q1, q2⟩ := hf i _ e1 (fun z => by cases z)
    obtain ⟨q3, q4⟩ := hf j _ e2 (fun z => by cases z)
    rw [q2] at h1
    rw [q4] at h2
    have lt : ∀ {m : Nat} {x : Slot}, ρ'[m]? = some x → m < ρ'.length := fun {m x} h => by
      by_cases z : m < ρ'.length
      · exact z
      · rw [List.getElem?_eq_none (by omega)] at h; cases h
    exact P.inj _ _ _ _ a (inj i j n (lt e1) (lt e2)) q1 q3 h1 h2
/-- a value of a row goes to its slot -/
theorem PreS.move {v : V} {y : Slot} {i : Nat} (hl : ρ.length = σ.length) (P : PreS k G0 H0 G H (σ ++ some v :: τ) (ρ ++ y :: π) s) : PreS k G0 H0 G H (σ.set i (some v) ++ τ) (ρ.set i y ++ π) s := by
  have hL := P.len
  simp only [List.length_append, List.length_cons] at hL
  refine P.remap (fun t => if t = i ∧ i < ρ.length then ρ.length else if t < ρ.length then t else t + 1) (by simp only [List.length_append, List.length_set]; omega) (fun t x e _ => ?_) (fun t r n h1 h2 => ?_)
  · by_cases ht : t < ρ.length
    · rw [List.getElem?_append_left (by rw [List.length_set]; exact ht)] at e
      rcases set_get e with ⟨rfl, _, rfl⟩ | ⟨ne, e⟩
      · rw [if_pos ⟨rfl, ht⟩]
        refine ⟨by rw [List.getElem?_append_right (Nat.le_refl _), Nat.sub_self]; rfl, ?_⟩
        rw [List.getElem?_append_left (by rw [List.length_set]; omega), set_here (by omega), hl, List.getElem?_append_right (Nat.le_refl _), Nat.sub_self]
        rfl
      · rw [if_neg (by omega), if_pos ht]
        refine ⟨by rw [List.getElem?_append_left ht]; exact e, ?_⟩
        rw [List.getElem?_append_left (by rw [List.length_set]; omega), List.getElem?_set_ne ne, List.getElem?_append_left (by omega)]
    · rw [List.getElem?_append_right (by rw [List.length_set]; omega), List.length_set] at e
      rw [if_neg (by omega), if_neg ht]
      refine ⟨?_, ?_⟩
      · rw [List.getElem?_append_right (by omega)]
        have : t + 1 - ρ.length = (t - ρ.length) + 1 := by omega
        rw [this, List.getElem?_cons_succ]
        exact e
      · rw [List.getElem?_append_right (by rw [List.length_set]; omega), List.length_set, List.getElem?_append_right (by omega)]
        have : t + 1 - σ.length = (t - σ.length) + 1 := by omega
        rw [this, List.getElem?_cons_succ]
  · show (if t = i ∧ i < ρ.length then ρ.length else if t < ρ.length then t else t + 1) ≠ (if r = i ∧ i < ρ.length then ρ.length else if r < ρ.length then r else r + 1)
    split <;> split <;> first | omega | (split <;> first | omega | (split <;> omega))
theorem names_move : ∀ {is : List Nat} {vs : List V} {r : List Slot} {σ : L2.St} {ρ : Env1} {Q : L2.St → Hp → Prop}, ρ.length = σ.length → PreS k G0 H0 G H (σ ++ vs.map some) (ρ ++ r) s → is.length = vs.length →
    (∀ σ', PreS k G0 H0 G H σ' (setAll is r ρ) s → Q σ' H) → gNames is vs σ H Q
  | [], [], [], σ, ρ, Q, hl, P, _, q => ⟨rfl, q σ (by simpa [setAll] using P)⟩
  | [], [], _ :: _, σ, ρ, Q, hl, P, _, q => by
    have := P.len
    simp at this
    omega
  | i :: is, v :: vs, [], σ, ρ, Q, hl, P, _, q => by
    have := P.len
    simp at this
    omega
  | i :: is, v :: vs, y :: r, σ, ρ, Q, hl, P, h, q => by
    refine ⟨v, vs, rfl, names_move (r := r) (ρ := ρ.set i y) (by simp only [List.length_set]; exact hl) (P.move hl) (Nat.succ.inj h) q⟩
  | [], _ :: _, _, _, _, _, _, _, hl, _ => by cases hl
  | _ :: _, [], _, _, _, _, _, _, hl, _ => by cases hl
/-- one more value at the end -/
theorem PreS.push {v : V} {d : PyData} (P : PreS k G0 H0 G H σ ρ s) (r : Rep k G v d) : PreS k G0 H0 G H (σ ++ [some v]) (ρ ++ [.val d]) s := by
  have e1 : (σ ++ [some v]) = (σ ++ [none]).set σ.length (some v) := by simp
  have e2 : (ρ ++ [Slot.val d]) = (ρ ++ [Slot.un]).set σ.length (.val d) := by rw [← P.len]; simp
  rw [e1, e2]
  refine PreS.set (P.remap id (by simp [P.len]) (fun i x e n => ?_) fun i j n _ _ => n) r
  by_cases hi : i < ρ.length
  · rw [List.getElem?_append_left hi] at e
    exact ⟨e, List.getElem?_append_left (by rw [← P.len]; exact hi)⟩
  · rw [List.getElem?_append_right (by omega)] at e
    exfalso
    cases h : i - ρ.length with
    | zero => rw [h] at e; simp at e; exact n e.symm
    | succ m => rw [h] at e; simp at e
theorem PreS.pushOwn {a : Addr} {xs : List V} {ds : List PyData} (P : PreS k G0 H0 G H σ ρ s) (h0 : H0 a = none) (nk : a ≠ k) (hg : G a = none) (hh : H a = some (.lst xs)) (r : Reps k G xs ds)
    (hj : ∀ (j : Nat) (es : List PyData), ρ[j]? = some (.own es) → σ[j]? ≠ some (some (.ref a))) : PreS k G0 H0 G H (σ ++ [some (.ref a)]) (ρ ++ [.own ds]) s := by
  have e1 : (σ ++ [some (V.ref a)]) = (σ ++ [none]).set σ.length (some (.ref a)) := by simp
  have e2 : (ρ ++ [Slot.own ds]) = (ρ ++ [Slot.un]).set σ.length (.own ds) := by rw [← P.len]; simp
  have bk : ∀ (i : Nat) (x : Slot), (ρ ++ [Slot.un])[i]? = some x → x ≠ .un → ρ[i]? = some x ∧ (σ ++ [none])[i]? = σ[i]? := fun i x e n => by
    by_cases hi : i < ρ.length
    · rw [List.getElem?_append_left hi] at e
      exact ⟨e, List.getElem?_append_left (by rw [← P.len]; exact hi)⟩
    · rw [List.getElem?_append_right (by omega)] at e
      exfalso
      cases h : i - ρ.length with
      | zero => rw [h] at e; simp at e; exact n e.symm
      | succ m => rw [h] at e; simp at e
  rw [e1, e2]
  refine PreS.setOwn (P.remap id (by simp [P.len]) bk fun i j n _ _ => n) h0 nk hg hh r fun j es e => ?_
  obtain ⟨q1, q2⟩ := bk j _ e (fun z => by cases z)
  rw [q2]
  exact hj j es q1
theorem PreS.grow (P : PreS k G0 H0 G H σ ρ s) (g : Grow k G H G1 H1) (dk : DkAt k s1 G1 H1) : PreS k G0 H0 G1 H1 σ ρ s1 := by
  refine ⟨P.gr.trans g, dk, P.len, fun i d e => ?_, fun i ds e => ?_, P.inj⟩
  · obtain ⟨v, h1, h2⟩ := P.val i d e
    exact ⟨v, h1, h2.mono g.gg⟩
  · obtain ⟨a, xs, h1, n, h0, hg, hh, r⟩ := P.own i ds e
    refine ⟨a, xs, h1, n, h0, ?_, g.frl n hh, r.mono g.gg⟩
    cases q : G1 a with
    | none => rfl
    | some o =>
      rcases g.nw a o q with z | z
      · rw [hg] at z; cases z
      · rw [hh] at z; cases z
end
section
variable {R : Par Z} {E : XW} {k : KA Z} {G0 H0 G H G1 H1 : Hp} {σ : L2.St} {ρ : Env1} {s : Dk} {D : Ends}
/-- the values of a row, one after another -/
def tRow (R : Par Z) (E : XW) : List PX → TA
  | [] => tNil
  | p :: r => tCons (SEM R E p) (tRow R E r)
theorem row_args : ∀ {ts : List (Nat × Bool)} {es : List PX} {τ : L2.St} {π ρ : Env1} {s s1 : Dk} {G H : Hp} {x : List Slot × Env1} {Q : List V → Hp → Prop}, ρ.length = σ.length → PreS k G0 H0 G H (σ ++ τ) (ρ ++ π) s → evParS R.F ts es ρ s = .ok x s1 →
    (∀ vs G1 H1, PreS k G0 H0 G1 H1 (σ ++ (τ ++ vs.map some)) (x.2 ++ (π ++ x.1)) s1 → vs.length = ts.length → x.2.length = σ.length → Q vs H1) → tRow R E es σ H Q
  | [], [], τ, π, ρ, s, s1, G, H, x, Q, hl, P, h, q => by
    cases h
    exact q [] G H (by simpa using P) rfl hl
  | [], _ :: _, τ, π, ρ, s, s1, G, H, x, Q, hl, P, h, q => by cases h
  | _ :: _, [], τ, π, ρ, s, s1, G, H, x, Q, hl, P, h, q => by cases h
  | t :: ts, e :: es, τ, π, ρ, s, s1, G, H, x, Q, hl, P, h, q => by
    simp only [evParS] at h
    obtain ⟨⟨d, ρ1⟩, s2, h1, h2⟩ := bind_ok h
    have hl1 : ρ1.length = σ.length := by
      unfold evS evSB at h1
      obtain ⟨d', s', _, h3⟩ := bind_ok h1
      cases h3
      split
      · exact hl
      · rw [fix_len]; exact hl
    split at h2
    · rename_i y hy
      obtain ⟨⟨r, ρ2⟩, s3, h3, h4⟩ := bind_ok h2
      cases h4
      refine evS_sem P hl (K := fun d1 ρ' s' v H' => tRow R E es σ H' fun vs H2 => Q (v :: vs) H2) ?_ fun _ _ _ _ _ z => z
      rw [h1]
      intro v G1 H1 P1 r1
      have nxt : ∃ G2, PreS k G0 H0 G2 H1 (σ ++ (τ ++ [some v])) (ρ1 ++ (π ++ [y])) s2 := by
        cases hb : t.2 with
        | false =>
          rw [hb] at hy
          simp only [slotOf] at hy
          cases hy
          obtain ⟨G2, P2, r2, _⟩ := P1.take r1
          exact ⟨G2, by simpa [List.append_assoc] using P2.push r2⟩
        | true =>
          rw [hb] at hy
          obtain ⟨a, xs, ds, rfl, rfl, rfl, z0, nk, hg, hh, rr, hj⟩ := slotOf_own (fr := true) r1 hy
          exact ⟨G1, by simpa [List.append_assoc] using P1.pushOwn z0 nk hg hh rr hj⟩
      obtain ⟨G2, P2⟩ := nxt
      refine row_args (τ := τ ++ [some v]) (π := π ++ [y]) hl1 P2 h3 fun vs G3 H3 P3 l1 l2 => q (v :: vs) G3 H3 ?_ (by rw [List.length_cons, List.length_cons, l1]) l2
      simpa [List.append_assoc] using P3
    · cases h2
theorem rs_par_row {ts : List (Nat × Bool)} {es : List PX} {Q : List V → Hp → Prop} (h : SEM1 R E (.par ts es) D σ H)
    (q : ∀ k G0 H0 G1 H1 x s1 ρ1 vs, PreS k G0 H0 G1 H1 (σ ++ vs.map some) (ρ1 ++ x) s1 → ρ1.length = σ.length → vs.length = ts.length → AtS R E k G0 H0 (.nx (setAll (ts.map (·.1)) x ρ1) s1) D → Q vs H1) : tRow R E es σ H Q := by
  obtain ⟨k, G0, H0, G, ρ, s, P, h⟩ := h
  simp only [run1] at h
  split at h
  · rename_i x s1 e
    refine row_args (τ := []) (π := []) P.len (by simpa using P) e fun vs G1 H1 P1 l1 l2 => q k G0 H0 G1 H1 x.1 s1 x.2 vs (by simpa using P1) l2 l1 h
  · exact h.elim
/-- a row stored by way of a tuple -/
theorem rs_par_tup {K : PySem.W.Frag} {ts : List (Nat × Bool)} {es : List PX} (hz : ts.length ≤ sizeLine) (h : SEM1 R E (.par ts es) D σ H) : tAsg (tTup (tRow R E es)) (gTup K ts.length (gNames (ts.map (·.1)))) D σ H := by
  refine rs_par_row h fun k G0 H0 G1 H1 x s1 ρ1 vs P hl hn q => ⟨by omega, fun p hp => ⟨p, vs, rfl, .of upd_same, hn, ?_⟩⟩
  exact names_move hl (P.put hp) (by rw [List.length_map, hn]) fun σ' P' => q _ _ _ P'
theorem rs_par2 {i j : Nat} {b1 b2 : Bool} {es : List PX} (h : SEM1 R E (.par [(i, b1), (j, b2)] es) D σ H) : tPar i j (tRow R E es) D σ H := by
  refine rs_par_row h fun k G0 H0 G1 H1 x s1 ρ1 vs P hl hn q => ?_
  obtain ⟨v, r, rfl, w, r', rfl, rfl, z⟩ := names_move (is := [i, j]) (Q := D.nx) hl P hn.symm fun σ' P' => q _ _ _ P'
  exact ⟨v, w, rfl, z⟩
def tPar3 (i j l : Nat) (ta : TA) : TS := fun D σ H => ta σ H fun vs H1 => ∃ u v w, vs = [u, v, w] ∧ D.nx (((σ.set i (some u)).set j (some v)).set l (some w)) H1
theorem rs_par3 {i j l : Nat} {b1 b2 b3 : Bool} {es : List PX} (h : SEM1 R E (.par [(i, b1), (j, b2), (l, b3)] es) D σ H) : tPar3 i j l (tRow R E es) D σ H := by
  refine rs_par_row h fun k G0 H0 G1 H1 x s1 ρ1 vs P hl hn q => ?_
  obtain ⟨u, r, rfl, v, r', rfl, w, r'', rfl, rfl, z⟩ := names_move (is := [i, j, l]) (Q := D.nx) hl P hn.symm fun σ' P' => q _ _ _ P'
  exact ⟨u, v, w, rfl, z⟩
theorem rs_parP_row {K : PySem.W.Frag} {j t : Nat} {ts : List (Nat × Bool)} {es : List PX} {Q : List V → Hp → Prop} (h : SEM1 R E (.parP j t ts es) D σ H)
    (q : ∀ k G0 H0 G1 H1 x s1 ρ1 vs, PreS k G0 H0 G1 H1 (σ ++ vs.map some) (ρ1 ++ x) s1 → ρ1.length = σ.length → vs.length = ts.length + 1 → AtS R E k G0 H0 (.nx (setAll (t :: ts.map (·.1)) x ρ1) s1) D → Q vs H1) : tCons (tBM0 K "list" rPop (tVar j)) (tRow R E es) σ H Q := by
  obtain ⟨k, G0, H0, G, ρ, s, P, h⟩ := h
  simp only [run1] at h
  split at h
  · rename_i ds e
    split at h
    · rename_i d ed
      split at h
      · rename_i x s1 ee
        obtain ⟨a, xs, h1, ty, hh, r⟩ := own_ty (K := K) P e
        have hds : ds ≠ [] := fun z => by rw [z] at ed; cases ed
        have hl : xs.length ≠ 0 := by
          rw [r.length]
          exact fun z => hds (List.length_eq_zero_iff.mp z)
        have hd : ds[xs.length - 1]? = some d := by rw [r.length, ← List.getLast?_eq_getElem?]; exact ed
        obtain ⟨y, hy, ry⟩ := r.get.1 d hd
        have P1 := P.upd e h1 r.dropLast
        have P2 := P1.push ry
        exact ⟨.ref a, h1, ty, a, xs, y, rfl, rfl, hh, hy, row_args (τ := [some y]) (π := [.val d]) (by rw [List.length_set]; exact P.len) P2 ee fun vs G1 H1 P3 l1 l2 => q k G0 H0 G1 H1 (.val d :: x.1) s1 x.2 (y :: vs) (by simpa using P3) (by rw [l2]) (by rw [List.length_cons, l1]) h⟩
      · exact h.elim
    · exact h.elim
  · exact h.elim
theorem rs_parP3 {K : PySem.W.Frag} {i j l m : Nat} {b2 b3 : Bool} {es : List PX} (h : SEM1 R E (.parP m i [(j, b2), (l, b3)] es) D σ H) : tPar3 i j l (tCons (tBM0 K "list" rPop (tVar m)) (tRow R E es)) D σ H := by
  refine rs_parP_row h fun k G0 H0 G1 H1 x s1 ρ1 vs P hl hn q => ?_
  obtain ⟨u, r, rfl, v, r', rfl, w, r'', rfl, rfl, z⟩ := names_move (is := [i, j, l]) (Q := D.nx) hl P hn.symm fun σ' P' => q _ _ _ P'
  exact ⟨u, v, w, rfl, z⟩
/-! ### the rest -/
theorem rs_ret {p : PX} (h : SEM1 R E (.ret p) D σ H) : tRet (SEM R E p) D σ H := by
  obtain ⟨k, G0, H0, G, ρ, s, P, h⟩ := h
  simp only [run1] at h
  have mf : ∀ (n : Nat) (ρ : Env1), mixF (fun _ => true) n ρ = frz ρ := fun n ρ => by
    induction ρ generalizing n with
    | nil => rfl
    | cons x r ih => rw [mixF, ih]; rfl
  have hlt : ∀ i, (decide (i < ρ.length)) = true → i < ρ.length := fun i h => by simpa using h
  have em : mixF (fun i => decide (i < ρ.length)) 0 ρ = frz ρ := by
    rw [← mf 0 ρ, ← mixF_cut (e := fun _ => true) (m := ρ.length) (by omega)]
    congr 1
    funext i
    simp
  have P' : PreS k G0 H0 G H (σ ++ []) (ρ ++ []) s := by simpa using P
  have pre := P'.pre P.len hlt
  rw [em] at pre
  refine ⟨k, _, frz ρ, s, pre, ?_⟩
  cases e : ev R.F p (frz ρ) s with
  | no => rw [e] at h; exact h
  | ex x s1 =>
    rw [e] at h
    have ef : fixF (fun i => decide (i < ρ.length)) 0 ρ = fixF (fun _ => true) 0 ρ := by
      rw [← fixF_cut (e := fun _ => true) (m := ρ.length) (by omega)]
      congr 1
      funext i
      simp
    rw [← ef] at h
    exact fun c d G1 H1 g dk rx => h σ c d G1 H1 (by simpa using P'.still hlt g dk) rx
  | ok d s1 =>
    rw [e] at h
    intro v G1 H1 g dk rb
    have P1 := P'.still hlt g dk
    have rf : ∃ G2, Grow k G0 H0 G2 H1 ∧ DkAt k s1 G2 H1 ∧ Rep k G2 v d := by
      obtain ⟨G2, g2, dk2, r2⟩ := rb.rep g (fun a e => e) P.dk.there dk
      exact ⟨G2, (P'.still hlt g2 dk2).gr, dk2, r2⟩
    obtain ⟨G2, g2, dk2, r2⟩ := rf
    exact h v G2 H1 g2 dk2 r2
theorem rs_retN (h : SEM1 R E .retN D σ H) : tRetN D σ H := by
  obtain ⟨k, G0, H0, G, ρ, s, P, h⟩ := h
  exact h .non G H P.gr P.dk .non
theorem rs_pass (h : SEM1 R E .pass D σ H) : tNext D σ H := by
  obtain ⟨k, G0, H0, G, ρ, s, P, h⟩ := h
  exact h σ G H P
theorem rs_cont (h : SEM1 R E .cont D σ H) : tCont D σ H := by
  obtain ⟨k, G0, H0, G, ρ, s, P, h⟩ := h
  exact h σ G H P
theorem rs_nil (h : SEMS R E [] D σ H) : tNext D σ H := by
  obtain ⟨k, G0, H0, G, ρ, s, P, h⟩ := h
  exact h σ G H P
theorem rs_cons {x : PSm} {r : List PSm} (h : SEMS R E (x :: r) D σ H) : tSeq (SEM1 R E x) (SEMS R E r) D σ H := by
  obtain ⟨k, G0, H0, G, ρ, s, P, h⟩ := h
  refine ⟨k, G0, H0, G, ρ, s, P, ?_⟩
  simp only [runs] at h
  cases e : run1 R.F x ρ s with
  | no => rw [e] at h; exact h
  | nx ρ1 s1 =>
    rw [e] at h
    exact fun σ' G' H' P' => ⟨k, G0, H0, G', ρ1, s1, P', h⟩
  | ct ρ1 s1 => rw [e] at h; exact h
  | rt d s1 => rw [e] at h; exact h
  | ex x ρ1 s1 => rw [e] at h; exact h
theorem rs_if {c : PX} {t e : List PSm} (h : SEM1 R E (.if_ c t e) D σ H) : tIfS (SEMT R E c) (SEMS R E t) (SEMS R E e) D σ H := by
  obtain ⟨k, G0, H0, G, ρ, s, P, h⟩ := h
  simp only [run1] at h
  refine evS_test P h fun b s1 G1 H1 P1 h1 => ?_
  cases b with
  | true =>
    rw [if_pos rfl] at h1
    exact iteT ⟨k, G0, H0, G1, ρ, s1, P1, h1⟩
  | false =>
    rw [if_neg Bool.false_ne_true] at h1
    exact iteF ⟨k, G0, H0, G1, ρ, s1, P1, h1⟩
theorem again_at {o : OutS} {f : Env1 → Dk → OutS} {N : L2.St → Hp → Prop} (h : AtS R E k G0 H0 (againS o f) D) (q : ∀ ρ s σ G H, PreS k G0 H0 G H σ ρ s → AtS R E k G0 H0 (f ρ s) D → N σ H) : AtS R E k G0 H0 o { D with nx := N, ct := N, bk := D.nx } := by
  cases o with
  | nx ρ s => exact fun σ G H P => q ρ s σ G H P h
  | ct ρ s => exact fun σ G H P => q ρ s σ G H P h
  | rt d s => exact h
  | ex x ρ s => exact h
  | no => exact h
theorem rs_while {c : PX} {b : List PSm} (h : SEM1 R E (.while_ c b) D σ H) : tWhile (SEMT R E c) (SEMS R E b) D σ H := by
  obtain ⟨k, G0, H0, G, ρ, s, P, h⟩ := h
  simp only [run1] at h
  refine ⟨fun m σ H => ∃ G ρ s, PreS k G0 H0 G H σ ρ s ∧ AtS R E k G0 H0 (whileLoop R.F c (fun ρ s => runs R.F b ρ s) m ρ s) D, ⟨2000, G, ρ, s, P, h⟩, ?_⟩
  rintro m σ H ⟨G, ρ, s, P, h⟩
  cases m with
  | zero => exact h.elim
  | succ m =>
    simp only [whileLoop] at h
    refine evS_test P h fun b' s1 G1 H1 P1 h1 => ?_
    cases b' with
    | true =>
      rw [if_pos rfl] at h1
      refine iteT ⟨fun σ H => ∃ G ρ s, PreS k G0 H0 G H σ ρ s ∧ AtS R E k G0 H0 (whileLoop R.F c (fun ρ s => runs R.F b ρ s) m ρ s) D, fun σ' H' z => ⟨m, by omega, z⟩, k, G0, H0, G1, ρ, s1, P1, ?_⟩
      exact again_at h1 fun ρ2 s2 σ2 G2 H2 P2 h2 => ⟨G2, ρ2, s2, P2, h2⟩
    | false =>
      rw [if_neg Bool.false_ne_true] at h1
      exact iteF (h1 _ _ _ P1)
/-- what a loop walks -/
theorem evIt_then {p : PIt} {f : List PyData × Env1 → Dk → OutS} {Rw : It → Hp → Prop} (P : PreS k G0 H0 G H σ ρ s) (h : AtS R E k G0 H0 ((evItS R.F p ρ s).thenS (fixF p.at 0 ρ) f) D)
    (q : ∀ xs ρ1 s1 J G1 H1, PreS k G0 H0 G1 H1 σ ρ1 s1 → Yields k G1 J xs → AtS R E k G0 H0 (f (xs, ρ1) s1) D → Rw J H1) : SEMI R E p σ H Rw := by
  obtain ⟨u, hu⟩ : ∃ u : Nat → Bool, u = fun i => decide (i < ρ.length) && p.at i := ⟨_, rfl⟩
  have em : mixF p.at 0 ρ = mixF u 0 ρ := by rw [hu]; exact (mixF_cut (by omega)).symm
  have ef : fixF p.at 0 ρ = fixF u 0 ρ := by rw [hu]; exact (fixF_cut (by omega)).symm
  have hlt : ∀ i, u i = true → i < ρ.length := by rw [hu]; exact uses_lt _ _
  have P' : PreS k G0 H0 G H (σ ++ []) (ρ ++ []) s := by simpa using P
  refine ⟨k, shown u G H (σ ++ []) (ρ ++ []), mixF u 0 ρ, s, P'.pre P.len hlt, ?_⟩
  unfold evItS at h
  rw [em, ef] at h
  cases e : evIt R.F p (mixF u 0 ρ) s with
  | no => rw [e] at h; exact h
  | ex x s1 =>
    rw [e] at h
    exact fun c d G1 H1 g dk rx => h σ c d G1 H1 (by simpa using P'.still hlt g dk) rx
  | ok xs s1 =>
    rw [e] at h
    exact fun J G1 H1 g dk y => q xs (fixF u 0 ρ) s1 J G1 H1 (by simpa using P'.still hlt g dk) y h
theorem rs_for {K : PySem.W.Frag} {tg : PTg} {it : PIt} {b : List PSm} (h : SEM1 R E (.for_ tg it b) D σ H) : tFor (SEMI R E it) (tgG K tg) (SEMS R E b) D σ H := by
  obtain ⟨k, G0, H0, G, ρ, s, P, h⟩ := h
  simp only [run1] at h
  refine evIt_then P h fun xs ρ1 s1 J G1 H1 P1 yl h1 => ?_
  replace h1 := h1.base P1.gr
  refine ⟨fun i m σ H => ∃ G ρ s, PreS k G1 H0 G H σ ρ s ∧ i ≤ xs.length ∧ m = xs.length - i ∧ AtS R E k G1 H0 (forLoop tg (fun ρ s => runs R.F b ρ s) (xs.drop i) ρ s) D, ⟨xs.length, G1, ρ1, s1, P1.rebase, Nat.zero_le _, rfl, h1⟩, ?_⟩
  rintro i m σ H ⟨G, ρ, s, P, hi, rfl, h⟩
  have yi := yl i G H P.gr.gg P.gr.gh P.dk.there
  by_cases hlt : i < xs.length
  · rw [List.drop_eq_getElem_cons hlt] at h
    simp only [forLoop] at h
    refine .inr ⟨(yi.1 hlt).1, fun σ' H' => ∃ G ρ s, PreS k G1 H0 G H' σ' ρ s ∧ i + 1 ≤ xs.length ∧ xs.length - (i + 1) = xs.length - (i + 1) ∧ AtS R E k G1 H0 (forLoop tg (fun ρ s => runs R.F b ρ s) (xs.drop (i + 1)) ρ s) D, fun σ' H' z => ⟨_, by omega, z⟩, fun x H' hy => ?_⟩
    obtain ⟨G', d, g, ek, ed, rx⟩ := (yi.1 hlt).2 x H' hy
    rw [List.getElem?_eq_getElem hlt] at ed
    cases ed
    split at h
    · exact h.elim
    · rename_i ρ2 e2
      refine tg_setS (P.grow g (P.dk.keep g ek)) rx e2 fun σ2 P2 => ?_
      exact ⟨k, G1, H0, G', ρ2, s, P2, again_at h fun ρ3 s3 σ3 G3 H3 P3 h3 => ⟨G3, ρ3, s3, P3, hlt, rfl, h3⟩⟩
  · have ei : i = xs.length := by omega
    subst ei
    rw [List.drop_length] at h
    exact .inl ⟨yi.2 (Nat.le_refl _), h _ _ _ P⟩
end
end CH

set_option Elab.async false
set_option linter.all false
set_option maxRecDepth 100000
set_option maxHeartbeats 4000000
/-! from the program's trees to the small language: statements -/
namespace CH
variable {Z : St0}
open PySem L2 PyProof.Rows
def isStar : Expr → Bool
  | .Starred .. => true
  | _ => false
/-- how a row is stored: none: from the left by way of a tuple; names: from the right -/
def swS (sc : Scope) (ts vs : List Expr) : Option (Option (List Str)) :=
  if !(ts.length == 2 || ts.length == 3) || vs.length != ts.length then some none
  else if vs.any isStar then some none
  else
    let ns := ts.filterMap fun
      | .Name id pos => if sc.names.lookup id == some .local && pos.line == (ts.head?.map (·.pos.line)).getD 0 then some id else none
      | _ => none
    if ns.length != ts.length || ns.eraseDups.length != ns.length then some none
    else if vs.all (foldedForSure 8) then some none
    else if vs.all (constantsAlone 8) then none
    else some (some ns)
theorem swS_ok {env : Env} {ts vs : List Expr} {k1 k2 : Nat} {p1 p2 : Pos} {r : Option (List Str)} (hk : env.scope.kind = .function) (h : swS env.scope ts vs = some r) : swappedStores [.Tuple ts k1 p1] (.Tuple vs k2 p2) env = pure r := by
  have hb : env.blockKind = .function := by unfold Env.blockKind; rw [hk]; rfl
  unfold swS at h
  unfold swappedStores
  simp only [hb, bne_self_eq_false, Bool.or_false, pure_bind]
  split at h
  · rename_i h1
    cases h
    exact if_pos h1
  · rename_i h1
    refine Eq.trans (if_neg h1) ?_
    split at h
    · rename_i h2
      cases h
      exact if_pos h2
    · rename_i h2
      refine Eq.trans (if_neg fun z => h2 z) ?_
      dsimp only at h
      split at h
      · rename_i h3
        cases h
        exact if_pos h3
      · rename_i h3
        refine Eq.trans (if_neg fun z => h3 z) ?_
        split at h
        · rename_i h4
          cases h
          exact if_pos h4
        · rename_i h4
          refine Eq.trans (if_neg h4) ?_
          split at h
          · cases h
          · rename_i h5
            cases h
            exact if_neg h5
/-- three plain names at once: stored from the right -/
theorem ps_par3 {X : Cx} {i j l : Nat} {x y z : Str} {a b c : Expr} {ta : TA} {px py pz pt pos : Pos} {kt k2 : Nat} {pt2 : Pos} (hc : X.calm = true) (hN : X.N.Nodup) (hi : X.N[i]? = some x) (hj : X.N[j]? = some y) (hl : X.N[l]? = some z) (hij : i ≠ j) (hil : i ≠ l) (hjl : j ≠ l)
    (hx : X.env.scope.names.lookup x = some .local) (hy : X.env.scope.names.lookup y = some .local) (hz : X.env.scope.names.lookup z = some .local) (ha : PA X [a, b, c] ta)
    (hw : swappedStores [.Tuple [.Name x px, .Name y py, .Name z pz] kt pt] (.Tuple [a, b, c] k2 pt2) X.env = pure (some [x, y, z]))
    (hs : swapsWithSole [.Tuple [.Name x px, .Name y py, .Name z pz] kt pt] (.Tuple [a, b, c] k2 pt2) pos.line X.env = pure false) :
    PS X (.Assign [.Tuple [.Name x px, .Name y py, .Name z pz] kt pt] (.Tuple [a, b, c] k2 pt2) pos) (tPar3 i j l ta) := by
  refine ⟨fun pins s0 σ H D I0 h => ?_⟩
  rw [exec_Assign_arm]
  refine wpAny_bind (wpAny_standAt ?_)
  rw [hs]
  refine wpAny_bind (wpAny_pure ?_)
  rw [if_neg (by decide)]
  refine wpAny_bind (Tuple_ (thn (ha.run _ pins s0 σ H _ I0 h) ?_))
  rintro us s2 ⟨vs, H2, I2, rr, v1, v2, v3, rfl, q⟩
  obtain ⟨u1, u2, u3, rfl, r1, r2, r3⟩ : ∃ u1 u2 u3, us = [u1, u2, u3] ∧ RelV v1 u1 ∧ RelV v2 u2 ∧ RelV v3 u3 := by
    cases rr with
    | cons p1 t1 =>
      cases t1 with
      | cons p2 t2 =>
        cases t2 with
        | cons p3 t3 => cases t3; exact ⟨_, _, _, rfl, p1, p2, p3⟩
  refine wpAny_newObj_type ?_ (show 3 ≤ sizeLine by decide)
  have I3 : Inv X pins σ H2 { s2 with heap := s2.heap.push { cls := .type "tuple", data := .seq [u1, u2, u3].toArray } } := I2.kept (t' := s2.toks) fun _ _ e => Heap.get?_push_of_some _ e
  rw [hw]
  refine wpAny_bind (wpAny_pure ?_)
  show wpAny (model X.prog X.w) X.A (do rule "assign.swapped-stores"; let items ← unpackItems (.ref s2.heap.objs.size) 3 none; assignInOrder [fun v => bindName X.env z v, fun v => bindName X.env y v, fun v => bindName X.env x v] items.reverse; pure Flow.next) _ _ _
  refine wpAny_bind (wpAny_rule (wpAny_bind (unpackItems_tuple (items := #[u1, u2, u3]) (I2.ok.hd hc) (IsTup.new s2.heap _) fun hq hk => ?_)))
  have I4 := I3.kept (h' := hq) (t' := s2.toks) fun b o e => hk b o (Nat.ne_of_lt (Heap.lt_size e)) e
  show wpAny _ _ (assignInOrder [fun v => bindName X.env z v, fun v => bindName X.env y v, fun v => bindName X.env x v] [u3, u2, u1] >>= fun _ => pure Flow.next) _ _ _
  refine wpAny_bind (assignInOrder_cons (wpAny_bindName (store_ok I4 hN hl (.inl hz) r3 (fun s5 I5 => ?_) (.inr hz))))
  refine assignInOrder_cons (wpAny_bindName (store_ok I5 hN hj (.inl hy) r2 (fun s6 I6 => ?_) (.inr hy)))
  refine assignInOrder_cons (wpAny_bindName (store_ok I6 hN hi (.inl hx) r1 (fun s7 I7 => assignInOrder_nil (wpAny_pure ?_)) (.inr hx)))
  have e1 : ((σ.set l (some v3)).set j (some v2)).set i (some v1) = ((σ.set i (some v1)).set j (some v2)).set l (some v3) := by
    rw [List.set_comm _ _ hjl.symm, List.set_comm _ _ hil.symm, List.set_comm _ _ hij.symm]
  rw [e1] at I7
  exact ⟨_, H2, I7, q⟩
end CH

set_option Elab.async false
set_option linter.all false
set_option maxRecDepth 100000
set_option maxHeartbeats 4000000
/-! errors: raised, caught -/
namespace CH
variable {Z : St0}
open PySem PySem.Spec L2 PyProof.Rows
theorem upd_same_of {H : Hp} {p : Addr} {o : HO} (h : H p = none) : Same H (upd H p o) := fun b x e => by
  rw [upd_ne (ne_of_none e h)]
  exact e
/-- a clause: its class, the slot of its name if it has one, what its suite asks -/
abbrev Cl := Value × Option Nat × (Addr → Value → Option Addr → TS)
def unD (D : Ends) : Option Nat → Ends
  | none => D
  | some i => { nx := fun σ' H' => D.nx (σ'.set i none) H', rt := D.rt, bk := fun σ' H' => D.bk (σ'.set i none) H', ct := fun σ' H' => D.ct (σ'.set i none) H' }
def putA (σ : L2.St) (a : Addr) : Option Nat → L2.St
  | none => σ
  | some i => σ.set i (some (.ref a))
def wMix (K : PySem.W.Frag) (Wout : WX) (D : Ends) : List Cl → WX
  | [] => Wout
  | (c, o, ts) :: r => fun cls d σ H => ∃ b, PySem.W.exmOne K cls c = some b ∧ (b = true → ∀ a, H a = none → ts a cls d (unD D o) (putA σ a o) H) ∧ (b = false → wMix K Wout D r cls d σ H)
inductive HdsG (X : Cx) : List ExceptHandler → List Cl → Prop
  | nil : HdsG X [] []
  | bare {x : Str} {c : Value} {ts : Addr → Value → Option Addr → TS} {b₀ : Stmt} {suite : List Stmt} {np pos' : Pos} {hds : List ExceptHandler} {l : List Cl} (hc : Names X x c)
      (hsu : ∀ (a : Addr) (oe : Obj) (cls : Value) (d : Option Addr) (pn : List (Addr × Obj)), Zc cls d oe → (∃ vs, oe.data = .fields vs) → PSs (X.suite a ((a, oe) :: pn)) (b₀ :: suite) (ts a cls d)) (r : HdsG X hds l) :
      HdsG X (.ExceptHandler (some (.Name x np)) none (b₀ :: suite) pos' :: hds) ((c, none, ts) :: l)
  | name {x n : Str} {i : Nat} {c : Value} {ts : Addr → Value → Option Addr → TS} {b₀ : Stmt} {suite : List Stmt} {np pos' : Pos} {hds : List ExceptHandler} {l : List Cl} (hN : X.N.Nodup) (hi : X.N[i]? = some n) (hln : X.env.kindOf n = some .local) (hc : Names X x c)
      (hsu : ∀ (a : Addr) (oe : Obj) (cls : Value) (d : Option Addr) (pn : List (Addr × Obj)), Zc cls d oe → (∃ vs, oe.data = .fields vs) → PSs (X.suite a ((a, oe) :: pn)) (b₀ :: suite) (ts a cls d)) (r : HdsG X hds l) :
      HdsG X (.ExceptHandler (some (.Name x np)) (some n) (b₀ :: suite) pos' :: hds) ((c, some i, ts) :: l)
section
variable {X : Cx} {body : List Stmt} {h₀ : ExceptHandler} {hds : List ExceptHandler} {l : List Cl} {pos : Pos} {tb : WX → TS} {Wout : WX}
theorem ps_try_mix (hs : X.stack = X.env :: X.outer) (hf : X.env.frame = some X.env.locals) (tk : L2.Takes X Wout)
    (hb : ∀ (W : WX) (pn : List (Addr × Obj)) (xe : Value → Shared → Prop), L2.Takes (X.tr pn xe) W → PassesOwn (model X.prog X.w) X.A X.env xe → PSs (X.tr pn xe) body (tb W))
    (hh : HdsG X (h₀ :: hds) l) : PS X (.Try body (h₀ :: hds) [] [] pos) (fun D σ H => tb (wMix X.K Wout D l) D σ H) := by
  refine ⟨fun pins s σ H D I h => ?_⟩
  have ok := I.ok
  have hfr : X.A.frames = some (X.env :: X.outer) := by rw [ok.frames, hs]
  refine wpAny_Try_except ?_
  refine wpAny_mono ((hb (wMix X.K Wout D l) (X.pn ++ pins) (fun e s₁ => wpAny (model X.prog X.w) X.A (noteFrame e X.env) (fun _ s₂ => wpAny (model X.prog X.w) X.A (setFlight e none) (fun _ s₃ =>
    wpAny (model X.prog X.w) X.A (handleBy e X.env (h₀ :: hds)) (SP X pins D) X.xe s₃) X.xe s₂) X.xe s₁) (fun u s' xx => ?_) PassesOwn.looking).run [] s σ H D (I.toTry _) h) (fun f s1 hsp => ?_) (fun e s1 he => he)
  · -- the catch
    obtain ⟨a, B, sI, pins', σ', H', cls, d, rfl, J', nb, up, sky, na, os, ag, w⟩ := xx
    have J : Inv X pins σ' H' sI := J'.ofTry ok
    have sky' : Sky B (X.env :: X.outer) a (Zc cls d) X.env.locals s'.heap := by rw [← hs]; exact sky
    show wpAny (model X.prog X.w) X.A (noteFrame (.ref a) X.env) _ _ _
    refine Sky.land Zc.steady hfr hf sky' fun h3 fl3 up3 => ?_
    have J3 : Inv X pins σ' H' { s' with heap := h3 } := J.landed nb fl3.1 (up.trans up3) os ag
    obtain ⟨oe3, vs3, he3, hz3, hd3⟩ := fl3.there
    have notFr : ∀ {h : Heap} {o : Obj} {vs : Array Value}, h.FunFrames B (X.env :: X.outer) → h.get? a = some o → o.data = .fields vs → a ∉ frs (X.env :: X.outer) := fun {h o vs} ff e dd hm => by
      obtain ⟨_, o', e', hnf⟩ := ff.mem hm
      rw [e] at e'; cases e'
      exact hnf _ dd
    have nfr := notFr fl3.2.2.1 he3 hd3
    have nL : a ≠ X.env.locals := fun z => nfr (List.mem_filterMap.mpr ⟨X.env, List.mem_cons_self, by rw [hf, z]⟩)
    have nF : a ∉ X.fs := fun hm => by
      obtain ⟨e, he, q⟩ := List.mem_filterMap.mp hm
      exact nfr (List.mem_filterMap.mpr ⟨e, List.mem_cons_of_mem _ he, q⟩)
    have S3 := J3.suite he3 hd3 na nL nF
    have LT : PySem.W.Looks (model X.prog X.w) h3 (typeOf (.ref a)) cls := fun A Q E s k q => wpAny_typeOf_ref (k _ _ he3) (by rw [hz3.1]; exact q)
    have test : ∀ {x : Str} {np : Pos} {c : Value} {Q : Value → Shared → Prop} {E : Value → Shared → Prop}, Names X x c → Q c { s' with heap := h3 } → wpAny (model X.prog X.w) (X.A.mark (some (.ref a))) (eval (.Name x np) X.env) Q E { s' with heap := h3 } := fun {x np c Q E} hc q => by
      obtain ⟨hg, hdbg, hm | ⟨hm, hv, hnn⟩⟩ := hc
      · exact ld_glob (X := X.suite a ((a, oe3) :: (X.pn ++ pins))) S3 hg hm q hdbg
      · exact ld_blt (X := X.suite a ((a, oe3) :: (X.pn ++ pins))) S3 hg hm hv q hnn hdbg
    have go : ∀ {hds' : List ExceptHandler} {l' : List Cl}, HdsG X hds' l' → wMix X.K Wout D l' cls d σ' H' →
        wpAny (model X.prog X.w) X.A (handleBy (.ref a) X.env hds') (SP X pins D) X.xe { s' with heap := h3 } := by
      intro hds' l' hk
      induction hk with
      | nil =>
        intro w
        refine wpAny_handleBy_nil ?_
        obtain ⟨k1, k2, k3, oe, vs, T, oT, ts', he, hz, hd, h1, hr⟩ := id fl3
        unfold PySem.passOn
        refine wpAny_bind (wpAny_field he hd h1 ?_)
        rw [if_neg (show ¬ ((Value.ref T == Value.none) = true) from by simp)]
        have fin : wpAny (model X.prog X.w) X.A (setFlight (.ref a) X.env.frame) (fun _ s4 => wpAny (model X.prog X.w) X.A (throw (.ref a) : Sem Flow) (SP X pins D) X.xe s4) X.xe { s' with heap := h3 } := by
          rw [hf]
          refine HandSPX.setFlight_upZ fl3 fun h4 hh4 up4 => wpAny_throw (tk _ _ ?_)
          exact ⟨a, B, sI, pins, σ', H', cls, d, rfl, J, nb, (up.trans up3).trans up4, .inr (.inr (by rw [hs]; exact hh4)), na, os, ag, w⟩
        first
          | exact wpAny_bind (wpAny_pure (wpAny_bind fin))
          | exact wpAny_bind fin
      | @bare x c ts b₀ suite np pos' hds2 l2 hc hsu r ih =>
        intro w
        obtain ⟨b, hb1, hyes, hno⟩ := w
        refine wpAny_handleBy_cons (codeAny_handlers_test ?_) (by intro q; cases q)
        have LM := PySem.W.exm_one (M := model X.prog X.w) (J3.kIn) LT hb1
        refine test hc (LM.here ?_)
        cases b with
        | true =>
          refine codeAny_handlers_suite ?_
          refine HandSPX.lands_againZ fl3 fun h4 fl4 up4 => ?_
          have J4 : Inv X pins σ' H' { s' with heap := h4 } := J.landed nb fl4.1 ((up.trans up3).trans up4) os ag
          obtain ⟨oe4, vs4, he4, hz4, hd4⟩ := fl4.there
          have S4 := J4.suite he4 hd4 na nL nF
          refine wpAny_mono ((hsu a oe4 cls d (X.pn ++ pins) hz4 ⟨_, hd4⟩).run [] _ _ H' _ S4 (hyes rfl a na)) (fun f s6 hsp => ?_) (fun _ _ z => False.elim z)
          cases f with
          | next =>
            obtain ⟨σ6, H6, S6, q6⟩ := hsp
            exact ⟨_, _, S6.unsuite ok, q6⟩
          | brk =>
            obtain ⟨σ6, H6, S6, q6⟩ := hsp
            exact ⟨_, _, S6.unsuite ok, q6⟩
          | cont =>
            obtain ⟨σ6, H6, S6, q6⟩ := hsp
            exact ⟨_, _, S6.unsuite ok, q6⟩
          | ret u =>
            obtain ⟨v6, σ6, H6, S6, r6, q6⟩ := hsp
            exact ⟨_, _, _, S6.unsuite ok, r6, q6⟩
        | false =>
          show wpAny _ X.A (handleBy (.ref a) X.env hds2) _ _ _
          exact ih (hno rfl)
      | @name x n i c ts b₀ suite np pos' hds2 l2 hN hi hln hc hsu r ih =>
        intro w
        obtain ⟨b, hb1, hyes, hno⟩ := w
        have hloc : Loc X.env.scope n := .inl hln
        refine wpAny_handleBy_cons (codeAny_handlers_test ?_) (by intro q; cases q)
        have LM := PySem.W.exm_one (M := model X.prog X.w) (J3.kIn) LT hb1
        refine test hc (LM.here ?_)
        cases b with
        | true =>
          refine codeAny_handlers_suite_as ?_
          refine HandSPX.lands_againZ fl3 fun h4 fl4 up4 => ?_
          have J4 : Inv X pins σ' H' { s' with heap := h4 } := J.landed nb fl4.1 ((up.trans up3).trans up4) os ag
          obtain ⟨oe4, vs4, he4, hz4, hd4⟩ := fl4.there
          have S4 := J4.suite he4 hd4 na nL nF
          refine store_ok (X := X.suite a ((a, oe4) :: (X.pn ++ pins))) (v := .ref a) S4 hN hi hloc rfl (fun s5 S5 => ?_) (.inr hln)
          refine wpAny_mono ((hsu a oe4 cls d (X.pn ++ pins) hz4 ⟨_, hd4⟩).run [] s5 _ H' _ S5 (hyes rfl a na)) (fun f s6 hsp => ?_) (fun _ _ z => False.elim z)
          have end_ : ∀ {σ6 : L2.St} {H6 : Hp} {Q : Shared → Prop}, Inv (X.suite a ((a, oe4) :: (X.pn ++ pins))) [] σ6 H6 s6 → (∀ s7, Inv X pins (σ6.set i none) H6 s7 → Q s7) →
              wpAny (model X.prog X.w) X.A (do bindName X.env n .none; unbindBehindTheSuite X.env n pos') (fun _ s7 => Q s7) X.xe s6 := fun {σ6 H6 Q} S6 hq => gone_ok (S6.unsuite ok) hN hi hln hq
          cases f with
          | next =>
            obtain ⟨σ6, H6, S6, q6⟩ := hsp
            exact end_ S6 fun s7 J7 => ⟨_, _, J7, q6⟩
          | brk =>
            obtain ⟨σ6, H6, S6, q6⟩ := hsp
            exact end_ S6 fun s7 J7 => ⟨_, _, J7, q6⟩
          | cont =>
            obtain ⟨σ6, H6, S6, q6⟩ := hsp
            exact end_ S6 fun s7 J7 => ⟨_, _, J7, q6⟩
          | ret u =>
            obtain ⟨v6, σ6, H6, S6, r6, q6⟩ := hsp
            exact end_ S6 fun s7 J7 => ⟨_, _, _, J7, r6, q6⟩
        | false =>
          show wpAny _ X.A (handleBy (.ref a) X.env hds2) _ _ _
          exact ih (hno rfl)
    exact go hh w
  · cases f with
    | next =>
      obtain ⟨σ', H', J', q⟩ := hsp
      exact wpAny_execs_nil ⟨σ', H', J'.ofTry ok, q⟩
    | brk =>
      obtain ⟨σ', H', J', q⟩ := hsp
      exact ⟨σ', H', J'.ofTry ok, q⟩
    | cont =>
      obtain ⟨σ', H', J', q⟩ := hsp
      exact ⟨σ', H', J'.ofTry ok, q⟩
    | ret u =>
      obtain ⟨v, σ', H', J', r, q⟩ := hsp
      exact ⟨v, σ', H', J'.ofTry ok, r, q⟩
end
end CH

set_option Elab.async false
set_option linter.all false
set_option maxRecDepth 100000
set_option maxHeartbeats 4000000
/-! errors: what an except clause's suite says -/
namespace CH
variable {Z : St0}
open PySem PySem.Spec L2 PyProof.Rows
/-- how an error is held -/
def RXm (mg : Str → Option Value) (xs : List Str) (k : KA Z) (G : Hp) (x : Exn) (c : Value) (d : Option Addr) : Prop :=
  x.cls ∈ xs ∧ ∃ C, mg x.cls = some (.ref C) ∧ c = .ref C ∧ ((exFld x.cls = [] ∧ d = none) ∨ ∃ a fs, d = some a ∧ G a = some (.xd fs) ∧ ∀ f v, x.fields.lookup f = some v → ∃ w, fs.lookup f = some w ∧ Rep k G w v)
/-- the error's dict stands, or there is none -/
def DictAt (d : Option Addr) (H : Hp) : Prop := d = none ∨ ∃ dd fs, d = some dd ∧ H dd = some (.xd fs)
def rIsx (K : PySem.W.Frag) (mg : Str → Option Value) (a : Addr) (cls : Value) (d : Option Addr) : List V → Hp → VK → Prop := fun xs H Q => ∃ (c : V) (u : Value) (b : Bool) (n : Str) (C : Addr), xs = [.ref a, c] ∧ ClsV c u ∧ XCls K mg n C ∧ cls = .ref C ∧ DictAt d H ∧ PySem.W.kitOne K (.ref C) u = some b ∧ Q (.bl b) H
section
variable {X : Cx} {a : Addr} {oe : Obj} {cls : Value} {d : Option Addr} {pn : List (Addr × Obj)} {mg : Str → Option Value}
theorem inst_exc {pins : List (Addr × Obj)} {σ : L2.St} {H : Hp} {s : Shared} {C : Addr} (I : Inv (X.suite a ((a, oe) :: pn)) pins σ H s) (hz : Zc cls d oe) (hf : ∃ vs, oe.data = .fields vs) (hc : cls = .ref C) (hd : DictAt d H) : ∃ od, PySem.W.InstAt s.heap a oe C od := by
  obtain ⟨ha, _⟩ := I.pin (a, oe) (List.mem_append_left _ List.mem_cons_self)
  obtain ⟨vs, hv⟩ := hf
  have h1 : oe.cls = .ref C := hz.1.trans hc
  rcases hd with e | ⟨dd, fs, e, hx⟩
  · exact ⟨none, ha, h1, by unfold PySem.W.notCls; rw [hv], by rw [hz.2, e]; trivial⟩
  · have hk : ObjOk X.prog X.w H s.heap dd (.xd fs) := I.hok dd _ hx
    obtain ⟨mA, hns, hr⟩ := hk
    obtain ⟨od, ho, hl⟩ := lookIn_ns hns
    exact ⟨some od, ha, h1, by unfold PySem.W.notCls; rw [hv], by rw [hz.2, e]; exact ho⟩
theorem call_isx (hz : Zc cls d oe) (hf : ∃ vs, oe.data = .fields vs) : CallR (X.suite a ((a, oe) :: pn)) (.builtin "isinstance") (rIsx X.K mg a cls d) := by
  intro pins s σ H xs us Q I r h
  obtain ⟨c, u, b, n, C, rfl, k, XC, hc, hd, e, q⟩ := h
  obtain ⟨u1, u2, rfl, r1, r2⟩ := vals2 r
  have e2 := k.eq r2
  subst e2
  cases (show u1 = Value.ref a from r1)
  obtain ⟨od, J⟩ := inst_exc I hz hf hc hd
  exact PySem.W.kia_one (PySem.W.kitx_exc XC.cl XC.ga XC.gg XC.exC XC.ca XC.cn XC.ct XC.mo) I.kIn J e (fun z => nomatch z) fun tk => ⟨.bl b, H, I.tok tk, rfl, q⟩
/-- e.f -/
def tFldx (K : PySem.W.Frag) (mg : Str → Option Value) (a : Addr) (cls : Value) (d : Option Addr) (f : Str) (te : TE) : TE := fun σ H Q => te σ H fun x H1 => x = .ref a ∧ ∃ (n : Str) (C dd : Addr) (fs : List (Str × V)) (w : V), XCls K mg n C ∧ cls = .ref C ∧ PySem.W.findIn K (.ref C) f = some none ∧ d = some dd ∧ H1 dd = some (.xd fs) ∧ fs.lookup f = some w ∧ Q w H1
theorem pe_fldx {e : Expr} {te : TE} {f : Str} {pos : Pos} (hz : Zc cls d oe) (hf : ∃ vs, oe.data = .fields vs) (he : PE (X.suite a ((a, oe) :: pn)) e te) (hb : attributeBase e f X.env (eval e X.env) = eval e X.env) :
    PE (X.suite a ((a, oe) :: pn)) (.Attribute e f pos) (tFldx X.K mg a cls d f te) := by
  refine ⟨fun pins s σ H Q I h => ?_⟩
  refine attr_of hb (thn (he.run pins s σ H _ I h) fun u s1 hh => ?_)
  obtain ⟨x, H1, I1, rx, ex, n, C, dd, fs, w, XC, ec, hno, ed, ea, hl, q⟩ := hh
  subst ex
  obtain rfl : u = Value.ref a := rx
  obtain ⟨ha, _⟩ := I1.pin (a, oe) (List.mem_append_left _ List.mem_cons_self)
  obtain ⟨vs, hd⟩ := hf
  have hx : ObjOk X.prog X.w H1 s1.heap dd (.xd fs) := I1.hok dd _ ea
  obtain ⟨mA, hns, hr⟩ := hx
  obtain ⟨od, ho, hl2⟩ := lookIn_ns hns
  obtain ⟨u, hu, ru⟩ := RelO.some_of (v := w) (o := mA f) (by rw [← hl]; exact hr f)
  have J : PySem.W.InstAt s1.heap a oe C (some od) := ⟨ha, hz.1.trans ec, by unfold PySem.W.notCls; rw [hd], by rw [hz.2, ed]; exact ho⟩
  exact HandSPX.exc_get I1.kIn J XC.ga XC.gg XC.exC (PySem.W.findObj_own XC.hdC hno rfl (by rw [hl2, hu])) (handed_of ru) ⟨w, H1, I1.tok _, ru, q⟩
end
/-- the slot of the error's name -/
def atO (σ : L2.St) (a : Addr) (o : Option Nat) : Prop := ∀ i, o = some i → σ[i]? = some (some (.ref a))
def SEMX (R : Par Z) (x : Exn) (cls : Value) (d : Option Addr) (o : Option Nat) (a : Addr) (e : HX) : TE := fun σ H Q => ∃ k G0 H0 G ρ s, PreS k G0 H0 G H σ ρ s ∧ atO σ a o ∧ R.RX k G x cls d ∧
  ∃ v, e.val x ρ = some v ∧ ∀ w G' H', PreS k G0 H0 G' H' σ ρ s → Same G G' → Rep k G' w v → Q w H'
def SEMXT (R : Par Z) (x : Exn) (cls : Value) (d : Option Addr) (o : Option Nat) (a : Addr) (e : HX) : TT := fun σ H Q => ∃ k G0 H0 G ρ s, PreS k G0 H0 G H σ ρ s ∧ atO σ a o ∧ R.RX k G x cls d ∧
  ∃ b, (e.val x ρ).bind bD = some b ∧ ∀ G' H', PreS k G0 H0 G' H' σ ρ s → Same G G' → Q b H'
theorem bD_some {o : Option D} {b : Bool} (h : o.bind bD = some b) : o = some (.bool b) := by
  cases o with
  | none => cases h
  | some d => cases d <;> first | (cases h; rfl) | cases h
theorem rep_bool {k : KA Z} {G : Hp} {w : V} {b : Bool} (r : Rep k G w (.bool b)) : w = .bl b := by
  cases r; rfl
section
variable {R : Par Z} {x : Exn} {cls : Value} {d : Option Addr} {o : Option Nat} {a : Addr} {σ : L2.St} {H : Hp} {Q : VK}
theorem sx_val {e : HX} {Q : Bool → Hp → Prop} (h : SEMXT R x cls d o a e σ H Q) : SEMX R x cls d o a e σ H fun v H1 => ∃ b, v = .bl b ∧ Q b H1 := by
  obtain ⟨k, G0, H0, G, ρ, s, P, ha, rx, b, e1, q⟩ := h
  exact ⟨k, G0, H0, G, ρ, s, P, ha, rx, _, bD_some e1, fun w G' H' P' g r => ⟨b, rep_bool r, q G' H' P' g⟩⟩
theorem sx_var {i : Nat} (h : SEMX R x cls d o a (.var i) σ H Q) : tVar i σ H Q := by
  obtain ⟨k, G0, H0, G, ρ, s, P, ha, rx, v, e1, q⟩ := h
  simp only [HX.val] at e1
  split at e1
  · rename_i d' hd
    cases e1
    obtain ⟨w, h1, h2⟩ := P.val i _ hd
    exact ⟨w, h1, q w G H P (Same.refl _) h2⟩
  · cases e1
theorem sx_cst {v : V} {c : D} (hr : ∀ (k : KA Z) (G : Hp), Rep k G v c) (h : SEMX R x cls d o a (.cst c) σ H Q) : tC v σ H Q := by
  obtain ⟨k, G0, H0, G, ρ, s, P, ha, rx, v', e1, q⟩ := h
  cases e1
  exact q v G H P (Same.refl _) (hr _ _)
/-- a tree's value, then the rest -/
theorem sx_step {k : KA Z} {G0 H0 G : Hp} {ρ : Env1} {s : Dk} {e : HX} {v : D} (P : PreS k G0 H0 G H σ ρ s) (ha : atO σ a o) (rx : R.RX k G x cls d) (h : e.val x ρ = some v)
    (q : ∀ w G' H', PreS k G0 H0 G' H' σ ρ s → Same G G' → Rep k G' w v → Q w H') : SEMX R x cls d o a e σ H Q := ⟨k, G0, H0, G, ρ, s, P, ha, rx, v, h, q⟩
theorem sxt_step {k : KA Z} {G0 H0 G : Hp} {ρ : Env1} {s : Dk} {e : HX} {b : Bool} {Q : Bool → Hp → Prop} (P : PreS k G0 H0 G H σ ρ s) (ha : atO σ a o) (rx : R.RX k G x cls d) (h : (e.val x ρ).bind bD = some b)
    (q : ∀ G' H', PreS k G0 H0 G' H' σ ρ s → Same G G' → Q b H') : SEMXT R x cls d o a e σ H Q := ⟨k, G0, H0, G, ρ, s, P, ha, rx, b, h, q⟩
/-- an error is held on, as the heap grows -/
def Holds1 (R : Par Z) : Prop := ∀ k G G' x c d, R.RX k G x c d → Same G G' → R.RX k G' x c d
theorem RXm_holds {F : Fns} {mg : Str → Option Value} {xs : List Str} {n : Nat} : Holds1 (⟨F, RXm mg xs, n⟩ : Par Z) := by
  rintro k G G' x c d ⟨hx, C, h1, h2, h3⟩ g
  refine ⟨hx, C, h1, h2, h3.imp id ?_⟩
  rintro ⟨b, fs, e1, e2, e3⟩
  exact ⟨b, fs, e1, g b _ e2, fun f v hv => let ⟨w, h4, h5⟩ := e3 f v hv; ⟨w, h4, h5.mono g⟩⟩
theorem sx_pair {p r : HX} (hR : Holds1 R) (h : SEMX R x cls d o a (.pair p r) σ H Q) : tTup (tCons (SEMX R x cls d o a p) (tCons (SEMX R x cls d o a r) tNil)) σ H Q := by
  obtain ⟨k, G0, H0, G, ρ, s, P, ha, rx, v, e1, q⟩ := h
  simp only [HX.val] at e1
  obtain ⟨u1, h1, h2⟩ := ob e1
  obtain ⟨u2, h3, h4⟩ := om h2
  subst h4
  refine sx_step P ha rx h1 fun w1 G1 H1 P1 g1 r1 => sx_step P1 ha (hR _ _ _ _ _ _ rx g1) h3 fun w2 G2 H2 P2 g2 r2 => ?_
  refine ⟨by show 2 ≤ sizeLine; rw [sizeLine_eq]; omega, fun p hp => ?_⟩
  have gb : Grow k G2 H2 (upd G2 p (.tup [w1, w2])) (upd H2 p (.tup [w1, w2])) := Grow.both P2.gr.gh hp
  have sg := upd_same_of (o := HO.tup [w1, w2]) (none_of_same P2.gr.gh.s hp)
  exact q _ _ _ (P2.grow gb (P2.dk.keep gb (by rw [upd_ne (P2.dk.ne hp)]))) ((g1.trans g2).trans sg) (.tup upd_same (.cons ((r1.mono g2).mono sg) (.cons (r2.mono sg) .nil)))
theorem sx_not {p : HX} (h : SEMX R x cls d o a (.not_ p) σ H Q) : tNotV (SEMX R x cls d o a p) σ H Q := by
  obtain ⟨k, G0, H0, G, ρ, s, P, ha, rx, v, e1, q⟩ := h
  simp only [HX.val] at e1
  obtain ⟨b, h1, h2⟩ := om e1
  subst h2
  exact sx_step P ha rx (bD_some h1) fun w1 G1 H1 P1 g1 r1 => ⟨b, rep_bool r1, q _ _ _ P1 g1 (.bl _)⟩
theorem st_not {p : HX} {Q : Bool → Hp → Prop} (h : SEMXT R x cls d o a (.not_ p) σ H Q) : tNot (SEMXT R x cls d o a p) σ H Q := by
  obtain ⟨k, G0, H0, G, ρ, s, P, ha, rx, v, e1, q⟩ := h
  simp only [HX.val] at e1
  have e2 := bD_some e1
  obtain ⟨b, h1, h2⟩ := om e2
  cases h2
  exact sxt_step P ha rx h1 fun G1 H1 P1 g1 => q _ _ P1 g1
theorem sx_and {p r : HX} (hR : Holds1 R) (h : SEMX R x cls d o a (.and_ p r) σ H Q) : tAndV (SEMX R x cls d o a p) (SEMX R x cls d o a r) σ H Q := by
  obtain ⟨k, G0, H0, G, ρ, s, P, ha, rx, v, e1, q⟩ := h
  simp only [HX.val] at e1
  obtain ⟨b, h1, h2⟩ := ob e1
  refine sx_step P ha rx (bD_some h1) fun w1 G1 H1 P1 g1 r1 => ⟨b, rep_bool r1, ?_⟩
  cases b with
  | true =>
    rw [if_pos rfl] at h2
    exact iteT (sx_step P1 ha (hR _ _ _ _ _ _ rx g1) h2 fun w2 G2 H2 P2 g2 r2 => q _ _ _ P2 (g1.trans g2) r2)
  | false =>
    rw [if_neg Bool.false_ne_true] at h2
    cases h2
    exact iteF (q _ _ _ P1 g1 (.bl _))
theorem sx_or {p r : HX} (hR : Holds1 R) (h : SEMX R x cls d o a (.or_ p r) σ H Q) : tOrV (SEMX R x cls d o a p) (SEMX R x cls d o a r) σ H Q := by
  obtain ⟨k, G0, H0, G, ρ, s, P, ha, rx, v, e1, q⟩ := h
  simp only [HX.val] at e1
  obtain ⟨b, h1, h2⟩ := ob e1
  refine sx_step P ha rx (bD_some h1) fun w1 G1 H1 P1 g1 r1 => ⟨b, rep_bool r1, ?_⟩
  cases b with
  | true =>
    rw [if_pos rfl] at h2
    cases h2
    exact iteT (q _ _ _ P1 g1 (.bl _))
  | false =>
    rw [if_neg Bool.false_ne_true] at h2
    exact iteF (sx_step P1 ha (hR _ _ _ _ _ _ rx g1) h2 fun w2 G2 H2 P2 g2 r2 => q _ _ _ P2 (g1.trans g2) r2)
theorem st_and {p r : HX} {Q : Bool → Hp → Prop} (hR : Holds1 R) (h : SEMXT R x cls d o a (.and_ p r) σ H Q) : tAnd (SEMXT R x cls d o a p) (SEMXT R x cls d o a r) σ H Q := by
  obtain ⟨k, G0, H0, G, ρ, s, P, ha, rx, v, e1, q⟩ := h
  simp only [HX.val] at e1
  obtain ⟨b, h1, h2⟩ := ob (bD_some e1)
  refine sxt_step P ha rx h1 fun G1 H1 P1 g1 => ?_
  cases b with
  | true =>
    rw [if_pos rfl] at h2
    exact iteT (sxt_step P1 ha (hR _ _ _ _ _ _ rx g1) (by rw [h2]; rfl) fun G2 H2 P2 g2 => q _ _ P2 (g1.trans g2))
  | false =>
    rw [if_neg Bool.false_ne_true] at h2
    cases h2
    exact iteF (q _ _ P1 g1)
theorem st_or {p r : HX} {Q : Bool → Hp → Prop} (hR : Holds1 R) (h : SEMXT R x cls d o a (.or_ p r) σ H Q) : tOr (SEMXT R x cls d o a p) (SEMXT R x cls d o a r) σ H Q := by
  obtain ⟨k, G0, H0, G, ρ, s, P, ha, rx, v, e1, q⟩ := h
  simp only [HX.val] at e1
  obtain ⟨b, h1, h2⟩ := ob (bD_some e1)
  refine sxt_step P ha rx h1 fun G1 H1 P1 g1 => ?_
  cases b with
  | true =>
    rw [if_pos rfl] at h2
    cases h2
    exact iteT (q _ _ P1 g1)
  | false =>
    rw [if_neg Bool.false_ne_true] at h2
    exact iteF (sxt_step P1 ha (hR _ _ _ _ _ _ rx g1) (by rw [h2]; rfl) fun G2 H2 P2 g2 => q _ _ P2 (g1.trans g2))
theorem sx_ite {c p r : HX} (hR : Holds1 R) (h : SEMX R x cls d o a (.ite c p r) σ H Q) : tIf (SEMXT R x cls d o a c) (SEMX R x cls d o a p) (SEMX R x cls d o a r) σ H Q := by
  obtain ⟨k, G0, H0, G, ρ, s, P, ha, rx, v, e1, q⟩ := h
  simp only [HX.val] at e1
  obtain ⟨b, h1, h2⟩ := ob e1
  refine sxt_step P ha rx h1 fun G1 H1 P1 g1 => ?_
  cases b with
  | true =>
    rw [if_pos rfl] at h2
    exact iteT (sx_step P1 ha (hR _ _ _ _ _ _ rx g1) h2 fun w2 G2 H2 P2 g2 r2 => q _ _ _ P2 (g1.trans g2) r2)
  | false =>
    rw [if_neg Bool.false_ne_true] at h2
    exact iteF (sx_step P1 ha (hR _ _ _ _ _ _ rx g1) h2 fun w2 G2 H2 P2 g2 r2 => q _ _ _ P2 (g1.trans g2) r2)
theorem sx_eqs {i : Nat} {w : Str} (h : SEMX R x cls d o a (.eqs i w) σ H Q) : tOp (r2 (cB .Eq) false) (tVar i) (tC (.str w)) σ H Q := by
  obtain ⟨k, G0, H0, G, ρ, s, P, ha, rx, v, e1, q⟩ := h
  simp only [HX.val] at e1
  split at e1
  · rename_i y hd
    obtain ⟨u, h1, h2⟩ := P.val i _ hd
    refine ⟨u, h1, _, k, G, s, _, _, _, P.gr.gh, P.dk, h2, .str _, show cB .Eq (.str y) (.str w) = some v from e1, fun v' G' H' g e r => ?_⟩
    have P' := P.grow g (P.dk.keep g e)
    rcases r with ⟨z, _⟩ | ⟨_, r⟩
    · cases z
    · exact q _ _ _ P' g.gg r
  · cases e1
end
end CH

set_option Elab.async false
set_option linter.all false
set_option maxRecDepth 100000
set_option maxHeartbeats 4000000
/-! errors: except clauses translated -/
namespace CH
variable {Z : St0}
open PySem PySem.Spec L2 PyProof.Rows
def cSlotX (c : Cn) (x : Str) : Option Nat := chk (c.vis x && !(x == ("__debug__" : Str)) && !(x == ("__classdict__" : Str))) (c.N.idxOf? x)
def asCst : PX → Option HX
  | .cst d => some (.cst d)
  | _ => none
def cHX : Nat → Cn → Option Str → Expr → Option HX
  | 0, _, _, _ => none
  | n + 1, c, en, e => match e with
    | .Constant v _ _ => (cCst v).bind asCst
    | .Name x _ => chk (!(en == some x)) ((cSlotX c x).map .var)
    | .Tuple [a, b] _ _ => chk (noStar a && noStar b) ((cHX n c en a).bind fun p => (cHX n c en b).bind fun q => some (.pair p q))
    | .Call (.Name f _) [.Name y _, .Name C _] [] _ => chk (f == ("isinstance" : Str) && c.glb ("isinstance" : Str) && en == some y && (cSlotX c y).isSome && c.glb C && !(C == ("__debug__" : Str)) && (c.xs.contains C || (C == ("ValueError" : Str) && !c.xs.isEmpty))) (some (.isi C))
    | .Attribute (.Name y _) f _ => chk (en == some y && (cSlotX c y).isSome) (some (.fld f))
    | .BoolOp .And [a, b] _ => chk (noIte a && noIte b) ((cHX n c en a).bind fun p => (cHX n c en b).bind fun q => some (.and_ p q))
    | .BoolOp .Or [a, b] _ => chk (noIte a && noIte b) ((cHX n c en a).bind fun p => (cHX n c en b).bind fun q => some (.or_ p q))
    | .UnaryOp .Not a _ => chk (noIte a) ((cHX n c en a).map .not_)
    | .IfExp t a b _ => chk (noIte t) ((cHX n c en t).bind fun p => (cHX n c en a).bind fun q => (cHX n c en b).bind fun r => some (.ite p q r))
    | .Compare (.Name x _) [.Eq] [.Constant (.str w) _ _] _ => chk (!(en == some x)) ((cSlotX c x).map fun i => .eqs i w)
    | _ => none
def cHS (c : Cn) (en : Option Str) : List Stmt → Option HS
  | [.Return (some e) _] => (cHX 60 c en e).map .ret
  | .If t [.Return (some a) _] [] _ :: r => chk (noIte t) ((cHX 60 c en t).bind fun p => (cHX 60 c en a).bind fun q => (cHS c en r).map (.ifr p q))
  | .Assign [.Name x _] (.IfExp t a b p0) _ :: r => chk (c.sto x && !(en == some x)) ((c.N.idxOf? x).bind fun i => (cHX 60 c en (.IfExp t a b p0)).bind fun p => (cHS c en r).map (.set i p))
  | _ => none
def cOn (c : Cn) : Option Str → Option (Option Nat)
  | none => some none
  | some n => chk (decide (c.sc.names.lookup n = some .local) && !(n == ("__debug__" : Str)) && !(n == ("__classdict__" : Str))) ((c.N.idxOf? n).map some)
def cHds (c : Cn) : List ExceptHandler → Option (List Hd)
  | [] => some []
  | .ExceptHandler (some (.Name x _)) on body _ :: r => chk (c.glb x && !(x == ("__debug__" : Str)) && c.xs.contains x) ((cOn c on).bind fun o => (cHS c on body).bind fun h => (cHds c r).map (⟨x, o, h⟩ :: ·))
  | _ => none
/-- what is used of X in a suite -/
structure XOk (X : Cx) (R : Par Z) (c : Cn) : Prop where
  all : XAll X.K X.mg c.xs
  rx : R.RX = RXm X.mg c.xs
section
variable {X : Cx} {R : Par Z} {E : XW} {c : Cn} {x : Exn} {cls : Value} {d : Option Addr} {a : Addr} {oe : Obj} {pn : List (Addr × Obj)} {en : Option Str} {o : Option Nat}
theorem XOk.holds (O : XOk X R c) : Holds1 R := by
  obtain ⟨F, RX⟩ := R
  have e : RX = RXm X.mg c.xs := O.rx
  subst e
  exact RXm_holds
theorem slotX_ok {y : Str} {i : Nat} {pos : Pos} {pn' : List (Addr × Obj)} {b : Addr} (F : Fits X R E c) (h : cSlotX c y = some i) : PE (X.suite b pn') (.Name y pos) (tVar i) ∧ c.N.idxOf? y = some i := by
  unfold cSlotX at h
  obtain ⟨h1, h2⟩ := chk_some h
  simp only [Bool.and_eq_true, Bool.not_eq_true'] at h1
  have hv := vis_ok F h1.1.1
  exact ⟨pe_var (X := X.suite b pn') (by show X.N[i]? = some y; rw [F.N]; exact idx_ok h2) hv h1.1.2 h1.2, h2⟩
theorem okx {X' : Cx} {e : Expr} {p : HX} (h : PE X' e (SEMX R x cls d o a p)) (he : noIte e = true → ∀ whole, isTrue e X'.env whole = (do let v ← whole; standAt e.pos; holding [v] (truthy v))) :
    PE X' e (SEMX R x cls d o a p) ∧ (noIte e = true → PT X' e (SEMXT R x cls d o a p)) := ⟨h, fun hn => (pt_val h (he hn)).wk fun σ H Q z => sx_val z⟩
theorem fields_mem {f : Str} {v : D} (h : x.fields.lookup f = some v) : f ∈ exFld x.cls := by
  have := PySem.mem_of_lookup h
  exact (List.of_mem_zip this).1
theorem cHX_ok (F : Fits X R E c) (O : XOk X R c) (hz : Zc cls d oe) (hf : ∃ vs, oe.data = .fields vs) (ho : cOn c en = some o) : ∀ (n : Nat) (e : Expr) (p : HX), cHX n c en e = some p →
    PE (X.suite a ((a, oe) :: pn)) e (SEMX R x cls d o a p) ∧ (noIte e = true → PT (X.suite a ((a, oe) :: pn)) e (SEMXT R x cls d o a p))
  | 0, e, p, h => by cases h
  | n + 1, e, p, h => by
    have ih := cHX_ok F O hz hf ho n
    have hR := O.holds
    have here : ∀ {y : Str} {i : Nat}, (en == some y) = true → c.N.idxOf? y = some i → ∀ {σ : L2.St}, atO σ a o → σ[i]? = some (some (.ref a)) := fun {y i} h1 h2 {σ} h3 => by
      have e1 : en = some y := by simpa using h1
      subst e1
      unfold cOn at ho
      obtain ⟨_, h4⟩ := chk_some ho
      rw [h2] at h4
      exact h3 i (Option.some.inj h4).symm
    unfold cHX at h
    split at h
    · rename_i v j pos
      obtain ⟨q, h1, h2⟩ := ob h
      cases v with
      | none => cases h1; cases h2; exact okx (pe_non.wk fun _ _ _ z => sx_cst (fun _ _ => .non) z) fun _ _ => rfl
      | bool b => cases h1; cases h2; exact okx (pe_bl.wk fun _ _ _ z => sx_cst (fun _ _ => .bl _) z) fun _ _ => rfl
      | int i => cases h1; cases h2; exact okx (pe_int.wk fun _ _ _ z => sx_cst (fun _ _ => .int _) z) fun _ _ => rfl
      | str w => cases h1; cases h2; exact okx (pe_str.wk fun _ _ _ z => sx_cst (fun _ _ => .str _) z) fun _ _ => rfl
      | _ => cases h1
    · obtain ⟨h1, h2⟩ := chk_some h
      obtain ⟨i, h3, h4⟩ := om h2
      subst h4
      exact okx ((slotX_ok F h3).1.wk fun _ _ _ z => sx_var z) fun _ _ => rfl
    · obtain ⟨h1, h⟩ := chk_some h
      rw [Bool.and_eq_true] at h1
      obtain ⟨q1, h2, h⟩ := ob h
      obtain ⟨q2, h3, h⟩ := ob h
      cases h
      exact okx ((pe_tup (pa_cons (ih _ _ h2).1 (pa_cons (ih _ _ h3).1 pa_nil (star1 h1.2 _ _)) (star1 h1.1 _ _))).wk fun _ _ _ z => sx_pair hR z) fun _ _ => rfl
    · obtain ⟨h1, h⟩ := chk_some h
      cases h
      simp only [Bool.and_eq_true, Bool.not_eq_true', Bool.or_eq_true] at h1
      obtain ⟨⟨⟨⟨⟨⟨hf1, hg⟩, hy⟩, hs⟩, hgC⟩, hdb⟩, hC⟩ := h1
      have ef := eq_str hf1
      subst ef
      obtain ⟨i, hi⟩ := Option.isSome_iff_exists.mp hs
      rename_i f p1 y p2 C p3 p4
      obtain ⟨py, hi'⟩ := slotX_ok (pos := p2) (pn' := (a, oe) :: pn) (b := a) F hi
      have mI : X.mg ("isinstance" : Str) = none := F.blt _ (by decide +kernel)
      have gI : Gl X "isinstance" := glb_ok F hg
      have gC : Gl X C := glb_ok F hgC
      rcases hC with hC | ⟨hC, hne⟩
      · have hC : C ∈ c.xs := by simpa using hC
        obtain ⟨D, XD⟩ := O.all.cls C hC
        refine okx ((pe_callB (X := X.suite a ((a, oe) :: pn)) (call_isx (mg := X.mg) hz hf) gI mI boo_isi' (pa_cons py (pa_cons (pe_glob (X := X.suite a ((a, oe) :: pn)) (v := .ref D) gC XD.g rfl hdb) pa_nil rfl) rfl) (by decide +kernel) (by decide +kernel) rfl rfl).wk fun σ H Q z => ?_) fun _ _ => rfl
        obtain ⟨k, G0, H0, G, ρ, s, P, ha, rx, v, e1, q⟩ := z
        cases e1
        have rx' := rx
        rw [O.rx] at rx'
        obtain ⟨hx, C', h1, h2, h3⟩ := rx'
        obtain ⟨C2, X2⟩ := O.all.cls _ hx
        have e2 : C2 = C' := by have := X2.g.symm.trans h1; cases this; rfl
        subst e2
        refine ⟨_, here hy hi' ha, .ref D, .ref D, _, x.cls, C2, rfl, .own D, X2, h2, ?_, (O.all.kit hx hC h1 XD.g).1, q _ _ _ P (Same.refl _) (.bl _)⟩
        rcases h3 with ⟨_, h3⟩ | ⟨b, fs, h3, h4, _⟩
        · exact .inl h3
        · exact .inr ⟨b, fs, h3, P.gr.gh b _ h4⟩
      · have eC := eq_str hC
        subst eC
        have mV : X.mg ("ValueError" : Str) = none := O.all.ve (by intro z; rw [z] at hne; cases hne)
        refine okx ((pe_callB (X := X.suite a ((a, oe) :: pn)) (call_isx (mg := X.mg) hz hf) gI mI boo_isi' (pa_cons py (pa_cons (pe_bltn (X := X.suite a ((a, oe) :: pn)) (v := .ty "ValueError") gC mV boo_ve rfl (by decide +kernel) (by decide +kernel)) pa_nil rfl) rfl) (by decide +kernel) (by decide +kernel) rfl rfl).wk fun σ H Q z => ?_) fun _ _ => rfl
        obtain ⟨k, G0, H0, G, ρ, s, P, ha, rx, v, e1, q⟩ := z
        cases e1
        have rx' := rx
        rw [O.rx] at rx'
        obtain ⟨hx, C', h1, h2, h3⟩ := rx'
        obtain ⟨C2, X2⟩ := O.all.cls _ hx
        have e2 : C2 = C' := by have := X2.g.symm.trans h1; cases this; rfl
        subst e2
        have hv : exIs x.cls ("ValueError" : Str) = true := by
          unfold exIs exSup
          split
          · decide +kernel
          · simp
        refine ⟨_, here hy hi' ha, .ty "ValueError", .type "ValueError", _, x.cls, C2, rfl, .ty _, X2, h2, ?_, X2.kve, by rw [← hv]; exact q _ _ _ P (Same.refl _) (.bl _)⟩
        rcases h3 with ⟨_, h3⟩ | ⟨b, fs, h3, h4, _⟩
        · exact .inl h3
        · exact .inr ⟨b, fs, h3, P.gr.gh b _ h4⟩
    · obtain ⟨h1, h⟩ := chk_some h
      cases h
      rw [Bool.and_eq_true] at h1
      obtain ⟨i, hi⟩ := Option.isSome_iff_exists.mp h1.2
      rename_i y p1 f p2
      obtain ⟨py, hi'⟩ := slotX_ok (pos := p1) (pn' := (a, oe) :: pn) (b := a) F hi
      refine okx ((pe_fldx (mg := X.mg) hz hf py rfl).wk fun σ H Q z => ?_) fun _ _ => rfl
      obtain ⟨k, G0, H0, G, ρ, s, P, ha, rx, v, e1, q⟩ := z
      refine ⟨_, here h1.1 hi' ha, rfl, ?_⟩
      have rx' := rx
      rw [O.rx] at rx'
      obtain ⟨hx, C', h4, h2, h3⟩ := rx'
      obtain ⟨C2, X2⟩ := O.all.cls _ hx
      have e2 : C2 = C' := by have := X2.g.symm.trans h4; cases this; rfl
      subst e2
      have mf := fields_mem e1
      rcases h3 with ⟨h3, _⟩ | ⟨b, fs, h3, h5, h6⟩
      · rw [h3] at mf; cases mf
      · obtain ⟨w, h7, h8⟩ := h6 _ _ e1
        exact ⟨x.cls, C2, b, fs, w, X2, h2, X2.noF _ mf, h3, P.gr.gh b _ h5, h7, q _ _ _ P (Same.refl _) h8⟩
    · obtain ⟨h1, h⟩ := chk_some h
      rw [Bool.and_eq_true] at h1
      obtain ⟨q1, h2, h⟩ := ob h
      obtain ⟨q2, h3, h⟩ := ob h
      cases h
      exact ⟨(pe_and (ih _ _ h2).1 (pe_one (ih _ _ h3).1)).wk fun _ _ _ z => sx_and hR z, fun _ => ((pw_and ((ih _ _ h2).2 h1.1) (pw_and1 ((ih _ _ h3).2 h1.2))).wk fun _ _ _ z => st_and hR z).pt⟩
    · obtain ⟨h1, h⟩ := chk_some h
      rw [Bool.and_eq_true] at h1
      obtain ⟨q1, h2, h⟩ := ob h
      obtain ⟨q2, h3, h⟩ := ob h
      cases h
      exact ⟨(pe_or (ih _ _ h2).1 (pe_one (ih _ _ h3).1)).wk fun _ _ _ z => sx_or hR z, fun _ => ((pw_or ((ih _ _ h2).2 h1.1) (pw_or1 ((ih _ _ h3).2 h1.2))).wk fun _ _ _ z => st_or hR z).pt⟩
    · obtain ⟨h1, h⟩ := chk_some h
      obtain ⟨q1, h2, h3⟩ := om h
      subst h3
      exact ⟨(pe_not (ih _ _ h2).1).wk fun _ _ _ z => sx_not z, fun _ => (pt_not ((ih _ _ h2).2 h1)).wk fun _ _ _ z => st_not z⟩
    · obtain ⟨h1, h⟩ := chk_some h
      obtain ⟨q1, h2, h⟩ := ob h
      obtain ⟨q2, h3, h⟩ := ob h
      obtain ⟨q3, h4, h⟩ := ob h
      cases h
      exact ⟨(pe_ifExp ((ih _ _ h2).2 h1) (ih _ _ h3).1 (ih _ _ h4).1).wk fun _ _ _ z => sx_ite hR z, fun z => by cases z⟩
    · obtain ⟨h1, h2⟩ := chk_some h
      obtain ⟨i, h3, h4⟩ := om h2
      subst h4
      have hu : (X.suite a ((a, oe) :: pn)).A.units + 64 < cLine := by
        have := F.room.un
        show X.A.units + 64 < cLine
        omega
      exact ⟨(pe_cmpR (cmp_eq hu) (slotX_ok F h3).1 pe_str rfl).wk fun _ _ _ z => sx_eqs z, fun _ => (pt_cmpR (cmp_eq hu) (slotX_ok F h3).1 pe_str rfl).wk fun _ _ _ z => sx_eqs (sx_val z)⟩
    · cases h
end
end CH

set_option Elab.async false
set_option linter.all false
set_option maxRecDepth 100000
set_option maxHeartbeats 4000000
/-! errors: suites, try, raise -/
namespace CH
variable {Z : St0}
open PySem PySem.Spec L2 PyProof.Rows
def SEMH (R : Par Z) (x : Exn) (cls : Value) (d : Option Addr) (o : Option Nat) (a : Addr) (h : HS) : TS := fun D σ H => ∃ k G0 H0 G ρ s, PreS k G0 H0 G H σ ρ s ∧ atO σ a o ∧ R.RX k G x cls d ∧
  ∃ v, h.val x ρ = some v ∧ ∀ w G' H', Grow k G0 H0 G' H' → DkAt k s G' H' → Rep k G' w v → D.rt w H'
theorem PreS.setUn {k : KA Z} {G0 H0 G H : Hp} {σ : L2.St} {ρ : Env1} {s : Dk} (P : PreS k G0 H0 G H σ ρ s) {i : Nat} {w : Option V} : PreS k G0 H0 G H (σ.set i w) (ρ.set i .un) s := by
  refine ⟨P.gr, P.dk, by rw [List.length_set, List.length_set]; exact P.len, fun j e h => ?_, fun j es h => ?_, fun j l es fs b n h1 h2 h3 h4 => ?_⟩
  · rcases set_get h with ⟨rfl, hl, e'⟩ | ⟨ne, h⟩
    · cases e'
    · rw [List.getElem?_set_ne ne]; exact P.val j e h
  · rcases set_get h with ⟨rfl, hl, e'⟩ | ⟨ne, h⟩
    · cases e'
    · rw [List.getElem?_set_ne ne]; exact P.own j es h
  · rcases set_get h1 with ⟨rfl, _, e'⟩ | ⟨ne, h1⟩
    · cases e'
    · rcases set_get h2 with ⟨rfl, _, e'⟩ | ⟨ne2, h2⟩
      · cases e'
      · rw [List.getElem?_set_ne ne] at h3
        rw [List.getElem?_set_ne ne2] at h4
        exact P.inj j l es fs b n h1 h2 h3 h4
section
variable {X : Cx} {R : Par Z} {E : XW} {c : Cn} {x : Exn} {cls : Value} {d : Option Addr} {a : Addr} {oe : Obj} {pn : List (Addr × Obj)} {en : Option Str} {o : Option Nat}
theorem sto_loc' {y : Str} (F : Fits X R E c) (h : c.sto y = true) : Loc X.env.scope y ∧ (X.fn y = true ∨ X.env.scope.names.lookup y = some .local) := by
  unfold Cn.sto at h
  rw [F.sc, F.fn]
  rw [Bool.or_eq_true, Bool.and_eq_true] at h
  rcases h with h | ⟨h, h2⟩
  · exact ⟨.inl (by simpa using h), .inr (by simpa using h)⟩
  · exact ⟨.inr (by simpa using h), .inl h2⟩
theorem cHS_ok (F : Fits X R E c) (O : XOk X R c) (hz : Zc cls d oe) (hf : ∃ vs, oe.data = .fields vs) (ho : cOn c en = some o) : ∀ (sts : List Stmt) (h : HS), cHS c en sts = some h →
    PSs (X.suite a ((a, oe) :: pn)) sts (SEMH R x cls d o a h) := by
  have hR := O.holds
  intro sts
  induction sts with
  | nil => intro h e; cases e
  | cons st r ih =>
    intro h e
    unfold cHS at e
    split at e
    · rename_i e0 pos heq
      cases heq
      obtain ⟨p, h1, h2⟩ := om e
      subst h2
      refine (pss_one (ps_ret (cHX_ok (x := x) F O hz hf ho 60 _ _ h1).1)).wk fun D σ H z => ?_
      obtain ⟨k, G0, H0, G, ρ, s, P, ha, rx, v, e1, q⟩ := z
      exact ⟨k, G0, H0, G, ρ, s, P, ha, rx, v, e1, fun w G' H' P' g r => q w G' H' P'.gr P'.dk r⟩
    · rename_i t e0 p1 p2 r' heq
      cases heq
      obtain ⟨hn, e⟩ := chk_some e
      obtain ⟨p, h1, e⟩ := ob e
      obtain ⟨q, h2, e⟩ := ob e
      obtain ⟨g, h3, h4⟩ := om e
      subst h4
      refine (pss_cons (ps_if ((cHX_ok (x := x) F O hz hf ho 60 _ _ h1).2 hn) (pss_one (ps_ret (cHX_ok (x := x) F O hz hf ho 60 _ _ h2).1)) pss_nil) (ih _ h3)).wk fun D σ H z => ?_
      obtain ⟨k, G0, H0, G, ρ, s, P, ha, rx, v, e1, q⟩ := z
      simp only [HS.val] at e1
      obtain ⟨b, e2, e3⟩ := ob e1
      refine sxt_step P ha rx e2 fun G1 H1 P1 g1 => ?_
      cases b with
      | true =>
        rw [if_pos rfl] at e3
        exact iteT ⟨k, G0, H0, G1, ρ, s, P1, ha, hR _ _ _ _ _ _ rx g1, v, e3, fun w G' H' P' g r => q w G' H' P'.gr P'.dk r⟩
      | false =>
        rw [if_neg Bool.false_ne_true] at e3
        exact iteF ⟨k, G0, H0, G1, ρ, s, P1, ha, hR _ _ _ _ _ _ rx g1, v, e3, q⟩
    · rename_i y px t a0 b0 p0 p1 r' heq
      cases heq
      obtain ⟨hn, e⟩ := chk_some e
      obtain ⟨i, hi, e⟩ := ob e
      obtain ⟨p, h1, e⟩ := ob e
      obtain ⟨g, h3, h4⟩ := om e
      subst h4
      rw [Bool.and_eq_true, Bool.not_eq_true'] at hn
      obtain ⟨l1, l2⟩ := sto_loc' F hn.1
      have hi' : X.N[i]? = some y := by rw [F.N]; exact idx_ok hi
      have nd : X.N.Nodup := by rw [F.N]; exact F.nd
      refine (pss_cons (ps_set (X := X.suite a ((a, oe) :: pn)) nd hi' l1 (cHX_ok (x := x) F O hz hf ho 60 _ _ h1).1 rfl l2) (ih _ h3)).wk fun D σ H z => ?_
      obtain ⟨k, G0, H0, G, ρ, s, P, ha, rx, v, e1, q⟩ := z
      simp only [HS.val] at e1
      obtain ⟨u, e2, e3⟩ := ob e1
      refine sx_step P ha rx e2 fun w1 G1 H1 P1 g1 r1 => ?_
      refine ⟨k, G0, H0, G1, _, s, P1.set r1, fun j hj => ?_, hR _ _ _ _ _ _ rx g1, v, e3, q⟩
      have ne : i ≠ j := by
        rintro rfl
        cases en with
        | none => cases ho; cases hj
        | some n =>
          unfold cOn at ho
          obtain ⟨_, h4⟩ := chk_some ho
          obtain ⟨i2, h5, h6⟩ := om h4
          subst h6
          cases hj
          have := idx_ok h5
          rw [idx_ok hi] at this
          cases this
          simp at hn
      rw [List.getElem?_set_ne ne]
      exact ha j hj
    · cases e
theorem cHS_ne {en : Option Str} {sts : List Stmt} {h : HS} (e : cHS c en sts = some h) : ∃ b r, sts = b :: r := by
  cases sts with
  | nil => cases e
  | cons b r => exact ⟨b, r, rfl⟩
/-- the clauses as the rule of try has them -/
inductive HdsL (X : Cx) (R : Par Z) : List Hd → List Cl → Prop
  | nil : HdsL X R [] []
  | cons {h : Hd} {C : Addr} {hs : List Hd} {l : List Cl} (hC : X.mg h.cls = some (.ref C)) (r : HdsL X R hs l) : HdsL X R (h :: hs) ((.ref C, h.as_, fun a cls d D σ H => ∃ x, SEMH R x cls d h.as_ a h.body D σ H) :: l)
theorem cHds_ok (F : Fits X R E c) (O : XOk X R c) : ∀ (hds : List ExceptHandler) (hs : List Hd), cHds c hds = some hs → ∃ l, HdsG X hds l ∧ HdsL X R hs l ∧ ∀ h ∈ hs, h.cls ∈ c.xs := by
  intro hds
  induction hds with
  | nil =>
    intro hs e
    cases e
    exact ⟨[], .nil, .nil, fun h z => by cases z⟩
  | cons hd r ih =>
    intro hs e
    unfold cHds at e
    split at e
    · rename_i heq
      cases heq
    · rename_i y np on body pos' r' heq
      cases heq
      obtain ⟨hn, e⟩ := chk_some e
      obtain ⟨o, ho, e⟩ := ob e
      obtain ⟨g, hg, e⟩ := ob e
      obtain ⟨gs, hgs, h4⟩ := om e
      subst h4
      simp only [Bool.and_eq_true, Bool.not_eq_true'] at hn
      obtain ⟨⟨n1, n2⟩, n3⟩ := hn
      have n3 : y ∈ c.xs := by simpa using n3
      obtain ⟨l, l1, l2, l3⟩ := ih _ hgs
      obtain ⟨C, XC⟩ := O.all.cls y n3
      obtain ⟨b₀, suite, eb⟩ := cHS_ne hg
      have hc : Names X y (.ref C) := ⟨glb_ok F n1, n2, .inl XC.g⟩
      have hsu : ∀ (a : Addr) (oe : Obj) (cls : Value) (d : Option Addr) (pn : List (Addr × Obj)), Zc cls d oe → (∃ vs, oe.data = .fields vs) → PSs (X.suite a ((a, oe) :: pn)) (b₀ :: suite) (fun D σ H => ∃ x, SEMH R x cls d o a g D σ H) := fun a oe cls d pn hz hf => by
        rw [← eb]
        exact ⟨fun pins s σ H D I ⟨x, z⟩ => (cHS_ok (x := x) F O hz hf ho _ _ hg).run pins s σ H D I z⟩
      refine ⟨_, ?_, .cons XC.g l2, fun h hm => ?_⟩
      · rw [eb]
        cases on with
        | none =>
          cases ho
          exact .bare hc hsu l1
        | some n =>
          have ho' := ho
          unfold cOn at ho'
          obtain ⟨k1, h4⟩ := chk_some ho'
          obtain ⟨i, h5, h6⟩ := om h4
          subst h6
          simp only [Bool.and_eq_true] at k1
          exact .name (by rw [F.N]; exact F.nd) (by rw [F.N]; exact idx_ok h5) (by show X.env.scope.names.lookup n = some .local; rw [F.sc]; simpa using k1.1.1) hc hsu l1
      · rcases List.mem_cons.mp hm with e | hm
        · rw [e]; exact n3
        · exact l3 h hm
    · cases e
theorem catch_mix (O : XOk X R c) {k : KA Z} {G0 H0 : Hp} {D : Ends} {s : Dk} {hs : List Hd} {l : List Cl} (hl : HdsL X R hs l) : (∀ h ∈ hs, h.cls ∈ c.xs) → ∀ {ρ : Env1} {σ : L2.St} {cls : Value} {d : Option Addr} {G H : Hp}, AtS R E k G0 H0 (catchS hs x ρ s) D → PreS k G0 H0 G H σ ρ s → R.RX k G x cls d →
    wMix X.K (fun c d σ H => E σ c d H) D l cls d σ H := by
  induction hl with
  | nil => exact fun _ {ρ σ cls d G H} h P rx => h σ cls d G H P rx
  | @cons hd C hs l hC r ih =>
    intro hm ρ σ cls d G H h P rx
    have rx' := rx
    rw [O.rx] at rx'
    obtain ⟨hx, C', h1, h2, h3⟩ := rx'
    refine ⟨exIs x.cls hd.cls, by rw [h2]; exact (O.all.kit hx (hm _ List.mem_cons_self) h1 hC).2, fun hb a ha => ?_, fun hb => ?_⟩
    · unfold catchS at h
      rw [if_pos hb] at h
      split at h
      · rename_i v hv
        obtain ⟨ρ', hr, hv⟩ := ob hv
        have ends : (unD D hd.as_).rt = D.rt := by cases hd.as_ <;> rfl
        cases ea : hd.as_ with
        | none =>
          have hr : some ρ = some ρ' := by rw [ea] at hr; exact hr
          have hr := Option.some.inj hr
          subst hr
          have h0 : atO σ a none := fun i hi => nomatch hi
          exact ⟨x, k, G0, H0, G, _, s, P, h0, rx, v, hv, h⟩
        | some i =>
          have hr : (if i < ρ.length then some (ρ.set i .un) else none) = some ρ' := by rw [ea] at hr; exact hr
          split at hr
          · rename_i hlt
            have hr := Option.some.inj hr
            subst hr
            have h0 : atO (σ.set i (some (.ref a))) a (some i) := fun j hj => by
              have e := Option.some.inj hj
              subst e
              exact set_here (by rw [← P.len]; exact hlt)
            exact ⟨x, k, G0, H0, G, _, s, P.setUn, h0, rx, v, hv, h⟩
          · cases hr
      · exact h.elim
    · refine ih (fun h z => hm h (List.mem_cons_of_mem _ z)) ?_ P rx
      unfold catchS at h
      rw [if_neg (by rw [hb]; exact Bool.false_ne_true)] at h
      exact h
end
end CH

set_option Elab.async false
set_option linter.all false
set_option maxRecDepth 100000
set_option maxHeartbeats 4000000
/-! errors: made, raised; try -/
namespace CH
variable {Z : St0}
open PySem PySem.Spec L2 PyProof.Rows
section
variable {X : Cx} {R : Par Z} {E : XW} {c : Cn} {n : Str} {C : Addr} {p pos : Pos}
theorem pmk_x0 (hX : Raises X (.ref C)) (kC : PySem.W.keepIn X.K (.ref C) = true) (q : PySem.W.excIn X.K C [.type "ValueError", .type "Exception", .type "BaseException", .type "object"] "ValueError.__new__" = true) (gC : X.mg n = some (.ref C)) (hg : Gl X n) (hdb : (n == ("__debug__" : Str)) = false) :
    PMk X (.Call (.Name n p) [] [] pos) (fun _ H Q => Q (.ref C) none H) := by
  intro pins s σ H Q I h
  refine wpAny_Call_Name_kw (ld_glob I hg gC ?_ hdb)
  refine PySem.W.callWith_K0 I.kIn kC ?_
  show wpAny _ _ (call (.ref C) []) _ _ _
  obtain ⟨bm, N, nm, qn, bs, hdct, sn, sub, ab, col, dd, k0, k1, k2, k3, k5, mN, hC, hN, hni, T⟩ := exc_obj I.kIn q
  refine wpAny_call_exc_subT F.excBase_ValueError T hC hN hni (fun h' e hm => ?_) (Nat.zero_le _)
  exact mk_of I hm hX h (I.hok.gone hm.new)
theorem sema_mono {ps : List PX} {σ : L2.St} {H : Hp} {Q Q' : List V → Hp → Prop} (h : SEMA R E ps σ H Q) (q : ∀ vs H1, Q vs H1 → Q' vs H1) : SEMA R E ps σ H Q' := by
  obtain ⟨k, G, ρ, s, P, h⟩ := h
  exact ⟨k, G, ρ, s, P, h.imp (.refl P.sub) fun a s _ z vs G' H' g dk r => q _ _ (z vs G' H' g dk r)⟩
/-- the arguments of a raise -/
theorem raise_args {ps : List PX} {D : Ends} {σ : L2.St} {H : Hp} (h : SEM1 R E (.raise n ps) D σ H) : SEMA R E ps σ H fun vs H1 => ∃ (k : KA Z), ∃ G s ds, SameT Z G H1 ∧ DkAt k s G H1 ∧ Reps k G vs ds ∧ ds.length = (exFld n).length ∧ ∀ c d G2 H2, Grow k G H1 G2 H2 → DkAt k s G2 H2 → R.RX k G2 ⟨n, ds⟩ c d → E σ c d H2 := by
  obtain ⟨k, G0, H0, G, ρ, s, P, h⟩ := h
  simp only [run1] at h
  have mf : ∀ (n : Nat) (ρ : Env1), mixF (fun _ => true) n ρ = frz ρ := fun n ρ => by
    induction ρ generalizing n with
    | nil => rfl
    | cons x r ih => rw [mixF, ih]; rfl
  have hlt : ∀ i, (decide (i < ρ.length)) = true → i < ρ.length := fun i h => by simpa using h
  have em : mixF (fun i => decide (i < ρ.length)) 0 ρ = frz ρ := by
    rw [← mf 0 ρ, ← mixF_cut (e := fun _ => true) (m := ρ.length) (by omega)]
    congr 1
    funext i
    simp
  have ef : fixF (fun i => decide (i < ρ.length)) 0 ρ = fixF (fun _ => true) 0 ρ := by
    rw [← fixF_cut (e := fun _ => true) (m := ρ.length) (by omega)]
    congr 1
    funext i
    simp
  have P' : PreS k G0 H0 G H (σ ++ []) (ρ ++ []) s := by simpa using P
  have pre := P'.pre P.len hlt
  rw [em] at pre
  refine ⟨k, _, frz ρ, s, pre, ?_⟩
  cases e : evs R.F ps (frz ρ) s with
  | no => rw [e] at h; exact h
  | ex x s1 =>
    rw [e] at h
    rw [← ef] at h
    exact fun c d G1 H1 g dk rx => h σ c d G1 H1 (by simpa using P'.still hlt g dk) rx
  | ok ds s1 =>
    rw [e] at h
    simp only [Out.thenS] at h
    split at h
    · rename_i hl
      intro vs G1 H1 g dk rb
      have P1 : PreS k G0 H0 G1 H1 σ (fixF (fun i => decide (i < ρ.length)) 0 ρ) s1 := by simpa using P'.still hlt g dk
      refine ⟨k, G1, s1, ds, P1.gr.gh, P1.dk, rb, hl, fun c d G2 H2 g2 dk2 rx => ?_⟩
      rw [← ef] at h
      exact h σ c d G2 H2 (P1.grow g2 dk2) rx
    · exact h.elim
theorem rs_raise0 {D : Ends} {σ : L2.St} {H : Hp} (O : XOk X R c) (hx : n ∈ c.xs) (gC : X.mg n = some (.ref C)) (he : exFld n = []) (h : SEM1 R E (.raise n []) D σ H) : E σ (.ref C) none H := by
  obtain ⟨k, G, s, ds, g, dk, r, hl, q⟩ := rd_nil (raise_args h)
  refine q _ _ G H (.refl g) dk ?_
  rw [O.rx]
  exact ⟨hx, C, gC, rfl, .inl ⟨he, rfl⟩⟩
theorem fields_rev {k : KA Z} {G : Hp} {vs : List V} {ds : List D} (r : Reps k G vs ds) (hl : ds.length = (exFld n).length) : ∀ f v, ((exFld n).zip ds).lookup f = some v → ∃ w, ((exFld n).zip vs).reverse.lookup f = some w ∧ Rep k G w v := by
  unfold exFld at hl ⊢
  split at hl
  · rename_i h
    rw [if_pos h]
    match ds, vs, r, hl with
    | [d], [w], .cons r1 .nil, _ =>
      intro f v e
      simp only [List.zip_cons_cons, List.zip_nil_right, List.reverse_singleton, List.lookup] at e ⊢
      split at e
      · cases e; exact ⟨w, rfl, r1⟩
      · cases e
  · rename_i h
    rw [if_neg h]
    split at hl
    · rename_i h2
      rw [if_pos h2]
      match ds, vs, r, hl with
      | [d1, d2], [w1, w2], .cons r1 (.cons r2 .nil), _ =>
        intro f v e
        simp only [List.zip_cons_cons, List.zip_nil_right, List.reverse_cons, List.reverse_nil, List.nil_append, List.singleton_append, List.lookup] at e ⊢
        split at e
        · rename_i hf
          cases e
          have : f = ("line" : Str) := by simpa using hf
          subst this
          exact ⟨w1, by rfl, r1⟩
        · rename_i hf
          split at e
          · cases e
            exact ⟨w2, rfl, r2⟩
          · cases e
    · rename_i h2
      rw [if_neg h2]
      intro f v e
      cases e
theorem rs_raise1 {ps : List PX} {D : Ends} {σ : L2.St} {H : Hp} (O : XOk X R c) (hx : n ∈ c.xs) (gC : X.mg n = some (.ref C)) (he : exFld n ≠ []) (T : OexC X.K C) (noF : ∀ f ∈ exFld n, PySem.W.findIn X.K (.ref C) f = some none) (h : SEM1 R E (.raise n ps) D σ H) :
    tMkO C (spIni X.K n) [] (SEMA R E ps) σ H (fun cls d H' => E σ cls d H') := by
  have h1 := raise_args h
  refine sema_mono h1 fun vs H1 hh => ?_
  obtain ⟨k, G, s, ds, g, dk, r, hl, q⟩ := hh
  have lv : vs.length = (exFld n).length := r.length.trans hl
  have l2 := exFld_le n
  refine ⟨by omega, fun a ha => ⟨a, C, vs, by rw [List.append_nil], lv, upd_same, T, noF, fun dx H' ne hdx h3 h4 h5 => ⟨rfl, dx, _, h3, h4, ?_, ?_⟩⟩⟩
  · rw [upd_ne ne] at hdx
    exact hdx
  · rw [upd_ne ne] at hdx
    have e : upd (del H' a) dx (.xd ((exFld n).zip vs).reverse) = upd H1 dx (.xd ((exFld n).zip vs).reverse) := by
      funext b
      by_cases h6 : b = dx
      · rw [h6, upd_same, upd_same]
      · rw [upd_ne h6, upd_ne h6]
        by_cases h7 : b = a
        · rw [h7, del_same, ha]
        · rw [del_ne h7, h5 b h7 h6, upd_ne h7]
    rw [e]
    have gb : Grow k G H1 (upd G dx (.xd ((exFld n).zip vs).reverse)) (upd H1 dx (.xd ((exFld n).zip vs).reverse)) := Grow.both g hdx
    refine q (.ref C) (some dx) _ _ gb (dk.keep gb (by rw [upd_ne (dk.ne hdx)])) ?_
    rw [O.rx]
    exact ⟨hx, C, gC, rfl, .inr ⟨dx, _, rfl, upd_same, fun f v hv => let ⟨w, e1, e2⟩ := fields_rev (r.mono (upd_same_of (none_of_same g hdx))) hl f v hv; ⟨w, e1, e2⟩⟩⟩
theorem rs_try {b : List PSm} {hs : List Hd} {l : List Cl} {D : Ends} {σ : L2.St} {H : Hp} (O : XOk X R c) (hl : HdsL X R hs l) (hm : ∀ h ∈ hs, h.cls ∈ c.xs) (h : SEM1 R E (.try_ b hs) D σ H) :
    SEMS R (WE (wMix X.K (fun c d σ H => E σ c d H) D l)) b D σ H := by
  obtain ⟨k, G0, H0, G, ρ, s, P, h⟩ := h
  refine ⟨k, G0, H0, G, ρ, s, P, ?_⟩
  simp only [run1] at h
  cases e : runs R.F b ρ s with
  | no => rw [e] at h; exact h
  | nx ρ1 s1 => rw [e] at h; exact h
  | ct ρ1 s1 => rw [e] at h; exact h
  | rt d s1 => rw [e] at h; exact h
  | ex x ρ1 s1 =>
    rw [e] at h
    exact fun σ' c' d G' H' P' rx => catch_mix O hl hm h P' rx
end
end CH

set_option Elab.async false
set_option linter.all false
set_option maxRecDepth 100000
set_option maxHeartbeats 4000000
/-! the translation of statements -/
namespace CH
variable {Z : St0}
open PySem L2 PyProof.Rows
abbrev cX : Cn → Expr → Option PX := cE 60
/-- a name's slot -/
def cSlot (c : Cn) (x : Str) : Option Nat := chk (c.vis x && !(x == ("__debug__" : Str)) && !(x == ("__classdict__" : Str))) (c.N.idxOf? x)
def cMeth (c : Cn) (x m : Str) (ap : Pos) (es : List Expr) (cp : Pos) : Option PSm := chk (ap.endLine == cp.line) ((cSlot c x).bind fun i => match es with
  | [] => chk (m == ("pop" : Str)) (some (.pop i))
  | [e] => if m == ("append" : Str) then chk (noStar e) ((cX c e).map (.app i)) else if m == ("extend" : Str) then chk (noStar e) ((cX c e).map (.ext i)) else none
  | _ => none)
/-- whether a comprehension takes the name's place at once -/
def swB (c : Cn) (x : Str) (px : Pos) : Expr → Option Bool
  | .ListComp _ _ scope lp => some ((c.sc.names.lookup x == some .local) && px.line == lp.line && !(scope.names.any fun (n, k) => n == x && (k == .local || k == .cell)))
  | .SetComp .. => none
  | .DictComp .. => none
  | _ => some false
def cAsg (c : Cn) (mu : List Nat) (x : Str) (px : Pos) (e : Expr) : Option PSm := chk (c.sto x && (swB c x px e).isSome) ((c.N.idxOf? x).bind fun i => (cX c e).map fun p => if mu.contains i && p.freshy then .own i p else .set i p)
def noComp : Expr → Bool
  | .ListComp .. => false
  | .SetComp .. => false
  | .DictComp .. => false
  | _ => true
def cDset (c : Cn) (x : Str) (j : Int) (e : Expr) : Option PSm := chk (noComp e) ((cSlot c x).bind fun i => (cX c e).map (.dset i j))
/-- a plain place in a list -/
def cIx (c : Cn) : Expr → Option PX
  | .Name x _ => (cSlot c x).map .var
  | .Constant (.int n) _ _ => some (.cst (.int n))
  | .UnaryOp .USub (.Constant (.int n) _ _) _ => some (.neg (.cst (.int n)))
  | _ => none
def cLset (c : Cn) (mu : List Nat) (x : Str) (ix e : Expr) : Option PSm := chk (noComp e) ((cSlot c x).bind fun i => (cIx c ix).bind fun j => chk (mu.contains i) ((cX c e).map (.lset i j)))
def noTup : Expr → Bool
  | .Tuple .. => false
  | _ => true
def cUnp (c : Cn) (ts : List Expr) (e : Expr) : Option PSm := chk (noTup e) ((mapO (tgName c.N) ts).bind fun l => chk (l.all fun p => c.sto p.1) ((cX c e).map (.unp (l.map (·.2)))))
def parT (mu : List Nat) : List (Str × Nat) → List PX → List (Nat × Bool)
  | t :: ts, p :: ps => (t.2, mu.contains t.2 && p.freshy) :: parT mu ts ps
  | _, _ => []
def cPar (c : Cn) (mu : List Nat) (ts vs : List Expr) : Option PSm := (mapO (tgName c.N) ts).bind fun l => (mapO (cX c) vs).bind fun ps => (swS c.sc ts vs).bind fun r =>
  chk ((l.all fun p => c.sto p.1) && decide (l.length = ps.length) && decide (l.length ≤ 1000) && vs.all noStar && (match r with
    | none => true
    | some ns => decide (ns = l.map (·.1)) && decide (l.map (·.2)).Nodup && (l.all fun p => decide (c.sc.names.lookup p.1 = some .local)) && (l.length == 2 || l.length == 3))) (some (.par (parT mu l ps) ps))
def cParP (c : Cn) (mu : List Nat) (ts vs : List Expr) : Option PSm := match vs with
  | .Call (.Attribute (.Name x _) m ap) [] [] cp :: vr => chk (ap.endLine == cp.line && m == ("pop" : Str)) ((cSlot c x).bind fun j => (mapO (tgName c.N) ts).bind fun l => (mapO (cX c) vr).bind fun ps => (swS c.sc ts vs).bind fun r => match l, r with
    | [t1, t2, t3], some ns => chk (decide (ps.length = 2) && vr.all noStar && decide (ns = [t1.1, t2.1, t3.1]) && decide [t1.2, t2.2, t3.2].Nodup && ([t1, t2, t3].all fun p => decide (c.sc.names.lookup p.1 = some .local))) (some (.parP j t1.2 (parT mu [t2, t3] ps) ps))
    | _, _ => none)
  | _ => none
def cS : Nat → Cn → List Nat → Stmt → Option PSm
  | 0, _, _, _ => none
  | n + 1, c, mu, st => match st with
    | .Return none _ => some .retN
    | .Return (some e) _ => (cX c e).map .ret
    | .Pass _ => some .pass
    | .Continue _ => some .cont
    | .Expr (.Constant (.str _) _ _) _ => some .pass
    | .Expr (.Call (.Attribute (.Name x _) m ap) es [] cp) _ => cMeth c x m ap es cp
    | .Expr (.Call (.Name x px) es ks cp) _ => (cX c (.Call (.Name x px) es ks cp)).map .drop
    | .Assign [.Name x px] e _ => cAsg c mu x px e
    | .Assign [.Subscript (.Name x _) ix _] e _ => match cLset c mu x ix e with
      | some r => some r
      | none => match ix with
        | .Constant (.int j) _ _ => cDset c x j e
        | _ => none
    | .Assign [.Tuple ts _ _] (.Tuple vs _ _) _ => match cPar c mu ts vs with
      | some r => some r
      | none => cParP c mu ts vs
    | .Assign [.Tuple ts _ _] e _ => cUnp c ts e
    | .If t a b _ => chk (noIte t) ((cX c t).bind fun p => (mapO (cS n c mu) a).bind fun q => (mapO (cS n c mu) b).bind fun r => some (.if_ p q r))
    | .While t b [] _ => chk (noIte t) ((cX c t).bind fun p => (mapO (cS n c mu) b).bind fun q => some (.while_ p q))
    | .Raise (some (.Call (.Name x _) es [] _)) none _ => chk (c.glb x && !(x == ("__debug__" : Str)) && c.xs.contains x && !(x == ("HeapError" : Str)) && es.all noStar && (es.length == (exFld x).length)) ((mapO (cX c) es).map (.raise x))
    | .Try b hds [] [] _ => chk (!hds.isEmpty) ((mapO (cS n c mu) b).bind fun q => (cHds c hds).bind fun h => some (.try_ q h))
    | .For tg it b [] _ => chk (noSet it) ((cTg c tg).bind fun t => (cIt cX c tg it).bind fun i => (mapO (cS n c mu) b).bind fun q => some (.for_ t.1 i q))
    | _ => none
structure FitS (X : Cx) (R : Par Z) (E : XW) (c : Cn) : Prop where
  fit : Fits X R E c
  kd : c.sc.kind = .function
  po : PassesOwn (model X.prog X.w) X.A X.env X.xe
  ok : XOk X R c
  made : ∀ n ∈ c.xs, n ≠ ("HeapError" : Str) → ∃ C, X.mg n = some (.ref C) ∧ XMake X.prog X.w X.K X.mg X.base n C
  rm : Room 2 X.A
  hs : X.stack = X.env :: X.outer
  hf : X.env.frame = some X.env.locals
section
variable {X : Cx} {R : Par Z} {E : XW} {c : Cn}
theorem row_ok (F : Fits X R E c) : ∀ {es : List Expr} {ps : List PX}, es.all noStar = true → mapO (cX c) es = some ps → PA X es (tRow R E ps)
  | [], ps, _, h => by
    cases h
    exact pa_nil
  | e :: r, ps, hs, h => by
    rw [List.all_cons, Bool.and_eq_true] at hs
    obtain ⟨p, h1, h⟩ := ob h
    obtain ⟨qs, h2, h⟩ := ob h
    cases h
    exact pa_cons (cE_ok R 60 X E c e p F h1).1 (row_ok F hs.2 h2) (star1 hs.1 _ _)
theorem slot_ok {x : Str} {i : Nat} {pos : Pos} (F : Fits X R E c) (h : cSlot c x = some i) : PE X (.Name x pos) (tVar i) := by
  obtain ⟨h1, h2⟩ := chk_some h
  simp only [Bool.and_eq_true, Bool.not_eq_true'] at h1
  exact pe_var (by rw [F.N]; exact idx_ok h2) (vis_ok F h1.1.1) h1.1.2 h1.2
theorem meth_ok {x m : Str} {xp ap cp pos : Pos} {es : List Expr} {r : PSm} (F : Fits X R E c) (h : cMeth c x m ap es cp = some r) : PS X (.Expr (.Call (.Attribute (.Name x xp) m ap) es [] cp) pos) (SEM1 R E r) := by
  unfold cMeth at h
  obtain ⟨hl, h'⟩ := chk_some h
  clear h
  obtain ⟨i, hi, h⟩ := ob h'
  clear h'
  have hx := slot_ok (pos := xp) F hi
  have one : ∀ {e : Expr} {b : Bool}, noStar e = true → ((backTo cp (starEach [e] X.env)).all (fun x => !x.1) && (backToKw cp (keywordEach [] X.env)).all (fun x => x.1.isSome) && decide ([e].length + ([] : List Keyword).length + (if ([] : List Keyword).isEmpty then 0 else 1) < 30)) = true := fun {e b} hs => by
    rw [star1 hs]; rfl
  split at h
  · obtain ⟨h1, h2⟩ := chk_some h
    cases h2
    clear h
    have hm := eq_str h1
    subst hm
    exact (ps_expr (pe_bm0 PySem.F.plainAttrs_list PySem.F.slot_list_pop PySem.F.type_list_pop mt_pop hx rfl hl) rfl).wk fun _ _ _ z => rs_pop z
  · split at h
    · rename_i h1
      obtain ⟨hs, h2⟩ := chk_some h
      obtain ⟨p, h3, h4⟩ := om h2
      clear h h2
      subst h4
      have hm := eq_str h1
      subst hm
      exact (ps_expr (pe_bm PySem.F.plainAttrs_list PySem.F.slot_list_append PySem.F.type_list_append mt_append hx (pa_cons (cE_ok R 60 X E c _ p F h3).1 pa_nil (star1 hs _ _)) rfl (one (b := true) hs) hl (star1 hs _ _) rfl) rfl).wk fun _ _ _ z => rs_app z
    · split at h
      · rename_i h1
        obtain ⟨hs, h2⟩ := chk_some h
        obtain ⟨p, h3, h4⟩ := om h2
        clear h h2
        subst h4
        have hm := eq_str h1
        subst hm
        exact (ps_expr (pe_bm PySem.F.plainAttrs_list PySem.F.slot_list_extend PySem.F.type_list_extend mt_extend hx (pa_cons (cE_ok R 60 X E c _ p F h3).1 pa_nil (star1 hs _ _)) rfl (one (b := true) hs) hl (star1 hs _ _) rfl) rfl).wk fun _ _ _ z => rs_ext z
      · cases h
  · cases h
theorem sto_loc {x : Str} (F : Fits X R E c) (h : c.sto x = true) : Loc X.env.scope x ∧ (X.fn x = true ∨ X.env.scope.names.lookup x = some .local) := by
  simp only [Cn.sto, Bool.or_eq_true, Bool.and_eq_true, decide_eq_true_eq] at h
  rw [F.sc, F.fn]
  rcases h with h | ⟨h, h'⟩
  · exact ⟨.inl h, .inr h⟩
  · exact ⟨.inr h, .inl h'⟩
theorem rs_asg {mu : Bool} {i : Nat} {p : PX} {D : Ends} {σ : L2.St} {H : Hp} (h : SEM1 R E (if mu = true then .own i p else .set i p) D σ H) : tAsg (SEM R E p) (gName i) D σ H := by
  cases mu with
  | true => exact rs_own h
  | false => exact rs_set h
theorem asg_ok {mu : List Nat} {x : Str} {px pos : Pos} {e : Expr} {r : PSm} (F : FitS X R E c) (h : cAsg c mu x px e = some r) : PS X (.Assign [.Name x px] e pos) (SEM1 R E r) := by
  unfold cAsg at h
  obtain ⟨h1, h'⟩ := chk_some h
  clear h
  obtain ⟨i, hi, h2⟩ := ob h'
  obtain ⟨p, hp, h3⟩ := om h2
  clear h' h2
  subst h3
  rw [Bool.and_eq_true] at h1
  obtain ⟨l1, l2⟩ := sto_loc F.fit h1.1
  have nd : X.N.Nodup := by rw [F.fit.N]; exact F.fit.nd
  have hi' : X.N[i]? = some x := by rw [F.fit.N]; exact idx_ok hi
  have plain : swapsWith e (some (.Name x px)) pos.line X.env = pure false → PS X (.Assign [.Name x px] e pos) (SEM1 R E (if (mu.contains i && p.freshy) = true then .own i p else .set i p)) := fun hs =>
    (ps_set nd hi' l1 (cE_ok R 60 X E c e p F.fit hp).1 hs l2).wk fun _ _ _ z => rs_asg z
  have hk : X.env.scope.kind = .function := by rw [F.fit.sc]; exact F.kd
  cases e with
  | ListComp elt gs scope lp =>
    have ky : (X.env.blockKind == .function && X.env.kindOf x == some .local && px.line == lp.line && !(scope.names.any fun (n, k) => n == x && (k == .local || k == .cell))) = ((c.sc.names.lookup x == some .local) && px.line == lp.line && !(scope.names.any fun (n, k) => n == x && (k == .local || k == .cell))) := by
      have hb : X.env.blockKind = .function := by unfold Env.blockKind; rw [hk]; rfl
      rw [hb]
      show (true && X.env.scope.names.lookup x == some .local && _ && _) = _
      rw [F.fit.sc, Bool.true_and]
    have sw : swapsWith (.ListComp elt gs scope lp) (some (.Name x px)) pos.line X.env = pure (X.env.blockKind == .function && X.env.kindOf x == some .local && px.line == lp.line && !(scope.names.any fun (n, k) => n == x && (k == .local || k == .cell))) := rfl
    cases hsw : ((c.sc.names.lookup x == some .local) && px.line == lp.line && !(scope.names.any fun (n, k) => n == x && (k == .local || k == .cell))) with
    | false => exact plain (by rw [sw, ky, hsw])
    | true =>
      have hloc : X.env.scope.names.lookup x = some .local := by
        rw [F.fit.sc]
        simp only [Bool.and_eq_true, beq_iff_eq] at hsw
        exact hsw.1.1
      have hp' : cLc (cE 59) c elt scope gs = some p := hp
      exact ((lc_ok (cE_ok R 59) F.fit hp').2 hi' hloc (by rw [sw, ky, hsw])).wk fun _ _ _ z => rs_asg z
  | SetComp => cases h1.2
  | DictComp => cases h1.2
  | _ => exact plain rfl
theorem dset_ok {x : Str} {xp pos cp sp : Pos} {j : Int} {kk : Nat} {e : Expr} {r : PSm} (F : FitS X R E c) (h : cDset c x j e = some r) : PS X (.Assign [.Subscript (.Name x xp) (.Constant (.int j) kk cp) sp] e pos) (SEM1 R E r) := by
  unfold cDset at h
  obtain ⟨h0, h'⟩ := chk_some h
  clear h
  obtain ⟨i, hi, h2⟩ := ob h'
  obtain ⟨p, hp, h3⟩ := om h2
  clear h' h2
  subst h3
  refine (ps_asg (cE_ok R 60 X E c e p F.fit hp).1 (pg_sub (slot_ok F.fit hi) pe_int set_list) ?_ ?_ rfl).wk fun _ _ _ z => rs_dset z
  · cases e <;> first | rfl | cases h0
  · cases e <;> rfl
theorem ix_ok2 {ix : Expr} {j : PX} (F : Fits X R E c) (h : cIx c ix = some j) : PE X ix (tIxP j) := by
  unfold cIx at h
  split at h
  · obtain ⟨i, h1, h2⟩ := om h
    subst h2
    exact slot_ok F h1
  · cases h
    exact pe_int
  · rename_i n _ _ _
    cases h
    show PE X _ (tUn (rU fun i => .int (-i)) (tC (.int n)))
    exact pe_un un_neg pe_int
  · cases h
theorem lset_ok {mu : List Nat} {x : Str} {xp pos sp : Pos} {ix e : Expr} {r : PSm} (F : FitS X R E c) (h : cLset c mu x ix e = some r) : PS X (.Assign [.Subscript (.Name x xp) ix sp] e pos) (SEM1 R E r) := by
  unfold cLset at h
  obtain ⟨h0, h'⟩ := chk_some h
  clear h
  obtain ⟨i, hi, h2⟩ := ob h'
  obtain ⟨j, hj, h3⟩ := ob h2
  obtain ⟨_, h4⟩ := chk_some h3
  obtain ⟨p, hp, h5⟩ := om h4
  clear h' h2 h3 h4
  subst h5
  have hix := ix_ok2 F.fit hj
  refine (ps_asg (cE_ok R 60 X E c e p F.fit hp).1 (pg_sub (slot_ok F.fit hi) hix set_list ?_) ?_ ?_ rfl).wk fun _ _ _ z => rs_lset z
  · intro v
    unfold cIx at hj
    split at hj
    · rfl
    · rfl
    · rfl
    · cases hj
  · cases e <;> first | rfl | cases h0
  · cases e <;> rfl
theorem unp_ok {ts : List Expr} {k : Nat} {pt pos : Pos} {e : Expr} {r : PSm} (F : FitS X R E c) (h : cUnp c ts e = some r) : PS X (.Assign [.Tuple ts k pt] e pos) (SEM1 R E r) := by
  unfold cUnp at h
  obtain ⟨h1, h'⟩ := chk_some h
  clear h
  obtain ⟨l, hl, h2⟩ := ob h'
  obtain ⟨hs, h3⟩ := chk_some h2
  obtain ⟨p, hp, h4⟩ := om h3
  clear h' h2 h3
  subst h4
  obtain ⟨z1, z2, z3⟩ := names_ok F.fit hl hs
  refine (ps_asg (cE_ok R 60 X E c e p F.fit hp).1 (pg_un (is := l.map (·.2)) (by rw [List.length_map]; exact pg_tup F.fit.calm z1 z2 z3) (by rw [List.length_map]; exact pg_unl F.fit.calm z1 z2 z3)) ?_ ?_ rfl).wk fun _ _ _ z => ?_
  · cases e <;> rfl
  · cases e <;> first | rfl | cases h1
  · exact rs_unp (K := X.K) z
theorem parT_len {mu : List Nat} : ∀ {l : List (Str × Nat)} {ps : List PX}, l.length = ps.length → (parT mu l ps).length = l.length ∧ (parT mu l ps).map (·.1) = l.map (·.2)
  | [], [], _ => ⟨rfl, rfl⟩
  | t :: l, p :: ps, h => by
    obtain ⟨a, b⟩ := parT_len (mu := mu) (Nat.succ.inj h)
    exact ⟨congrArg (· + 1) a, by rw [parT, List.map_cons, List.map_cons, b]⟩
  | [], _ :: _, h => by cases h
  | _ :: _, [], h => by cases h
theorem tgNames : ∀ {N : List Str} {ts : List Expr} {l : List (Str × Nat)}, mapO (tgName N) ts = some l → ∃ ps : List Pos, ps.length = l.length ∧ ts = (l.zip ps).map fun x => .Name x.1.1 x.2
  | _, [], l, h => by cases h; exact ⟨[], rfl, rfl⟩
  | N, e :: r, l, h => by
    obtain ⟨⟨x, i⟩, h1, h2⟩ := ob h
    obtain ⟨l', h3, h4⟩ := ob h2
    cases h4
    obtain ⟨ps, h5, h6⟩ := tgNames h3
    unfold tgName at h1
    split at h1
    · rename_i y py
      obtain ⟨j, _, h7⟩ := om h1
      cases h7
      exact ⟨py :: ps, congrArg (· + 1) h5, by rw [h6]; rfl⟩
    · cases h1
theorem idx_all : ∀ {N : List Str} {ts : List Expr} {l : List (Str × Nat)}, mapO (tgName N) ts = some l → ∀ p ∈ l, N[p.2]? = some p.1
  | _, [], l, h, p, hp => by cases h; cases hp
  | N, e :: r, l, h, p, hp => by
    obtain ⟨⟨x, i⟩, h1, h2⟩ := ob h
    obtain ⟨l', h3, h4⟩ := ob h2
    cases h4
    rcases List.mem_cons.mp hp with rfl | hp
    · unfold tgName at h1
      split at h1
      · obtain ⟨j, h6, h7⟩ := om h1
        cases h7
        exact idx_ok h6
      · cases h1
    · exact idx_all h3 p hp
theorem par_ok {mu : List Nat} {ts vs : List Expr} {k k2 : Nat} {pt p2 pos : Pos} {r : PSm} (F : FitS X R E c) (h : cPar c mu ts vs = some r) : PS X (.Assign [.Tuple ts k pt] (.Tuple vs k2 p2) pos) (SEM1 R E r) := by
  unfold cPar at h
  obtain ⟨l, hl, h2⟩ := ob h
  obtain ⟨ps, hps, h3⟩ := ob h2
  obtain ⟨w, hw, h4⟩ := ob h3
  obtain ⟨h5, h6⟩ := chk_some h4
  clear h h2 h3 h4
  cases h6
  simp only [Bool.and_eq_true, decide_eq_true_eq] at h5
  obtain ⟨⟨⟨⟨hs, hlen⟩, hz⟩, hst⟩, hr⟩ := h5
  have hk : X.env.scope.kind = .function := by rw [F.fit.sc]; exact F.kd
  have hsw := swS_ok (env := X.env) (k1 := k) (k2 := k2) (p1 := pt) (p2 := p2) hk (by rw [F.fit.sc]; exact hw)
  have ra := row_ok F.fit hst hps
  obtain ⟨q1, q2⟩ := parT_len (mu := mu) hlen
  have nd : X.N.Nodup := by rw [F.fit.N]; exact F.fit.nd
  cases w with
  | none =>
    obtain ⟨z1, z2, z3⟩ := names_ok F.fit hl hs
    refine (ps_asg (pe_tup ra) (pg_tup F.fit.calm z1 z2 z3) rfl hsw rfl).wk fun _ _ _ z => ?_
    have w := rs_par_tup (K := X.K) (by rw [q1, sizeLine_eq]; omega) z
    rw [q1, q2] at w
    exact w
  | some ns =>
    simp only [Bool.and_eq_true, decide_eq_true_eq, Bool.or_eq_true, beq_iff_eq] at hr
    obtain ⟨⟨⟨e1, e2⟩, e3⟩, e4⟩ := hr
    subst e1
    obtain ⟨pp, h7, h8⟩ := tgNames hl
    have ia := idx_all hl
    have e3' : ∀ p ∈ l, X.env.scope.names.lookup p.1 = some .local := fun p hp => by
      rw [F.fit.sc]
      simpa using List.all_eq_true.mp e3 p hp
    have ia' : ∀ p ∈ l, X.N[p.2]? = some p.1 := fun p hp => by rw [F.fit.N]; exact ia p hp
    have hvl := mapO_len hps
    rcases e4 with e4 | e4
    · match l, pp, ps, vs, e4, h7, hlen, hvl, h8 with
      | [(x, i), (y, j)], [px, py], [p1, p2'], [a, b], _, _, _, _, h8 =>
        subst h8
        simp only [List.map_cons, List.map_nil, List.nodup_cons, List.mem_cons, List.not_mem_nil, or_false, not_false_eq_true, List.nodup_nil, and_true] at e2
        exact (ps_par F.fit.calm nd (ia' (x, i) (by simp)) (ia' (y, j) (by simp)) e2 (e3' (x, i) (by simp)) (e3' (y, j) (by simp)) ra hsw rfl).wk fun _ _ _ z => rs_par2 z
    · match l, pp, ps, vs, e4, h7, hlen, hvl, h8 with
      | [(x, i), (y, j), (z, m)], [px, py, pz], [p1, p2', p3], [a, b, d], _, _, _, _, h8 =>
        subst h8
        simp only [List.map_cons, List.map_nil, List.nodup_cons, List.mem_cons, List.not_mem_nil, or_false, not_false_eq_true, List.nodup_nil, and_true, not_or] at e2
        exact (ps_par3 F.fit.calm nd (ia' (x, i) (by simp)) (ia' (y, j) (by simp)) (ia' (z, m) (by simp)) e2.1.1 e2.1.2 e2.2 (e3' (x, i) (by simp)) (e3' (y, j) (by simp)) (e3' (z, m) (by simp)) ra hsw rfl).wk fun _ _ _ z => rs_par3 z
theorem parP_ok {mu : List Nat} {ts vs : List Expr} {k k2 : Nat} {pt p2 pos : Pos} {r : PSm} (F : FitS X R E c) (h : cParP c mu ts vs = some r) : PS X (.Assign [.Tuple ts k pt] (.Tuple vs k2 p2) pos) (SEM1 R E r) := by
  unfold cParP at h
  split at h
  · rename_i x xp m ap cp vr
    obtain ⟨h1, h2⟩ := chk_some h
    obtain ⟨j, hj, h3⟩ := ob h2
    obtain ⟨l, hl, h4⟩ := ob h3
    obtain ⟨ps, hps, h5⟩ := ob h4
    obtain ⟨w, hw, h6⟩ := ob h5
    clear h h2 h3 h4 h5
    rw [Bool.and_eq_true] at h1
    obtain ⟨hln, hm⟩ := h1
    have hm := eq_str hm
    subst hm
    have hx := slot_ok (pos := xp) F.fit hj
    have hk : X.env.scope.kind = .function := by rw [F.fit.sc]; exact F.kd
    have hsw := swS_ok (env := X.env) (k1 := k) (k2 := k2) (p1 := pt) (p2 := p2) hk (by rw [F.fit.sc]; exact hw)
    have nd : X.N.Nodup := by rw [F.fit.N]; exact F.fit.nd
    split at h6
    · rename_i t1 t2 t3 ns
      obtain ⟨h7, h8⟩ := chk_some h6
      clear h6
      cases h8
      simp only [Bool.and_eq_true, decide_eq_true_eq] at h7
      obtain ⟨⟨⟨⟨hlen, hst⟩, e1⟩, e2⟩, e3⟩ := h7
      subst e1
      have hp := pe_bm0 PySem.F.plainAttrs_list PySem.F.slot_list_pop PySem.F.type_list_pop mt_pop hx rfl hln
      have ra := pa_cons hp (row_ok F.fit hst hps) rfl
      obtain ⟨pp, h7, h8⟩ := tgNames hl
      have ia := idx_all hl
      have e3' : ∀ p ∈ [t1, t2, t3], X.env.scope.names.lookup p.1 = some .local := fun p hp => by
        rw [F.fit.sc]
        simpa using List.all_eq_true.mp e3 p hp
      have ia' : ∀ p ∈ [t1, t2, t3], X.N[p.2]? = some p.1 := fun p hp => by rw [F.fit.N]; exact ia p hp
      have hvl := mapO_len hps
      match t1, t2, t3, pp, ps, vr, h7, hlen, hvl, h8 with
      | (x, i), (y, j), (z, m), [px, py, pz], [p2', p3], [b, d], _, _, _, h8 =>
        subst h8
        simp only [List.nodup_cons, List.mem_cons, List.not_mem_nil, or_false, not_false_eq_true, List.nodup_nil, and_true, not_or] at e2
        exact (ps_par3 F.fit.calm nd (ia' (x, i) (by simp)) (ia' (y, j) (by simp)) (ia' (z, m) (by simp)) e2.1.1 e2.1.2 e2.2 (e3' (x, i) (by simp)) (e3' (y, j) (by simp)) (e3' (z, m) (by simp)) ra hsw rfl).wk fun _ _ _ z => rs_parP3 z
    · cases h6
  · cases h
theorem all_ok {f : Stmt → Option PSm} (h : ∀ st x, f st = some x → PS X st (SEM1 R E x)) : ∀ {sts : List Stmt} {xs : List PSm}, mapO f sts = some xs → PSs X sts (SEMS R E xs)
  | [], xs, e => by
    cases e
    exact pss_nil.wk fun _ _ _ z => rs_nil z
  | st :: r, xs, e => by
    obtain ⟨x, h1, h2⟩ := ob e
    obtain ⟨ys, h3, h4⟩ := ob h2
    cases h4
    exact (pss_cons (h st x h1) (all_ok h h3)).wk fun _ _ _ z => rs_cons z
theorem FitS.tr (F : FitS X R E c) {W : WX} {pn : List (Addr × Obj)} {xe : Value → Shared → Prop} (tk : L2.Takes (X.tr pn xe) W) (po : PassesOwn (model X.prog X.w) X.A X.env xe) : FitS (X.tr pn xe) R (WE W) c where
  fit := { N := F.fit.N, nd := F.fit.nd, sc := F.fit.sc, fn := F.fit.fn, calm := F.fit.calm, gd := F.fit.gd, room := F.fit.room, blt := F.fit.blt, cst := F.fit.cst, key := F.fit.key, fns := fun i x h => let ⟨f, fd, ps, q⟩ := (F.fit.fns i x h).ex; ⟨f, fd, ps, q⟩, tk := tk, co := F.fit.co, lam := fun z => let ⟨l, ⟨c, P, a1, a2⟩⟩ := F.fit.lam z; ⟨l, ⟨c, P, a1, a2⟩⟩ }
  kd := F.kd
  po := po
  ok := ⟨F.ok.all, F.ok.rx⟩
  made := F.made
  rm := F.rm
  hs := F.hs
  hf := F.hf
theorem raise_ok {n : Str} {es : List Expr} {p pos pos2 : Pos} {ps : List PX} (F : FitS X R E c) (hg : c.glb n = true) (hd : (n == ("__debug__" : Str)) = false) (hx : n ∈ c.xs) (hne : n ≠ ("HeapError" : Str)) (hs : es.all noStar = true) (hl : es.length = (exFld n).length) (h : mapO (cX c) es = some ps) :
    PS X (.Raise (some (.Call (.Name n p) es [] pos)) none pos2) (SEM1 R E (.raise n ps)) := by
  obtain ⟨C, gC, M⟩ := F.made n hx hne
  obtain ⟨C', XC⟩ := F.ok.all.cls n hx
  have e : C' = C := by have := XC.g.symm.trans gC; cases this; rfl
  subst e
  have rs : Raises X (.ref C') := raises_own XC.exC XC.tyC
  have hgl := glb_ok F.fit hg
  cases M with
  | plain h0 q =>
    have e0 : es = [] := List.eq_nil_of_length_eq_zero (by rw [hl, h0]; rfl)
    subst e0
    cases h
    exact (ps_raise F.fit.calm F.fit.tk (pmk_x0 rs XC.kC q gC hgl hd)).wk fun D σ H z => rs_raise0 F.ok hx gC h0 z
  | own h0 T noF iC tI F1 hb =>
    match es, ps, h, hs, hl with
    | [], _, _, _, hl => exact absurd (List.eq_nil_of_length_eq_zero hl.symm) h0
    | e :: r, ps, h, hs, hl =>
      have hs' := hs
      rw [List.all_cons, Bool.and_eq_true] at hs'
      exact (ps_raise F.fit.calm F.fit.tk (pmk_oex (ds := []) (dvs := []) T iC tI F1 F.rm hb .nil (passes_call F.fit.tk (E := fun _ _ _ => False) (fun _ _ _ _ z => z.elim)) hgl gC (pa_all (cE_ok R 60) F.fit hs h) hd (star1 hs'.1 _ _) (starAny hs'.2 _ _))).wk fun D σ H z => rs_raise1 F.ok hx gC h0 T noF z
/-- THE translation of statements is sound -/
theorem cS_ok {mu : List Nat} : ∀ (n : Nat) {X : Cx} {R : Par Z} {E : XW} {c : Cn} (F : FitS X R E c) (st : Stmt) (x : PSm), cS n c mu st = some x → PS X st (SEM1 R E x)
  | 0, X, R, E, c, F, st, x, h => by cases h
  | n + 1, X, R, E, c, F, st, x, h => by
    have ih := cS_ok (mu := mu) n F
    unfold cS at h
    split at h
    · cases h
      exact ps_retN.wk fun _ _ _ z => rs_retN z
    · obtain ⟨p, h1, h2⟩ := om h
      subst h2
      exact (ps_ret (cE_ok R 60 X E c _ p F.fit h1).1).wk fun _ _ _ z => rs_ret z
    · cases h
      exact ps_pass.wk fun _ _ _ z => rs_pass z
    · cases h
      exact ps_continue.wk fun _ _ _ z => rs_cont z
    · cases h
      exact ps_doc.wk fun _ _ _ z => rs_pass z
    · exact meth_ok F.fit h
    · obtain ⟨p, h1, h2⟩ := om h
      subst h2
      exact (ps_expr (cE_ok R 60 X E c _ p F.fit h1).1).wk fun _ _ _ z => rs_drop z
    · exact asg_ok F h
    · split at h
      · rename_i hr
        cases h
        exact lset_ok F hr
      · split at h
        · exact dset_ok F h
        · cases h
    · split at h
      · rename_i hr
        cases h
        exact par_ok F hr
      · exact parP_ok F h
    · exact unp_ok F h
    · obtain ⟨h1, h2⟩ := chk_some h
      obtain ⟨p, h3, h4⟩ := ob h2
      obtain ⟨q, h5, h6⟩ := ob h4
      obtain ⟨r, h7, h8⟩ := ob h6
      cases h8
      exact (ps_if ((cE_ok R 60 X E c _ p F.fit h3).2 h1) (all_ok ih h5) (all_ok ih h7)).wk fun _ _ _ z => rs_if z
    · obtain ⟨h1, h2⟩ := chk_some h
      obtain ⟨p, h3, h4⟩ := ob h2
      obtain ⟨q, h5, h6⟩ := ob h4
      cases h6
      exact (ps_while F.po ((cE_ok R 60 X E c _ p F.fit h3).2 h1) (all_ok ih h5)).wk fun _ _ _ z => rs_while z
    · obtain ⟨h1, h2⟩ := chk_some h
      obtain ⟨ps, h3, h4⟩ := om h2
      subst h4
      simp only [Bool.and_eq_true, Bool.not_eq_true', beq_iff_eq] at h1
      obtain ⟨⟨⟨⟨⟨k1, k2⟩, k3⟩, k4⟩, k5⟩, k6⟩ := h1
      exact raise_ok F k1 (by simpa using k2) (by simpa using k3) (by simpa using k4) k5 k6 h3
    · obtain ⟨h1, h2⟩ := chk_some h
      obtain ⟨q, h3, h4⟩ := ob h2
      obtain ⟨hs, h5, h6⟩ := ob h4
      cases h6
      obtain ⟨l, l1, l2, l3⟩ := cHds_ok F.fit F.ok _ _ h5
      rename_i b hds pos
      match hds, h1, h5, l1 with
      | h0 :: hds, _, h5, l1 =>
        exact (ps_try_mix (tb := fun W => SEMS R (WE W) q) F.hs F.hf F.fit.tk (fun W pn xe tk po => all_ok (cS_ok (mu := mu) n (F.tr tk po)) h3) l1).wk fun D σ H z => rs_try F.ok l2 l3 z
    · obtain ⟨h1, h2⟩ := chk_some h
      obtain ⟨⟨t, own⟩, h3, h4⟩ := ob h2
      obtain ⟨i, h5, h6⟩ := ob h4
      obtain ⟨q, h7, h8⟩ := ob h6
      cases h8
      exact (ps_for F.po F.fit.calm (it_ok (cE_ok R 60) F.fit h5) (tg_ok F.fit h3).1 (all_ok ih h7) (nofold h1 _)).wk fun _ _ _ z => rs_for z
    · cases h
end
end CH

set_option Elab.async false
set_option linter.all false
set_option maxRecDepth 100000
set_option maxHeartbeats 4000000
/-! __init__: what it leaves -/
namespace CH
variable {Z : St0}
open PySem L2 PyProof.Rows LamX NdefX
/-- self.f = e -/
def initF (c : Cn) : Stmt → Option (Str × PX)
  | .Assign [.Attribute (.Name s _) f _] e _ => chk (s == ("self" : Str) && noComp e) ((cE 60 c e).map fun p => (f, p))
  | _ => none
/-- self.f = self.g[m] -/
def initI : Stmt → Option (Str × Str × Int)
  | .Assign [.Attribute (.Name s _) f _] (.Subscript (.Attribute (.Name s1 _) g _) (.Constant (.int m) _ _) _) _ => chk (s == ("self" : Str) && s1 == ("self" : Str)) (some (f, g, m))
  | _ => none
/-- an object at a, half made -/
structure Half (k : KA Z) (G0 H0 : Hp) (C a dx : Addr) (vs : List (Str × V)) (G H : Hp) : Prop where
  g : Grow k G0 H0 G H
  a0 : H0 a = none
  d0 : H0 dx = none
  na : G a = none
  nd : G dx = none
  ha : H a = some (.ins C dx vs)
  hd : H dx = some (.own a)
  ne : dx ≠ a
section
variable {k : KA Z} {G0 H0 G H G1 H1 : Hp} {C a dx : Addr} {vs : List (Str × V)} {s : Dk}
theorem Half.not (h : Half k G0 H0 C a dx vs G H) (d : DkAt k s G H) : a ≠ k ∧ dx ≠ k := by
  obtain ⟨_, e, w⟩ := d.has
  refine ⟨fun z => ?_, fun z => ?_⟩
  · rw [← z, h.ha] at e; cases e; rcases w with ⟨_, z⟩ | ⟨_, z⟩ <;> cases z
  · rw [← z, h.hd] at e; cases e; rcases w with ⟨_, z⟩ | ⟨_, z⟩ <;> cases z
theorem Half.grow (h : Half k G0 H0 C a dx vs G H) (d : DkAt k s G H) (g : Grow k G H G1 H1) : Half k G0 H0 C a dx vs G1 H1 := by
  have no : ∀ b, G b = none → H b ≠ none → G1 b = none := fun b e n => by
    cases q : G1 b with
    | none => rfl
    | some o =>
      rcases g.nw b o q with z | z
      · rw [e] at z; cases z
      · exact absurd z n
  exact ⟨h.g.trans g, h.a0, h.d0, no a h.na (by rw [h.ha]; exact fun z => nomatch z), no dx h.nd (by rw [h.hd]; exact fun z => nomatch z), g.fr a _ (h.not d).1 (fun _ z => nomatch z) h.ha, g.fr dx _ (h.not d).2 (fun _ z => nomatch z) h.hd, h.ne⟩
theorem tabs_put {o : HO} (t : TabOk Z H) (ha : H a = some (.ins C dx vs)) : TabOk Z (upd H a o) := fun p hp => by
  have ex : ∀ (c : Addr) (q : Str), H c = some (CodeO c q) → c ≠ a := fun c q e z => by
    rw [z, ha] at e
    unfold CodeO at e
    cases e
  obtain ⟨ps, h1, h2, h3⟩ := t p hp
  refine ⟨ps, ?_, h2, fun pos cv e => ?_⟩
  · rw [upd_ne (fun z => by rw [z, ha] at h1; cases h1)]; exact h1
  · obtain ⟨c', e1, e2⟩ := h3 pos cv e
    exact ⟨c', e1, by rw [upd_ne (ex _ _ e2)]; exact e2⟩
theorem Half.put {vs' : List (Str × V)} (h : Half k G0 H0 C a dx vs G H) (d : DkAt k s G H) : Half k G0 H0 C a dx vs' G (upd H a (.ins C dx vs')) ∧ DkAt k s G (upd H a (.ins C dx vs')) ∧ SameT Z G (upd H a (.ins C dx vs')) := by
  have ka := (h.not d).1
  have sm : SameT Z G (upd H a (.ins C dx vs')) := ⟨fun b o e => by
    rw [upd_ne (fun z => by rw [z, h.na] at e; cases e)]
    exact h.g.gh b o e, tabs_put h.g.gh.t h.ha, h.g.gh.n⟩
  refine ⟨⟨⟨h.g.gg, sm, fun b o n t e => ?_, h.g.nw, fun b e => ?_, fun c r e => ?_⟩, h.a0, h.d0, h.na, h.nd, upd_same, ?_, h.ne⟩, ?_, sm⟩
  · rw [upd_ne (fun z => by rw [z, h.a0] at e; cases e)]
    exact h.g.fr b o n t e
  · by_cases z : b = a
    · subst z; rw [upd_same] at e; cases e
    · rw [upd_ne z] at e; exact h.g.kt b e
  · rw [upd_ne (Ne.symm ka)]; exact h.g.ck c r e
  · rw [upd_ne h.ne]; exact h.hd
  · exact d.move (Same.refl _) d.1 (upd_ne (Ne.symm ka))
/-- the object is done: it stands still from now on -/
theorem Half.close (h : Half k G0 H0 C a dx vs G H) (d : DkAt k s G H) : Grow k G0 H0 (upd (upd G dx (.own a)) a (.ins C dx vs)) H ∧ DkAt k s (upd (upd G dx (.own a)) a (.ins C dx vs)) H ∧ Same G (upd (upd G dx (.own a)) a (.ins C dx vs)) := by
  have sg : Same G (upd (upd G dx (.own a)) a (.ins C dx vs)) := fun b o e => by
    rw [upd_ne (fun z => by rw [z, h.na] at e; cases e), upd_ne (fun z => by rw [z, h.nd] at e; cases e)]
    exact e
  have look : ∀ b o, upd (upd G dx (.own a)) a (.ins C dx vs) b = some o → G b = some o ∨ (b = a ∧ o = .ins C dx vs) ∨ (b = dx ∧ o = .own a) := fun b o e => by
    by_cases z : b = a
    · subst z; rw [upd_same] at e; exact .inr (.inl ⟨rfl, (Option.some.inj e).symm⟩)
    · rw [upd_ne z] at e
      by_cases y : b = dx
      · subst y; rw [upd_same] at e; exact .inr (.inr ⟨rfl, (Option.some.inj e).symm⟩)
      · rw [upd_ne y] at e; exact .inl e
  refine ⟨⟨h.g.gg.trans sg, ⟨fun b o e => ?_, h.g.gh.t, fun b ps e => ?_⟩, h.g.fr, fun b o e => ?_, h.g.kt, h.g.ck⟩, ?_, sg⟩
  · rcases look b o e with z | ⟨rfl, rfl⟩ | ⟨rfl, rfl⟩
    · exact h.g.gh b o z
    · exact h.ha
    · exact h.hd
  · rcases look b _ e with z | ⟨_, z⟩ | ⟨_, z⟩
    · exact h.g.gh.n b ps z
    · cases z
    · cases z
  · rcases look b o e with z | ⟨rfl, rfl⟩ | ⟨rfl, rfl⟩
    · exact h.g.nw b o z
    · exact .inr h.a0
    · exact .inr h.d0
  · obtain ⟨n1, n2⟩ := h.not d
    exact d.move sg (by rw [upd_ne (Ne.symm n1), upd_ne (Ne.symm n2)]; exact d.1) rfl
/-- the object is new -/
theorem Half.new (g : SameT Z G0 H0) (d : DkAt k s G0 H0) (na : H0 a = none) (nd : H0 dx = none) (ne : dx ≠ a) : Half k G0 H0 C a dx [] G0 (upd (upd H0 dx (.own a)) a (.ins C dx [])) ∧ DkAt k s G0 (upd (upd H0 dx (.own a)) a (.ins C dx [])) := by
  have no : ∀ b, H0 b = none → G0 b = none := fun b e => by
    cases q : G0 b with
    | none => rfl
    | some o => rw [g b o q] at e; cases e
  have keep : ∀ b o, H0 b = some o → upd (upd H0 dx (.own a)) a (.ins C dx []) b = some o := fun b o e => by
    rw [upd_ne (ne_of_none e na), upd_ne (ne_of_none e nd)]; exact e
  have gr : Grow k G0 H0 G0 (upd (upd H0 dx (.own a)) a (.ins C dx [])) := ⟨Same.refl _, ⟨fun b o e => keep b o (g b o e), (g.t.new nd).new (by rw [upd_ne (Ne.symm ne)]; exact na), g.n⟩, fun b o _ _ e => keep b o e, fun _ _ e => .inl e, fun b e => upd_none (upd_none e), fun c r e => ⟨r, keep _ _ e⟩⟩
  refine ⟨⟨gr, na, nd, no _ na, no _ nd, upd_same, by rw [upd_ne ne, upd_same], ne⟩, d.keep gr ?_⟩
  obtain ⟨_, e, _⟩ := d.has
  rw [e]
  exact keep _ _ e
theorem putF_new {f : Str} {v : V} : ∀ {vs : List (Str × V)}, f ∉ vs.map (·.1) → putF f v vs = vs ++ [(f, v)]
  | [], _ => rfl
  | (g, x) :: r, h => by
    rw [List.map_cons, List.mem_cons, not_or] at h
    rw [show putF f v ((g, x) :: r) = (if g = f then (g, v) :: r else (g, x) :: putF f v r) from rfl, if_neg (fun z => h.1 z.symm), putF_new h.2]
    rfl
theorem Repf.snoc {f : Str} {v : V} {d : D} (r1 : Rep k G v d) : ∀ {vs : List (Str × V)} {fs : List (D × D)}, Repf k G vs fs → Repf k G (vs ++ [(f, v)]) (fs ++ [(.str f, d)])
  | _, _, .nil => .cons r1 .nil
  | _, _, .cons h r => .cons h (Repf.snoc r1 r)
end
/-- what an __init__ ends with -/
def EndN (k : KA Z) (G0 H0 : Hp) (C a dx : Addr) (its : List (Str × Str × Int)) (fs : List (D × D)) (σ : L2.St) (D : Ends) (s : Dk) : Prop :=
  ∃ fs', itsD its fs = some fs' ∧ ∀ vs' G' H', Half k G0 H0 C a dx vs' G' H' → DkAt k s G' H' → Repf k G' vs' fs' → D.nx σ H'
def SEMN (R : Par Z) (E : XW) (cn : Str) (l : List (Str × PX)) (its : List (Str × Str × Int)) : TS := fun D σ H => ∃ (k : KA Z), ∃ G0 H0 G ρ s C a dx vs fs, Half k G0 H0 C a dx vs G H ∧ Pre k G H σ ρ s ∧ σ[0]? = some (some (.ref a)) ∧ Z.cls cn = some C ∧ Repf k G vs fs ∧
  (vs.map (·.1) ++ l.map (·.1) ++ its.map (·.1)).Nodup ∧ vs.length + l.length + its.length < 1000 ∧
  Done R E k G0 H0 σ (evs R.F (l.map (·.2)) ρ s) fun ds s' => EndN k G0 H0 C a dx its (fs ++ fieldsD (l.map (·.1)) ds) σ D s'
theorem Done.to {α : Type} {R : Par Z} {E : XW} {k : KA Z} {G H : Hp} {σ : L2.St} {o : Out α} {K K' : α → Dk → Prop} (h : Done R E k G H σ o K) (q : ∀ a s, K a s → K' a s) : Done R E k G H σ o K' := by
  cases o with
  | no => exact h
  | ok a s => exact q a s h
  | ex x s => exact h
section
variable {X : Cx} {R : Par Z} {E : XW} {c : Cn} {D : Ends} {σ : L2.St} {H : Hp} {cn f g : Str} {p : PX} {l : List (Str × PX)} {its : List (Str × Str × Int)} {flds : List Str} {m : Int}
theorem rn_nil (h : SEMN R E cn [] [] D σ H) : tNext D σ H := by
  obtain ⟨k, G0, H0, G, ρ, s, C, a, dx, vs, fs, hf, P, _, _, rf, _, _, fs', e, q⟩ := h
  cases e
  exact q vs G H hf P.dk (by simpa [fieldsD] using rf)
theorem rn_cons (A : ClsOk Z X.K flds) (hm : f ∈ flds) (h : SEMN R E cn ((f, p) :: l) its D σ H) : tSeq (sFld X.K (tVar 0) (SEM R E p) f) (SEMN R E cn l its) D σ H := by
  obtain ⟨k, G0, H0, G, ρ, s, C, a, dx, vs, fs, hf, P, h0, hc, rf, nd, lt, h⟩ := h
  simp only [List.map_cons, evs] at h
  refine ⟨k, G, ρ, s, P, h.bind.imp hf.g fun d s1 _ h1 v G' H' gr dk r => ?_⟩
  obtain ⟨G2, g2, dk2, r2⟩ := r.rep gr (fun a e => e) P.dk.there dk
  have hf2 := hf.grow P.dk g2
  obtain ⟨hf3, dk3, sm3⟩ := hf2.put (vs' := vs ++ [(f, v)]) dk2
  have nf : f ∉ vs.map (·.1) := fun z => by
    simp only [List.map_cons] at nd
    rw [List.append_assoc, List.nodup_append] at nd
    exact nd.2.2 f z f (by simp) rfl
  refine ⟨.ref a, h0, a, C, dx, vs, rfl, hf2.ha, A.cl _ _ hc, A.no _ _ f hc hm, by omega, ?_⟩
  rw [putF_new nf]
  refine ⟨k, G0, H0, G2, ρ, s1, C, a, dx, _, fs ++ [(.str f, d)], hf3, ?_, h0, hc, Repf.snoc r2 (Repf.mono g2.gg rf), ?_, ?_, ?_⟩
  · exact ⟨sm3, dk3, fun i d e => let ⟨v, h1, h2⟩ := P.env i d e; ⟨v, h1, h2.mono g2.gg⟩, P.len⟩
  · simpa [List.map_append, List.append_assoc] using nd
  · simp only [List.length_append, List.length_cons, List.length_nil] at lt ⊢; omega
  · have h2 := h1.bind
    refine h2.to fun ds s2 q => ?_
    obtain ⟨fs', e, q⟩ := q
    refine ⟨fs', ?_, q⟩
    rw [← e]
    simp [fieldsD, List.append_assoc]
theorem rn_item (A : ClsOk Z X.K flds) (hm : f ∈ flds) (hm2 : g ∈ flds) (h : SEMN R E cn [] ((f, g, m) :: its) D σ H) : tSeq (sFld X.K (tVar 0) (tOp rIx (tFld X.K (tVar 0) g) (tC (.int m))) f) (SEMN R E cn [] its) D σ H := by
  obtain ⟨k, G0, H0, G, ρ, s, C, a, dx, vs, fs, hf, P, h0, hc, rf, nd, lt, h⟩ := h
  obtain ⟨fs', e, q⟩ := (show EndN k G0 H0 C a dx ((f, g, m) :: its) (fs ++ []) σ D s from h)
  rw [List.append_nil] at e
  simp only [itsD] at e
  obtain ⟨x, e1, e3⟩ := ob e
  obtain ⟨d, e2, e4⟩ := ob e3
  obtain ⟨v, l1, rv⟩ := getF_rep rf e1
  refine ⟨.ref a, h0, a, C, dx, vs, v, rfl, hf.ha, A.cl _ _ hc, A.no _ _ g hc hm2, l1, ?_⟩
  cases x with
  | tuple xs =>
    refine ⟨Z, k, G, s, .tuple xs, .int m, d, P.sub, P.dk, rv, .int m, e2, fun w G2 H2 g2 ek r => ?_⟩
    have dk2 := P.dk.keep g2 ek
    have r2 : Rep k G2 w d := by
      rcases r with ⟨z, _⟩ | ⟨_, r⟩
      · cases z
      · exact r
    have hf2 := hf.grow P.dk g2
    obtain ⟨hf3, dk3, sm3⟩ := hf2.put (vs' := vs ++ [(f, w)]) dk2
    have nf : f ∉ vs.map (·.1) := fun z => by
      simp only [List.map_cons, List.map_nil, List.append_nil] at nd
      rw [List.nodup_append] at nd
      exact nd.2.2 f z f (by simp) rfl
    refine ⟨.ref a, h0, a, C, dx, vs, rfl, hf2.ha, A.cl _ _ hc, A.no _ _ f hc hm, by omega, ?_⟩
    rw [putF_new nf]
    refine ⟨k, G0, H0, G2, ρ, s, C, a, dx, _, fs ++ [(.str f, d)], hf3, ?_, h0, hc, Repf.snoc r2 (Repf.mono g2.gg rf), ?_, ?_, ?_⟩
    · exact ⟨sm3, dk3, fun i d e => let ⟨v, h1, h2⟩ := P.env i d e; ⟨v, h1, h2.mono g2.gg⟩, P.len⟩
    · simpa [List.map_append, List.append_assoc] using nd
    · simp only [List.length_append, List.length_cons, List.length_nil] at lt ⊢; omega
    · exact ⟨fs', by simpa [fieldsD] using e4, q⟩
  | _ => cases e2
theorem init_tail (F : Fits X R E c) (h0 : X.N[0]? = some ("self" : Str)) (v0 : Vis X.env.scope ("self" : Str)) : ∀ (sts : List Stmt) (its : List (Str × Str × Int)), mapO initI sts = some its → (∀ x ∈ its, x.1 ∈ c.co.fl ∧ x.2.1 ∈ c.co.fl) → PSs X sts (SEMN R E cn [] its)
  | [], its, h, _ => by
    cases h
    exact pss_nil.wk fun _ _ _ z => rn_nil z
  | st :: r, its, h, hm => by
    obtain ⟨x, h1, h⟩ := ob h
    obtain ⟨y, h2, h⟩ := ob h
    cases h
    have ih := init_tail F h0 v0 r y h2 fun z hz => hm z (List.mem_cons_of_mem _ hz)
    unfold initI at h1
    split at h1
    · obtain ⟨h3, h1⟩ := chk_some h1
      cases h1
      rw [Bool.and_eq_true] at h3
      have e1 := eq_str h3.1
      have e2 := eq_str h3.2
      subst e1 e2
      obtain ⟨m1, m2⟩ := hm _ List.mem_cons_self
      exact (pss_cons (ps_fld (pe_var (i := 0) h0 v0) (pe_ix ix_all (pe_fld (pe_var (i := 0) h0 v0) (meth_base rfl)) pe_int fun _ _ => rfl) rfl) ih).wk fun _ _ _ z => rn_item F.co.cls m1 m2 z
    · cases h1
theorem init_ok (F : Fits X R E c) (h0 : X.N[0]? = some ("self" : Str)) (v0 : Vis X.env.scope ("self" : Str)) {sts2 : List Stmt} {its : List (Str × Str × Int)} (h2 : mapO initI sts2 = some its) (hm2 : ∀ x ∈ its, x.1 ∈ c.co.fl ∧ x.2.1 ∈ c.co.fl) :
    ∀ (sts : List Stmt) (l : List (Str × PX)), mapO (initF c) sts = some l → (∀ x ∈ l, x.1 ∈ c.co.fl) → PSs X (sts ++ sts2) (SEMN R E cn l its)
  | [], l, h, _ => by
    cases h
    exact init_tail F h0 v0 sts2 its h2 hm2
  | st :: r, l, h, hm => by
    obtain ⟨x, h1, h⟩ := ob h
    obtain ⟨y, h3, h⟩ := ob h
    cases h
    have ih := init_ok F h0 v0 h2 hm2 r y h3 fun z hz => hm z (List.mem_cons_of_mem _ hz)
    unfold initF at h1
    split at h1
    · rename_i e ep
      obtain ⟨h4, h1⟩ := chk_some h1
      obtain ⟨p, h5, h1⟩ := om h1
      cases h1
      rw [Bool.and_eq_true] at h4
      have e1 := eq_str h4.1
      subst e1
      refine (pss_cons (ps_fld (pe_var (i := 0) h0 v0) (cE_ok R 60 X E c _ p F h5).1 ?_) ih).wk fun _ _ _ z => rn_cons F.co.cls (hm _ List.mem_cons_self) z
      have h6 := h4.2
      revert h6
      cases e <;> intro h6 <;> first | rfl | cases h6
    · cases h1
end
end CH

set_option Elab.async false
set_option linter.all false
set_option maxRecDepth 100000
set_option maxHeartbeats 4000000
/-! the whole program -/
namespace CH
variable {Z : St0}
open PySem L2 PyProof.Rows LamX
/-- a def whose lambdas have their code objects in a table -/
structure TabAt (Z : St0) (base : Heap) (mg : Str → Option Value) (q : Str) (cd : Value) : Prop where
  ex : ∃ c P, cd = .ref c ∧ TabB base mg c P ∧ (P, (q ++ ".<locals>.") ++ "<lambda>") ∈ Z.tabs ∧ ∀ p ∈ Z.tabs, p.1 = P → p.2 = (q ++ ".<locals>.") ++ "<lambda>"
/-- the program, as it is translated: numbers of defs, constants, errors, classes -/
structure Pg where
  fs : List (Str × Nat)
  cs : List (Str × PyData)
  hk : Bool
  xs : List Str
  co : Co
abbrev Pg.cn (g : Pg) (N : List Str) (sc : Scope) (lt : Bool) : Cn := ⟨N, sc, fun _ => true, g.fs, g.cs, g.hk, g.xs, g.co, 3, lt⟩
/-- a def and its translation -/
structure DefIn (Z : St0) (K : PySem.W.Frag) (mg : Str → Option Value) (base : Heap) (g : Pg) (q : Str) (fa : Addr) (d : Fd) : Prop where
  ex : ∃ (x : Str) (st : Stmt) (fd : FuncData) (N ps : List Str) (mu : List Nat) (lt : Bool), Fun K x q st fa fd ∧ Binds K fd ps [] ∧ FnScope N ps (defScope st) ∧ mapO (cS 60 (g.cn N (defScope st) lt) mu) (defBody st) = some d.body ∧ d.np = ps.length ∧ d.nn = N.length ∧ d.off = 0 ∧ (lt = true → LastIn K mg ∧ TabAt Z base mg q fd.code)
/-- the same, the def's record and its parameters told -/
structure DefAt (Z : St0) (K : PySem.W.Frag) (mg : Str → Option Value) (base : Heap) (g : Pg) (q : Str) (fa : Addr) (d : Fd) (fd : FuncData) (ps : List Str) : Prop where
  ex : ∃ (x : Str) (st : Stmt) (N : List Str) (mu : List Nat) (lt : Bool), Fun K x q st fa fd ∧ Binds K fd ps [] ∧ FnScope N ps (defScope st) ∧ mapO (cS 60 (g.cn N (defScope st) lt) mu) (defBody st) = some d.body ∧ d.np = ps.length ∧ d.nn = N.length ∧ d.off = 0 ∧ (lt = true → LastIn K mg ∧ TabAt Z base mg q fd.code)
theorem DefIn.at {Z : St0} {K : PySem.W.Frag} {mg : Str → Option Value} {base : Heap} {g : Pg} {q : Str} {fa : Addr} {d : Fd} (D : DefIn Z K mg base g q fa d) : ∃ fd ps, DefAt Z K mg base g q fa d fd ps := by
  obtain ⟨x, st, fd, N, ps, mu, lt, h⟩ := D.ex
  exact ⟨fd, ps, x, st, N, mu, lt, h⟩
def iniB (co : Co) (l : List (Str × PX)) (its : List (Str × Str × Int)) : Bool := decide ((l.map (·.1) ++ its.map (·.1)).Nodup) && decide (l.length + its.length < 1000) && l.all (fun x => decide (x.1 ∈ co.fl)) && its.all (fun x => decide (x.1 ∈ co.fl) && decide (x.2.1 ∈ co.fl))
/-- an __init__ and its translation -/
structure IniIn (K : PySem.W.Frag) (g : Pg) (x : Str) (fa : Addr) (d : Fd) : Prop where
  ex : ∃ (y q : Str) (st : Stmt) (fd : FuncData) (N ps : List Str) (n : Nat) (l : List (Str × PX)) (its : List (Str × Str × Int)), Fun K y q st fa fd ∧ Binds K fd ("self" :: ps) [] ∧ FnScope N ("self" :: ps) (defScope st) ∧ mapO (initF (g.cn N (defScope st) false)) ((defBody st).take n) = some l ∧
    mapO initI ((defBody st).drop n) = some its ∧ iniB g.co l its = true ∧ Vis (defScope st) ("self" : Str) ∧ d = ⟨ps.length, N.length, [.ret (.obj x (l.map (·.1)) (l.map (·.2)) its)], 1⟩
structure IniAt (K : PySem.W.Frag) (g : Pg) (x : Str) (fa : Addr) (d : Fd) (fd : FuncData) (ps : List Str) : Prop where
  ex : ∃ (y q : Str) (st : Stmt) (N : List Str) (n : Nat) (l : List (Str × PX)) (its : List (Str × Str × Int)), Fun K y q st fa fd ∧ Binds K fd ("self" :: ps) [] ∧ FnScope N ("self" :: ps) (defScope st) ∧ mapO (initF (g.cn N (defScope st) false)) ((defBody st).take n) = some l ∧
    mapO initI ((defBody st).drop n) = some its ∧ iniB g.co l its = true ∧ Vis (defScope st) ("self" : Str) ∧ d = ⟨ps.length, N.length, [.ret (.obj x (l.map (·.1)) (l.map (·.2)) its)], 1⟩
theorem IniIn.at {K : PySem.W.Frag} {g : Pg} {x : Str} {fa : Addr} {d : Fd} (D : IniIn K g x fa d) : ∃ fd ps, IniAt K g x fa d fd ps := by
  obtain ⟨y, q, st, fd, N, ps, n, l, its, h⟩ := D.ex
  exact ⟨fd, ps, y, q, st, N, n, l, its, h⟩
abbrev PF : Fns := fun _ _ _ => .no
structure Facts (Z : St0) (P : Program) (w : World) (K : PySem.W.Frag) (mg : Str → Option Value) (base : Heap) (g : Pg) (T : Nat → Option Fd) : Prop where
  defs : ∀ i x, g.fs.lookup x = some i → ∃ d fa q, T i = some d ∧ mg x = some (.ref fa) ∧ DefIn Z K mg base g q fa d
  blt : ∀ x ∈ bNames, mg x = none
  cst : ∀ x d, g.cs.lookup x = some d → ∃ u v, mg x = some u ∧ RelV v u ∧ ∀ (k : KA Z) (G : Hp), Rep k G v d
  key : g.hk = true → ∃ f, mg ("heap_key" : Str) = some (.ref f) ∧ KeyAt P w base f
  xall : XAll K mg g.xs
  made : ∀ n ∈ g.xs, n ≠ ("HeapError" : Str) → ∃ C, mg n = some (.ref C) ∧ XMake P w K mg base n C
  cls : ClsOk Z K g.co.fl
  mths : ∀ m k i, g.co.ms.lookup m = some (k, i) → ∃ d C f q, T i = some d ∧ Z.cls k = some C ∧ Meth K C m f ∧ DefIn Z K mg base g q f d
  prps : ∀ m k i, g.co.ps.lookup m = some (k, i) → ∃ d C p f q, T i = some d ∧ Z.cls k = some C ∧ PropOf K C m p f ∧ DefIn Z K mg base g q f d
  news : ∀ x i, g.co.ks.lookup x = some i → ∃ d C f, T i = some d ∧ Z.cls x = some C ∧ mg x = some (.ref C) ∧ Mk K C f ∧ IniIn K g x f d
  ops : ∀ (o : Operator) k i, g.co.op.lookup o.info.2 = some (k, i) → ∃ d C f q, T i = some d ∧ Z.cls k = some C ∧ OpC K C f o ∧ DefIn Z K mg base g q f d ∧ fillsNumberSlot (.type "tuple") o.info.2 = pure false
  eqs : ∀ k i, g.co.eq = some (k, i) → ∃ d C f q, T i = some d ∧ Z.cls k = some C ∧ EqC K C f ∧ DefIn Z K mg base g q f d
  kfs : ∀ x i ks pm, g.co.kf.lookup x = some (i, ks, pm) → ∃ d fa q fd ps, T i = some d ∧ mg x = some (.ref fa) ∧ DefAt Z K mg base g q fa d fd ps ∧ KB K fd ps ks pm
  kns : ∀ x i ks pm, g.co.kn.lookup x = some (i, ks, pm) → ∃ d C f fd ps, T i = some d ∧ Z.cls x = some C ∧ mg x = some (.ref C) ∧ Mk K C f ∧ IniAt K g x f d fd ps ∧ KBi K fd ("self" :: ps) ks pm
  own : g.co.ob ≠ [] → ∀ k C, Z.cls k = some C → OwnC K C
  xv : g.co.xv ≠ [] → XvOk Z P w K mg base g.co.xv
theorem pass_cx {P : Program} {w : World} {K : PySem.W.Frag} {mg : Str → Option Value} {base : Heap} {N : List Str} {q : Str} {sc : Scope} {f : Addr} {cd : Value} {A : Around} {out : List Env} {s : Shared} {H : Hp} {E : XK} (σ : L2.St) :
    PassesAt (L2.CX P w) (cxOf (L2.CX P w) P w K mg base N q sc f cd A out s H E) σ E :=
  passAt (X := cxOf (L2.CX P w) P w K mg base N q sc f cd A out s H E) (W := fun cls d _ H => E cls d H) (takes_of rfl rfl rfl rfl) σ
section
variable {P : Program} {w : World} {K : PySem.W.Frag} {mg : Str → Option Value} {base : Heap} {g : Pg} {T : Nat → Option Fd}
theorem out_done {R : Par Z} {E : XK} {k : KA Z} {G H : Hp} {o : OutS} {Q : VK} (h : Done R (fun _ => E) k G H [] o.back (Want false k G H Q)) : AtS R (fun _ => E) k G H o { nx := fun _ H' => Q .non H', rt := Q } := by
  cases o with
  | nx ρ s => exact fun σ G' H' P => h .non G' H' P.gr P.dk (.inr ⟨(fun z => by cases z), .non⟩)
  | ct ρ s => exact h.elim
  | rt d s => exact fun v G' H' g dk r => h v G' H' g dk (.inr ⟨(fun z => by cases z), r⟩)
  | ex x ρ s => exact fun σ c d G' H' P r => h c d G' H' P.gr P.dk r
  | no => exact h.elim
theorem start_pre {k : KA Z} {G H : Hp} {s : Dk} {N ps : List Str} {vs : List V} {ds : List PyData} (g : SameT Z G H) (dk : DkAt k s G H) (r : Reps k G vs ds) (hl : ds.length = ps.length) (hN : ps.length ≤ N.length) : PreS k G H G H (start N vs) (ds.map .val ++ List.replicate (N.length - ps.length) .un) s := by
  have hv := r.length
  have un : ∀ (i : Nat) (x : Slot), (ds.map Slot.val ++ List.replicate (N.length - ps.length) .un)[i]? = some x → x ≠ .un → ∃ d, ds[i]? = some d ∧ x = .val d := fun i x e n => by
    by_cases hi : i < ds.length
    · rw [List.getElem?_append_left (by simpa using hi), List.getElem?_map] at e
      cases q : ds[i]? with
      | none => rw [q] at e; cases e
      | some d => rw [q] at e; exact ⟨d, rfl, (Option.some.inj e).symm⟩
    · rw [List.getElem?_append_right (by simpa using hi), List.getElem?_replicate] at e
      split at e
      · cases e; exact absurd rfl n
      · cases e
  refine ⟨.refl g, dk, by simp [L2.start, hv, hl], fun i d e => ?_, fun i es e => ?_, fun i j es es' a n e => ?_⟩
  · obtain ⟨d', h1, h2⟩ := un i _ e (fun z => by cases z)
    cases h2
    obtain ⟨v, h3, h4⟩ := r.get.1 d h1
    refine ⟨v, ?_, h4⟩
    unfold L2.start
    have hi : i < vs.length := by
      by_cases z : i < vs.length
      · exact z
      · rw [List.getElem?_eq_none (by omega)] at h3; cases h3
    rw [List.getElem?_append_left (by simpa using hi), List.getElem?_map, h3]
    rfl
  · obtain ⟨d', _, h2⟩ := un i _ e (fun z => by cases z)
    cases h2
  · obtain ⟨d', _, h2⟩ := un i _ e (fun z => by cases z)
    cases h2
theorem pre_len {N ps : List Str} {sc : Scope} (S : FnScope N ps sc) : ps.length ≤ N.length := by
  have := congrArg List.length S.pre
  rw [List.length_take] at this
  omega
/-- the parameters behind the new object's place -/
theorem self_pre {k : KA Z} {G H H0 : Hp} {s : Dk} {N : List Str} {ps : List Str} {a : Addr} {us : List V} {ds : List PyData} (g : SameT Z G H) (dk : DkAt k s G H) (r : Reps k G us ds) (hl : ds.length = ps.length) (hN : ps.length + 1 ≤ N.length) : Pre k G H (start N (.ref a :: us)) (frz (.un :: (ds.map .val ++ List.replicate (N.length - ps.length - 1) .un))) s := by
  have hv := r.length
  refine ⟨g, dk, fun i d e => ?_, ?_⟩
  · unfold frz at e
    rw [List.getElem?_map] at e
    cases i with
    | zero => cases e
    | succ i =>
      rw [List.getElem?_cons_succ] at e
      by_cases hi : i < ds.length
      · rw [List.getElem?_append_left (by simpa using hi), List.getElem?_map] at e
        cases q : ds[i]? with
        | none => rw [q] at e; cases e
        | some d' =>
          rw [q] at e
          cases e
          obtain ⟨v, h3, h4⟩ := r.get.1 d q
          refine ⟨v, ?_, h4⟩
          unfold L2.start
          rw [List.map_cons, List.cons_append, List.getElem?_cons_succ, List.getElem?_append_left (by simp; omega), List.getElem?_map, h3]
          rfl
      · rw [List.getElem?_append_right (by simpa using hi), List.getElem?_replicate] at e
        split at e
        · cases e
        · cases e
  · unfold L2.start frz
    simp [hv, hl]
    omega
theorem back_ret {F : Fns} {e : PX} {ρ : Env1} {s : Dk} : (runs F [.ret e] ρ s).back = ev F e (frz ρ) s := by
  simp only [runs, run1]
  cases ev F e (frz ρ) s <;> rfl
theorem Fits.of (F : Facts Z P w K mg base g T) {n : Nat} {A : Around} {out : List Env} {s : Shared} {H : Hp} {N ps : List Str} {q : Str} {sc : Scope} {f : Addr} {cd : Value} {E : XK} {lt : Bool} (S : FnScope N ps sc) (hr : Room (4 * n + 5) (A.deeper (envOfC q sc s.heap.objs.size f cd))) (hg : A.guards = some [])
    (fns : ∀ i x, g.fs.lookup x = some i → ∃ f fd ps, FnG P w K mg base (4 * n + 2) f fd ps (spOf (⟨callF T PF n, RXm mg g.xs, 4 * n + 2⟩ : Par Z) i) ∧ mg x = some (.ref f) ∧ PySem.W.keepIn K (.ref f) = true ∧ Binds K fd ps [])
    (co : CoOk P w K mg base (⟨callF T PF n, RXm mg g.xs, 4 * n + 2⟩ : Par Z) g.co) (hlt : lt = true → LastIn K mg ∧ TabAt Z base mg q cd) :
    Fits (cxOf (L2.CX P w) P w K mg base N q sc f cd A out s H E) (⟨callF T PF n, RXm mg g.xs, 4 * n + 2⟩ : Par Z) (fun _ => E) (g.cn N sc lt) :=
  ⟨rfl, S.nd, rfl, rfl, rfl, hg, hr, F.blt, F.cst, F.key, fun i x h => ⟨fns i x h⟩, takes_of rfl rfl rfl rfl, co, fun z => by
    obtain ⟨l, ⟨c, P, a1, a2, a3, a4⟩⟩ := hlt z
    exact ⟨l, ⟨c, P, a1, a2, a3, a4⟩⟩⟩
/-- what every def promises at a level -/
structure Lvl (Z : St0) (P : Program) (w : World) (K : PySem.W.Frag) (mg : Str → Option Value) (base : Heap) (g : Pg) (T : Nat → Option Fd) (n : Nat) : Prop where
  fns : ∀ i x, g.fs.lookup x = some i → ∃ f fd ps, FnG P w K mg base (4 * n + 2) f fd ps (spOf (⟨callF T PF n, RXm mg g.xs, 4 * n + 2⟩ : Par Z) i) ∧ mg x = some (.ref f) ∧ PySem.W.keepIn K (.ref f) = true ∧ Binds K fd ps []
  co : CoOk P w K mg base (⟨callF T PF n, RXm mg g.xs, 4 * n + 2⟩ : Par Z) g.co
theorem FitS.of (F : Facts Z P w K mg base g T) {n : Nat} (L : Lvl Z P w K mg base g T n) {A : Around} {out : List Env} {s : Shared} {H : Hp} {N ps : List Str} {q : Str} {sc : Scope} {f : Addr} {cd : Value} {E : XK} {lt : Bool} (S : FnScope N ps sc) (hr : Room (4 * n + 5) (A.deeper (envOfC q sc s.heap.objs.size f cd))) (hg : A.guards = some []) (hlt : lt = true → LastIn K mg ∧ TabAt Z base mg q cd) :
    FitS (cxOf (L2.CX P w) P w K mg base N q sc f cd A out s H E) (⟨callF T PF n, RXm mg g.xs, 4 * n + 2⟩ : Par Z) (fun _ => E) (g.cn N sc lt) :=
  { fit := Fits.of F S hr hg L.fns L.co hlt
    kd := S.kind
    po := passes_of rfl
    ok := ⟨F.xall, rfl⟩
    made := F.made
    rm := hr.mono (by omega)
    hs := rfl
    hf := rfl }
/-- a def keeps its promise one level up -/
theorem def_up0 (F : Facts Z P w K mg base g T) {n i : Nat} (L : Lvl Z P w K mg base g T n) {q : Str} {fa : Addr} {d : Fd} {fd : FuncData} {ps : List Str} (hT : T i = some d) (D : DefAt Z K mg base g q fa d fd ps) : FnG P w K mg base (4 * (n + 1) + 2) fa fd ps (spOf (⟨callF T PF (n + 1), RXm mg g.xs, 4 * (n + 1) + 2⟩ : Par Z) i) ∧ PySem.W.keepIn K (.ref fa) = true ∧ Binds K fd ps [] := by
  obtain ⟨x, st, N, mu, lt, Fn, hb, S, hc, e1, e2, e3, hlt⟩ := D.ex
  refine ⟨fnG_of (k := 4 * n + 5) Fn S (fun vs H Q E h => ?_) fun A out s H vs Q E hr hg h => ?_, Fn.kp, hb⟩
  · obtain ⟨k, G, s, ds, g, dk, r, h⟩ := h
    simp only [callF, hT] at h
    split at h
    · rename_i hl
      rw [r.length, hl, e1]
    · exact h.elim
  · obtain ⟨k, G, s', ds, g', dk, r, h⟩ := h
    simp only [callF, hT] at h
    split at h
    · rename_i hl
      refine ⟨_, all_ok (cS_ok (mu := mu) 60 (FitS.of F L S hr hg hlt)) hc, ?_⟩
      refine ⟨k, G, H, G, _, s', start_pre g' dk r (by rw [hl, e1]) (pre_len S), ?_⟩
      rw [e1, e2, e3, Nat.sub_zero] at h
      exact out_done h
    · exact h.elim
theorem def_up (F : Facts Z P w K mg base g T) {n i : Nat} (L : Lvl Z P w K mg base g T n) {q : Str} {fa : Addr} {d : Fd} (hT : T i = some d) (D : DefIn Z K mg base g q fa d) : ∃ fd ps, FnG P w K mg base (4 * (n + 1) + 2) fa fd ps (spOf (⟨callF T PF (n + 1), RXm mg g.xs, 4 * (n + 1) + 2⟩ : Par Z) i) ∧ PySem.W.keepIn K (.ref fa) = true ∧ Binds K fd ps [] := by
  obtain ⟨fd, ps, D⟩ := D.at
  exact ⟨fd, ps, def_up0 F L hT D⟩
/-- an __init__, too -/
theorem ini_up0 (F : Facts Z P w K mg base g T) {n i : Nat} (L : Lvl Z P w K mg base g T n) {x : Str} {fa : Addr} {d : Fd} {fd : FuncData} {ps : List Str} (hT : T i = some d) (D : IniAt K g x fa d fd ps) : FnG P w K mg base (4 * (n + 1) + 2) fa fd ("self" :: ps) (spIniO (⟨callF T PF (n + 1), RXm mg g.xs, 4 * (n + 1) + 2⟩ : Par Z) x i) ∧ Binds K fd ("self" :: ps) [] := by
  obtain ⟨y, q, st, N, n1, l, its, Fn, hb, S, hc, hi, hB, hv, rfl⟩ := D.ex
  have hpl := pre_len S
  refine ⟨fnG_of (k := 4 * n + 5) Fn S (fun vs H Q E h => ?_) fun A out s H vs Q E hr hg h => ?_, hb⟩
  · obtain ⟨k, G, H0, s, ds, us, a, dx, C, rfl, _, _, _, _, _, _, _, r, h⟩ := h
    simp only [callF, hT] at h
    split at h
    · rename_i hl
      rw [List.length_cons, r.length, hl, List.length_cons]
    · exact h.elim
  · obtain ⟨k, G, H0, s', ds, us, a, dx, C, rfl, na, nd, ne, rfl, hC, g', dk, r, h⟩ := h
    simp only [callF, hT] at h
    split at h
    · rename_i hl
      simp only [iniB, Bool.and_eq_true, decide_eq_true_eq, List.all_eq_true] at hB
      obtain ⟨⟨⟨b1, b2⟩, b3⟩, b4⟩ := hB
      have FT := Fits.of (out := out) (H := upd (upd H0 dx (.own a)) a (.ins C dx [])) (E := E) (lt := false) F S hr hg L.fns L.co (fun z => nomatch z)
      have h0 : N[0]? = some ("self" : Str) := by
        have e := congrArg (·[0]?) S.pre
        simp only [List.length_cons, List.getElem?_take] at e
        simpa using e
      have prog := init_ok (cn := x) FT h0 hv hi b4 _ l hc b3
      rw [List.take_append_drop] at prog
      refine ⟨_, prog, ?_⟩
      obtain ⟨hf, dk2⟩ := Half.new (C := C) g' dk na nd ne
      refine ⟨k, G, H0, G, _, s', C, a, dx, [], [], hf, self_pre (H0 := H0) hf.g.gh dk2 r hl (by simpa using hpl), by simp [L2.start], hC, .nil, by simpa using b1, by simpa using b2, ?_⟩
      rw [show (List.replicate 1 Slot.un ++ (ds.map Slot.val ++ List.replicate (N.length - ps.length - 1) Slot.un)) = Slot.un :: (ds.map Slot.val ++ List.replicate (N.length - ps.length - 1) Slot.un) from rfl, back_ret] at h
      simp only [ev] at h
      have h2 := h.bind
      revert h2
      show Done _ _ k G H0 _ (evs (callF T PF n) (l.map (·.2)) (frz (Slot.un :: (ds.map Slot.val ++ List.replicate (N.length - ps.length - 1) Slot.un))) s') _ → _
      cases evs (callF T PF n) (l.map (·.2)) (frz (Slot.un :: (ds.map Slot.val ++ List.replicate (N.length - ps.length - 1) Slot.un))) s' with
      | no => exact fun z => z.elim
      | ex a b => exact fun z => z
      | ok ds' s2 =>
        intro q
        have q : Done (⟨callF T PF n, RXm mg g.xs, 4 * n + 2⟩ : Par Z) (fun _ => E) k G H0 [] (Out.of (Option.map (obD x) (itsD its (fieldsD (l.map (·.1)) ds'))) s2) (fun d s' => ∀ G' H', Grow k G H0 G' H' → DkAt k s' G' H' → Rep k G' (.ref a) d → Q .non H') := q
        obtain ⟨d, e, q⟩ := q.of
        obtain ⟨fs', e1, e2⟩ := Option.map_eq_some_iff.mp e
        subst e2
        refine ⟨fs', by simpa using e1, fun vs' G' H' hf' dk' rf => ?_⟩
        obtain ⟨c1, c2, c3⟩ := hf'.close dk'
        exact q _ H' c1 c2 (.obj upd_same (by rw [upd_ne ne, upd_same]) hC (Repf.mono c3 rf))
    · exact h.elim
theorem ini_up (F : Facts Z P w K mg base g T) {n i : Nat} (L : Lvl Z P w K mg base g T n) {x : Str} {fa : Addr} {d : Fd} (hT : T i = some d) (D : IniIn K g x fa d) : ∃ fd ps, FnG P w K mg base (4 * (n + 1) + 2) fa fd ps (spIniO (⟨callF T PF (n + 1), RXm mg g.xs, 4 * (n + 1) + 2⟩ : Par Z) x i) ∧ Binds K fd ps [] := by
  obtain ⟨fd, ps, D⟩ := D.at
  exact ⟨fd, _, ini_up0 F L hT D⟩
theorem lvl_all (F : Facts Z P w K mg base g T) : ∀ n : Nat, Lvl Z P w K mg base g T n
  | 0 => by
    have tr : ∀ (j i : Nat) (f : Addr) (fd : FuncData) (ps : List Str), FnG P w K mg base j f fd ps (spOf (⟨callF T PF 0, RXm mg g.xs, 4 * 0 + 2⟩ : Par Z) i) := fun j i f fd ps => ⟨fun vs H Q E ⟨_, _, _, _, _, _, _, h⟩ => h.elim, fun A out s H args us vs Q E _ _ _ _ _ ⟨_, _, _, _, _, _, _, h⟩ => h.elim⟩
    refine ⟨fun i x hx => ?_, F.cls, fun m k i hm => ?_, fun m k i hm => ?_, fun x i hx => ?_, fun o k i ho => ?_, fun k i he => ?_, fun x i ks pm hx => ?_, fun x i ks pm hx => ?_, F.own, F.xv⟩
    · obtain ⟨d, fa, q, _, hm, D⟩ := F.defs i x hx
      obtain ⟨_, st, fd, N, ps, mu, lt, Fn, hb, _⟩ := D.ex
      exact ⟨fa, fd, ps, tr _ _ _ _ _, hm, Fn.kp, hb⟩
    · obtain ⟨d, C, f, q, _, hC, M, D⟩ := F.mths m k i hm
      obtain ⟨_, st, fd, N, ps, mu, lt, Fn, hb, _⟩ := D.ex
      exact ⟨C, f, fd, ps, hC, M, tr _ _ _ _ _, hb⟩
    · obtain ⟨d, C, p, f, q, _, hC, M, D⟩ := F.prps m k i hm
      obtain ⟨_, st, fd, N, ps, mu, lt, Fn, hb, _⟩ := D.ex
      exact ⟨C, p, f, fd, ps, hC, M, tr _ _ _ _ _, hb⟩
    · obtain ⟨d, C, f, _, hC, hm, M, D⟩ := F.news x i hx
      obtain ⟨_, _, st, fd, N, ps, _, _, _, Fn, hb, _⟩ := D.ex
      exact ⟨C, f, fd, _, hC, hm, M, ⟨fun vs H Q E ⟨_, _, _, _, _, _, _, _, _, _, _, _, _, _, _, _, _, _, h⟩ => h.elim, fun A out s H args us vs Q E _ _ _ _ _ ⟨_, _, _, _, _, _, _, _, _, _, _, _, _, _, _, _, _, _, h⟩ => h.elim⟩, hb⟩
    · obtain ⟨d, C, f, q, _, hC, M, D, hn⟩ := F.ops o k i ho
      obtain ⟨_, st, fd, N, ps, mu, lt, Fn, hb, _⟩ := D.ex
      exact ⟨C, f, fd, ps, hC, M, tr _ _ _ _ _, hb, hn⟩
    · obtain ⟨d, C, f, q, _, hC, M, D⟩ := F.eqs k i he
      obtain ⟨_, st, fd, N, ps, mu, lt, Fn, hb, _⟩ := D.ex
      exact ⟨C, f, fd, ps, hC, M, tr _ _ _ _ _, hb⟩
    · obtain ⟨d, fa, q, fd, ps, hT, hm, D, B⟩ := F.kfs x i ks pm hx
      obtain ⟨_, st, N, mu, lt, Fn, hb, _⟩ := D.ex
      exact ⟨fa, fd, ps, tr _ _ _ _ _, hm, Fn.kp, B⟩
    · obtain ⟨d, C, f, fd, ps, hT, hC, hm, M, D, B⟩ := F.kns x i ks pm hx
      exact ⟨C, f, fd, _, hC, hm, M, ⟨fun vs H Q E ⟨_, _, _, _, _, _, _, _, _, _, _, _, _, _, _, _, _, _, h⟩ => h.elim, fun A out s H args us vs Q E _ _ _ _ _ ⟨_, _, _, _, _, _, _, _, _, _, _, _, _, _, _, _, _, _, h⟩ => h.elim⟩, B⟩
  | n + 1 => by
    have ih := lvl_all F n
    refine ⟨fun i x hx => ?_, F.cls, fun m k i hm => ?_, fun m k i hm => ?_, fun x i hx => ?_, fun o k i ho => ?_, fun k i he => ?_, fun x i ks pm hx => ?_, fun x i ks pm hx => ?_, F.own, F.xv⟩
    · obtain ⟨d, fa, q, hT, hm, D⟩ := F.defs i x hx
      obtain ⟨fd, ps, q1, q2, q3⟩ := def_up F ih hT D
      exact ⟨fa, fd, ps, q1, hm, q2, q3⟩
    · obtain ⟨d, C, f, q, hT, hC, M, D⟩ := F.mths m k i hm
      obtain ⟨fd, ps, q1, q2, q3⟩ := def_up F ih hT D
      exact ⟨C, f, fd, ps, hC, M, q1, q3⟩
    · obtain ⟨d, C, p, f, q, hT, hC, M, D⟩ := F.prps m k i hm
      obtain ⟨fd, ps, q1, q2, q3⟩ := def_up F ih hT D
      exact ⟨C, p, f, fd, ps, hC, M, q1, q3⟩
    · obtain ⟨d, C, f, hT, hC, hm, M, D⟩ := F.news x i hx
      obtain ⟨fd, ps, q1, q3⟩ := ini_up F ih hT D
      exact ⟨C, f, fd, ps, hC, hm, M, q1, q3⟩
    · obtain ⟨d, C, f, q, hT, hC, M, D, hn⟩ := F.ops o k i ho
      obtain ⟨fd, ps, q1, q2, q3⟩ := def_up F ih hT D
      exact ⟨C, f, fd, ps, hC, M, q1, q3, hn⟩
    · obtain ⟨d, C, f, q, hT, hC, M, D⟩ := F.eqs k i he
      obtain ⟨fd, ps, q1, q2, q3⟩ := def_up F ih hT D
      exact ⟨C, f, fd, ps, hC, M, q1, q3⟩
    · obtain ⟨d, fa, q, fd, ps, hT, hm, D, B⟩ := F.kfs x i ks pm hx
      obtain ⟨q1, q2, q3⟩ := def_up0 F ih hT D
      exact ⟨fa, fd, ps, q1, hm, q2, B⟩
    · obtain ⟨d, C, f, fd, ps, hT, hC, hm, M, D, B⟩ := F.kns x i ks pm hx
      obtain ⟨q1, q3⟩ := ini_up0 F ih hT D
      exact ⟨C, f, fd, _, hC, hm, M, q1, B⟩
end
end CH

set_option Elab.async false
set_option linter.all false
set_option maxRecDepth 100000
set_option maxHeartbeats 4000000
/-! the deck, the law, the row -/
namespace CH
variable {Z : St0}
open PySem L2 PyProof.Rows LamX
/-- what the making of the deck promises -/
def spDeck (K : PySem.W.Frag) : Sp := fun vs H Q _ => ∃ (a : Addr) (ns : List Int), vs = [.ref a] ∧ SqL K H a (ns.map V.int) ∧ ns.length ≤ 63 ∧
  ∀ H' k c, Same H H' → k ≠ c → H k = none → H c = none → H' c = some (.lst (ns.map V.int)) → H' k = some (.lst [.ref c, .int 0, .int 0, .int 0]) → Q (.ref k) H'
section
variable {P : Program} {w : World} {K : PySem.W.Frag} {mg : Str → Option Value} {base : Heap} {g : Pg} {T : Nat → Option Fd}
theorem cut63 {ns : List Int} (h : ns.length ≤ 63) : cutV (ns.map V.int) none (some 63) = ns.map V.int := by
  unfold cutV
  rw [HT.sIx_none, show HT.sIx (ns.map V.int).length (ns.map V.int).length (some 63) = min 63 (ns.map V.int).length from HT.sIx_nat _ _ 63, List.length_map]
  rw [List.drop_zero, Nat.sub_zero]
  exact List.take_of_length_le (by rw [List.length_map]; omega)
theorem deck_ok {st : Stmt} {fa : Addr} {fd : FuncData} {x : Str} {sc : Str} {p1 p2 p3 p4 p5 p6 p7 p8 p9 p10 p11 : Pos} {k1 k2 k3 k4 : Nat} (F : Fun K x x st fa fd) (S : FnScope [sc] [sc] (defScope st)) (ml : mg ("list" : Str) = none)
    (hb : defBody st = [.Return (some (.List [.Call (.Name "list" p1) [.Subscript (.Name sc p2) (.Slice none (some (.Constant (.int 63) k1 p3)) none p4) p5] [] p6, .Constant (.int 0) k2 p7, .Constant (.int 0) k3 p8, .Constant (.int 0) k4 p9] p10)) p11])
    (hsc : (defScope st).names.lookup sc = some .local) (hl : (defScope st).names.lookup ("list" : Str) = some .globalImplicit) (hd : (sc == ("__debug__" : Str)) = false) (hd2 : (sc == ("__classdict__" : Str)) = false) : FnG P w K mg base 1 fa fd [sc] (spDeck K) := by
  refine fnG_of F S (fun vs H Q E h => ?_) fun A out s H vs Q E hr hg h => ?_
  · obtain ⟨a, ns, rfl, _⟩ := h
    rfl
  · obtain ⟨a, ns, rfl, hS, hn, q⟩ := h
    rw [hb]
    refine ⟨_, pss_one (ps_ret (pe_lst (pa_cons (pe_callTy call_list_of (by exact hl) (by exact ml) boo_list (pa_cons (pe_slice sl_list (pe_var (i := 0) rfl (.inl hsc) hd hd2) po_none (po_some pe_int)) pa_nil rfl) (by decide +kernel) (by decide +kernel)) (pa_cons pe_int (pa_cons pe_int (pa_cons pe_int pa_nil rfl) rfl) rfl) rfl))), ?_⟩
    refine ⟨.ref a, rfl, 63, rfl, a, _, rfl, hS, fun p hp => ?_⟩
    rw [cut63 hn]
    refine ⟨p, _, rfl, .inl (.of upd_same), fun c hc => ⟨(show 4 ≤ sizeLine by decide), fun k hk' => ?_⟩⟩
    have np : H p = none := hp
    have nc : H c = none := by
      have ne : c ≠ p := fun z => by rw [z, upd_same] at hc; cases hc
      rw [upd_ne ne] at hc
      exact hc
    have nk : k ≠ c := fun z => by rw [z, upd_same] at hk'; cases hk'
    have nk0 : H k = none := by
      rw [upd_ne nk] at hk'
      have ne : k ≠ p := fun z => by rw [z, upd_same] at hk'; cases hk'
      rw [upd_ne ne] at hk'
      exact hk'
    exact q _ k c (((upd_same_of np).trans (upd_same_of hc)).trans (upd_same_of hk')) nk nk0 nc (by rw [upd_ne (Ne.symm nk), upd_same]) upd_same
def spLaw (Z : St0) (K : PySem.W.Frag) : Sp := fun vs H Q _ => ∃ (a : Addr) (ns : List Int), vs = [.ref a] ∧ SqL K H a (ns.map V.int) ∧ ns.length ≤ 63 ∧ TabOk Z H ∧ ∀ H', Q (.bl true) H'
/-- the law: its first line makes the deck, the rest is run -/
theorem law_ok {n : Nat} {st : Stmt} {fa fk : Addr} {fd fdk : FuncData} {x xd sc dk : Str} {Nr : List Str} {mu : List Nat} {lt : Bool} {rest : List Stmt} {body : List PSm} {p1 p2 p3 p4 p5 : Pos} (F : Facts Z P w K mg base g T) (Fn : Fun K x x st fa fd) (S : FnScope (sc :: dk :: Nr) [sc] (defScope st))
    (FD : FnG P w K mg base 1 fk fdk [sc] (spDeck K)) (md : mg xd = some (.ref fk)) (kd : PySem.W.keepIn K (.ref fk) = true) (bd : Binds K fdk [sc] [])
    (hb : defBody st = .Assign [.Name dk p1] (.Call (.Name xd p2) [.Name sc p3] [] p4) p5 :: rest)
    (hsc : Vis (defScope st) sc) (hdk : Loc (defScope st) dk) (hxd : (defScope st).names.lookup xd = some .globalImplicit) (hd : (sc == ("__debug__" : Str)) = false) (hd2 : (sc == ("__classdict__" : Str)) = false) (hd3 : (xd == ("__debug__" : Str)) = false)
    (hc : mapO (cS 60 (g.cn (sc :: dk :: Nr) (defScope st) lt) mu) rest = some body) (hlt : lt = true → LastIn K mg ∧ TabAt Z base mg x fd.code)
    (run : ∀ cells : List Int, cells.length ≤ 63 → ∃ s', runs (callF T PF (n + 1)) body (.un :: .val dkD :: List.replicate Nr.length .un) ⟨cells, 0, 0, 0⟩ = .rt (.bool true) s') :
    FnG P w K mg base (4 * n + 10) fa fd [sc] (spLaw Z K) := by
  refine fnG_of (k := 4 * n + 9) Fn S (fun vs H Q E h => ?_) fun A out s H vs Q E hr hg h => ?_
  · obtain ⟨a, ns, rfl, _⟩ := h
    rfl
  · obtain ⟨a, ns, rfl, hS, hn, tb, q⟩ := h
    have FS := FitS.of (out := out) (H := H) (E := E) F (lvl_all F (n + 1)) S hr hg hlt
    rw [hb]
    refine ⟨_, pss_cons (ps_set (i := 1) S.nd rfl hdk (pe_fnS (E := fun _ => E) FD (hr.mono (by omega)) md kd bd hg hxd pass_cx (pa_cons (pe_var (i := 0) rfl hsc hd hd2) pa_nil rfl) hd3 rfl rfl) rfl) (all_ok (cS_ok (mu := mu) 60 FS) hc), ?_⟩
    refine ⟨.ref a, rfl, a, ns, rfl, hS, hn, fun H' k c sm nkc hk0 hc0 ec ek => ?_⟩
    obtain ⟨s', hrun⟩ := run ns hn
    have gG : SameT Z (fun b => if b = c then some (.lst (ns.map V.int)) else none) H' := by
      refine ⟨fun b o e => ?_, fun p hp => ?_, fun b ps e => ?_⟩
      · by_cases z : b = c
        · simp only [z, if_true] at e; rw [z, ec, ← e]
        · simp only [z, if_false] at e; cases e
      · obtain ⟨ps, a1, a2, a3⟩ := tb p hp
        exact ⟨ps, sm _ _ a1, a2, fun pos cv e => let ⟨c', e1, e2⟩ := a3 pos cv e; ⟨c', e1, sm _ _ e2⟩⟩
      · by_cases z : b = c
        · simp only [z, if_true] at e; cases e
        · simp only [z, if_false] at e; cases e
    refine ⟨⟨k, true⟩, _, H', _, .un :: .val dkD :: List.replicate Nr.length .un, ⟨ns, 0, 0, 0⟩, ⟨.refl gG, ⟨by simp [nkc], .inl ⟨rfl, c, by simp, ek⟩⟩, by simp [L2.start], fun i d e => ?_, fun i ds e => ?_, fun i j ds es a n e => ?_⟩, ?_⟩
    · match i, e with
      | 1, e =>
        cases e
        exact ⟨.ref k, by simp [L2.start], .deck rfl⟩
      | i + 2, e =>
        simp only [List.getElem?_cons_succ, List.getElem?_replicate] at e
        split at e <;> cases e
    · match i, e with
      | i + 2, e =>
        simp only [List.getElem?_cons_succ, List.getElem?_replicate] at e
        split at e <;> cases e
    · match i, e with
      | i + 2, e =>
        simp only [List.getElem?_cons_succ, List.getElem?_replicate] at e
        split at e <;> cases e
    · show AtS _ _ _ _ _ (runs (callF T PF (n + 1)) body _ _) _
      rw [hrun]
      intro v G1 H1 _ _ r
      cases r
      exact q H1
/-- a law that makes no deck -/
theorem law_ok0 {n : Nat} {st : Stmt} {fa : Addr} {fd : FuncData} {x sc : Str} {Nr : List Str} {mu : List Nat} {lt : Bool} {body : List PSm} {p : Addr × Str} (F : Facts Z P w K mg base g T) (Fn : Fun K x x st fa fd) (S : FnScope (sc :: Nr) [sc] (defScope st)) (ht : p ∈ Z.tabs)
    (hc : mapO (cS 60 (g.cn (sc :: Nr) (defScope st) lt) mu) (defBody st) = some body) (hlt : lt = true → LastIn K mg ∧ TabAt Z base mg x fd.code)
    (run : ∃ s', runs (callF T PF (n + 1)) body (.un :: List.replicate Nr.length .un) ⟨[], 0, 0, 0⟩ = .rt (.bool true) s') :
    FnG P w K mg base (4 * n + 10) fa fd [sc] (spLaw Z K) := by
  refine fnG_of (k := 4 * n + 9) Fn S (fun vs H Q E h => ?_) fun A out s H vs Q E hr hg h => ?_
  · obtain ⟨a, ns, rfl, _⟩ := h
    rfl
  · obtain ⟨a, ns, rfl, hS, hn, tb, q⟩ := h
    have FS := FitS.of (out := out) (H := H) (E := E) F (lvl_all F (n + 1)) S hr hg hlt
    refine ⟨_, all_ok (cS_ok (mu := mu) 60 FS) hc, ?_⟩
    obtain ⟨s', hrun⟩ := run
    have gG : SameT Z (fun _ => none) H := ⟨(fun b o e => nomatch (show (none : Option HO) = some o from e)), tb, (fun b ps e => nomatch (show (none : Option HO) = some (.tbl ps) from e))⟩
    obtain ⟨ps, a1, _⟩ := tb p ht
    refine ⟨⟨p.1, false⟩, _, H, _, .un :: List.replicate Nr.length .un, ⟨[], 0, 0, 0⟩, ⟨.refl gG, ⟨rfl, .inr ⟨rfl, ⟨p.2, ht⟩, ps, a1⟩⟩, by simp [L2.start], fun i d e => ?_, fun i ds e => ?_, fun i j ds es a n e => ?_⟩, ?_⟩
    · match i, e with
      | i + 1, e =>
        simp only [List.getElem?_cons_succ, List.getElem?_replicate] at e
        split at e <;> cases e
    · match i, e with
      | i + 1, e =>
        simp only [List.getElem?_cons_succ, List.getElem?_replicate] at e
        split at e <;> cases e
    · match i, e with
      | i + 1, e =>
        simp only [List.getElem?_cons_succ, List.getElem?_replicate] at e
        split at e <;> cases e
    · show AtS _ _ _ _ _ (runs (callF T PF (n + 1)) body _ _) _
      rw [hrun]
      intro v G1 H1 _ _ r
      cases r
      exact q H1
end
/-- the head of a law: from its promise to the call behind the top; cs: code objects with their tables -/
theorem headG {P : Program} {w : World} {K : PySem.W.Frag} {mg mb : Str → Option Value} {j : Nat} {fa a : Addr} {fd : FuncData} {y : Str} {t : Shared} {vs : List Value} {ns : List Int} {cs : List (Addr × Addr)}
    (inK : K.In t.heap) (hG : t.heap.Ns mainGlobals mg) (hB : t.heap.Ns builtinsNs mb) (hBB : ∀ z : Str, z ≠ "__name__" → mb z = bootBuiltins z) (nl : t.heap.NoLimit) (ng : t.gens = #[])
    (tE : ∀ p ∈ cs, t.heap.get? p.2 = some { cls := .none, data := .fields #[] }) (tN : ∀ p ∈ cs, K.lookup p.2 = none) (tC : ∀ p ∈ cs, PySem.W.CodeHd t.heap p.1 p.2)
    (bmain : ∃ (bm : Addr) (ob : Obj), mg "__builtins__" = some (.ref bm) ∧ bm ≠ builtinsNs ∧ t.heap.get? bm = some ob ∧ ob.cls = .type "module" ∧ ob.dict = some builtinsNs ∧ ob.data = .plain)
    (ea : t.heap.get? a = some { cls := .type "list", data := .seq vs.toArray }) (ia : IntsAre vs ns) (ln : ns.length ≤ 63) (rm : Room j callerA) (hZ : ∀ p ∈ Z.tabs, p.1 ∈ cs.map (·.2))
    (F : ∀ base : Heap, K.In base → base.Ns mainGlobals mg → base.NoLimit → Mod K mg base → (∀ p ∈ cs, TabB base mg p.1 p.2) → FnG P w K mg base j fa fd [y] (spLaw Z K)) (bd : ∀ (u : Shared) (v : Value), BindsTo u fd ⟨[v], []⟩ [(y, v)]) :
    codeAny (model P w) callerA (.call (.ref fa) ⟨[.ref a], []⟩) (fun r t' => r = .ok (.ret (.bool true)) ∧ OldK t.heap t'.heap ∧ t'.os = t.os ∧ AllBare t'.gens) t := by
  have rv : Vals (ns.map V.int) vs := vals_ints ia
  have lv : vs.length = ns.length := ia.length
  have lz : ns.length ≤ sizeLine := by rw [sizeLine_eq]; omega
  have tE' : ∀ b, b ∈ cs.map (·.2) → t.heap.get? b = some { cls := .none, data := .fields #[] } := fun b hb => by
    obtain ⟨p, hp, e⟩ := List.mem_map.mp hb
    rw [← e]; exact tE p hp
  have naT : a ∉ cs.map (·.2) := fun z => by
    have q := tE' a z
    rw [ea] at q
    exact nomatch (show Data.seq vs.toArray _ = Data.fields #[] from congrArg Obj.data (Option.some.inj q))
  have main : ∀ H : Hp, (∀ b, H b = none ∨ (b ∈ cs.map (·.2) ∧ H b = some (.tbl #[])) ∨ (b = a ∧ K.lookup a = none ∧ ∃ o xs, H b = some (.frz o (.lst xs)))) → (∀ p ∈ cs, H p.2 = some (.tbl #[])) → SqL K H a (ns.map V.int) → HOk P w H t.heap → codeAny (model P w) callerA (.call (.ref fa) ⟨[.ref a], []⟩) (fun r t' => r = .ok (.ret (.bool true)) ∧ OldK t.heap t'.heap ∧ t'.os = t.os ∧ AllBare t'.gens) t := by
    intro H only tH sq ok
    have stays : ∀ {b : Addr} {o : Obj}, t.heap.get? b = some o → H b = none → (hidT t.heap H).get? b = some o := fun e n => hidT_get e n
    -- what is neither a list nor an empty table is not tracked
    have nd : ∀ {b : Addr} {o : Obj}, t.heap.get? b = some o → (∀ vs z, o.data ≠ .seq vs z) → o.data ≠ .fields #[] → H b = none := by
      intro b o e d1 d2
      rcases only b with n | ⟨m, _⟩ | ⟨rfl, _⟩
      · exact n
      · rw [tE' b m] at e
        cases e
        exact absurd rfl d2
      · rw [ea] at e
        cases e
        exact absurd rfl (d1 _ _)
    have ns_stays : ∀ {b : Addr} {m : Str → Option Value}, t.heap.Ns b m → (hidT t.heap H).Ns b m := by
      rintro b m ⟨o, es, ep, e, d, r⟩
      exact ⟨o, es, ep, stays e (nd e (fun _ _ z => nomatch d.symm.trans z) (fun z => nomatch d.symm.trans z)), d, r⟩
    have k_stays : K.In (hidT t.heap H) := by
      intro b o e
      refine stays (inK b o e) ?_
      rcases only b with n | ⟨m, _⟩ | ⟨rfl, n, _⟩
      · exact n
      · obtain ⟨p, hp, ep⟩ := List.mem_map.mp m
        rw [← ep, tN p hp] at e
        cases e
      · rw [n] at e
        cases e
    have nl_stays : (hidT t.heap H).NoLimit := let ⟨mc, z1, z2⟩ := nl; ⟨mc, ns_stays z1, z2⟩
    have mod : Mod K mg (hidT t.heap H) := ⟨k_stays, ns_stays hG, ⟨mb, ns_stays hB, hBB⟩, nl_stays⟩
    have env : L2.Env0 P w K mg (hidT t.heap H) callerA [] t H := ⟨rfl, mod, fun b o e => of_hidT e, Nat.le_of_eq (hidT_size _ _), trivial, fun b hb => absurd hb List.not_mem_nil, ok, .of_eq ng⟩
    have tB : ∀ p ∈ cs, TabB (hidT t.heap H) mg p.1 p.2 := fun p hp => by
      have eP := tE p hp
      refine ⟨?_, ?_, fun z => ?_⟩
      · obtain ⟨o, us, f1, f2, f3, f4, f5, f6, f7, e1, r1, r2, r3, r4⟩ := tC p hp
        refine ⟨o, us, f1, f2, f3, f4, f5, f6, f7, stays e1 (nd e1 (fun _ _ z => nomatch r2.symm.trans z) (fun z => ?_)), r1, r2, r3, r4⟩
        rw [r2] at z
        cases z
        simp at r3
      · obtain ⟨bm, ob, b1, b2, b3, b4, b5, b6⟩ := bmain
        have n1 : bm ≠ mainGlobals := fun z => by
          obtain ⟨o, es, ep, e, d, _⟩ := hG
          rw [z, e] at b3
          cases b3
          exact nomatch d.symm.trans b6
        have n2 : bm ≠ p.2 := fun z => by
          rw [z, eP] at b3
          cases b3
          exact nomatch b6
        exact ⟨bm, ob, b1, b2, n1, n2, stays b3 (nd b3 (fun _ _ z => nomatch b6.symm.trans z) fun z => nomatch b6.symm.trans z), b4, b5, b6⟩
      · obtain ⟨o, es, ep, e, d, _⟩ := hG
        rw [z, eP] at e
        cases e
        cases d
    have tO : TabOk Z H := fun p hp => by
      obtain ⟨q, hq, e⟩ := List.mem_map.mp (hZ p hp)
      refine ⟨#[], by rw [← e]; exact tH q hq, ?_, (fun pos cv z => nomatch z)⟩
      exact trivial
    have go := (F _ k_stays (ns_stays hG) nl_stays mod tB).runs callerA [] t H ⟨[.ref a], []⟩ [.ref a] [.ref a] (fun v _ => v = .bl true) (fun _ _ _ => False) rm rfl env (bd t (.ref a)) (.cons rfl .nil) ⟨a, ns, rfl, sq, ln, tO, fun _ => rfl⟩
    refine codeAny_mono go fun r t' h => ?_
    match r, h with
    | .error e, h => exact (let ⟨_, _, _, _, _, _, _, _, _, _, _, _, z⟩ := h; z.elim)
    | .ok .next, h => exact False.elim h
    | .ok .brk, h => exact False.elim h
    | .ok .cont, h => exact False.elim h
    | .ok (.ret u), h =>
      obtain ⟨v, H', eos, bare, un, ok', rvu, rfl⟩ := h
      cases (show u = Value.bool true from rvu)
      have same : ∀ b o, b ∉ cs.map (·.2) → t.heap.get? b = some o → t'.heap.get? b = some o := fun b o nb e => by
        rcases only b with n | ⟨m, _⟩ | ⟨_, _, ob, xs, n⟩
        · exact un.keep b o e n (fun z => absurd z List.not_mem_nil) (fun z => absurd z List.not_mem_nil)
        · exact absurd m nb
        · obtain ⟨g1, _⟩ := ok b _ n
          obtain ⟨g2, _⟩ := ok' b _ (un.frzs b ob _ n)
          rw [e] at g1
          cases g1
          exact g2
      have more : ∀ p ∈ cs, ∃ m : Array Value, t'.heap.get? p.2 = some { cls := .none, data := .fields m } := fun p hp => by
        obtain ⟨m, z⟩ := un.tbls p.2 #[] (tH p hp)
        exact ⟨_, ok' p.2 _ z⟩
      refine ⟨rfl, ⟨fun b o e => ?_, fun b o e => ?_⟩, eos, bare⟩
      · by_cases hb : b ∈ cs.map (·.2)
        · obtain ⟨p, hp, ep⟩ := List.mem_map.mp hb
          obtain ⟨m, hm⟩ := more p hp
          subst ep
          rw [tE p hp] at e
          cases e
          exact .inr (.inl ⟨((tC p hp).tab (tE p hp)).isCodeTable, rfl, #[], m, rfl, by rw [Array.empty_append]; exact hm⟩)
        · exact .inl (same b o hb e)
      · by_cases hb : b ∈ cs.map (·.2)
        · obtain ⟨p, hp, ep⟩ := List.mem_map.mp hb
          obtain ⟨m, hm⟩ := more p hp
          exact ⟨_, by rw [← ep]; exact hm⟩
        · exact ⟨o, same b o hb e⟩
  have inT : ∀ p ∈ cs, p.2 ∈ cs.map (·.2) := fun p hp => List.mem_map.mpr ⟨p, hp, rfl⟩
  cases hka : K.lookup a with
  | some o =>
    have e := inK a o hka
    rw [ea] at e
    cases e
    obtain ⟨H, hH⟩ : ∃ H : Hp, H = fun b => if b ∈ cs.map (·.2) then some (.tbl #[]) else none := ⟨_, rfl⟩
    have yes : ∀ b, b ∈ cs.map (·.2) → H b = some (.tbl #[]) := fun b m => by rw [hH]; exact if_pos m
    have no : ∀ b, b ∉ cs.map (·.2) → H b = none := fun b m => by rw [hH]; exact if_neg m
    refine main H (fun b => ?_) (fun p hp => yes _ (inT p hp)) (.inr ⟨_, vs.toArray, _, hka, rfl, rfl, rfl, by rw [List.size_toArray, lv]; exact lz, by simpa using rv⟩) (fun b u z => ?_)
    · by_cases m : b ∈ cs.map (·.2)
      · exact .inr (.inl ⟨m, yes b m⟩)
      · exact .inl (no b m)
    · by_cases m : b ∈ cs.map (·.2)
      · rw [yes b m] at z
        cases z
        exact tE' b m
      · rw [no b m] at z
        cases z
  | none =>
    obtain ⟨H, hH⟩ : ∃ H : Hp, H = fun b => if b = a then some (.frz { cls := .type "list", data := .seq vs.toArray } (.lst (ns.map V.int))) else if b ∈ cs.map (·.2) then some (.tbl #[]) else none := ⟨_, rfl⟩
    have at_a : H a = some (.frz { cls := .type "list", data := .seq vs.toArray } (.lst (ns.map V.int))) := by rw [hH]; exact if_pos rfl
    have yes : ∀ b, b ∈ cs.map (·.2) → H b = some (.tbl #[]) := fun b m => by
      have n : b ≠ a := fun z => naT (by rw [← z]; exact m)
      rw [hH]
      exact (if_neg n).trans (if_pos m)
    have no : ∀ b, b ≠ a → b ∉ cs.map (·.2) → H b = none := fun b n m => by rw [hH]; exact (if_neg n).trans (if_neg m)
    refine main H (fun b => ?_) (fun p hp => yes _ (inT p hp)) (.inl (.inr ⟨_, at_a⟩)) (fun b u z => ?_)
    · by_cases e : b = a
      · subst e; exact .inr (.inr ⟨rfl, hka, _, _, at_a⟩)
      · by_cases m : b ∈ cs.map (·.2)
        · exact .inr (.inl ⟨m, yes b m⟩)
        · exact .inl (no b e m)
    · by_cases e : b = a
      · subst e
        rw [at_a] at z
        cases z
        exact ⟨ea, by rw [List.length_map]; exact lz, vs, _, rv, ea⟩
      · by_cases m : b ∈ cs.map (·.2)
        · rw [yes b m] at z
          cases z
          exact tE' b m
        · rw [no b e m] at z
          cases z
/-- what k_head leaves, from the law's promise -/
theorem walkG {l : PySem.W.OpenLaw} {j : Nat} {q : Program} {loose : List Str} {XP : (Str → Option Value) → Heap → Prop} {YP : World → Heap → Prop} {d : DefRec} {K : Params → PySem.W.Frag} {y : Str}
    (hn : l.most = some 63) (hdf : d.params.defaults = []) (rm : Room j callerA) (hY : ∀ (w : World) (h : Heap), YP w h → (K w.params).In h)
    (F : ∀ (w : World) (mg : Str → Option Value) (fa : Addr) (h : Heap), YP w h → (K w.params).In h → h.Ns mainGlobals mg → mg d.name = some (.ref fa) →
      ∃ (Z : St0) (cs : List (Addr × Addr)) (fd : FuncData), (∀ p ∈ cs, h.get? p.2 = some { cls := .none, data := .fields #[] }) ∧ (∀ p ∈ cs, (K w.params).lookup p.2 = none) ∧ (∀ p ∈ cs, PySem.W.CodeHd h p.1 p.2) ∧ (∀ p ∈ Z.tabs, p.1 ∈ cs.map (·.2)) ∧ (∀ (s : Shared) (u : Value), BindsTo s fd ⟨[u], []⟩ [(y, u)]) ∧
        ∀ base : Heap, (K w.params).In base → base.Ns mainGlobals mg → base.NoLimit → Mod (K w.params) mg base → (∀ p ∈ cs, TabB base mg p.1 p.2) → FnG l.prog w (K w.params) mg base j fa fd [y] (spLaw Z (K w.params))) :
    PySem.W.WalkO q loose XP YP l.row.toRowW d [] (fun f vs => PySem.call f vs) := by
  refine Att.attach_call hn hdf ?_
  intro w s0 s1 mg mb fa o pm cd doc a vs ns G Y ho hd hcd hmg hobj hints hlen hg
  obtain ⟨Z, cs, fd, h1, h2, h3, h4, hb, hF⟩ := F w mg fa _ Y (hY w _ Y) G.T.g hmg
  exact headG (hY w _ Y) G.T.g G.T.b G.T.builtins G.T.nolimit hg h1 h2 h3 G.T.bmain hobj hints hlen rm h4 hF hb
/-- no classes, no tables -/
abbrev Z0 : St0 := { cls := fun _ => none, inj := (fun h => nomatch h), tabs := [] }
theorem walkG0 {l : PySem.W.OpenLaw} {j : Nat} {q : Program} {loose : List Str} {XP : (Str → Option Value) → Heap → Prop} {YP : World → Heap → Prop} {d : DefRec} {K : Params → PySem.W.Frag} {y : Str}
    (hn : l.most = some 63) (hdf : d.params.defaults = []) (rm : Room j callerA) (hY : ∀ (w : World) (h : Heap), YP w h → (K w.params).In h)
    (F : ∀ (w : World) (mg : Str → Option Value) (fa : Addr) (h : Heap), (K w.params).In h → h.Ns mainGlobals mg → mg d.name = some (.ref fa) →
      ∃ fd : FuncData, (∀ (s : Shared) (u : Value), BindsTo s fd ⟨[u], []⟩ [(y, u)]) ∧ ∀ base : Heap, (K w.params).In base → base.Ns mainGlobals mg → base.NoLimit → Mod (K w.params) mg base → FnG l.prog w (K w.params) mg base j fa fd [y] (spLaw Z0 (K w.params))) :
    PySem.W.WalkO q loose XP YP l.row.toRowW d [] (fun f vs => PySem.call f vs) :=
  walkG hn hdf rm hY fun w mg fa h _ X N e => by
    obtain ⟨fd, b, f⟩ := F w mg fa h X N e
    exact ⟨Z0, [], fd, (fun _ h => nomatch h), (fun _ h => nomatch h), (fun _ h => nomatch h), (fun _ h => nomatch h), b, fun base a1 a2 a3 a4 _ => f base a1 a2 a3 a4⟩
end CH

set_option Elab.async false
set_option linter.all false
set_option maxRecDepth 100000
set_option maxHeartbeats 4000000
/-! errors: their __init__ -/
namespace CH
variable {Z : St0}
open PySem PySem.Spec L2 PyProof.Rows
section
variable {P : Program} {w : World} {K : PySem.W.Frag} {mg : Str → Option Value} {base : Heap}
theorem ini_one {n f : Str} {qual : Str} {st : Stmt} {fI : Addr} {oc : Value} {od an : Option Addr} {osl : Array (Option Value)} {kV doc pm cdv ct : Value} {p1 p2 p3 p4 : Pos} (hn : exFld n = [f])
    (lk : K.lookup fI = some ⟨oc, od, .func (PySem.W.fnOf "__init__" qual (defArgs st) (defBody st) (defScope st) .none kV doc pm an cdv ct), osl⟩) (hcd : PySem.W.codeIn K cdv qual = true)
    (S : FnScope ["self", f] ["self", f] (defScope st)) (hb : defBody st = [.Assign [.Attribute (.Name "self" p1) f p2] (.Name f p3) p4]) (v1 : Vis (defScope st) "self") (v2 : Vis (defScope st) f) (hd : (f == ("__debug__" : Str)) = false) (hd2 : (f == ("__classdict__" : Str)) = false) :
    FnOk P w K mg base (L2.CX P w) 1 fI (PySem.W.fnOf "__init__" qual (defArgs st) (defBody st) (defScope st) .none kV doc pm an cdv ct) ("self" :: exFld n) (spIni K n) := by
  rw [hn]
  refine fn_of lk hcd S (fun vs H Q E h => ?_) fun A out s H vs Q E hr h => ?_
  · obtain ⟨a, C, us, rfl, hl, _⟩ := h
    rw [hn] at hl
    simpa using hl
  · obtain ⟨a, C, us, rfl, hl, ha, T, noF, q⟩ := h
    rw [hn] at hl noF q
    match us, hl with
    | [u], _ =>
      rw [hb]
      refine ⟨_, pss_one (ps_ost (pe_var (i := 0) rfl v1) (pe_var (i := 1) rfl v2 hd hd2) rfl), ?_⟩
      refine ⟨u, rfl, .ref a, rfl, a, C, rfl, T, noF f List.mem_cons_self, .inl ⟨ha, fun dx hx ne => ?_⟩⟩
      exact q dx _ ne hx upd_same (by rw [upd_ne ne, upd_same]; rfl) fun b h1 h2 => by rw [upd_ne h1, upd_ne h2]
theorem ini_two {n f g : Str} {qual : Str} {st : Stmt} {fI : Addr} {oc : Value} {od an : Option Addr} {osl : Array (Option Value)} {kV doc pm cdv ct : Value} {p1 p2 p3 p4 p5 p6 p7 p8 : Pos} (hn : exFld n = [f, g])
    (lk : K.lookup fI = some ⟨oc, od, .func (PySem.W.fnOf "__init__" qual (defArgs st) (defBody st) (defScope st) .none kV doc pm an cdv ct), osl⟩) (hcd : PySem.W.codeIn K cdv qual = true)
    (S : FnScope ["self", f, g] ["self", f, g] (defScope st)) (hb : defBody st = [.Assign [.Attribute (.Name "self" p1) f p2] (.Name f p3) p4, .Assign [.Attribute (.Name "self" p5) g p6] (.Name g p7) p8]) (v1 : Vis (defScope st) "self") (v2 : Vis (defScope st) f) (v3 : Vis (defScope st) g)
    (hd : (f == ("__debug__" : Str)) = false) (hd2 : (f == ("__classdict__" : Str)) = false) (hd3 : (g == ("__debug__" : Str)) = false) (hd4 : (g == ("__classdict__" : Str)) = false) :
    FnOk P w K mg base (L2.CX P w) 1 fI (PySem.W.fnOf "__init__" qual (defArgs st) (defBody st) (defScope st) .none kV doc pm an cdv ct) ("self" :: exFld n) (spIni K n) := by
  rw [hn]
  refine fn_of lk hcd S (fun vs H Q E h => ?_) fun A out s H vs Q E hr h => ?_
  · obtain ⟨a, C, us, rfl, hl, _⟩ := h
    rw [hn] at hl
    simpa using hl
  · obtain ⟨a, C, us, rfl, hl, ha, T, noF, q⟩ := h
    rw [hn] at hl noF q
    match us, hl with
    | [u, v], _ =>
      rw [hb]
      refine ⟨_, pss_cons (ps_ost (pe_var (i := 0) rfl v1) (pe_var (i := 1) rfl v2 hd hd2) rfl) (pss_one (ps_ost (pe_var (i := 0) rfl v1) (pe_var (i := 2) rfl v3 hd3 hd4) rfl)), ?_⟩
      refine ⟨u, rfl, .ref a, rfl, a, C, rfl, T, noF f List.mem_cons_self, .inl ⟨ha, fun dx hx ne => ?_⟩⟩
      refine ⟨v, rfl, .ref a, rfl, a, C, rfl, T, noF g (List.mem_cons_of_mem _ List.mem_cons_self), .inr ⟨dx, [(f, u)], upd_same, by rw [upd_ne ne, upd_same], (by show 1 ≤ 900; decide), ?_⟩⟩
      exact q dx _ ne hx (by rw [upd_ne (Ne.symm ne), upd_same]) (by rw [upd_same]; rfl) fun b h1 h2 => by rw [upd_ne h2, upd_ne h1, upd_ne h2]
/-- the __init__ of a class statement -/
def clsInit (st : Stmt) : Stmt := match st with
  | .ClassDef _ _ _ (b :: _) _ _ _ _ _ _ _ => b
  | _ => .Pass ⟨0, 0, 0, 0⟩
end
end CH

set_option Elab.async false
set_option linter.all false
set_option maxRecDepth 100000
set_option maxHeartbeats 4000000
/-! laws with a class of their own -/
namespace CH
open PySem PySem.Spec L2 PyProof.Rows
/-- one class -/
def Z1 (n : Str) (O : Addr) (tabs : List (Addr × Str)) : St0 where
  cls := fun c => if c = n then some O else none
  inj := fun {c d C} h1 h2 => by
    by_cases e : c = n
    · by_cases e2 : d = n
      · rw [e, e2]
      · rw [if_neg e2] at h2; cases h2
    · rw [if_neg e] at h1; cases h1
  tabs := tabs
theorem Z1.cls_of {n c : Str} {O C : Addr} {tabs : List (Addr × Str)} (h : (Z1 n O tabs).cls c = some C) : C = O := by
  have h : (if c = n then some O else none) = some C := h
  split at h
  · cases h; rfl
  · cases h
theorem Z1.cls_is {n : Str} {O : Addr} {tabs : List (Addr × Str)} : (Z1 n O tabs).cls n = some O := if_pos rfl
/-- two classes -/
def Z2 (n m : Str) (O U : Addr) (hO : O ≠ U) (tabs : List (Addr × Str)) : St0 where
  cls := fun c => if c = n then some O else if c = m then some U else none
  inj := fun {c d C} h1 h2 => by
    by_cases e : c = n
    · rw [if_pos e] at h1
      by_cases e2 : d = n
      · rw [e, e2]
      · rw [if_neg e2] at h2
        split at h2
        · exact absurd ((Option.some.inj h1).trans (Option.some.inj h2).symm) hO
        · cases h2
    · rw [if_neg e] at h1
      by_cases e2 : d = n
      · rw [if_pos e2] at h2
        split at h1
        · exact absurd ((Option.some.inj h2).trans (Option.some.inj h1).symm) hO
        · cases h1
      · rw [if_neg e2] at h2
        split at h1
        · rename_i e3
          split at h2
          · rename_i e4
            rw [e3, e4]
          · cases h2
        · cases h1
  tabs := tabs
theorem Z2.cls_of {n m c : Str} {O U C : Addr} {hO : O ≠ U} {tabs : List (Addr × Str)} (h : (Z2 n m O U hO tabs).cls c = some C) : C = O ∨ C = U := by
  have h : (if c = n then some O else if c = m then some U else none) = some C := h
  split at h
  · cases h; exact .inl rfl
  · split at h
    · cases h; exact .inr rfl
    · cases h
theorem Z2.is1 {n m : Str} {O U : Addr} {hO : O ≠ U} {tabs : List (Addr × Str)} : (Z2 n m O U hO tabs).cls n = some O := if_pos rfl
theorem Z2.is2 {n m : Str} {O U : Addr} {hO : O ≠ U} {tabs : List (Addr × Str)} (h : m ≠ n) : (Z2 n m O U hO tabs).cls m = some U := (if_neg h).trans (if_pos rfl)
/-- errors that are held as values -/
def ZX (l : List (Str × Addr)) (nd : (l.map (·.2)).Nodup) : St0 where
  cls := fun _ => none
  inj := fun {c d C} h => nomatch h
  tabs := []
  xc := fun n => l.lookup n
  xinj := fun {c d C} h1 h2 => by
    have m1 := PySem.mem_of_lookup h1
    have m2 := PySem.mem_of_lookup h2
    clear h1 h2
    induction l with
    | nil => cases m1
    | cons p r ih =>
      rw [List.map_cons, List.nodup_cons] at nd
      rcases List.mem_cons.mp m1 with e1 | m1
      · rcases List.mem_cons.mp m2 with e2 | m2
        · exact congrArg Prod.fst (e1.trans e2.symm)
        · exact absurd (List.mem_map.mpr ⟨_, m2, by rw [← e1]⟩) nd.1
      · rcases List.mem_cons.mp m2 with e2 | m2
        · exact absurd (List.mem_map.mpr ⟨_, m1, by rw [← e2]⟩) nd.1
        · exact ih nd.2 m1 m2
/-- the table of a code object -/
def tblIn (K : PySem.W.Frag) (c : Addr) : Option Addr := match K.lookup c with
  | some ⟨_, _, .fields vs, _⟩ => (match (vs[11]? : Option Value) with | some (.ref P) => some P | _ => none)
  | _ => none
def refIn : Value → Option Addr
  | .ref c => some c
  | _ => none
theorem refIn_eq {v : Value} {c : Addr} (h : refIn v = some c) : v = .ref c := by
  cases v <;> first | (cases h; rfl) | cases h
/-- the places of last_that -/
def lastPos : List Stmt → List Pos
  | [.While (.Compare (.BinOp (.Name _ p0) .Sub (.Name _ p1) p2) [.Gt] [.Constant _ _ p3] p4) [.Assign [.Name _ p5] (.BinOp (.BinOp (.Name _ p6) .Add (.Name _ p7) p8) .FloorDiv (.Constant _ _ p9) p10) p11, .If (.Call (.Name _ p12) [.Name _ p13] [] p14) [.Assign [.Name _ p15] (.Name _ p16) p17] [.Assign [.Name _ p18] (.Name _ p19) p20] p21] [] p22, .Return (some (.Name _ p23)) p24] =>
    [p0, p1, p2, p3, p4, p5, p6, p7, p8, p9, p10, p11, p12, p13, p14, p15, p16, p17, p18, p19, p20, p21, p22, p23, p24]
  | _ => []
def lastNum : List Stmt → Nat × Nat
  | [.While (.Compare _ _ [.Constant _ i _] _) [.Assign _ (.BinOp _ _ (.Constant _ j _) _) _, _] _ _, _] => (i, j)
  | _ => (0, 0)
end CH

set_option Elab.async false
set_option linter.all false
set_option maxRecDepth 100000
set_option maxHeartbeats 4000000
/-! what a run gives, by its end: rules by construct -/
namespace CH
open PySem
def Sat0 {α : Type} (o : Out α) (p : α → Dk → Prop) : Prop := match o with
  | .ok a s => p a s
  | _ => False
def SatS0 (o : OutS) (n c : Env1 → Dk → Prop) (r : D → Dk → Prop) : Prop := match o with
  | .nx ρ s => n ρ s
  | .ct ρ s => c ρ s
  | .rt d s => r d s
  | _ => False
/-- no def, so that nothing unfolds it -/
structure Sat {α : Type} (o : Out α) (p : α → Dk → Prop) : Prop where
  h : Sat0 o p
structure SatS (o : OutS) (n c : Env1 → Dk → Prop) (r : D → Dk → Prop) : Prop where
  h : SatS0 o n c r
theorem sat_eq {α : Type} {o : Out α} {p : α → Dk → Prop} : Sat o p = Sat0 o p := propext ⟨Sat.h, Sat.mk⟩
theorem satS_eq {o : OutS} {n c : Env1 → Dk → Prop} {r : D → Dk → Prop} : SatS o n c r = SatS0 o n c r := propext ⟨SatS.h, SatS.mk⟩
/-! ### parts that are looked at from the head only -/
def OS {α : Type} (o : Option α) (P : α → Prop) : Prop := ∃ a, o = some a ∧ P a
def BS (d : D) (P : Bool → Prop) : Prop := ∃ t, d = .bool t ∧ P t
def IS (d : D) (P : Int → Prop) : Prop := ∃ i, d = .int i ∧ P i
def LS (d : D) (P : List D → Prop) : Prop := ∃ ds, d = .list ds ∧ P ds
def IfS (t : Bool) (A B : Prop) : Prop := if t = true then A else B
def Let1 {α : Type} (a : α) (k : α → Prop) : Prop := k a
theorem ifD {c : Prop} [Decidable c] {A B : Prop} (h1 : c → A) (h2 : ¬c → B) : IfS (decide c) A B := by
  by_cases h : c
  · simp only [IfS, h, decide_true, if_true]; exact h1 h
  · simp only [IfS, h, decide_false, Bool.false_eq_true, if_false]; exact h2 h
theorem ifY {c : Prop} [Decidable c] {A B : Prop} (h : c) (a : A) : IfS (decide c) A B := ifD (fun _ => a) fun z => absurd h z
theorem ifN {c : Prop} [Decidable c] {A B : Prop} (h : ¬c) (b : B) : IfS (decide c) A B := ifD (fun z => absurd z h) fun _ => b
/-! the same with what follows out of sight -/
class Kn (α : Type) where
  k : α → Prop
class Kd (α : Type) where
  k : α → Dk → Prop
class Ks where
  n : Env1 → Dk → Prop
  c : Env1 → Dk → Prop
  r : D → Dk → Prop
class Kb where
  y : Prop
  n : Prop
def OSI {α : Type} (o : Option α) [i : Kn α] : Prop := OS o i.k
def BSI (d : D) [i : Kn Bool] : Prop := BS d i.k
def ISI (d : D) [i : Kn Int] : Prop := IS d i.k
def LSI (d : D) [i : Kn (List D)] : Prop := LS d i.k
def IfSI (t : Bool) [i : Kb] : Prop := IfS t i.y i.n
def Let1I {α : Type} (a : α) [i : Kn α] : Prop := Let1 a i.k
def SatI {α : Type} (o : Out α) [i : Kd α] : Prop := Sat o i.k
def SatSI (o : OutS) [i : Ks] : Prop := SatS o i.n i.c i.r
theorem os_in {α : Type} {o : Option α} {P : α → Prop} : OS o P = @OSI α o ⟨P⟩ := propext Iff.rfl
theorem bs_in {d : D} {P : Bool → Prop} : BS d P = @BSI d ⟨P⟩ := propext Iff.rfl
theorem is_in {d : D} {P : Int → Prop} : IS d P = @ISI d ⟨P⟩ := propext Iff.rfl
theorem ls_in {d : D} {P : List D → Prop} : LS d P = @LSI d ⟨P⟩ := propext Iff.rfl
theorem if_in {t : Bool} {A B : Prop} : IfS t A B = @IfSI t ⟨A, B⟩ := propext Iff.rfl
theorem let_in {α : Type} {a : α} {P : α → Prop} : Let1 a P = @Let1I α a ⟨P⟩ := propext Iff.rfl
theorem sat_in {α : Type} {o : Out α} {p : α → Dk → Prop} : Sat o p = @SatI α o ⟨p⟩ := propext Iff.rfl
theorem satS_in {o : OutS} {n c : Env1 → Dk → Prop} {r : D → Dk → Prop} : SatS o n c r = @SatSI o ⟨n, c, r⟩ := propext Iff.rfl
theorem Sat.mono {α : Type} {o : Out α} {p q : α → Dk → Prop} (h : Sat o p) (w : ∀ a s, p a s → q a s) : Sat o q := by
  rw [sat_eq] at h ⊢
  cases o with
  | ok a s => exact w a s h
  | _ => exact h
theorem Sat.get {α : Type} {o : Out α} {p : α → Dk → Prop} (h : Sat o p) : ∃ a s, o = .ok a s ∧ p a s := by
  rw [sat_eq] at h
  cases o with
  | ok a s => exact ⟨a, s, rfl, h⟩
  | _ => exact h.elim
theorem sat_bind {α β : Type} {o : Out α} {f : α → Dk → Out β} {p : β → Dk → Prop} : Sat (o.bind f) p = Sat o fun a s => Sat (f a s) p := by simp only [sat_eq, satS_eq]; cases o <;> rfl
theorem sat_bind_i {α β : Type} {o : Out α} {f : α → Dk → Out β} {p : β → Dk → Prop} : @SatI _ (o.bind f) ⟨p⟩ = Sat o fun a s => Sat (f a s) p := sat_bind
theorem sat_ok {α : Type} {a : α} {s : Dk} {p : α → Dk → Prop} : Sat (.ok a s) p = p a s := sat_eq
theorem sat_ok_i {α : Type} {a : α} {s : Dk} {p : α → Dk → Prop} : @SatI _ (.ok a s) ⟨p⟩ = p a s := sat_ok
theorem sat_of {α : Type} {o : Option α} {s : Dk} {p : α → Dk → Prop} : Sat (.of o s) p = ∃ a, o = some a ∧ p a s := by
  cases o with
  | none => simp [Out.of, sat_eq, Sat0]
  | some a => simp [Out.of, sat_eq, Sat0]
theorem sat_of_i {α : Type} {o : Option α} {s : Dk} {p : α → Dk → Prop} : @SatI _ (.of o s) ⟨p⟩ = ∃ a, o = some a ∧ p a s := sat_of
theorem sat_still {α : Type} {o : Out α} {p : α → Dk → Prop} : Sat o.still p = Sat o p := by simp only [sat_eq, satS_eq]; cases o <;> rfl
theorem satS_then {α : Type} {o : Out α} {ρ : Env1} {f : α → Dk → OutS} {n c : Env1 → Dk → Prop} {r : D → Dk → Prop} : SatS (o.thenS ρ f) n c r = Sat o fun a s => SatS (f a s) n c r := by simp only [sat_eq, satS_eq]; cases o <;> rfl
theorem satS_then_i {α : Type} {o : Out α} {ρ : Env1} {f : α → Dk → OutS} {n c : Env1 → Dk → Prop} {r : D → Dk → Prop} : @SatSI (o.thenS ρ f) ⟨n, c, r⟩ = Sat o fun a s => SatS (f a s) n c r := satS_then
theorem satS_next {o : OutS} {f : Env1 → Dk → OutS} {n c : Env1 → Dk → Prop} {r : D → Dk → Prop} : SatS (o.next f) n c r = SatS o (fun ρ s => SatS (f ρ s) n c r) c r := by simp only [sat_eq, satS_eq]; cases o <;> rfl
theorem satS_next_i {o : OutS} {f : Env1 → Dk → OutS} {n c : Env1 → Dk → Prop} {r : D → Dk → Prop} : @SatSI (o.next f) ⟨n, c, r⟩ = SatS o (fun ρ s => SatS (f ρ s) n c r) c r := satS_next
theorem satS_again {o : OutS} {f : Env1 → Dk → OutS} {n c : Env1 → Dk → Prop} {r : D → Dk → Prop} : SatS (againS o f) n c r = SatS o (fun ρ s => SatS (f ρ s) n c r) (fun ρ s => SatS (f ρ s) n c r) r := by simp only [sat_eq, satS_eq]; cases o <;> rfl
theorem satS_again_i {o : OutS} {f : Env1 → Dk → OutS} {n c : Env1 → Dk → Prop} {r : D → Dk → Prop} : @SatSI (againS o f) ⟨n, c, r⟩ = SatS o (fun ρ s => SatS (f ρ s) n c r) (fun ρ s => SatS (f ρ s) n c r) r := satS_again
theorem satS_nx {ρ : Env1} {s : Dk} {n c : Env1 → Dk → Prop} {r : D → Dk → Prop} : SatS (.nx ρ s) n c r = n ρ s := satS_eq
theorem satS_nx_i {ρ : Env1} {s : Dk} {n c : Env1 → Dk → Prop} {r : D → Dk → Prop} : @SatSI (.nx ρ s) ⟨n, c, r⟩ = n ρ s := satS_nx
theorem satS_ct {ρ : Env1} {s : Dk} {n c : Env1 → Dk → Prop} {r : D → Dk → Prop} : SatS (.ct ρ s) n c r = c ρ s := satS_eq
theorem satS_ct_i {ρ : Env1} {s : Dk} {n c : Env1 → Dk → Prop} {r : D → Dk → Prop} : @SatSI (.ct ρ s) ⟨n, c, r⟩ = c ρ s := satS_ct
theorem satS_rt {d : D} {s : Dk} {n c : Env1 → Dk → Prop} {r : D → Dk → Prop} : SatS (.rt d s) n c r = r d s := satS_eq
theorem satS_rt_i {d : D} {s : Dk} {n c : Env1 → Dk → Prop} {r : D → Dk → Prop} : @SatSI (.rt d s) ⟨n, c, r⟩ = r d s := satS_rt
theorem sat_back {o : OutS} {p : D → Dk → Prop} : Sat o.back p = SatS o (fun _ s => p .none s) (fun _ _ => False) p := by simp only [sat_eq, satS_eq]; cases o <;> rfl
theorem satS_mono {o : OutS} {n c n' c' : Env1 → Dk → Prop} {r r' : D → Dk → Prop} (h : SatS o n c r) (h1 : ∀ ρ s, n ρ s → n' ρ s) (h2 : ∀ ρ s, c ρ s → c' ρ s) (h3 : ∀ d s, r d s → r' d s) : SatS o n' c' r' := by
  rw [satS_eq] at h ⊢
  cases o with
  | nx ρ s => exact h1 _ _ h
  | ct ρ s => exact h2 _ _ h
  | rt d s => exact h3 _ _ h
  | _ => exact h
theorem sat_call {T : Nat → Option Fd} {n i : Nat} {ds : List D} {s : Dk} {d : Fd} {p : D → Dk → Prop} (h : T i = some d) (hl : ds.length = d.np) (ho : d.off = 0 := by rfl) : Sat (callF T PF (n + 1) i ds s) p = SatS (runs (callF T PF n) d.body (ds.map .val ++ List.replicate (d.nn - d.np) .un) s) (fun _ s => p .none s) (fun _ _ => False) p := by
  simp only [callF, h, hl, if_true, ho]
  exact sat_back
/-- an __init__: the new object's place is ahead of the parameters -/
theorem sat_new {T : Nat → Option Fd} {n i : Nat} {ds : List D} {s : Dk} {d : Fd} {p : D → Dk → Prop} (h : T i = some d) (hl : ds.length = d.np) (ho : d.off = 1 := by rfl) : Sat (callF T PF (n + 1) i ds s) p = SatS (runs (callF T PF n) d.body (.un :: (ds.map .val ++ List.replicate (d.nn - d.np - 1) .un)) s) (fun _ s => p .none s) (fun _ _ => False) p := by
  simp only [callF, h, hl, if_true, ho]
  exact sat_back
/-- a comprehension whose parts leave the deck alone -/
theorem lc_pure {test : D → Dk → Out Bool} {elt : D → Dk → Out D} {t : D → Bool} {e : D → D} {s : Dk} : ∀ {xs : List D}, (∀ x ∈ xs, test x s = .ok (t x) s) → (∀ x ∈ xs, t x = true → elt x s = .ok (e x) s) → lcLoop test elt xs s = .ok ((xs.filter t).map e) s
  | [], _, _ => rfl
  | x :: r, h1, h2 => by
    have ih := lc_pure (xs := r) (fun y hy => h1 y (List.mem_cons_of_mem _ hy)) (fun y hy => h2 y (List.mem_cons_of_mem _ hy))
    rw [lcLoop, h1 x List.mem_cons_self]
    simp only [Out.bind]
    cases ht : t x with
    | false => simp [ht, ih]
    | true => simp [ht, h2 x List.mem_cons_self ht, ih, Out.bind]
theorem OS_some {α : Type} {a : α} {P : α → Prop} : OS (some a) P = P a := by simp [OS]
theorem OS_some_i {α : Type} {a : α} {P : α → Prop} : @OSI _ (some a) ⟨P⟩ = P a := OS_some
theorem OS_of {α : Type} {o : Option α} {a : α} {P : α → Prop} (h : o = some a) (q : P a) : OS o P := ⟨a, h, q⟩
theorem BS_bool {t : Bool} {P : Bool → Prop} : BS (.bool t) P = P t := by simp [BS]
theorem BS_bool_i {t : Bool} {P : Bool → Prop} : @BSI (.bool t) ⟨P⟩ = P t := BS_bool
theorem IS_int {i : Int} {P : Int → Prop} : IS (.int i) P = P i := by simp [IS]
theorem IS_int_i {i : Int} {P : Int → Prop} : @ISI (.int i) ⟨P⟩ = P i := IS_int
theorem LS_list {ds : List D} {P : List D → Prop} : LS (.list ds) P = P ds := by simp [LS]
theorem LS_list_i {ds : List D} {P : List D → Prop} : @LSI (.list ds) ⟨P⟩ = P ds := LS_list
theorem IfS_true {A B : Prop} : IfS true A B = A := by simp [IfS]
theorem IfS_true_i {A B : Prop} : @IfSI true ⟨A, B⟩ = A := IfS_true
theorem IfS_false {A B : Prop} : IfS false A B = B := by simp [IfS]
theorem IfS_false_i {A B : Prop} : @IfSI false ⟨A, B⟩ = B := IfS_false
theorem ifS {t : Bool} {A B : Prop} (h1 : t = true → A) (h2 : t = false → B) : IfS t A B := by
  cases t with
  | true => exact h1 rfl
  | false => exact h2 rfl
theorem ifT {t : Bool} {A B : Prop} (h : t = true) (a : A) : IfS t A B := by rw [h]; exact a
theorem ifF {t : Bool} {A B : Prop} (h : t = false) (b : B) : IfS t A B := by rw [h]; exact b
theorem os_map {α β : Type} {o : Option α} {f : α → β} {Q : β → Prop} : OS (o.map f) Q = OS o fun a => Q (f a) := by cases o <;> simp [OS]
theorem os_map_i {α β : Type} {o : Option α} {f : α → β} {Q : β → Prop} : @OSI _ (o.map f) ⟨Q⟩ = OS o fun a => Q (f a) := os_map
theorem Let1_go {α : Type} {a : α} {k : α → Prop} : Let1 a k = k a := propext Iff.rfl
theorem Let1_go_i {α : Type} {a : α} {k : α → Prop} : @Let1I _ a ⟨k⟩ = k a := Let1_go
theorem sat_OS {α β : Type} {o : Option α} {f : α → β} {s : Dk} {p : β → Dk → Prop} : (∃ a, o.map f = some a ∧ p a s) = OS o fun a => p (f a) s := by cases o <;> simp [OS]
/-! ### expressions -/
section
variable {F : Fns} {ρ : Env0} {s : Dk} {p : D → Dk → Prop}
theorem sv_var {i : Nat} : Sat (ev F (.var i) ρ s) p = OS (ρ[i]?).join fun d => p d s := by
  simp only [ev]
  cases h : ρ[i]? with
  | none => simp [sat_eq, Sat0, OS]
  | some x => cases x <;> simp [sat_eq, Sat0, OS]
theorem sv_var_i {i : Nat} : @SatI _ (ev F (.var i) ρ s) ⟨p⟩ = OS (ρ[i]?).join fun d => p d s := sv_var
theorem sv_cst {d : D} : Sat (ev F (.cst d) ρ s) p = p d s := by simp only [ev, sat_ok]
theorem sv_cst_i {d : D} : @SatI _ (ev F (.cst d) ρ s) ⟨p⟩ = p d s := sv_cst
theorem sv_nil {q : List D → Dk → Prop} : Sat (evs F [] ρ s) q = q [] s := by simp only [evs, sat_ok]
theorem sv_nil_i {q : List D → Dk → Prop} : @SatI _ (evs F [] ρ s) ⟨q⟩ = q [] s := sv_nil
theorem sv_cons {e : PX} {r : List PX} {q : List D → Dk → Prop} : Sat (evs F (e :: r) ρ s) q = Sat (ev F e ρ s) fun d s1 => Sat (evs F r ρ s1) fun ds s2 => q (d :: ds) s2 := by
  simp only [evs, sat_bind, sat_ok]
theorem sv_cons_i {e : PX} {r : List PX} {q : List D → Dk → Prop} : @SatI _ (evs F (e :: r) ρ s) ⟨q⟩ = Sat (ev F e ρ s) fun d s1 => Sat (evs F r ρ s1) fun ds s2 => q (d :: ds) s2 := sv_cons
theorem sat_if {α : Type} {c : Prop} [Decidable c] {a : α} {s : Dk} {q : α → Dk → Prop} : Sat (if c then .ok a s else .no) q = (c ∧ q a s) := by
  by_cases h : c
  · simp [h, sat_eq, Sat0]
  · simp [h, sat_eq, Sat0]
theorem sat_if_i {α : Type} {c : Prop} [Decidable c] {a : α} {s : Dk} {q : α → Dk → Prop} : @SatI _ (if c then .ok a s else .no) ⟨q⟩ = (c ∧ q a s) := sat_if
theorem sv_tup {es : List PX} : Sat (ev F (.tup es) ρ s) p = Sat (evs F es ρ s) fun ds s1 => ds.length ≤ sizeLine ∧ p (.tuple ds) s1 := by simp only [ev, sat_bind, sat_if]
theorem sv_tup_i {es : List PX} : @SatI _ (ev F (.tup es) ρ s) ⟨p⟩ = Sat (evs F es ρ s) fun ds s1 => ds.length ≤ sizeLine ∧ p (.tuple ds) s1 := sv_tup
theorem sv_lst {es : List PX} : Sat (ev F (.lst es) ρ s) p = Sat (evs F es ρ s) fun ds s1 => ds.length ≤ sizeLine ∧ p (.list ds) s1 := by simp only [ev, sat_bind, sat_if]
theorem sv_lst_i {es : List PX} : @SatI _ (ev F (.lst es) ρ s) ⟨p⟩ = Sat (evs F es ρ s) fun ds s1 => ds.length ≤ sizeLine ∧ p (.list ds) s1 := sv_lst
theorem sv_bin {op : Operator} {a b : PX} : Sat (ev F (.bin op a b) ρ s) p = Sat (ev F a ρ s) fun x s1 => Sat (ev F b ρ s1) fun y s2 => OS (binD op x y) fun d => p d s2 := by simp only [ev, sat_bind, sat_of, OS]
theorem sv_bin_i {op : Operator} {a b : PX} : @SatI _ (ev F (.bin op a b) ρ s) ⟨p⟩ = Sat (ev F a ρ s) fun x s1 => Sat (ev F b ρ s1) fun y s2 => OS (binD op x y) fun d => p d s2 := sv_bin
theorem sv_neg {a : PX} : Sat (ev F (.neg a) ρ s) p = Sat (ev F a ρ s) fun x s1 => IS x fun i => p (.int (-i)) s1 := by
  simp only [ev, sat_bind]
  congr 1
  funext x s1
  cases x <;> simp [sat_eq, Sat0, IS]
theorem sv_neg_i {a : PX} : @SatI _ (ev F (.neg a) ρ s) ⟨p⟩ = Sat (ev F a ρ s) fun x s1 => IS x fun i => p (.int (-i)) s1 := sv_neg
theorem sv_cmp {op : CmpOp} {a b : PX} : Sat (ev F (.cmp op a b) ρ s) p = Sat (ev F a ρ s) fun x s1 => Sat (ev F b ρ s1) fun y s2 => OS (cmpD op x y) fun t => p (.bool t) s2 := by
  simp only [ev, sat_bind, sat_of, sat_OS]
theorem sv_cmp_i {op : CmpOp} {a b : PX} : @SatI _ (ev F (.cmp op a b) ρ s) ⟨p⟩ = Sat (ev F a ρ s) fun x s1 => Sat (ev F b ρ s1) fun y s2 => OS (cmpD op x y) fun t => p (.bool t) s2 := sv_cmp
theorem sv_isn {a : PX} : Sat (ev F (.isn a) ρ s) p = Sat (ev F a ρ s) fun x s1 => p (.bool (isNoneD x)) s1 := by simp only [ev, sat_bind, sat_ok]
theorem sv_isn_i {a : PX} : @SatI _ (ev F (.isn a) ρ s) ⟨p⟩ = Sat (ev F a ρ s) fun x s1 => p (.bool (isNoneD x)) s1 := sv_isn
theorem sv_notn {a : PX} : Sat (ev F (.notn a) ρ s) p = Sat (ev F a ρ s) fun x s1 => p (.bool (!isNoneD x)) s1 := by simp only [ev, sat_bind, sat_ok]
theorem sv_notn_i {a : PX} : @SatI _ (ev F (.notn a) ρ s) ⟨p⟩ = Sat (ev F a ρ s) fun x s1 => p (.bool (!isNoneD x)) s1 := sv_notn
theorem st_of {o : Out D} {q : Bool → Dk → Prop} : Sat (truthO o) q = Sat o fun d s1 => BS d fun b => q b s1 := by
  unfold truthO
  rw [sat_bind]
  congr 1
  funext d s1
  cases d <;> simp [sat_eq, Sat0, BS]
theorem sat_ite {α : Type} {b : Bool} {x y : Out α} {q : α → Dk → Prop} : Sat (if b = true then x else y) q = IfS b (Sat x q) (Sat y q) := by cases b <;> simp [IfS]
theorem sv_and {a b : PX} : Sat (ev F (.and_ a b) ρ s) p = Sat (ev F a ρ s) fun d s1 => BS d fun t => IfS t (Sat (ev F b ρ s1) p) (p (.bool false) s1) := by simp only [ev, sat_bind, st_of, sat_ite, sat_ok]
theorem sv_and_i {a b : PX} : @SatI _ (ev F (.and_ a b) ρ s) ⟨p⟩ = Sat (ev F a ρ s) fun d s1 => BS d fun t => IfS t (Sat (ev F b ρ s1) p) (p (.bool false) s1) := sv_and
theorem sv_or {a b : PX} : Sat (ev F (.or_ a b) ρ s) p = Sat (ev F a ρ s) fun d s1 => BS d fun t => IfS t (p (.bool true) s1) (Sat (ev F b ρ s1) p) := by simp only [ev, sat_bind, st_of, sat_ite, sat_ok]
theorem sv_or_i {a b : PX} : @SatI _ (ev F (.or_ a b) ρ s) ⟨p⟩ = Sat (ev F a ρ s) fun d s1 => BS d fun t => IfS t (p (.bool true) s1) (Sat (ev F b ρ s1) p) := sv_or
theorem sv_not {a : PX} : Sat (ev F (.not_ a) ρ s) p = Sat (ev F a ρ s) fun d s1 => BS d fun t => p (.bool (!t)) s1 := by simp only [ev, sat_bind, st_of, sat_ok]
theorem sv_not_i {a : PX} : @SatI _ (ev F (.not_ a) ρ s) ⟨p⟩ = Sat (ev F a ρ s) fun d s1 => BS d fun t => p (.bool (!t)) s1 := sv_not
theorem sv_ite {c a b : PX} : Sat (ev F (.ite c a b) ρ s) p = Sat (ev F c ρ s) fun d s1 => BS d fun t => IfS t (Sat (ev F a ρ s1) p) (Sat (ev F b ρ s1) p) := by simp only [ev, sat_bind, st_of, sat_ite]
theorem sv_ite_i {c a b : PX} : @SatI _ (ev F (.ite c a b) ρ s) ⟨p⟩ = Sat (ev F c ρ s) fun d s1 => BS d fun t => IfS t (Sat (ev F a ρ s1) p) (Sat (ev F b ρ s1) p) := sv_ite
theorem sv_ix {a b : PX} : Sat (ev F (.ix a b) ρ s) p = Sat (ev F a ρ s) fun x s1 => Sat (ev F b ρ s1) fun y s2 => OS (ixD s2 x y) fun d => p d s2 := by simp only [ev, sat_bind, sat_of, OS]
theorem sv_ix_i {a b : PX} : @SatI _ (ev F (.ix a b) ρ s) ⟨p⟩ = Sat (ev F a ρ s) fun x s1 => Sat (ev F b ρ s1) fun y s2 => OS (ixD s2 x y) fun d => p d s2 := sv_ix
theorem so_none {q : Option Int → Dk → Prop} : Sat (evo F none ρ s) q = q none s := by simp only [evo, sat_ok]
theorem so_none_i {q : Option Int → Dk → Prop} : @SatI _ (evo F none ρ s) ⟨q⟩ = q none s := so_none
theorem so_some {e : PX} {q : Option Int → Dk → Prop} : Sat (evo F (some e) ρ s) q = Sat (ev F e ρ s) fun d s1 => IS d fun i => q (some i) s1 := by
  simp only [evo, sat_bind]
  congr 1
  funext x s1
  cases x <;> simp [sat_eq, Sat0, IS]
theorem so_some_i {e : PX} {q : Option Int → Dk → Prop} : @SatI _ (evo F (some e) ρ s) ⟨q⟩ = Sat (ev F e ρ s) fun d s1 => IS d fun i => q (some i) s1 := so_some
theorem sv_sl {a : PX} {lo hi : Option PX} : Sat (ev F (.sl a lo hi) ρ s) p = Sat (ev F a ρ s) fun x s1 => Sat (evo F lo ρ s1) fun l s2 => Sat (evo F hi ρ s2) fun h s3 => OS (slD x l h) fun d => p d s3 := by simp only [ev, sat_bind, sat_of, OS]
theorem sv_sl_i {a : PX} {lo hi : Option PX} : @SatI _ (ev F (.sl a lo hi) ρ s) ⟨p⟩ = Sat (ev F a ρ s) fun x s1 => Sat (evo F lo ρ s1) fun l s2 => Sat (evo F hi ρ s2) fun h s3 => OS (slD x l h) fun d => p d s3 := sv_sl
theorem sv_rev {e : PX} : Sat (ev F (.rev e) ρ s) p = Sat (ev F e ρ s) fun x s1 => OS (revD x) fun d => p d s1 := by simp only [ev, sat_bind, sat_of, OS]
theorem sv_rev_i {e : PX} : @SatI _ (ev F (.rev e) ρ s) ⟨p⟩ = Sat (ev F e ρ s) fun x s1 => OS (revD x) fun d => p d s1 := sv_rev
theorem sv_call {i : Nat} {es : List PX} : Sat (ev F (.call i es) ρ s) p = Sat (evs F es ρ s) fun ds s1 => Sat (F i ds s1) p := by simp only [ev, sat_bind]
theorem sv_call_i {i : Nat} {es : List PX} : @SatI _ (ev F (.call i es) ρ s) ⟨p⟩ = Sat (evs F es ρ s) fun ds s1 => Sat (F i ds s1) p := sv_call
theorem sv_callk {i : Nat} {pm : List Nat} {es : List PX} : Sat (ev F (.callk i pm es) ρ s) p = Sat (evs F es ρ s) fun ds s1 => OS (permD pm ds) fun ds => Sat (F i ds s1) p := by
  simp only [ev, sat_bind]
  congr 1
  funext ds s1
  cases permD pm ds with
  | none => simp [OS, sat_eq, Sat0]
  | some a => simp [OS]
theorem sv_callk_i {i : Nat} {pm : List Nat} {es : List PX} : @SatI _ (ev F (.callk i pm es) ρ s) ⟨p⟩ = Sat (evs F es ρ s) fun ds s1 => OS (permD pm ds) fun ds => Sat (F i ds s1) p := sv_callk
theorem sv_newk {c : Str} {i : Nat} {pm : List Nat} {es : List PX} : Sat (ev F (.newk c i pm es) ρ s) p = Sat (evs F es ρ s) fun ds s1 => OS (permD pm ds) fun ds => Sat (F i ds s1) p := by
  simp only [ev, sat_bind]
  congr 1
  funext ds s1
  cases permD pm ds with
  | none => simp [OS, sat_eq, Sat0]
  | some a => simp [OS]
theorem sv_newk_i {c : Str} {i : Nat} {pm : List Nat} {es : List PX} : @SatI _ (ev F (.newk c i pm es) ρ s) ⟨p⟩ = Sat (evs F es ρ s) fun ds s1 => OS (permD pm ds) fun ds => Sat (F i ds s1) p := sv_newk
theorem sv_mkx {c : Str} {es : List PX} : Sat (ev F (.mkx c es) ρ s) p = Sat (evs F es ρ s) fun ds s1 => ds.length = (exFld c).length ∧ p (exD c ds) s1 := by
  simp only [ev, sat_bind]
  congr 1
  funext ds s1
  by_cases h : ds.length = (exFld c).length
  · rw [if_pos h]
    simp [sat_eq, Sat0, h]
  · rw [if_neg h]
    simp [sat_eq, Sat0, h]
theorem sv_mkx_i {c : Str} {es : List PX} : @SatI _ (ev F (.mkx c es) ρ s) ⟨p⟩ = Sat (evs F es ρ s) fun ds s1 => ds.length = (exFld c).length ∧ p (exD c ds) s1 := sv_mkx
theorem sv_isx {c : Str} {a : PX} : Sat (ev F (.isx c a) ρ s) p = Sat (ev F a ρ s) fun x s1 => OS (isxD c x) fun b => p (.bool b) s1 := by
  simp only [ev, sat_bind, sat_of, OS]
  congr 1
  funext x s1
  cases isxD c x <;> simp
theorem sv_isx_i {c : Str} {a : PX} : @SatI _ (ev F (.isx c a) ρ s) ⟨p⟩ = Sat (ev F a ρ s) fun x s1 => OS (isxD c x) fun b => p (.bool b) s1 := sv_isx
theorem sv_xfl {a : PX} {f : Str} : Sat (ev F (.xfl a f) ρ s) p = Sat (ev F a ρ s) fun x s1 => OS (xflD f x) fun d => p d s1 := by simp only [ev, sat_bind, sat_of, OS]
theorem sv_xfl_i {a : PX} {f : Str} : @SatI _ (ev F (.xfl a f) ρ s) ⟨p⟩ = Sat (ev F a ρ s) fun x s1 => OS (xflD f x) fun d => p d s1 := sv_xfl
theorem perm1 {a : D} : permD [0] [a] = some [a] := rfl
theorem perm2 {a b : D} : permD [1, 0] [a, b] = some [b, a] := rfl
theorem sv_bi {b : BI} {es : List PX} : Sat (ev F (.bi b es) ρ s) p = Sat (evs F es ρ s) fun ds s1 => OS (biD b ds) fun d => p d s1 := by simp only [ev, sat_bind, sat_of, OS]
theorem sv_bi_i {b : BI} {es : List PX} : @SatI _ (ev F (.bi b es) ρ s) ⟨p⟩ = Sat (evs F es ρ s) fun ds s1 => OS (biD b ds) fun d => p d s1 := sv_bi
theorem sv_isi {t : String} {a : PX} : Sat (ev F (.isi t a) ρ s) p = Sat (ev F a ρ s) fun x s1 => OS (isiD t x) fun b => p (.bool b) s1 := by
  simp only [ev, sat_bind, sat_of, sat_OS]
theorem sv_isi_i {t : String} {a : PX} : @SatI _ (ev F (.isi t a) ρ s) ⟨p⟩ = Sat (ev F a ρ s) fun x s1 => OS (isiD t x) fun b => p (.bool b) s1 := sv_isi
theorem sv_mink {a : PX} : Sat (ev F (.mink a) ρ s) p = Sat (ev F a ρ s) fun x s1 => OS (minkD x) fun d => p d s1 := by simp only [ev, sat_bind, sat_of, OS]
theorem sv_mink_i {a : PX} : @SatI _ (ev F (.mink a) ρ s) ⟨p⟩ = Sat (ev F a ρ s) fun x s1 => OS (minkD x) fun d => p d s1 := sv_mink
theorem sv_sortk {a : PX} : Sat (ev F (.sortk a) ρ s) p = Sat (ev F a ρ s) fun x s1 => OS (sortkD x) fun d => p d s1 := by simp only [ev, sat_bind, sat_of, OS]
theorem sv_sortk_i {a : PX} : @SatI _ (ev F (.sortk a) ρ s) ⟨p⟩ = Sat (ev F a ρ s) fun x s1 => OS (sortkD x) fun d => p d s1 := sv_sortk
def StrS (d : D) (P : Str → Prop) : Prop := ∃ x, d = .str x ∧ P x
def StrSI (d : D) [i : Kn Str] : Prop := StrS d i.k
theorem strS_in {d : D} {P : Str → Prop} : StrS d P = @StrSI d ⟨P⟩ := propext Iff.rfl
theorem StrS_str {x : Str} {P : Str → Prop} : StrS (.str x) P = P x := by simp [StrS]
theorem StrS_str_i {x : Str} {P : Str → Prop} : @StrSI (.str x) ⟨P⟩ = P x := StrS_str
theorem sv_meth {m : MI} {a : PX} {es : List PX} : Sat (ev F (.meth m a es) ρ s) p = Sat (ev F a ρ s) fun x s1 => StrS x fun y => Sat (evs F es ρ s1) fun ds s2 => OS (meD m (.str y) ds) fun d => p d s2 := by
  simp only [ev, sat_bind]
  congr 1
  funext x s1
  cases x with
  | str y => simp only [isStrD, if_true, StrS_str, sat_bind, sat_of, OS]
  | _ => simp [isStrD, StrS, sat_eq, Sat0]
theorem sv_meth_i {m : MI} {a : PX} {es : List PX} : @SatI _ (ev F (.meth m a es) ρ s) ⟨p⟩ = Sat (ev F a ρ s) fun x s1 => StrS x fun y => Sat (evs F es ρ s1) fun ds s2 => OS (meD m (.str y) ds) fun d => p d s2 := sv_meth
theorem sv_fld {a : PX} {f : Str} : Sat (ev F (.fld a f) ρ s) p = Sat (ev F a ρ s) fun x s1 => OS (fldD f x) fun d => p d s1 := by simp only [ev, sat_bind, sat_of, OS]
theorem sv_fld_i {a : PX} {f : Str} : @SatI _ (ev F (.fld a f) ρ s) ⟨p⟩ = Sat (ev F a ρ s) fun x s1 => OS (fldD f x) fun d => p d s1 := sv_fld
theorem sv_pcall {c m : Str} {i : Nat} {a : PX} {es : List PX} : Sat (ev F (.pcall c m i a es) ρ s) p = Sat (ev F a ρ s) fun x s1 => isMeth c m x = true ∧ Sat (evs F es ρ s1) fun ds s2 => Sat (F i (x :: ds) s2) p := by
  simp only [ev, sat_bind]
  congr 1
  funext x s1
  by_cases h : isMeth c m x = true
  · simp only [h, if_true, true_and, sat_bind]
  · simp [h, sat_eq, Sat0]
theorem sv_pcall_i {c m : Str} {i : Nat} {a : PX} {es : List PX} : @SatI _ (ev F (.pcall c m i a es) ρ s) ⟨p⟩ = Sat (ev F a ρ s) fun x s1 => isMeth c m x = true ∧ Sat (evs F es ρ s1) fun ds s2 => Sat (F i (x :: ds) s2) p := sv_pcall
theorem sv_new {c : Str} {i : Nat} {es : List PX} : Sat (ev F (.new c i es) ρ s) p = Sat (evs F es ρ s) fun ds s1 => Sat (F i ds s1) p := by simp only [ev, sat_bind]
theorem sv_new_i {c : Str} {i : Nat} {es : List PX} : @SatI _ (ev F (.new c i es) ρ s) ⟨p⟩ = Sat (evs F es ρ s) fun ds s1 => Sat (F i ds s1) p := sv_new
theorem sv_prop {c : Str} {i : Nat} {a : PX} : Sat (ev F (.prop c i a) ρ s) p = Sat (ev F a ρ s) fun x s1 => isObj c x = true ∧ Sat (F i [x] s1) p := by
  simp only [ev, sat_bind]
  congr 1
  funext x s1
  by_cases h : isObj c x = true
  · simp only [h, if_true, true_and, sat_still]
  · simp [h, sat_eq, Sat0]
theorem sv_prop_i {c : Str} {i : Nat} {a : PX} : @SatI _ (ev F (.prop c i a) ρ s) ⟨p⟩ = Sat (ev F a ρ s) fun x s1 => isObj c x = true ∧ Sat (F i [x] s1) p := sv_prop
theorem sv_obj {c : Str} {fs : List Str} {es : List PX} {its : List (Str × Str × Int)} : Sat (ev F (.obj c fs es its) ρ s) p = Sat (evs F es ρ s) fun ds s1 => OS (itsD its (fieldsD fs ds)) fun d => p (obD c d) s1 := by
  simp only [ev, sat_bind, sat_of, OS]
  congr 1
  funext ds s1
  cases itsD its (fieldsD fs ds) <;> simp
theorem sv_obj_i {c : Str} {fs : List Str} {es : List PX} {its : List (Str × Str × Int)} : @SatI _ (ev F (.obj c fs es its) ρ s) ⟨p⟩ = Sat (evs F es ρ s) fun ds s1 => OS (itsD its (fieldsD fs ds)) fun d => p (obD c d) s1 := sv_obj
theorem sv_isc {c : Str} {a : PX} : Sat (ev F (.isc c a) ρ s) p = Sat (ev F a ρ s) fun x s1 => OS (iscD c x) fun b => p (.bool b) s1 := by
  simp only [ev, sat_bind, sat_of, OS]
  congr 1
  funext x s1
  cases iscD c x <;> simp
theorem sv_isc_i {c : Str} {a : PX} : @SatI _ (ev F (.isc c a) ρ s) ⟨p⟩ = Sat (ev F a ρ s) fun x s1 => OS (iscD c x) fun b => p (.bool b) s1 := sv_isc
theorem sv_obin {op : Operator} {c : Str} {i : Nat} {a b : PX} : Sat (ev F (.obin op c i a b) ρ s) p = Sat (ev F a ρ s) fun x s1 => Sat (ev F b ρ s1) fun y s2 => IfS (isObj c x) ((isObj c y || isTupD y) = true ∧ Sat (F i [x, y] s2) p) (OS (binD op x y) fun d => p d s2) := by
  simp only [ev, sat_bind]
  congr 1
  funext x s1
  congr 1
  funext y s2
  cases isObj c x with
  | true =>
    rw [IfS_true, if_pos rfl]
    by_cases h : (isObj c y || isTupD y) = true
    · rw [if_pos h]; exact propext ⟨fun z => ⟨h, z⟩, fun z => z.2⟩
    · rw [if_neg h]; exact propext ⟨fun z => by rw [sat_eq] at z; exact z.elim, fun z => absurd z.1 h⟩
  | false =>
    rw [IfS_false, if_neg (by decide)]
    simp only [sat_of, OS]
theorem sv_obin_i {op : Operator} {c : Str} {i : Nat} {a b : PX} : @SatI _ (ev F (.obin op c i a b) ρ s) ⟨p⟩ = Sat (ev F a ρ s) fun x s1 => Sat (ev F b ρ s1) fun y s2 => IfS (isObj c x) ((isObj c y || isTupD y) = true ∧ Sat (F i [x, y] s2) p) (OS (binD op x y) fun d => p d s2) := sv_obin
theorem sat_boolO {o : Out D} : Sat (boolO o) p = Sat o fun d s1 => BS d fun t => p (.bool t) s1 := by
  unfold boolO
  simp only [sat_bind, st_of, sat_ok]
theorem sv_oeq {c : Str} {i : Nat} {a b : PX} : Sat (ev F (.ocmp .Eq c i a b) ρ s) p = Sat (ev F a ρ s) fun x s1 => Sat (ev F b ρ s1) fun y s2 => IfS (isObj c x) ((isObj c y || noD y) = true ∧ Sat (F i [x, y] s2) fun d s3 => BS d fun t => p (.bool t) s3) (OS (cmpD .Eq x y) fun t => p (.bool t) s2) := by
  simp only [ev, sat_bind]
  congr 1
  funext x s1
  congr 1
  funext y s2
  cases isObj c x with
  | true =>
    rw [IfS_true, if_pos rfl]
    by_cases h : (isObj c y || noD y) = true
    · rw [if_pos h, sat_boolO]; exact propext ⟨fun z => ⟨h, z⟩, fun z => z.2⟩
    · rw [if_neg h]; exact propext ⟨fun z => by rw [sat_eq] at z; exact z.elim, fun z => absurd z.1 h⟩
  | false =>
    rw [IfS_false, if_neg (by decide), sat_of]
    exact sat_OS
theorem sv_oeq_i {c : Str} {i : Nat} {a b : PX} : @SatI _ (ev F (.ocmp .Eq c i a b) ρ s) ⟨p⟩ = Sat (ev F a ρ s) fun x s1 => Sat (ev F b ρ s1) fun y s2 => IfS (isObj c x) ((isObj c y || noD y) = true ∧ Sat (F i [x, y] s2) fun d s3 => BS d fun t => p (.bool t) s3) (OS (cmpD .Eq x y) fun t => p (.bool t) s2) := sv_oeq
/-- the search of last_that -/
def lastR (F : Fns) (e : PX) (ρ : Env0) (js : List Nat) (i j : Int) (s : Dk) : Out Int := lastLoop (fun m s => truthO (ev F e (lamEnv ρ js m) s)) 400 i j s
theorem sv_last {a b e : PX} {js : List Nat} : Sat (ev F (.last a b js e) ρ s) p = Sat (ev F a ρ s) fun x s1 => Sat (ev F b ρ s1) fun y s2 => IS x fun i => IS y fun j => Sat (lastR F e ρ js i j s2) fun z s3 => p (.int z) s3 := by
  simp only [ev, sat_bind]
  congr 1
  funext x s1
  congr 1
  funext y s2
  cases x <;> cases y <;> simp [IS, sat_eq, Sat0]
  unfold lastR
  cases lastLoop (fun m s => truthO (ev F e (lamEnv ρ js m) s)) 400 _ _ s2 <;> rfl
theorem sv_last_i {a b e : PX} {js : List Nat} : @SatI _ (ev F (.last a b js e) ρ s) ⟨p⟩ = Sat (ev F a ρ s) fun x s1 => Sat (ev F b ρ s1) fun y s2 => IS x fun i => IS y fun j => Sat (lastR F e ρ js i j s2) fun z s3 => p (.int z) s3 := sv_last
/-- a search whose test is told and leaves the deck alone -/
theorem last_of {e : PX} {js : List Nat} {b : Int → Bool} {p : Int → Dk → Prop} {lo hi : Int} (ht : ∀ m, lo ≤ m → m < hi → Sat (ev F e (lamEnv ρ js m) s) fun d s' => d = .bool (b m) ∧ s' = s) (n : Nat) (hn : (hi - lo).toNat ≤ 2 ^ n) (hn4 : n < 400)
    (h : ∀ r, lo ≤ r → (r = lo ∨ b r = true) → (r + 1 ≥ hi ∨ b (r + 1) = false) → (r < hi ∨ r = lo) → p r s) : Sat (lastR F e ρ js lo hi s) p := by
  have gen : ∀ (k n : Nat), n < k → ∀ (l u : Int), lo ≤ l → u ≤ hi → (l = lo ∨ b l = true) → (u = hi ∨ b u = false) → (l < u ∨ (l = lo ∧ u = hi)) → (u - l).toNat ≤ 2 ^ n → Sat (lastLoop (fun m s => truthO (ev F e (lamEnv ρ js m) s)) k l u s) p := by
    intro k
    induction k with
    | zero => intro n h; omega
    | succ k ih =>
      intro n hk l u h1 h2 h3 h4 h5 h6
      unfold lastLoop
      by_cases hgt : u - l > 1
      · rw [if_pos hgt]
        have hm1 : l < (l + u) / 2 := by omega
        have hm2 : (l + u) / 2 < u := by omega
        obtain ⟨d, s', e1, e2, e3⟩ := (ht ((l + u) / 2) (by omega) (by omega)).get
        rw [e1, e2, e3]
        show Sat (if b ((l + u) / 2) = true then _ else _) p
        cases n with
        | zero => omega
        | succ n =>
          have hp : 2 ^ (n + 1) = 2 ^ n * 2 := Nat.pow_succ 2 n
          have h0 : 1 ≤ 2 ^ n := Nat.one_le_two_pow
          cases hb : b ((l + u) / 2) with
          | true =>
            rw [if_pos rfl]
            exact ih n (by omega) _ _ (by omega) h2 (.inr hb) h4 (.inl hm2) (by omega)
          | false =>
            rw [if_neg (by simp)]
            exact ih n (by omega) _ _ h1 (by omega) h3 (.inr hb) (.inl hm1) (by omega)
      · rw [if_neg hgt]
        rw [sat_ok]
        refine h l h1 h3 ?_ (by omega)
        rcases h4 with z | z
        · exact .inl (by omega)
        · by_cases y : l + 1 = u
          · exact .inr (by rw [y]; exact z)
          · exact .inl (by omega)
  exact gen 400 n hn4 lo hi (Int.le_refl _) (Int.le_refl _) (.inl rfl) (.inl rfl) (.inr ⟨rfl, rfl⟩) hn
theorem sv_chain {o1 o2 : CmpOp} {a b c : PX} : Sat (ev F (.chain o1 o2 a b c) ρ s) p = Sat (ev F a ρ s) fun x s1 => Sat (ev F b ρ s1) fun y s2 => OS (cmpD o1 x y) fun t => IfS t (Sat (ev F c ρ s2) fun z s3 => OS (cmpD o2 y z) fun t' => p (.bool t') s3) (p (.bool false) s2) := by
  simp only [ev, sat_bind]
  congr 1
  funext x s1
  congr 1
  funext y s2
  cases h : cmpD o1 x y with
  | none => simp [sat_eq, Sat0, OS]
  | some t =>
    cases t with
    | false => simp [sat_eq, Sat0, OS, IfS]
    | true =>
      simp only [sat_bind, sat_of, sat_OS, OS_some, IfS_true]
theorem sv_chain_i {o1 o2 : CmpOp} {a b c : PX} : @SatI _ (ev F (.chain o1 o2 a b c) ρ s) ⟨p⟩ = Sat (ev F a ρ s) fun x s1 => Sat (ev F b ρ s1) fun y s2 => OS (cmpD o1 x y) fun t => IfS t (Sat (ev F c ρ s2) fun z s3 => OS (cmpD o2 y z) fun t' => p (.bool t') s3) (p (.bool false) s2) := sv_chain
theorem sv_lc0 {tg : PTg} {it : PIt} {c : Option PX} {e : PX} : Sat (ev F (.lc tg it c e) ρ s) p = Sat (evIt F it ρ s) fun xs s1 => Sat (lcLoop (fun x s => onE (setT tg x (wipeE ρ (tgSl tg))) (fun r s => evt F c r s) s) (fun x s => onE (setT tg x (wipeE ρ (tgSl tg))) (fun r s => ev F e r s) s) xs s1) fun ys s2 => xs.length < sizeLine ∧ p (.list ys) s2 := by
  simp only [ev, sat_bind, sat_still, sat_if]
theorem sv_lc20 {i1 i2 : Nat} {a1 a2 : PIt} {c : Option PX} {e : PX} : Sat (ev F (.lc2 i1 a1 i2 a2 c e) ρ s) p = Sat (evIt F a1 ρ s) fun xs s1 => Sat (lcLoop2 (fun x s => (evIt F a2 ((wipeE ρ [i1, i2]).set i1 (some x)) s).bind fun zs s1 =>
      lcLoop (fun z s => evt F c (((wipeE ρ [i1, i2]).set i1 (some x)).set i2 (some z)) s) (fun z s => ev F e (((wipeE ρ [i1, i2]).set i1 (some x)).set i2 (some z)) s) zs s1) xs s1) fun ys s2 => ys.length < sizeLine ∧ p (.list ys) s2 := by
  simp only [ev, sat_bind, sat_still, sat_if]
/-- a comprehension under way -/
def lcRun (F : Fns) (tg : PTg) (ρ : Env0) (c : Option PX) (e : PX) (xs : List D) (s : Dk) : Out (List D) := lcLoop (fun x s => onE (setT tg x (wipeE ρ (tgSl tg))) (fun r s => evt F c r s) s) (fun x s => onE (setT tg x (wipeE ρ (tgSl tg))) (fun r s => ev F e r s) s) xs s
def lcRun2 (F : Fns) (i1 i2 : Nat) (ρ : Env0) (a2 : PIt) (c : Option PX) (e : PX) (xs : List D) (s : Dk) : Out (List D) := lcLoop2 (fun x s => (evIt F a2 ((wipeE ρ [i1, i2]).set i1 (some x)) s).bind fun zs s1 =>
      lcLoop (fun z s => evt F c (((wipeE ρ [i1, i2]).set i1 (some x)).set i2 (some z)) s) (fun z s => ev F e (((wipeE ρ [i1, i2]).set i1 (some x)).set i2 (some z)) s) zs s1) xs s
theorem sv_lc {tg : PTg} {it : PIt} {c : Option PX} {e : PX} : Sat (ev F (.lc tg it c e) ρ s) p = Sat (evIt F it ρ s) fun xs s1 => Sat (lcRun F tg ρ c e xs s1) fun ys s2 => xs.length < sizeLine ∧ p (.list ys) s2 := sv_lc0
theorem sv_lc_i {tg : PTg} {it : PIt} {c : Option PX} {e : PX} : @SatI _ (ev F (.lc tg it c e) ρ s) ⟨p⟩ = Sat (evIt F it ρ s) fun xs s1 => Sat (lcRun F tg ρ c e xs s1) fun ys s2 => xs.length < sizeLine ∧ p (.list ys) s2 := sv_lc0
theorem sv_lc2 {i1 i2 : Nat} {a1 a2 : PIt} {c : Option PX} {e : PX} : Sat (ev F (.lc2 i1 a1 i2 a2 c e) ρ s) p = Sat (evIt F a1 ρ s) fun xs s1 => Sat (lcRun2 F i1 i2 ρ a2 c e xs s1) fun ys s2 => ys.length < sizeLine ∧ p (.list ys) s2 := sv_lc20
theorem sv_lc2_i {i1 i2 : Nat} {a1 a2 : PIt} {c : Option PX} {e : PX} : @SatI _ (ev F (.lc2 i1 a1 i2 a2 c e) ρ s) ⟨p⟩ = Sat (evIt F a1 ρ s) fun xs s1 => Sat (lcRun2 F i1 i2 ρ a2 c e xs s1) fun ys s2 => ys.length < sizeLine ∧ p (.list ys) s2 := sv_lc20
theorem si_seq {e : PX} {q : List D → Dk → Prop} : Sat (evIt F (.seq e) ρ s) q = Sat (ev F e ρ s) fun d s1 => OS (itemsOf d) fun xs => q xs s1 := by simp only [evIt, sat_bind, sat_of, OS]
theorem si_seq_i {e : PX} {q : List D → Dk → Prop} : @SatI _ (evIt F (.seq e) ρ s) ⟨q⟩ = Sat (ev F e ρ s) fun d s1 => OS (itemsOf d) fun xs => q xs s1 := si_seq
theorem si_rng1 {a : PX} {q : List D → Dk → Prop} : Sat (evIt F (.rng1 a) ρ s) q = Sat (ev F a ρ s) fun d s1 => IS d fun i => smallI i = true ∧ Let1 (rngD 0 i) fun xs => q xs s1 := by
  simp only [evIt, sat_bind]
  congr 1
  funext x s1
  cases x <;> simp [sat_eq, Sat0, IS]
  rename_i i
  by_cases h : smallI i = true <;> simp [h, Let1]
theorem si_rng1_i {a : PX} {q : List D → Dk → Prop} : @SatI _ (evIt F (.rng1 a) ρ s) ⟨q⟩ = Sat (ev F a ρ s) fun d s1 => IS d fun i => smallI i = true ∧ Let1 (rngD 0 i) fun xs => q xs s1 := si_rng1
theorem si_rng2 {a b : PX} {q : List D → Dk → Prop} : Sat (evIt F (.rng2 a b) ρ s) q = Sat (ev F a ρ s) fun d s1 => Sat (ev F b ρ s1) fun e s2 => IS d fun i => IS e fun j => smallI i = true ∧ smallI j = true ∧ Let1 (rngD i j) fun xs => q xs s2 := by
  simp only [evIt, sat_bind]
  congr 1
  funext x s1
  congr 1
  funext y s2
  cases x <;> cases y <;> simp [sat_eq, Sat0, IS]
  rename_i i j
  by_cases h : smallI i = true <;> by_cases h' : smallI j = true <;> simp [h, h', Let1]
theorem si_rng2_i {a b : PX} {q : List D → Dk → Prop} : @SatI _ (evIt F (.rng2 a b) ρ s) ⟨q⟩ = Sat (ev F a ρ s) fun d s1 => Sat (ev F b ρ s1) fun e s2 => IS d fun i => IS e fun j => smallI i = true ∧ smallI j = true ∧ Let1 (rngD i j) fun xs => q xs s2 := si_rng2
theorem si_enum {e : PX} {q : List D → Dk → Prop} : Sat (evIt F (.enum e) ρ s) q = Sat (ev F e ρ s) fun d s1 => OS (itemsOf d) fun xs => Let1 (enumD 0 xs) fun ys => q ys s1 := by
  simp only [evIt, sat_bind, sat_of]
  congr 1
  funext x s1
  cases itemsOf x <;> simp [OS, Let1]
theorem si_enum_i {e : PX} {q : List D → Dk → Prop} : @SatI _ (evIt F (.enum e) ρ s) ⟨q⟩ = Sat (ev F e ρ s) fun d s1 => OS (itemsOf d) fun xs => Let1 (enumD 0 xs) fun ys => q ys s1 := si_enum
theorem si_zip {a b : PX} {q : List D → Dk → Prop} : Sat (evIt F (.zip a b) ρ s) q = Sat (ev F a ρ s) fun d s1 => Sat (ev F b ρ s1) fun e s2 => OS (zipK d e) fun xs => q xs s2 := by simp only [evIt, sat_bind, sat_of, OS]
theorem si_zip_i {a b : PX} {q : List D → Dk → Prop} : @SatI _ (evIt F (.zip a b) ρ s) ⟨q⟩ = Sat (ev F a ρ s) fun d s1 => Sat (ev F b ρ s1) fun e s2 => OS (zipK d e) fun xs => q xs s2 := si_zip
theorem sc_none {q : Bool → Dk → Prop} : Sat (evt F none ρ s) q = q true s := by simp only [evt, sat_ok]
theorem sc_none_i {q : Bool → Dk → Prop} : @SatI _ (evt F none ρ s) ⟨q⟩ = q true s := sc_none
theorem sc_some {e : PX} {q : Bool → Dk → Prop} : Sat (evt F (some e) ρ s) q = Sat (ev F e ρ s) fun d s1 => BS d fun b => q b s1 := by simp only [evt, st_of]
theorem sc_some_i {e : PX} {q : Bool → Dk → Prop} : @SatI _ (evt F (some e) ρ s) ⟨q⟩ = Sat (ev F e ρ s) fun d s1 => BS d fun b => q b s1 := sc_some
theorem sat_onE {α : Type} {r : Option Env0} {f : Env0 → Dk → Out α} {q : α → Dk → Prop} : Sat (onE r f s) q = OS r fun e => Sat (f e s) q := by
  cases r <;> simp [onE, sat_eq, Sat0, OS]
theorem sat_onE_i {α : Type} {r : Option Env0} {f : Env0 → Dk → Out α} {q : α → Dk → Prop} : @SatI _ (onE r f s) ⟨q⟩ = OS r fun e => Sat (f e s) q := sat_onE
end
/-! ### statements -/
def fx (e : PX) (d : D) (ρ : Env1) : Env1 := if noLf e d = true then ρ else fixF e.at 0 ρ
def fxL (e : PX) (d : D) (ρ : Env1) : Env1 := if noLg e d = true then ρ else fixF e.at 0 ρ
section
variable {F : Fns} {ρ : Env1} {s : Dk} {n c : Env1 → Dk → Prop} {r : D → Dk → Prop}
theorem ss_nil : SatS (runs F [] ρ s) n c r = n ρ s := by simp only [runs, satS_nx]
theorem ss_nil_i : @SatSI (runs F [] ρ s) ⟨n, c, r⟩ = n ρ s := ss_nil
theorem ss_cons {x : PSm} {l : List PSm} : SatS (runs F (x :: l) ρ s) n c r = SatS (run1 F x ρ s) (fun ρ s => SatS (runs F l ρ s) n c r) c r := by simp only [runs, satS_next]
theorem ss_cons_i {x : PSm} {l : List PSm} : @SatSI (runs F (x :: l) ρ s) ⟨n, c, r⟩ = SatS (run1 F x ρ s) (fun ρ s => SatS (runs F l ρ s) n c r) c r := ss_cons
theorem sat_evS {e : PX} {q : D × Env1 → Dk → Prop} : Sat (evS F e ρ s) q = Sat (ev F e (mixF e.at 0 ρ) s) fun d s1 => q (d, fx e d ρ) s1 := by
  simp only [evS, evSB, sat_bind, sat_ok]; rfl
theorem sat_evSL {e : PX} {q : D × Env1 → Dk → Prop} : Sat (evSB F noLg e ρ s) q = Sat (ev F e (mixF e.at 0 ρ) s) fun d s1 => q (d, fxL e d ρ) s1 := by
  simp only [evSB, sat_bind, sat_ok]; rfl
theorem ss_set {i : Nat} {e : PX} : SatS (run1 F (.set i e) ρ s) n c r = Let1 (mixF e.at 0 ρ) fun ρ0 => Sat (ev F e ρ0 s) fun d s1 => Let1 ((fx e d ρ).set i (.val d)) fun ρ' => n ρ' s1 := by
  simp only [run1, satS_then, sat_evS, satS_nx, Let1]
theorem ss_set_i {i : Nat} {e : PX} : @SatSI (run1 F (.set i e) ρ s) ⟨n, c, r⟩ = Let1 (mixF e.at 0 ρ) fun ρ0 => Sat (ev F e ρ0 s) fun d s1 => Let1 ((fx e d ρ).set i (.val d)) fun ρ' => n ρ' s1 := ss_set
theorem ss_own {i : Nat} {e : PX} : SatS (run1 F (.own i e) ρ s) n c r = Let1 (mixF e.at 0 ρ) fun ρ0 => Sat (ev F e ρ0 s) fun d s1 => LS d fun ds => e.freshy = true ∧ Let1 ((fx e d ρ).set i (.own ds)) fun ρ' => n ρ' s1 := by
  simp only [run1, satS_then, sat_evS]
  unfold Let1
  congr 1
  funext d s1
  cases d <;> simp [slotOf, satS_eq, SatS0, LS]
  rename_i ds
  by_cases h : e.freshy = true <;> simp [h, satS_eq, SatS0, Let1]
theorem ss_own_i {i : Nat} {e : PX} : @SatSI (run1 F (.own i e) ρ s) ⟨n, c, r⟩ = Let1 (mixF e.at 0 ρ) fun ρ0 => Sat (ev F e ρ0 s) fun d s1 => LS d fun ds => e.freshy = true ∧ Let1 ((fx e d ρ).set i (.own ds)) fun ρ' => n ρ' s1 := ss_own
theorem ss_if {e : PX} {a b : List PSm} : SatS (run1 F (.if_ e a b) ρ s) n c r = Let1 (mixF e.at 0 ρ) fun ρ0 => Sat (ev F e ρ0 s) fun d s1 => BS d fun t => IfS t (SatS (runs F a ρ s1) n c r) (SatS (runs F b ρ s1) n c r) := by
  simp only [run1, testS, satS_then, sat_evS]
  unfold Let1
  congr 1
  funext d s1
  cases d <;> simp [satS_eq, SatS0, fx, noLf, noL, BS]
  rename_i t
  cases t <;> simp [satS_eq, SatS0, IfS]
theorem ss_if_i {e : PX} {a b : List PSm} : @SatSI (run1 F (.if_ e a b) ρ s) ⟨n, c, r⟩ = Let1 (mixF e.at 0 ρ) fun ρ0 => Sat (ev F e ρ0 s) fun d s1 => BS d fun t => IfS t (SatS (runs F a ρ s1) n c r) (SatS (runs F b ρ s1) n c r) := ss_if
theorem frz_val {d : D} {ρ : Env1} : frz (.val d :: ρ) = some d :: frz ρ := rfl
theorem frz_un {ρ : Env1} : frz (.un :: ρ) = none :: frz ρ := rfl
theorem frz_own {ds : List D} {ρ : Env1} : frz (.own ds :: ρ) = some (.list ds) :: frz ρ := rfl
theorem frz_nil : frz [] = [] := rfl
theorem mix_nil {u : Nat → Bool} {k : Nat} : mixF u k [] = [] := rfl
theorem mix_val {u : Nat → Bool} {k : Nat} {d : D} {ρ : Env1} : mixF u k (.val d :: ρ) = some d :: mixF u (k + 1) ρ := by
  rw [mixF]; by_cases h : u k = true <;> simp [h, Slot.frz, Slot.hid]
theorem mix_un {u : Nat → Bool} {k : Nat} {ρ : Env1} : mixF u k (.un :: ρ) = none :: mixF u (k + 1) ρ := by
  rw [mixF]; by_cases h : u k = true <;> simp [h, Slot.frz, Slot.hid]
theorem mix_own {u : Nat → Bool} {k : Nat} {ds : List D} {ρ : Env1} : mixF u k (.own ds :: ρ) = (if u k = true then some (.list ds) else none) :: mixF u (k + 1) ρ := by
  rw [mixF]; by_cases h : u k = true <;> simp [h, Slot.frz, Slot.hid]
theorem fix_nil {u : Nat → Bool} {k : Nat} : fixF u k [] = [] := rfl
theorem fix_val {u : Nat → Bool} {k : Nat} {d : D} {ρ : Env1} : fixF u k (.val d :: ρ) = .val d :: fixF u (k + 1) ρ := by
  rw [fixF]; by_cases h : u k = true <;> simp [h, Slot.fix]
theorem fix_un {u : Nat → Bool} {k : Nat} {ρ : Env1} : fixF u k (.un :: ρ) = .un :: fixF u (k + 1) ρ := by
  rw [fixF]; by_cases h : u k = true <;> simp [h, Slot.fix]
theorem fix_own {u : Nat → Bool} {k : Nat} {ds : List D} {ρ : Env1} : fixF u k (.own ds :: ρ) = (if u k = true then .val (.list ds) else .own ds) :: fixF u (k + 1) ρ := by
  rw [fixF]; by_cases h : u k = true <;> simp [h, Slot.fix]
/-- a slot that nothing is changed in: unset, or a value -/
def so : Option D → Slot
  | none => .un
  | some d => .val d
theorem mix_so {u : Nat → Bool} {k : Nat} {d : Option D} {ρ : Env1} : mixF u k (so d :: ρ) = d :: mixF u (k + 1) ρ := by
  cases d with
  | none => exact mix_un
  | some d => exact mix_val
theorem fix_so {u : Nat → Bool} {k : Nat} {d : Option D} {ρ : Env1} : fixF u k (so d :: ρ) = so d :: fixF u (k + 1) ρ := by
  cases d with
  | none => exact fix_un
  | some d => exact fix_val
theorem frz_so {d : Option D} {ρ : Env1} : frz (so d :: ρ) = d :: frz ρ := by cases d <;> rfl
/-- a slot of which nothing is known -/
def sx (x : Slot) : Slot := x
theorem mix_sx {u : Nat → Bool} {k : Nat} {x : Slot} {ρ : Env1} : mixF u k (sx x :: ρ) = (if u k = true then x.frz else x.hid) :: mixF u (k + 1) ρ := rfl
theorem fix_sx {u : Nat → Bool} {k : Nat} {x : Slot} {ρ : Env1} : fixF u k (sx x :: ρ) = (if u k = true then x.fix else sx x) :: fixF u (k + 1) ρ := rfl
theorem frz_sx {x : Slot} {ρ : Env1} : frz (sx x :: ρ) = x.frz :: frz ρ := rfl
theorem fx_bool {e : PX} {b : Bool} : fx e (.bool b) ρ = ρ := rfl
theorem fx_int {e : PX} {i : Int} : fx e (.int i) ρ = ρ := rfl
theorem fx_str {e : PX} {x : Str} : fx e (.str x) ρ = ρ := rfl
theorem fx_none {e : PX} : fx e .none ρ = ρ := rfl
theorem noLs_ints : ∀ ns : List Int, noLs (ns.map .int) = true
  | [] => rfl
  | n :: r => by rw [List.map_cons, noLs, noLs_ints r]; rfl
theorem noLs_map {α : Type} {f : α → D} (h : ∀ x, noL (f x) = true) : ∀ l : List α, noLs (l.map f) = true
  | [] => rfl
  | n :: r => by rw [List.map_cons, noLs, noLs_map h r, h]; rfl
theorem fx_iT {e : PX} {ns : List Int} : fx e (.tuple (ns.map .int)) ρ = ρ := by
  unfold fx; rw [if_pos (by show (noLs _ || _ || _) = true; rw [noLs_ints ns]; rfl)]
theorem noLs_ones {α : Type} {i : Int} {l : List α} : noLs (l.map fun _ => .int i) = true := noLs_map (fun _ => rfl) l
theorem noLf_int {e : PX} {i : Int} : noLf e (.int i) = true := rfl
theorem noLf_bool {e : PX} {b : Bool} : noLf e (.bool b) = true := rfl
theorem noLf_str {e : PX} {x : Str} : noLf e (.str x) = true := rfl
theorem noLf_none {e : PX} : noLf e .none = true := rfl
theorem noLf_tup {e : PX} {ds : List D} : noLf e (.tuple ds) = (noLs ds || ixOwn e) := by
  show (noLs ds || (plainLc e && false) || ixOwn e) = _
  rw [Bool.and_false, Bool.or_false]
theorem noLf_list {e : PX} {ds : List D} : noLf e (.list ds) = ((plainLc e && noLs ds) || ixOwn e) := rfl
theorem fx_list {e : PX} {ds : List D} : fx e (.list ds) ρ = if ((plainLc e && noLs ds) || ixOwn e) = true then ρ else fixF e.at 0 ρ := rfl
theorem noLg_int {e : PX} {i : Int} : noLg e (.int i) = true := rfl
theorem noLg_bool {e : PX} {b : Bool} : noLg e (.bool b) = true := rfl
theorem noLg_str {e : PX} {x : Str} : noLg e (.str x) = true := rfl
theorem noLg_none {e : PX} : noLg e .none = true := rfl
theorem noLg_tup {e : PX} {ds : List D} : noLg e (.tuple ds) = (noLs ds || ixOwn e) := by
  show (noLf e (.tuple ds) || (e.freshy && false)) = _
  rw [Bool.and_false, Bool.or_false, noLf_tup]
theorem noLg_list {e : PX} {ds : List D} : noLg e (.list ds) = (((plainLc e && noLs ds) || ixOwn e) || (e.freshy && noLs ds)) := rfl
theorem noLs_strs {α : Type} {f : α → Str} {l : List α} : noLs (l.map fun x => .str (f x)) = true := noLs_map (fun _ => rfl) l
theorem noLs_strs' {l : List Str} : noLs (l.map .str) = true := noLs_map (fun _ => rfl) l
theorem io_var : ∀ x0, ixOwn (.var x0) = false := fun _ => rfl
theorem iox_var : ∀ j e, ixOwn (.ix (.var j) e) = plnIx e := fun _ _ => rfl
theorem pli_var : ∀ x0, plnIx (.var x0) = true := fun _ => rfl
theorem plin_var : ∀ x0, plnIx (.neg (.var x0)) = false := fun _ => rfl
theorem io_cst : ∀ x0, ixOwn (.cst x0) = false := fun _ => rfl
theorem iox_cst : ∀ x0 e, ixOwn (.ix (.cst x0) e) = false := fun _ _ => rfl
theorem pli_cst : ∀ x0, plnIx (.cst x0) = true := fun _ => rfl
theorem plin_cst : ∀ x0, plnIx (.neg (.cst x0)) = true := fun _ => rfl
theorem io_tup : ∀ x0, ixOwn (.tup x0) = false := fun _ => rfl
theorem iox_tup : ∀ x0 e, ixOwn (.ix (.tup x0) e) = false := fun _ _ => rfl
theorem pli_tup : ∀ x0, plnIx (.tup x0) = false := fun _ => rfl
theorem io_lst : ∀ x0, ixOwn (.lst x0) = false := fun _ => rfl
theorem iox_lst : ∀ x0 e, ixOwn (.ix (.lst x0) e) = false := fun _ _ => rfl
theorem pli_lst : ∀ x0, plnIx (.lst x0) = false := fun _ => rfl
theorem io_bin : ∀ x0 x1 x2, ixOwn (.bin x0 x1 x2) = false := fun _ _ _ => rfl
theorem iox_bin : ∀ x0 x1 x2 e, ixOwn (.ix (.bin x0 x1 x2) e) = false := fun _ _ _ _ => rfl
theorem pli_bin : ∀ x0 x1 x2, plnIx (.bin x0 x1 x2) = false := fun _ _ _ => rfl
theorem plin_bin : ∀ x0 x1 x2, plnIx (.neg (.bin x0 x1 x2)) = false := fun _ _ _ => rfl
theorem io_neg : ∀ x0, ixOwn (.neg x0) = false := fun _ => rfl
theorem iox_neg : ∀ x0 e, ixOwn (.ix (.neg x0) e) = false := fun _ _ => rfl
theorem io_cmp : ∀ x0 x1 x2, ixOwn (.cmp x0 x1 x2) = false := fun _ _ _ => rfl
theorem iox_cmp : ∀ x0 x1 x2 e, ixOwn (.ix (.cmp x0 x1 x2) e) = false := fun _ _ _ _ => rfl
theorem pli_cmp : ∀ x0 x1 x2, plnIx (.cmp x0 x1 x2) = false := fun _ _ _ => rfl
theorem io_isn : ∀ x0, ixOwn (.isn x0) = false := fun _ => rfl
theorem iox_isn : ∀ x0 e, ixOwn (.ix (.isn x0) e) = false := fun _ _ => rfl
theorem pli_isn : ∀ x0, plnIx (.isn x0) = false := fun _ => rfl
theorem io_notn : ∀ x0, ixOwn (.notn x0) = false := fun _ => rfl
theorem iox_notn : ∀ x0 e, ixOwn (.ix (.notn x0) e) = false := fun _ _ => rfl
theorem pli_notn : ∀ x0, plnIx (.notn x0) = false := fun _ => rfl
theorem io_chain : ∀ x0 x1 x2 x3 x4, ixOwn (.chain x0 x1 x2 x3 x4) = false := fun _ _ _ _ _ => rfl
theorem iox_chain : ∀ x0 x1 x2 x3 x4 e, ixOwn (.ix (.chain x0 x1 x2 x3 x4) e) = false := fun _ _ _ _ _ _ => rfl
theorem pli_chain : ∀ x0 x1 x2 x3 x4, plnIx (.chain x0 x1 x2 x3 x4) = false := fun _ _ _ _ _ => rfl
theorem io_and : ∀ x0 x1, ixOwn (.and_ x0 x1) = false := fun _ _ => rfl
theorem iox_and : ∀ x0 x1 e, ixOwn (.ix (.and_ x0 x1) e) = false := fun _ _ _ => rfl
theorem pli_and : ∀ x0 x1, plnIx (.and_ x0 x1) = false := fun _ _ => rfl
theorem io_or : ∀ x0 x1, ixOwn (.or_ x0 x1) = false := fun _ _ => rfl
theorem iox_or : ∀ x0 x1 e, ixOwn (.ix (.or_ x0 x1) e) = false := fun _ _ _ => rfl
theorem pli_or : ∀ x0 x1, plnIx (.or_ x0 x1) = false := fun _ _ => rfl
theorem io_not : ∀ x0, ixOwn (.not_ x0) = false := fun _ => rfl
theorem iox_not : ∀ x0 e, ixOwn (.ix (.not_ x0) e) = false := fun _ _ => rfl
theorem pli_not : ∀ x0, plnIx (.not_ x0) = false := fun _ => rfl
theorem io_ite : ∀ x0 x1 x2, ixOwn (.ite x0 x1 x2) = false := fun _ _ _ => rfl
theorem iox_ite : ∀ x0 x1 x2 e, ixOwn (.ix (.ite x0 x1 x2) e) = false := fun _ _ _ _ => rfl
theorem pli_ite : ∀ x0 x1 x2, plnIx (.ite x0 x1 x2) = false := fun _ _ _ => rfl
theorem iox_ix : ∀ x0 x1 e, ixOwn (.ix (.ix x0 x1) e) = false := fun _ _ _ => rfl
theorem pli_ix : ∀ x0 x1, plnIx (.ix x0 x1) = false := fun _ _ => rfl
theorem plin_ix : ∀ x0 x1, plnIx (.neg (.ix x0 x1)) = false := fun _ _ => rfl
theorem io_sl : ∀ x0 x1 x2, ixOwn (.sl x0 x1 x2) = false := fun _ _ _ => rfl
theorem iox_sl : ∀ x0 x1 x2 e, ixOwn (.ix (.sl x0 x1 x2) e) = false := fun _ _ _ _ => rfl
theorem pli_sl : ∀ x0 x1 x2, plnIx (.sl x0 x1 x2) = false := fun _ _ _ => rfl
theorem io_rev : ∀ x0, ixOwn (.rev x0) = false := fun _ => rfl
theorem iox_rev : ∀ x0 e, ixOwn (.ix (.rev x0) e) = false := fun _ _ => rfl
theorem pli_rev : ∀ x0, plnIx (.rev x0) = false := fun _ => rfl
theorem io_call : ∀ x0 x1, ixOwn (.call x0 x1) = false := fun _ _ => rfl
theorem iox_call : ∀ x0 x1 e, ixOwn (.ix (.call x0 x1) e) = false := fun _ _ _ => rfl
theorem pli_call : ∀ x0 x1, plnIx (.call x0 x1) = false := fun _ _ => rfl
theorem io_bi : ∀ x0 x1, ixOwn (.bi x0 x1) = false := fun _ _ => rfl
theorem iox_bi : ∀ x0 x1 e, ixOwn (.ix (.bi x0 x1) e) = false := fun _ _ _ => rfl
theorem pli_bi : ∀ x0 x1, plnIx (.bi x0 x1) = false := fun _ _ => rfl
theorem plin_bi : ∀ x0 x1, plnIx (.neg (.bi x0 x1)) = false := fun _ _ => rfl
theorem io_isi : ∀ x0 x1, ixOwn (.isi x0 x1) = false := fun _ _ => rfl
theorem iox_isi : ∀ x0 x1 e, ixOwn (.ix (.isi x0 x1) e) = false := fun _ _ _ => rfl
theorem pli_isi : ∀ x0 x1, plnIx (.isi x0 x1) = false := fun _ _ => rfl
theorem io_sortk : ∀ x0, ixOwn (.sortk x0) = false := fun _ => rfl
theorem iox_sortk : ∀ x0 e, ixOwn (.ix (.sortk x0) e) = false := fun _ _ => rfl
theorem pli_sortk : ∀ x0, plnIx (.sortk x0) = false := fun _ => rfl
theorem io_mink : ∀ x0, ixOwn (.mink x0) = false := fun _ => rfl
theorem iox_mink : ∀ x0 e, ixOwn (.ix (.mink x0) e) = false := fun _ _ => rfl
theorem pli_mink : ∀ x0, plnIx (.mink x0) = false := fun _ => rfl
theorem io_fld : ∀ x0 x1, ixOwn (.fld x0 x1) = false := fun _ _ => rfl
theorem iox_fld : ∀ x0 x1 e, ixOwn (.ix (.fld x0 x1) e) = false := fun _ _ _ => rfl
theorem pli_fld : ∀ x0 x1, plnIx (.fld x0 x1) = false := fun _ _ => rfl
theorem ic_fld : ∀ x0 x1, isCst (.fld x0 x1) = false := fun _ _ => rfl
theorem pl_fld : ∀ x0 x1, plainLc (.fld x0 x1) = false := fun _ _ => rfl
theorem io_pcall : ∀ x0 x1 x2 x3 x4, ixOwn (.pcall x0 x1 x2 x3 x4) = false := fun _ _ _ _ _ => rfl
theorem iox_pcall : ∀ x0 x1 x2 x3 x4 e, ixOwn (.ix (.pcall x0 x1 x2 x3 x4) e) = false := fun _ _ _ _ _ _ => rfl
theorem pli_pcall : ∀ x0 x1 x2 x3 x4, plnIx (.pcall x0 x1 x2 x3 x4) = false := fun _ _ _ _ _ => rfl
theorem ic_pcall : ∀ x0 x1 x2 x3 x4, isCst (.pcall x0 x1 x2 x3 x4) = false := fun _ _ _ _ _ => rfl
theorem pl_pcall : ∀ x0 x1 x2 x3 x4, plainLc (.pcall x0 x1 x2 x3 x4) = false := fun _ _ _ _ _ => rfl
theorem io_new : ∀ x0 x1 x2, ixOwn (.new x0 x1 x2) = false := fun _ _ _ => rfl
theorem iox_new : ∀ x0 x1 x2 e, ixOwn (.ix (.new x0 x1 x2) e) = false := fun _ _ _ _ => rfl
theorem pli_new : ∀ x0 x1 x2, plnIx (.new x0 x1 x2) = false := fun _ _ _ => rfl
theorem ic_new : ∀ x0 x1 x2, isCst (.new x0 x1 x2) = false := fun _ _ _ => rfl
theorem pl_new : ∀ x0 x1 x2, plainLc (.new x0 x1 x2) = false := fun _ _ _ => rfl
theorem io_prop : ∀ x0 x1 x2, ixOwn (.prop x0 x1 x2) = false := fun _ _ _ => rfl
theorem iox_prop : ∀ x0 x1 x2 e, ixOwn (.ix (.prop x0 x1 x2) e) = false := fun _ _ _ _ => rfl
theorem pli_prop : ∀ x0 x1 x2, plnIx (.prop x0 x1 x2) = false := fun _ _ _ => rfl
theorem ic_prop : ∀ x0 x1 x2, isCst (.prop x0 x1 x2) = false := fun _ _ _ => rfl
theorem pl_prop : ∀ x0 x1 x2, plainLc (.prop x0 x1 x2) = false := fun _ _ _ => rfl
theorem io_obj : ∀ x0 x1 x2 x3, ixOwn (.obj x0 x1 x2 x3) = false := fun _ _ _ _ => rfl
theorem iox_obj : ∀ x0 x1 x2 x3 e, ixOwn (.ix (.obj x0 x1 x2 x3) e) = false := fun _ _ _ _ _ => rfl
theorem pli_obj : ∀ x0 x1 x2 x3, plnIx (.obj x0 x1 x2 x3) = false := fun _ _ _ _ => rfl
theorem ic_obj : ∀ x0 x1 x2 x3, isCst (.obj x0 x1 x2 x3) = false := fun _ _ _ _ => rfl
theorem pl_obj : ∀ x0 x1 x2 x3, plainLc (.obj x0 x1 x2 x3) = false := fun _ _ _ _ => rfl
theorem io_isc : ∀ x0 x1, ixOwn (.isc x0 x1) = false := fun _ _ => rfl
theorem iox_isc : ∀ x0 x1 e, ixOwn (.ix (.isc x0 x1) e) = false := fun _ _ _ => rfl
theorem pli_isc : ∀ x0 x1, plnIx (.isc x0 x1) = false := fun _ _ => rfl
theorem ic_isc : ∀ x0 x1, isCst (.isc x0 x1) = false := fun _ _ => rfl
theorem pl_isc : ∀ x0 x1, plainLc (.isc x0 x1) = false := fun _ _ => rfl
theorem io_last : ∀ x0 x1 x2 x3, ixOwn (.last x0 x1 x2 x3) = false := fun _ _ _ _ => rfl
theorem iox_last : ∀ x0 x1 x2 x3 e, ixOwn (.ix (.last x0 x1 x2 x3) e) = false := fun _ _ _ _ _ => rfl
theorem pli_last : ∀ x0 x1 x2 x3, plnIx (.last x0 x1 x2 x3) = false := fun _ _ _ _ => rfl
theorem ic_last : ∀ x0 x1 x2 x3, isCst (.last x0 x1 x2 x3) = false := fun _ _ _ _ => rfl
theorem pl_last : ∀ x0 x1 x2 x3, plainLc (.last x0 x1 x2 x3) = false := fun _ _ _ _ => rfl
theorem io_callk : ∀ x0 x1 x2, ixOwn (.callk x0 x1 x2) = false := fun _ _ _ => rfl
theorem iox_callk : ∀ x0 x1 x2 e, ixOwn (.ix (.callk x0 x1 x2) e) = false := fun _ _ _ _ => rfl
theorem pli_callk : ∀ x0 x1 x2, plnIx (.callk x0 x1 x2) = false := fun _ _ _ => rfl
theorem ic_callk : ∀ x0 x1 x2, isCst (.callk x0 x1 x2) = false := fun _ _ _ => rfl
theorem pl_callk : ∀ x0 x1 x2, plainLc (.callk x0 x1 x2) = false := fun _ _ _ => rfl
theorem io_ocmp : ∀ x0 x1 x2 x3 x4, ixOwn (.ocmp x0 x1 x2 x3 x4) = false := fun _ _ _ _ _ => rfl
theorem iox_ocmp : ∀ x0 x1 x2 x3 x4 e, ixOwn (.ix (.ocmp x0 x1 x2 x3 x4) e) = false := fun _ _ _ _ _ _ => rfl
theorem pli_ocmp : ∀ x0 x1 x2 x3 x4, plnIx (.ocmp x0 x1 x2 x3 x4) = false := fun _ _ _ _ _ => rfl
theorem ic_ocmp : ∀ x0 x1 x2 x3 x4, isCst (.ocmp x0 x1 x2 x3 x4) = false := fun _ _ _ _ _ => rfl
theorem pl_ocmp : ∀ x0 x1 x2 x3 x4, plainLc (.ocmp x0 x1 x2 x3 x4) = false := fun _ _ _ _ _ => rfl
theorem io_mkx : ∀ x0 x1, ixOwn (.mkx x0 x1) = false := fun _ _ => rfl
theorem iox_mkx : ∀ x0 x1 e, ixOwn (.ix (.mkx x0 x1) e) = false := fun _ _ _ => rfl
theorem pli_mkx : ∀ x0 x1, plnIx (.mkx x0 x1) = false := fun _ _ => rfl
theorem ic_mkx : ∀ x0 x1, isCst (.mkx x0 x1) = false := fun _ _ => rfl
theorem pl_mkx : ∀ x0 x1, plainLc (.mkx x0 x1) = false := fun _ _ => rfl
theorem io_isx : ∀ x0 x1, ixOwn (.isx x0 x1) = false := fun _ _ => rfl
theorem iox_isx : ∀ x0 x1 e, ixOwn (.ix (.isx x0 x1) e) = false := fun _ _ _ => rfl
theorem pli_isx : ∀ x0 x1, plnIx (.isx x0 x1) = false := fun _ _ => rfl
theorem ic_isx : ∀ x0 x1, isCst (.isx x0 x1) = false := fun _ _ => rfl
theorem pl_isx : ∀ x0 x1, plainLc (.isx x0 x1) = false := fun _ _ => rfl
theorem io_xfl : ∀ x0 x1, ixOwn (.xfl x0 x1) = false := fun _ _ => rfl
theorem iox_xfl : ∀ x0 x1 e, ixOwn (.ix (.xfl x0 x1) e) = false := fun _ _ _ => rfl
theorem pli_xfl : ∀ x0 x1, plnIx (.xfl x0 x1) = false := fun _ _ => rfl
theorem ic_xfl : ∀ x0 x1, isCst (.xfl x0 x1) = false := fun _ _ => rfl
theorem pl_xfl : ∀ x0 x1, plainLc (.xfl x0 x1) = false := fun _ _ => rfl
theorem io_newk : ∀ x0 x1 x2 x3, ixOwn (.newk x0 x1 x2 x3) = false := fun _ _ _ _ => rfl
theorem iox_newk : ∀ x0 x1 x2 x3 e, ixOwn (.ix (.newk x0 x1 x2 x3) e) = false := fun _ _ _ _ _ => rfl
theorem pli_newk : ∀ x0 x1 x2 x3, plnIx (.newk x0 x1 x2 x3) = false := fun _ _ _ _ => rfl
theorem ic_newk : ∀ x0 x1 x2 x3, isCst (.newk x0 x1 x2 x3) = false := fun _ _ _ _ => rfl
theorem pl_newk : ∀ x0 x1 x2 x3, plainLc (.newk x0 x1 x2 x3) = false := fun _ _ _ _ => rfl
theorem io_obin : ∀ x0 x1 x2 x3 x4, ixOwn (.obin x0 x1 x2 x3 x4) = false := fun _ _ _ _ _ => rfl
theorem iox_obin : ∀ x0 x1 x2 x3 x4 e, ixOwn (.ix (.obin x0 x1 x2 x3 x4) e) = false := fun _ _ _ _ _ _ => rfl
theorem pli_obin : ∀ x0 x1 x2 x3 x4, plnIx (.obin x0 x1 x2 x3 x4) = false := fun _ _ _ _ _ => rfl
theorem ic_obin : ∀ x0 x1 x2 x3 x4, isCst (.obin x0 x1 x2 x3 x4) = false := fun _ _ _ _ _ => rfl
theorem pl_obin : ∀ x0 x1 x2 x3 x4, plainLc (.obin x0 x1 x2 x3 x4) = false := fun _ _ _ _ _ => rfl
theorem io_meth : ∀ x0 x1 x2, ixOwn (.meth x0 x1 x2) = false := fun _ _ _ => rfl
theorem iox_meth : ∀ x0 x1 x2 e, ixOwn (.ix (.meth x0 x1 x2) e) = false := fun _ _ _ _ => rfl
theorem pli_meth : ∀ x0 x1 x2, plnIx (.meth x0 x1 x2) = false := fun _ _ _ => rfl
theorem io_lc : ∀ x0 x1 x2 x3, ixOwn (.lc x0 x1 x2 x3) = false := fun _ _ _ _ => rfl
theorem iox_lc : ∀ x0 x1 x2 x3 e, ixOwn (.ix (.lc x0 x1 x2 x3) e) = false := fun _ _ _ _ _ => rfl
theorem pli_lc : ∀ x0 x1 x2 x3, plnIx (.lc x0 x1 x2 x3) = false := fun _ _ _ _ => rfl
theorem io_lc2 : ∀ x0 x1 x2 x3 x4 x5, ixOwn (.lc2 x0 x1 x2 x3 x4 x5) = false := fun _ _ _ _ _ _ => rfl
theorem iox_lc2 : ∀ x0 x1 x2 x3 x4 x5 e, ixOwn (.ix (.lc2 x0 x1 x2 x3 x4 x5) e) = false := fun _ _ _ _ _ _ _ => rfl
theorem pli_lc2 : ∀ x0 x1 x2 x3 x4 x5, plnIx (.lc2 x0 x1 x2 x3 x4 x5) = false := fun _ _ _ _ _ _ => rfl
theorem icb_abs : ∀ es, isCst (.bi .abs es) = false := fun _ => rfl
theorem icb_all : ∀ es, isCst (.bi .all es) = false := fun _ => rfl
theorem icb_any : ∀ es, isCst (.bi .any es) = false := fun _ => rfl
theorem icb_int : ∀ es, isCst (.bi .int es) = false := fun _ => rfl
theorem icb_len : ∀ es, isCst (.bi .len es) = false := fun _ => rfl
theorem icb_list : ∀ es, isCst (.bi .list es) = false := fun _ => rfl
theorem icb_max : ∀ es, isCst (.bi .max es) = false := fun _ => rfl
theorem icb_max2 : ∀ es, isCst (.bi .max2 es) = false := fun _ => rfl
theorem icb_min : ∀ es, isCst (.bi .min es) = false := fun _ => rfl
theorem icb_min2 : ∀ es, isCst (.bi .min2 es) = false := fun _ => rfl
theorem icb_repr : ∀ es, isCst (.bi .repr es) = false := fun _ => rfl
theorem icb_sorted : ∀ es, isCst (.bi .sorted es) = false := fun _ => rfl
theorem icb_str : ∀ es, isCst (.bi .str es) = true := fun _ => rfl
theorem icb_sum : ∀ es, isCst (.bi .sum es) = false := fun _ => rfl
theorem icb_tuple : ∀ es, isCst (.bi .tuple es) = false := fun _ => rfl
theorem icb_maxd : ∀ es, isCst (.bi .maxd es) = false := fun _ => rfl
theorem icb_minkd : ∀ es, isCst (.bi .minkd es) = false := fun _ => rfl
theorem icb_lrng : ∀ es, isCst (.bi .lrng es) = false := fun _ => rfl
theorem icb_sset : ∀ es, isCst (.bi .sset es) = false := fun _ => rfl
theorem ic_var : ∀ x0, isCst (.var x0) = false := fun _ => rfl
theorem pl_var : ∀ x0, plainLc (.var x0) = false := fun _ => rfl
theorem ic_cst : ∀ x0, isCst (.cst x0) = true := fun _ => rfl
theorem pl_cst : ∀ x0, plainLc (.cst x0) = false := fun _ => rfl
theorem ic_tup : ∀ x0, isCst (.tup x0) = false := fun _ => rfl
theorem pl_tup : ∀ x0, plainLc (.tup x0) = false := fun _ => rfl
theorem ic_lst : ∀ x0, isCst (.lst x0) = false := fun _ => rfl
theorem pl_lst : ∀ x0, plainLc (.lst x0) = false := fun _ => rfl
theorem ic_bin : ∀ x0 x1 x2, isCst (.bin x0 x1 x2) = false := fun _ _ _ => rfl
theorem pl_bin : ∀ x0 x1 x2, plainLc (.bin x0 x1 x2) = false := fun _ _ _ => rfl
theorem ic_neg : ∀ x0, isCst (.neg x0) = false := fun _ => rfl
theorem pl_neg : ∀ x0, plainLc (.neg x0) = false := fun _ => rfl
theorem ic_cmp : ∀ x0 x1 x2, isCst (.cmp x0 x1 x2) = false := fun _ _ _ => rfl
theorem pl_cmp : ∀ x0 x1 x2, plainLc (.cmp x0 x1 x2) = false := fun _ _ _ => rfl
theorem ic_isn : ∀ x0, isCst (.isn x0) = false := fun _ => rfl
theorem pl_isn : ∀ x0, plainLc (.isn x0) = false := fun _ => rfl
theorem ic_notn : ∀ x0, isCst (.notn x0) = false := fun _ => rfl
theorem pl_notn : ∀ x0, plainLc (.notn x0) = false := fun _ => rfl
theorem ic_chain : ∀ x0 x1 x2 x3 x4, isCst (.chain x0 x1 x2 x3 x4) = false := fun _ _ _ _ _ => rfl
theorem pl_chain : ∀ x0 x1 x2 x3 x4, plainLc (.chain x0 x1 x2 x3 x4) = false := fun _ _ _ _ _ => rfl
theorem ic_and : ∀ x0 x1, isCst (.and_ x0 x1) = false := fun _ _ => rfl
theorem pl_and : ∀ x0 x1, plainLc (.and_ x0 x1) = false := fun _ _ => rfl
theorem ic_or : ∀ x0 x1, isCst (.or_ x0 x1) = false := fun _ _ => rfl
theorem pl_or : ∀ x0 x1, plainLc (.or_ x0 x1) = false := fun _ _ => rfl
theorem ic_not : ∀ x0, isCst (.not_ x0) = false := fun _ => rfl
theorem pl_not : ∀ x0, plainLc (.not_ x0) = false := fun _ => rfl
theorem ic_ite : ∀ x0 x1 x2, isCst (.ite x0 x1 x2) = false := fun _ _ _ => rfl
theorem pl_ite : ∀ x0 x1 x2, plainLc (.ite x0 x1 x2) = false := fun _ _ _ => rfl
theorem ic_ix : ∀ x0 x1, isCst (.ix x0 x1) = false := fun _ _ => rfl
theorem pl_ix : ∀ x0 x1, plainLc (.ix x0 x1) = false := fun _ _ => rfl
theorem ic_sl : ∀ x0 x1 x2, isCst (.sl x0 x1 x2) = false := fun _ _ _ => rfl
theorem pl_sl : ∀ x0 x1 x2, plainLc (.sl x0 x1 x2) = false := fun _ _ _ => rfl
theorem ic_rev : ∀ x0, isCst (.rev x0) = false := fun _ => rfl
theorem pl_rev : ∀ x0, plainLc (.rev x0) = false := fun _ => rfl
theorem ic_call : ∀ x0 x1, isCst (.call x0 x1) = false := fun _ _ => rfl
theorem pl_call : ∀ x0 x1, plainLc (.call x0 x1) = false := fun _ _ => rfl
theorem pl_bi : ∀ x0 x1, plainLc (.bi x0 x1) = false := fun _ _ => rfl
theorem ic_isi : ∀ x0 x1, isCst (.isi x0 x1) = false := fun _ _ => rfl
theorem pl_isi : ∀ x0 x1, plainLc (.isi x0 x1) = false := fun _ _ => rfl
theorem ic_sortk : ∀ x0, isCst (.sortk x0) = false := fun _ => rfl
theorem pl_sortk : ∀ x0, plainLc (.sortk x0) = false := fun _ => rfl
theorem ic_mink : ∀ x0, isCst (.mink x0) = false := fun _ => rfl
theorem pl_mink : ∀ x0, plainLc (.mink x0) = false := fun _ => rfl
theorem ic_meth : ∀ x0 x1 x2, isCst (.meth x0 x1 x2) = false := fun _ _ _ => rfl
theorem pl_meth : ∀ x0 x1 x2, plainLc (.meth x0 x1 x2) = false := fun _ _ _ => rfl
theorem ic_lc : ∀ x0 x1 x2 x3, isCst (.lc x0 x1 x2 x3) = false := fun _ _ _ _ => rfl
theorem pl_lc : ∀ x0 x1 x2 x3, plainLc (.lc x0 x1 x2 x3) = isCst x3 := fun _ _ _ _ => rfl
theorem ic_lc2 : ∀ x0 x1 x2 x3 x4 x5, isCst (.lc2 x0 x1 x2 x3 x4 x5) = false := fun _ _ _ _ _ _ => rfl
theorem pl_lc2 : ∀ x0 x1 x2 x3 x4 x5, plainLc (.lc2 x0 x1 x2 x3 x4 x5) = false := fun _ _ _ _ _ _ => rfl
theorem ss_ret {e : PX} : SatS (run1 F (.ret e) ρ s) n c r = Let1 (frz ρ) fun ρ0 => Sat (ev F e ρ0 s) r := by simp only [run1, satS_then, satS_rt, Let1]
theorem ss_ret_i {e : PX} : @SatSI (run1 F (.ret e) ρ s) ⟨n, c, r⟩ = Let1 (frz ρ) fun ρ0 => Sat (ev F e ρ0 s) r := ss_ret
theorem ss_retN : SatS (run1 F .retN ρ s) n c r = r .none s := by simp only [run1, satS_rt]
theorem ss_retN_i : @SatSI (run1 F .retN ρ s) ⟨n, c, r⟩ = r .none s := ss_retN
theorem ss_pass : SatS (run1 F .pass ρ s) n c r = n ρ s := by simp only [run1, satS_nx]
theorem ss_pass_i : @SatSI (run1 F .pass ρ s) ⟨n, c, r⟩ = n ρ s := ss_pass
theorem ss_cont : SatS (run1 F .cont ρ s) n c r = c ρ s := by simp only [run1, satS_ct]
theorem ss_cont_i : @SatSI (run1 F .cont ρ s) ⟨n, c, r⟩ = c ρ s := ss_cont
theorem ss_drop {e : PX} : SatS (run1 F (.drop e) ρ s) n c r = Let1 (mixF e.at 0 ρ) fun ρ0 => Sat (ev F e ρ0 s) fun d s1 => Let1 (fx e d ρ) fun ρ' => n ρ' s1 := by
  simp only [run1, satS_then, sat_evS, satS_nx, Let1]
theorem ss_drop_i {e : PX} : @SatSI (run1 F (.drop e) ρ s) ⟨n, c, r⟩ = Let1 (mixF e.at 0 ρ) fun ρ0 => Sat (ev F e ρ0 s) fun d s1 => Let1 (fx e d ρ) fun ρ' => n ρ' s1 := ss_drop
theorem untup_T {ds : List D} : untup (.tuple ds) = .tuple ds := rfl
theorem untup_L {ds : List D} : untup (.list ds) = .tuple ds := rfl
theorem ss_unp {is : List Nat} {e : PX} : SatS (run1 F (.unp is e) ρ s) n c r = Let1 (mixF e.at 0 ρ) fun ρ0 => Sat (ev F e ρ0 s) fun d s1 => OS (setS (.many is) (untup d) (fx e d ρ)) fun ρ2 => n ρ2 s1 := by
  simp only [run1, satS_then, sat_evS]
  unfold Let1
  congr 1
  funext d s1
  cases setS (.many is) (untup d) (fx e d ρ) <;> simp [satS_eq, SatS0, OS]
theorem ss_unp_i {is : List Nat} {e : PX} : @SatSI (run1 F (.unp is e) ρ s) ⟨n, c, r⟩ = Let1 (mixF e.at 0 ρ) fun ρ0 => Sat (ev F e ρ0 s) fun d s1 => OS (setS (.many is) (untup d) (fx e d ρ)) fun ρ2 => n ρ2 s1 := ss_unp
theorem ss_dset {i : Nat} {j : Int} {e : PX} : SatS (run1 F (.dset i j e) ρ s) n c r = Let1 (mixF e.at 0 ρ) fun ρ0 => Sat (ev F e ρ0 s) fun d s1 => IS d fun v => ρ[i]? = some (.val dkD) ∧ OS (dkSet s1 j v) fun s2 => n ρ s2 := by
  simp only [run1, satS_then, sat_evS]
  unfold Let1
  congr 1
  funext d s1
  cases d with
  | int v =>
    rw [fx_int, IS_int]
    cases h : ρ[i]? with
    | none => simp [satS_eq, SatS0]
    | some x =>
      cases x with
      | val y =>
        by_cases hy : y = dkD
        · subst hy
          cases h2 : dkSet s1 j v <;> simp [satS_eq, SatS0, h2, OS]
        · simp only [Option.some.injEq, Slot.val.injEq, hy, false_and, eq_iff_iff, iff_false]
          split
          · rename_i e1 e2; cases e1; exact absurd rfl hy
          · rw [satS_eq]; exact id
      | _ => simp [satS_eq, SatS0]
  | _ =>
    refine propext ⟨fun h => ?_, fun ⟨_, e, _⟩ => by cases e⟩
    revert h
    split
    · rename_i e2; cases e2
    · rw [satS_eq]; exact False.elim
theorem ss_dset_i {i : Nat} {j : Int} {e : PX} : @SatSI (run1 F (.dset i j e) ρ s) ⟨n, c, r⟩ = Let1 (mixF e.at 0 ρ) fun ρ0 => Sat (ev F e ρ0 s) fun d s1 => IS d fun v => ρ[i]? = some (.val dkD) ∧ OS (dkSet s1 j v) fun s2 => n ρ s2 := ss_dset
def ownAt (ρ : Env1) (i : Nat) : Option (List D) := match ρ[i]? with
  | some (.own ds) => some ds
  | _ => none
theorem ownAt_succ {x : Slot} {ρ : Env1} {i : Nat} : ownAt (x :: ρ) (i + 1) = ownAt ρ i := rfl
theorem ownAt_zero {ds : List D} {ρ : Env1} : ownAt (.own ds :: ρ) 0 = some ds := rfl
theorem ss_app {i : Nat} {e : PX} : SatS (run1 F (.app i e) ρ s) n c r = OS (ownAt ρ i) fun _ => Let1 (mixF e.at 0 ρ) fun ρ0 => Sat (ev F e ρ0 s) fun d s1 => Let1 (fx e d ρ) fun ρ1 => OS (ownAt ρ1 i) fun ds => ds.length < sizeLine ∧ Let1 (ρ1.set i (.own (ds ++ [d]))) fun ρ' => n ρ' s1 := by
  simp only [run1, ownAt]
  cases h : ρ[i]? with
  | none => simp [satS_eq, SatS0, OS]
  | some x =>
    cases x with
    | own ds0 =>
      simp only [OS_some, satS_then, sat_evS]
      unfold Let1
      congr 1
      funext d s1
      cases h2 : (fx e d ρ)[i]? with
      | none => simp [satS_eq, SatS0, OS, h2]
      | some y =>
        cases y with
        | own ds =>
          simp only [OS_some, h2]
          by_cases hl : ds.length < sizeLine <;> simp [hl, satS_eq, SatS0]
        | _ => simp [satS_eq, SatS0, OS, h2]
    | _ => simp [satS_eq, SatS0, OS]
theorem ss_app_i {i : Nat} {e : PX} : @SatSI (run1 F (.app i e) ρ s) ⟨n, c, r⟩ = OS (ownAt ρ i) fun _ => Let1 (mixF e.at 0 ρ) fun ρ0 => Sat (ev F e ρ0 s) fun d s1 => Let1 (fx e d ρ) fun ρ1 => OS (ownAt ρ1 i) fun ds => ds.length < sizeLine ∧ Let1 (ρ1.set i (.own (ds ++ [d]))) fun ρ' => n ρ' s1 := ss_app
theorem ss_ext {i : Nat} {e : PX} : SatS (run1 F (.ext i e) ρ s) n c r = OS (ownAt ρ i) fun _ => Let1 (mixF e.at 0 ρ) fun ρ0 => Sat (ev F e ρ0 s) fun d s1 => LS d fun es => Let1 (fx e d ρ) fun ρ1 => OS (ownAt ρ1 i) fun ds => ds.length + es.length ≤ sizeLine ∧ Let1 (ρ1.set i (.own (ds ++ es))) fun ρ' => n ρ' s1 := by
  simp only [run1, ownAt]
  cases h : ρ[i]? with
  | none => simp [satS_eq, SatS0, OS]
  | some x =>
    cases x with
    | own ds0 =>
      simp only [OS_some, satS_then, sat_evS]
      unfold Let1
      congr 1
      funext d s1
      cases h2 : (fx e d ρ)[i]? with
      | none => cases d <;> simp [satS_eq, SatS0, OS, LS, h2]
      | some y =>
        cases y with
        | own ds =>
          cases d with
          | list es =>
            simp only [OS_some, LS_list, h2]
            by_cases hl : ds.length + es.length ≤ sizeLine <;> simp [hl, satS_eq, SatS0]
          | _ => simp [satS_eq, SatS0, LS]
        | _ => cases d <;> simp [satS_eq, SatS0, OS, LS, h2]
    | _ => simp [satS_eq, SatS0, OS]
theorem ss_ext_i {i : Nat} {e : PX} : @SatSI (run1 F (.ext i e) ρ s) ⟨n, c, r⟩ = OS (ownAt ρ i) fun _ => Let1 (mixF e.at 0 ρ) fun ρ0 => Sat (ev F e ρ0 s) fun d s1 => LS d fun es => Let1 (fx e d ρ) fun ρ1 => OS (ownAt ρ1 i) fun ds => ds.length + es.length ≤ sizeLine ∧ Let1 (ρ1.set i (.own (ds ++ es))) fun ρ' => n ρ' s1 := ss_ext
theorem ss_pop {i : Nat} : SatS (run1 F (.pop i) ρ s) n c r = OS (ownAt ρ i) fun ds => ds ≠ [] ∧ Let1 (ρ.set i (.own ds.dropLast)) fun ρ' => n ρ' s := by
  simp only [run1, ownAt]
  cases h : ρ[i]? with
  | none => simp [satS_eq, SatS0, OS]
  | some x =>
    cases x with
    | own ds0 => by_cases hd : ds0 = [] <;> simp [satS_eq, SatS0, hd, OS, Let1]
    | _ => simp [satS_eq, SatS0, OS]
theorem ss_pop_i {i : Nat} : @SatSI (run1 F (.pop i) ρ s) ⟨n, c, r⟩ = OS (ownAt ρ i) fun ds => ds ≠ [] ∧ Let1 (ρ.set i (.own ds.dropLast)) fun ρ' => n ρ' s := ss_pop
def plainAt (ρ : Env1) (k : Nat) : Option Int := match ρ[k]? with
  | some (.val (.int n)) => some n
  | _ => none
theorem pIx_var {k : Nat} {ρ : Env1} : plainIx ρ (.var k) = plainAt ρ k := rfl
theorem pIx_cst {k : Int} {ρ : Env1} : plainIx ρ (.cst (.int k)) = some k := rfl
theorem pIx_neg {k : Int} {ρ : Env1} : plainIx ρ (.neg (.cst (.int k))) = some (-k) := rfl
theorem pAt_succ {x : Slot} {ρ : Env1} {k : Nat} : plainAt (x :: ρ) (k + 1) = plainAt ρ k := rfl
theorem pAt_zero {n : Int} {ρ : Env1} : plainAt (.val (.int n) :: ρ) 0 = some n := rfl
theorem ss_lset {i : Nat} {j e : PX} : SatS (run1 F (.lset i j e) ρ s) n c r = Let1 (mixF e.at 0 ρ) fun ρ0 => Sat (ev F e ρ0 s) fun d s1 => Let1 (fxL e d ρ) fun ρ1 => OS (ownAt ρ1 i) fun ds => OS (plainIx ρ1 j) fun z => OS (L2.ixN ds.length z) fun m => Let1 (ρ1.set i (.own (ds.set m d))) fun ρ' => n ρ' s1 := by
  simp only [run1, satS_then, sat_evSL]
  unfold Let1
  congr 1
  funext d s1
  unfold ownAt
  cases h : (fxL e d ρ)[i]? with
  | none => simp [h, satS_eq, SatS0, OS]
  | some x =>
    cases x with
    | own ds =>
      cases h2 : plainIx (fxL e d ρ) j with
      | none => simp [h, h2, satS_eq, SatS0, OS]
      | some z =>
        cases h3 : L2.ixN ds.length z with
        | none => simp [h, h2, h3, satS_eq, SatS0, OS]
        | some m => simp [h, h2, h3, satS_eq, SatS0, OS]
    | _ => simp [h, satS_eq, SatS0, OS]
theorem ss_lset_i {i : Nat} {j e : PX} : @SatSI (run1 F (.lset i j e) ρ s) ⟨n, c, r⟩ = Let1 (mixF e.at 0 ρ) fun ρ0 => Sat (ev F e ρ0 s) fun d s1 => Let1 (fxL e d ρ) fun ρ1 => OS (ownAt ρ1 i) fun ds => OS (plainIx ρ1 j) fun z => OS (L2.ixN ds.length z) fun m => Let1 (ρ1.set i (.own (ds.set m d))) fun ρ' => n ρ' s1 := ss_lset
theorem sp_nil {q : List Slot × Env1 → Dk → Prop} : Sat (evParS F [] [] ρ s) q = q ([], ρ) s := by simp only [evParS, sat_ok]
theorem sp_nil_i {q : List Slot × Env1 → Dk → Prop} : @SatI _ (evParS F [] [] ρ s) ⟨q⟩ = q ([], ρ) s := sp_nil
theorem sp_cons {t : Nat × Bool} {ts : List (Nat × Bool)} {e : PX} {es : List PX} {q : List Slot × Env1 → Dk → Prop} : Sat (evParS F (t :: ts) (e :: es) ρ s) q = Let1 (mixF e.at 0 ρ) fun ρ0 => Sat (ev F e ρ0 s) fun d s1 => OS (slotOf t.2 e d) fun y => Let1 (fx e d ρ) fun ρ1 => Sat (evParS F ts es ρ1 s1) fun z s2 => q (y :: z.1, z.2) s2 := by
  simp only [evParS, sat_bind, sat_evS]
  unfold Let1
  congr 1
  funext d s1
  cases slotOf t.2 e d with
  | none => simp [sat_eq, Sat0, OS]
  | some y => simp only [OS_some, sat_bind, sat_ok]
theorem sp_cons_i {t : Nat × Bool} {ts : List (Nat × Bool)} {e : PX} {es : List PX} {q : List Slot × Env1 → Dk → Prop} : @SatI _ (evParS F (t :: ts) (e :: es) ρ s) ⟨q⟩ = Let1 (mixF e.at 0 ρ) fun ρ0 => Sat (ev F e ρ0 s) fun d s1 => OS (slotOf t.2 e d) fun y => Let1 (fx e d ρ) fun ρ1 => Sat (evParS F ts es ρ1 s1) fun z s2 => q (y :: z.1, z.2) s2 := sp_cons
theorem ss_par {ts : List (Nat × Bool)} {es : List PX} : SatS (run1 F (.par ts es) ρ s) n c r = Sat (evParS F ts es ρ s) fun x s1 => Let1 (setAll (ts.map (·.1)) x.1 x.2) fun ρ' => n ρ' s1 := by
  simp only [run1, sat_eq, satS_eq]
  cases evParS F ts es ρ s <;> first | rfl | exact satS_eq
theorem ss_par_i {ts : List (Nat × Bool)} {es : List PX} : @SatSI (run1 F (.par ts es) ρ s) ⟨n, c, r⟩ = Sat (evParS F ts es ρ s) fun x s1 => Let1 (setAll (ts.map (·.1)) x.1 x.2) fun ρ' => n ρ' s1 := ss_par
theorem ss_parP {j t : Nat} {ts : List (Nat × Bool)} {es : List PX} : SatS (run1 F (.parP j t ts es) ρ s) n c r = OS (ownAt ρ j) fun ds => OS ds.getLast? fun d => Let1 (ρ.set j (.own ds.dropLast)) fun ρ0 => Sat (evParS F ts es ρ0 s) fun x s1 => Let1 (setAll (t :: ts.map (·.1)) (.val d :: x.1) x.2) fun ρ' => n ρ' s1 := by
  simp only [run1, ownAt]
  cases h : ρ[j]? with
  | none => simp [satS_eq, SatS0, OS]
  | some x =>
    cases x with
    | own ds0 =>
      cases hd : ds0.getLast? with
      | none => simp [satS_eq, SatS0, hd, OS, Let1]
      | some d =>
        simp only [OS_some, hd, Let1]
        cases he : evParS F ts es (ρ.set j (.own ds0.dropLast)) s <;> simp [sat_eq, satS_eq, Sat0, SatS0, he]
    | _ => simp [satS_eq, SatS0, OS]
theorem ss_parP_i {j t : Nat} {ts : List (Nat × Bool)} {es : List PX} : @SatSI (run1 F (.parP j t ts es) ρ s) ⟨n, c, r⟩ = OS (ownAt ρ j) fun ds => OS ds.getLast? fun d => Let1 (ρ.set j (.own ds.dropLast)) fun ρ0 => Sat (evParS F ts es ρ0 s) fun x s1 => Let1 (setAll (t :: ts.map (·.1)) (.val d :: x.1) x.2) fun ρ' => n ρ' s1 := ss_parP
theorem slot_val {e : PX} {d : D} : slotOf false e d = some (.val d) := rfl
theorem slot_own {e : PX} {ds : List D} : slotOf true e (.list ds) = if e.freshy = true then some (.own ds) else none := rfl
theorem setAll_nil {ρ : Env1} : setAll [] [] ρ = ρ := rfl
theorem setAll_cons {i : Nat} {is : List Nat} {x : Slot} {xs : List Slot} {ρ : Env1} : setAll (i :: is) (x :: xs) ρ = setAll is xs (ρ.set i x) := rfl
theorem setS_one {i : Nat} {x : D} {ρ : Env1} : setS (.one i) x ρ = some (ρ.set i (.val x)) := id rfl
theorem setS_two {i j : Nat} {x y : D} {ρ : Env1} : setS (.many [i, j]) (.tuple [x, y]) ρ = some ((ρ.set i (.val x)).set j (.val y)) := id rfl
theorem setS_three {i j k : Nat} {x y z : D} {ρ : Env1} : setS (.many [i, j, k]) (.tuple [x, y, z]) ρ = some (((ρ.set i (.val x)).set j (.val y)).set k (.val z)) := id rfl
theorem setT_one {i : Nat} {x : D} {ρ : Env0} : setT (.one i) x ρ = some (ρ.set i (some x)) := id rfl
theorem setT_two {i j : Nat} {x y : D} {ρ : Env0} : setT (.many [i, j]) (.tuple [x, y]) ρ = some ((ρ.set i (some x)).set j (some y)) := id rfl
theorem setT_three {i j k : Nat} {x y z : D} {ρ : Env0} : setT (.many [i, j, k]) (.tuple [x, y, z]) ρ = some (((ρ.set i (some x)).set j (some y)).set k (some z)) := id rfl
def forRun (F : Fns) (tg : PTg) (b : List PSm) (xs : List D) (ρ : Env1) (s : Dk) : OutS := forLoop tg (fun ρ s => runs F b ρ s) xs ρ s
def whileRun (F : Fns) (e : PX) (b : List PSm) (k : Nat) (ρ : Env1) (s : Dk) : OutS := whileLoop F e (fun ρ s => runs F b ρ s) k ρ s
theorem ss_for {tg : PTg} {it : PIt} {b : List PSm} : SatS (run1 F (.for_ tg it b) ρ s) n c r = Let1 (mixF it.at 0 ρ) fun ρ0 => Sat (evIt F it ρ0 s) fun xs s1 => Let1 (fixF it.at 0 ρ) fun ρ1 => SatS (forRun F tg b xs ρ1 s1) n c r := by
  simp only [run1, evItS, satS_then, sat_bind, sat_ok, Let1, forRun]
theorem ss_for_i {tg : PTg} {it : PIt} {b : List PSm} : @SatSI (run1 F (.for_ tg it b) ρ s) ⟨n, c, r⟩ = Let1 (mixF it.at 0 ρ) fun ρ0 => Sat (evIt F it ρ0 s) fun xs s1 => Let1 (fixF it.at 0 ρ) fun ρ1 => SatS (forRun F tg b xs ρ1 s1) n c r := ss_for
/-- a loop, by its invariant -/
theorem for_sat_l {α : Type} {enc : α → D} {tg : PTg} {body : Env1 → Dk → OutS} (Inv : Nat → Env1 → Dk → Prop) : ∀ {xs : List α} {i : Nat} {ρ : Env1} {s : Dk}, Inv i ρ s →
    (∀ (j : Nat) (x : α) (ρ : Env1) (s : Dk), xs[j]? = some x → Inv (i + j) ρ s → ∃ ρ1, setS tg (enc x) ρ = some ρ1 ∧ SatS (body ρ1 s) (Inv (i + j + 1)) (Inv (i + j + 1)) r) →
    (∀ ρ s, Inv (i + xs.length) ρ s → n ρ s) → SatS (forLoop tg body (xs.map enc) ρ s) n c r
  | [], i, ρ, s, h0, _, hn => ⟨hn ρ s h0⟩
  | x :: xs, i, ρ, s, h0, h, hn => by
    simp only [List.map_cons, forLoop]
    obtain ⟨ρ1, e1, h1⟩ := h 0 x ρ s rfl h0
    rw [e1]
    simp only [satS_again]
    have go : ∀ (ρ' : Env1) (s' : Dk), Inv (i + 0 + 1) ρ' s' → SatS (forLoop tg body (xs.map enc) ρ' s') n c r := by
      intro ρ' s' hi
      refine for_sat_l Inv (i := i + 1) hi (fun j y ρ s hy hj => ?_) fun ρ s hl => hn ρ s ?_
      · have := h (j + 1) y ρ s (by simpa using hy) (by rw [show i + (j + 1) = i + 1 + j by omega]; exact hj)
        rw [show i + (j + 1) + 1 = i + 1 + j + 1 by omega] at this
        exact this
      · rw [List.length_cons, show i + (xs.length + 1) = i + 1 + xs.length by omega]
        exact hl
    exact satS_mono h1 go go fun _ _ z => z
/-- the same from turn 0 on -/
theorem for0_l {α : Type} {enc : α → D} {tg : PTg} {body : Env1 → Dk → OutS} (Inv : Nat → Env1 → Dk → Prop) {xs : List α} {ρ : Env1} {s : Dk} (h0 : Inv 0 ρ s)
    (h : ∀ (j : Nat) (x : α) (ρ : Env1) (s : Dk), xs[j]? = some x → Inv j ρ s → ∃ ρ1, setS tg (enc x) ρ = some ρ1 ∧ SatS (body ρ1 s) (Inv (j + 1)) (Inv (j + 1)) r)
    (hn : ∀ ρ s, Inv xs.length ρ s → n ρ s) : SatS (forLoop tg body (xs.map enc) ρ s) n c r :=
  for_sat_l Inv (i := 0) h0 (fun j x ρ s hx hi => by rw [Nat.zero_add] at hi ⊢; exact h j x ρ s hx hi) fun ρ s hi => hn ρ s (by rw [Nat.zero_add] at hi; exact hi)
/-- a loop whose turns are alike -/
theorem forC_l {α : Type} {enc : α → D} {tg : PTg} {body : Env1 → Dk → OutS} (Inv : Env1 → Dk → Prop) {xs : List α} {ρ : Env1} {s : Dk} (h0 : Inv ρ s)
    (h : ∀ (x : α) (ρ : Env1) (s : Dk), x ∈ xs → Inv ρ s → ∃ ρ1, setS tg (enc x) ρ = some ρ1 ∧ SatS (body ρ1 s) Inv Inv r)
    (hn : ∀ ρ s, Inv ρ s → n ρ s) : SatS (forLoop tg body (xs.map enc) ρ s) n c r :=
  for0_l (fun _ => Inv) h0 (fun _ x ρ s hx hi => h x ρ s (List.mem_of_getElem? hx) hi) hn
/-- a while loop, by an invariant and a measure -/
theorem while_sat_l {e : PX} {body : Env1 → Dk → OutS} (Inv : Nat → Env1 → Dk → Prop) : ∀ {m k : Nat} {ρ : Env1} {s : Dk}, m < k → Inv m ρ s →
    (∀ m ρ s, Inv m ρ s → Let1 (mixF e.at 0 ρ) fun ρ0 => Sat (ev F e ρ0 s) fun d s1 => BS d fun t => IfS t (SatS (body ρ s1) (fun ρ' s' => ∃ m', m' < m ∧ Inv m' ρ' s') (fun ρ' s' => ∃ m', m' < m ∧ Inv m' ρ' s') r) (n ρ s1)) → SatS (whileLoop F e body k ρ s) n c r
  | m, 0, _, _, hm, _, _ => absurd hm (Nat.not_lt_zero _)
  | m, k + 1, ρ, s, hm, h0, h => by
    simp only [whileLoop, testS, satS_then, sat_evS]
    refine (h m ρ s h0).mono fun d s1 ⟨t, hd, hb⟩ => ?_
    subst hd
    cases t with
    | false => simpa [fx_bool, satS_nx, IfS_false] using hb
    | true =>
      simp only [if_true, fx_bool, satS_again, IfS_true] at hb ⊢
      have go : ∀ (ρ' : Env1) (s' : Dk), (∃ m', m' < m ∧ Inv m' ρ' s') → SatS (whileLoop F e body k ρ' s') n c r := fun ρ' s' ⟨m', hl, hi⟩ => while_sat_l Inv (by omega) hi h
      exact satS_mono hb go go fun _ _ z => z
theorem ss_while {e : PX} {b : List PSm} : SatS (run1 F (.while_ e b) ρ s) n c r = SatS (whileRun F e b 2000 ρ s) n c r := by simp only [run1]; rfl
theorem ss_while_i {e : PX} {b : List PSm} : @SatSI (run1 F (.while_ e b) ρ s) ⟨n, c, r⟩ = SatS (whileRun F e b 2000 ρ s) n c r := ss_while
end
/-! ### comprehensions over typed rows -/
section
variable {s : Dk}
theorem lc_map_l {α : Type} {enc : α → D} {test : D → Dk → Out Bool} {elt : D → Dk → Out D} {t : α → Bool} {e : α → D} {l : List α} {q : List D → Dk → Prop} (h1 : ∀ x ∈ l, Sat (test (enc x) s) fun b s' => b = t x ∧ s' = s)
    (h2 : ∀ x ∈ l, t x = true → Sat (elt (enc x) s) fun y s' => y = e x ∧ s' = s) (h : q ((l.filter t).map e) s) : Sat (lcLoop test elt (l.map enc) s) q := by
  have go : lcLoop test elt (l.map enc) s = .ok ((l.filter t).map e) s := by
    clear h
    induction l with
    | nil => rfl
    | cons x r ih =>
      obtain ⟨b, s', e1, e2, e3⟩ := (h1 x List.mem_cons_self).get
      rw [List.map_cons, lcLoop, e1, e2, e3]
      have ih := ih (fun y hy => h1 y (List.mem_cons_of_mem _ hy)) fun y hy => h2 y (List.mem_cons_of_mem _ hy)
      simp only [Out.bind]
      cases ht : t x with
      | false => simp [ht, ih]
      | true =>
        obtain ⟨y, s'', e4, e5, e6⟩ := (h2 x List.mem_cons_self ht).get
        simp [ht, e4, e5, e6, ih, Out.bind]
  rw [go]
  exact ⟨h⟩
/-- without a test -/
theorem lc_mapN_l {α : Type} {enc : α → D} {test : D → Dk → Out Bool} {elt : D → Dk → Out D} {e : α → D} {l : List α} {q : List D → Dk → Prop} (h1 : ∀ x ∈ l, Sat (test (enc x) s) fun b s' => b = true ∧ s' = s)
    (h2 : ∀ x ∈ l, Sat (elt (enc x) s) fun y s' => y = e x ∧ s' = s) (h : q (l.map e) s) : Sat (lcLoop test elt (l.map enc) s) q :=
  lc_map_l (t := fun _ => true) h1 (fun x hx _ => h2 x hx) (by rw [List.filter_eq_self.mpr fun _ _ => rfl]; exact h)
/-- with draws: by what holds of the items made so far -/
theorem lc_inv_l {α : Type} {enc : α → D} {test : D → Dk → Out Bool} {elt : D → Dk → Out D} (Inv : List D → Dk → Prop) {q : List D → Dk → Prop} : ∀ {l : List α} {s : Dk} (acc : List D), Inv acc s →
    (∀ x ∈ l, ∀ acc s, Inv acc s → Sat (test (enc x) s) fun b s1 => IfS b (Sat (elt (enc x) s1) fun y s2 => Inv (acc ++ [y]) s2) (Inv acc s1)) → (∀ ys s, Inv (acc ++ ys) s → q ys s) → Sat (lcLoop test elt (l.map enc) s) q
  | [], s, acc, h0, _, hq => ⟨hq [] s (by simpa using h0)⟩
  | x :: r, s, acc, h0, h, hq => by
    simp only [List.map_cons, lcLoop, sat_bind, sat_ite, sat_ok]
    have nx : ∀ y ∈ r, ∀ acc s, Inv acc s → Sat (test (enc y) s) fun b s1 => IfS b (Sat (elt (enc y) s1) fun z s2 => Inv (acc ++ [z]) s2) (Inv acc s1) := fun y hy acc s hi => h y (List.mem_cons_of_mem _ hy) acc s hi
    refine (h x List.mem_cons_self acc s h0).mono fun b s1 hb => ?_
    cases b with
    | true =>
      simp only [IfS_true] at hb ⊢
      refine hb.mono fun y s2 hi => ?_
      exact lc_inv_l Inv (acc ++ [y]) hi nx fun ys s3 hy => hq (y :: ys) s3 (by simpa using hy)
    | false =>
      simp only [IfS_false] at hb ⊢
      exact lc_inv_l Inv acc hb nx hq
end
/-- the same, turn by turn -/
theorem lc_invI_l {α : Type} {enc : α → D} {test : D → Dk → Out Bool} {elt : D → Dk → Out D} (Inv : Nat → List D → Dk → Prop) {q : List D → Dk → Prop} {l : List α} {s : Dk} (h0 : Inv 0 [] s)
    (h : ∀ (i : Nat) (x : α), i < l.length → l[i]? = some x → ∀ acc s, Inv i acc s → Sat (test (enc x) s) fun b s1 => IfS b (Sat (elt (enc x) s1) fun y s2 => Inv (i + 1) (acc ++ [y]) s2) (Inv (i + 1) acc s1)) (hq : ∀ ys s, Inv l.length ys s → q ys s) : Sat (lcLoop test elt (l.map enc) s) q := by
  have go : ∀ (m : List α) (i : Nat) (acc : List D) (s : Dk), i ≤ l.length → l.drop i = m → Inv i acc s → Sat (lcLoop test elt (m.map enc) s) fun ys s' => Inv l.length (acc ++ ys) s' := by
    intro m
    induction m with
    | nil =>
      intro i acc s hle hm hi
      have : l.length ≤ i := by
        have := congrArg List.length hm
        rw [List.length_drop] at this
        simp at this
        omega
      refine ⟨?_⟩
      show Inv l.length (acc ++ []) s
      rw [List.append_nil, show l.length = i by omega]
      exact hi
    | cons x r ih =>
      intro i acc s hle hm hi
      have hx : l[i]? = some x := by rw [← List.head?_drop, hm]; rfl
      have hl : i < l.length := (List.getElem?_eq_some_iff.mp hx).1
      have hr : l.drop (i + 1) = r := by rw [← List.drop_drop, hm]; rfl
      simp only [List.map_cons, lcLoop, sat_bind, sat_ite, sat_ok]
      refine (h i x hl hx acc s hi).mono fun b s1 hb => ?_
      cases b with
      | true =>
        simp only [IfS_true] at hb ⊢
        refine hb.mono fun y s2 hi => ?_
        exact (ih (i + 1) (acc ++ [y]) s2 hl hr hi).mono fun ys s3 hz => by simpa using hz
      | false =>
        simp only [IfS_false] at hb ⊢
        exact ih (i + 1) acc s1 hl hr hb
  exact (go l 0 [] s (Nat.zero_le _) rfl h0).mono fun ys s' hz => hq ys s' (by simpa using hz)
theorem law_end {o : OutS} (h : SatS o (fun _ _ => False) (fun _ _ => False) (fun d _ => d = .bool true)) : ∃ s', o = .rt (.bool true) s' := by
  rw [satS_eq] at h
  cases o with
  | rt d s => exact ⟨s, by rw [show d = .bool true from h]⟩
  | _ => exact h.elim
/-- the first statements, what holds then, the rest -/
theorem cutS {F : Fns} {l : List PSm} {ρ : Env1} {s : Dk} {n c : Env1 → Dk → Prop} {r : D → Dk → Prop} (k : Nat) (Q : Env1 → Dk → Prop) (h1 : SatS (runs F (l.take k) ρ s) Q c r) (h2 : ∀ ρ s, Q ρ s → SatS (runs F (l.drop k) ρ s) n c r) : SatS (runs F l ρ s) n c r := by
  have split : ∀ (a b : List PSm) (ρ : Env1) (s : Dk), SatS (runs F (a ++ b) ρ s) n c r = SatS (runs F a ρ s) (fun ρ s => SatS (runs F b ρ s) n c r) c r := by
    intro a b
    induction a with
    | nil => intro ρ s; rw [ss_nil]; rfl
    | cons x a ih =>
      intro ρ s
      rw [List.cons_append, ss_cons, ss_cons]
      congr 1
      funext ρ s
      exact ih ρ s
  rw [← List.take_append_drop k l, split]
  exact satS_mono h1 h2 (fun _ _ z => z) fun _ _ z => z
/-! ### loops and comprehensions, as they come up -/
section
variable {F : Fns} {n c : Env1 → Dk → Prop} {r : D → Dk → Prop} {s : Dk} {tg : PTg}
theorem for0 {α : Type} {enc : α → D} {b : List PSm} (Inv : Nat → Env1 → Dk → Prop) {xs : List α} {ρ : Env1} (h0 : Inv 0 ρ s)
    (h : ∀ (j : Nat) (x : α) (ρ : Env1) (s : Dk), xs[j]? = some x → Inv j ρ s → ∃ ρ1, setS tg (enc x) ρ = some ρ1 ∧ SatS (runs F b ρ1 s) (Inv (j + 1)) (Inv (j + 1)) r)
    (hn : ∀ ρ s, Inv xs.length ρ s → n ρ s) : SatS (forRun F tg b (xs.map enc) ρ s) n c r := for0_l Inv h0 h hn
theorem forC {α : Type} {enc : α → D} {b : List PSm} (Inv : Env1 → Dk → Prop) {xs : List α} {ρ : Env1} (h0 : Inv ρ s)
    (h : ∀ (x : α) (ρ : Env1) (s : Dk), x ∈ xs → Inv ρ s → ∃ ρ1, setS tg (enc x) ρ = some ρ1 ∧ SatS (runs F b ρ1 s) Inv Inv r)
    (hn : ∀ ρ s, Inv ρ s → n ρ s) : SatS (forRun F tg b (xs.map enc) ρ s) n c r := forC_l Inv h0 h hn
theorem while_sat {e : PX} {b : List PSm} (Inv : Nat → Env1 → Dk → Prop) {m k : Nat} {ρ : Env1} (hm : m < k) (h0 : Inv m ρ s)
    (h : ∀ m ρ s, Inv m ρ s → Let1 (mixF e.at 0 ρ) fun ρ0 => Sat (ev F e ρ0 s) fun d s1 => BS d fun t => IfS t (SatS (runs F b ρ s1) (fun ρ' s' => ∃ m', m' < m ∧ Inv m' ρ' s') (fun ρ' s' => ∃ m', m' < m ∧ Inv m' ρ' s') r) (n ρ s1)) : SatS (whileRun F e b k ρ s) n c r := while_sat_l Inv hm h0 h
variable {ρ : Env0} {e : PX} {q : List D → Dk → Prop}
theorem lc_map {α : Type} {enc : α → D} {c : Option PX} {t : α → Bool} {g : α → D} {l : List α} (h1 : ∀ x ∈ l, OS (setT tg (enc x) (wipeE ρ (tgSl tg))) fun ρ' => Sat (evt F c ρ' s) fun b s' => b = t x ∧ s' = s)
    (h2 : ∀ x ∈ l, t x = true → OS (setT tg (enc x) (wipeE ρ (tgSl tg))) fun ρ' => Sat (ev F e ρ' s) fun y s' => y = g x ∧ s' = s) (h : q ((l.filter t).map g) s) : Sat (lcRun F tg ρ c e (l.map enc) s) q :=
  lc_map_l (t := t) (e := g) (fun x hx => by rw [sat_onE]; exact h1 x hx) (fun x hx ht => by rw [sat_onE]; exact h2 x hx ht) h
theorem lc_mapN {α : Type} {enc : α → D} {g : α → D} {l : List α} (h2 : ∀ x ∈ l, OS (setT tg (enc x) (wipeE ρ (tgSl tg))) fun ρ' => Sat (ev F e ρ' s) fun y s' => y = g x ∧ s' = s) (h : q (l.map g) s) : Sat (lcRun F tg ρ none e (l.map enc) s) q :=
  lc_map (t := fun _ => true) (g := g) (fun x hx => by
    obtain ⟨a, e1, _⟩ := h2 x hx
    refine OS_of e1 ?_
    rw [sc_none]
    exact ⟨rfl, rfl⟩) (fun x hx _ => h2 x hx) (by rw [List.filter_eq_self.mpr fun _ _ => rfl]; exact h)
theorem lc_invI {α : Type} {enc : α → D} {c : Option PX} (Inv : Nat → List D → Dk → Prop) {l : List α} (h0 : Inv 0 [] s)
    (h : ∀ (i : Nat) (x : α), i < l.length → l[i]? = some x → ∀ acc s, Inv i acc s → OS (setT tg (enc x) (wipeE ρ (tgSl tg))) fun ρ' => Sat (evt F c ρ' s) fun b s1 => IfS b (Sat (ev F e ρ' s1) fun y s2 => Inv (i + 1) (acc ++ [y]) s2) (Inv (i + 1) acc s1)) (hq : ∀ ys s, Inv l.length ys s → q ys s) : Sat (lcRun F tg ρ c e (l.map enc) s) q :=
  lc_invI_l Inv h0 (fun i x hi hx acc s hv => by
    obtain ⟨ρ', e1, h1⟩ := h i x hi hx acc s hv
    rw [sat_onE]
    refine OS_of e1 (h1.mono fun b s1 hb => ?_)
    cases b with
    | true =>
      rw [IfS_true] at hb ⊢
      rw [sat_onE]
      exact OS_of e1 hb
    | false => exact hb) hq
theorem lc2_map {α : Type} {enc : α → D} {i1 i2 : Nat} {a2 : PIt} {c : Option PX} {g : α → List D} {l : List α} (h1 : ∀ x ∈ l, Let1 ((wipeE ρ [i1, i2]).set i1 (some (enc x))) fun ρ' => Sat (evIt F a2 ρ' s) fun zs s1 => Sat (lcRun F (.one i2) ρ' c e zs s1) fun ys s' => ys = g x ∧ s' = s)
    (h : q (l.map g).flatten s) : Sat (lcRun2 F i1 i2 ρ a2 c e (l.map enc) s) q := by
  have go : ∀ x ∈ l, (evIt F a2 ((wipeE ρ [i1, i2]).set i1 (some (enc x))) s).bind (fun zs s1 => lcLoop (fun z s => evt F c (((wipeE ρ [i1, i2]).set i1 (some (enc x))).set i2 (some z)) s) (fun z s => ev F e (((wipeE ρ [i1, i2]).set i1 (some (enc x))).set i2 (some z)) s) zs s1) = .ok (g x) s := by
    intro x hx
    have hx := h1 x hx
    unfold Let1 at hx
    obtain ⟨zs, s1, e1, h2⟩ := hx.get
    obtain ⟨ys, s2, e2, e3, e4⟩ := h2.get
    rw [e1]
    show lcLoop _ _ zs s1 = _
    rw [← e3, ← e4, ← e2]
    unfold lcRun
    simp only [setT, tgSl, wipeE, onE, List.set_set]
  unfold lcRun2
  have all : lcLoop2 (fun x s => (evIt F a2 ((wipeE ρ [i1, i2]).set i1 (some x)) s).bind fun zs s1 =>
      lcLoop (fun z s => evt F c (((wipeE ρ [i1, i2]).set i1 (some x)).set i2 (some z)) s) (fun z s => ev F e (((wipeE ρ [i1, i2]).set i1 (some x)).set i2 (some z)) s) zs s1) (l.map enc) s = .ok (l.map g).flatten s := by
    clear h h1
    induction l with
    | nil => rfl
    | cons x r ih =>
      rw [List.map_cons, lcLoop2, go x List.mem_cons_self]
      show Out.bind (lcLoop2 _ (r.map enc) s) (fun zs s2 => .ok (g x ++ zs) s2) = _
      rw [ih (fun y hy => go y (List.mem_cons_of_mem _ hy))]
      rfl
  rw [all]
  exact ⟨h⟩
end
theorem zipD_map {α β : Type} {f : α → D} {g : β → D} {l : List α} {m : List β} : zipD (l.map f) (m.map g) = (l.zip m).map fun x => .tuple [f x.1, g x.2] := by
  unfold zipD
  rw [List.zipWith_map, ← List.map_uncurry_zip_eq_zipWith]
  rfl
theorem enumD_map {α : Type} {f : α → D} : ∀ {l : List α} {k : Nat}, enumD k (l.map f) = (l.zipIdx k).map fun x => .tuple [.int (x.2 : Nat), f x.1]
  | [], _ => rfl
  | x :: r, k => by
    rw [List.map_cons, enumD, enumD_map]
    rfl
theorem ints_map : ∀ ns : List Int, intsOf (ns.map .int) = some ns
  | [] => rfl
  | n :: r => by rw [List.map_cons, intsOf, ints_map r]; rfl
theorem ints_mapf {α : Type} {f : α → Int} (l : List α) : intsOf (l.map fun x => .int (f x)) = some (l.map f) := by
  have := ints_map (l.map f)
  rw [List.map_map] at this
  exact this
theorem bools_map : ∀ bs : List Bool, boolsOf (bs.map .bool) = some bs
  | [] => rfl
  | b :: r => by rw [List.map_cons, boolsOf, bools_map r]; rfl
theorem bools_mapf {α : Type} {f : α → Bool} (l : List α) : boolsOf (l.map fun x => .bool (f x)) = some (l.map f) := by
  have := bools_map (l.map f)
  rw [List.map_map] at this
  exact this
/-! ### data of the laws -/
abbrev iT (ns : List Int) : D := .tuple (ns.map .int)
/-- how many draws are left -/
def Bud (s : Dk) (b : Int) : Prop := 0 ≤ s.cnt ∧ 0 ≤ b ∧ s.cnt + b ≤ 2 ^ 30
theorem Bud.le {s : Dk} {b c : Int} (h : Bud s b) (h0 : 0 ≤ c) (h1 : c ≤ b) : Bud s c := ⟨h.1, h0, by have := h.2.2; omega⟩
/-! ### values -/
section
variable {P : D → Prop} {B : Bool → Prop} {i j : Int} {xs ys ds es : List D} {a b x : D} {s : Dk}
theorem q_add : binD .Add (.int i) (.int j) = some (.int (i + j)) := rfl
theorem q_sub : binD .Sub (.int i) (.int j) = some (.int (i - j)) := rfl
theorem os_if {α : Type} {c : Prop} [Decidable c] {v : α} {Q : α → Prop} : OS (if c then some v else none) Q = (c ∧ Q v) := by
  by_cases h : c <;> simp [OS, h]
theorem os_if_i {α : Type} {c : Prop} [Decidable c] {v : α} {Q : α → Prop} : @OSI _ (if c then some v else none) ⟨Q⟩ = (c ∧ Q v) := os_if
theorem q_mul : OS (binD .Mult (.int i) (.int j)) P = (mulOk i j = true ∧ P (.int (i * j))) := os_if
theorem q_mul_i : @OSI _ (binD .Mult (.int i) (.int j)) ⟨P⟩ = (mulOk i j = true ∧ P (.int (i * j))) := q_mul
theorem q_fdiv : OS (binD .FloorDiv (.int i) (.int j)) P = ((0 < j ∧ j < 2 ^ 4000) ∧ P (.int (i / j))) := os_if
theorem q_fdiv_i : @OSI _ (binD .FloorDiv (.int i) (.int j)) ⟨P⟩ = ((0 < j ∧ j < 2 ^ 4000) ∧ P (.int (i / j))) := q_fdiv
theorem q_mod : OS (binD .Mod (.int i) (.int j)) P = (0 < j ∧ P (.int (i % j))) := os_if
theorem q_mod_i : @OSI _ (binD .Mod (.int i) (.int j)) ⟨P⟩ = (0 < j ∧ P (.int (i % j))) := q_mod
theorem q_pow : OS (binD .Pow (.int i) (.int j)) P = ((0 ≤ j ∧ j ≤ 100 ∧ i.natAbs < 2 ^ 64) ∧ P (.int (i ^ j.toNat))) := os_if
theorem q_pow_i : @OSI _ (binD .Pow (.int i) (.int j)) ⟨P⟩ = ((0 ≤ j ∧ j ≤ 100 ∧ i.natAbs < 2 ^ 64) ∧ P (.int (i ^ j.toNat))) := q_pow
theorem q_addT : OS (binD .Add (.tuple xs) (.tuple ys)) P = (xs.length + ys.length ≤ sizeLine ∧ P (.tuple (xs ++ ys))) := os_if
theorem q_addT_i : @OSI _ (binD .Add (.tuple xs) (.tuple ys)) ⟨P⟩ = (xs.length + ys.length ≤ sizeLine ∧ P (.tuple (xs ++ ys))) := q_addT
theorem q_addL : OS (binD .Add (.list xs) (.list ys)) P = (xs.length + ys.length ≤ sizeLine ∧ P (.list (xs ++ ys))) := os_if
theorem q_addL_i : @OSI _ (binD .Add (.list xs) (.list ys)) ⟨P⟩ = (xs.length + ys.length ≤ sizeLine ∧ P (.list (xs ++ ys))) := q_addL
theorem q_addS {u v : Str} : OS (binD .Add (.str u) (.str v)) P = (u.length + v.length ≤ sizeLine ∧ P (.str (u ++ v))) := os_if
theorem q_addS_i {u v : Str} : @OSI _ (binD .Add (.str u) (.str v)) ⟨P⟩ = (u.length + v.length ≤ sizeLine ∧ P (.str (u ++ v))) := q_addS
theorem q_mulS {u : Str} : OS (binD .Mult (.str u) (.int i)) P = ((u.length ≤ 1000 ∧ i ≤ 10000 ∧ -1000 ≤ i) ∧ P (.str (Txt.mul u i))) := os_if
theorem q_mulS_i {u : Str} : @OSI _ (binD .Mult (.str u) (.int i)) ⟨P⟩ = ((u.length ≤ 1000 ∧ i ≤ 10000 ∧ -1000 ≤ i) ∧ P (.str (Txt.mul u i))) := q_mulS
theorem q_mulT : OS (binD .Mult (.tuple xs) (.int i)) P = ((xs.length ≤ 1000 ∧ i ≤ 1000 ∧ -1000 ≤ i) ∧ P (.tuple (List.replicate i.toNat xs).flatten)) := os_if
theorem q_mulT_i : @OSI _ (binD .Mult (.tuple xs) (.int i)) ⟨P⟩ = ((xs.length ≤ 1000 ∧ i ≤ 1000 ∧ -1000 ≤ i) ∧ P (.tuple (List.replicate i.toNat xs).flatten)) := q_mulT
theorem q_mulL : OS (binD .Mult (.list xs) (.int i)) P = ((xs.length ≤ 1000 ∧ i ≤ 1000 ∧ -1000 ≤ i) ∧ P (.list (List.replicate i.toNat xs).flatten)) := os_if
theorem q_mulL_i : @OSI _ (binD .Mult (.list xs) (.int i)) ⟨P⟩ = ((xs.length ≤ 1000 ∧ i ≤ 1000 ∧ -1000 ≤ i) ∧ P (.list (List.replicate i.toNat xs).flatten)) := q_mulL
theorem q_lt : cmpD .Lt (.int i) (.int j) = some (decide (i < j)) := rfl
theorem q_le : cmpD .LtE (.int i) (.int j) = some (decide (i ≤ j)) := rfl
theorem q_gt : cmpD .Gt (.int i) (.int j) = some (decide (j < i)) := rfl
theorem q_ge : cmpD .GtE (.int i) (.int j) = some (decide (j ≤ i)) := rfl
theorem eqv_int : PyData.eqv (.int i) (.int j) = decide (i = j) := by
  unfold PyData.eqv
  rw [Bool.beq_eq_decide_eq]
theorem os_ifB {α : Type} {c d : Bool} {v : α} {Q : α → Prop} : OS (if (c && d) = true then some v else none) Q = ((c = true ∧ d = true) ∧ Q v) := by
  cases c <;> cases d <;> simp [OS]
theorem q_eq : OS (cmpD .Eq a b) B = ((SeqAt.shaped a = true ∧ SeqAt.shaped b = true) ∧ Let1 (PyData.eqv a b) B) := by unfold Let1; exact os_ifB
theorem q_eq_i : @OSI _ (cmpD .Eq a b) ⟨B⟩ = ((SeqAt.shaped a = true ∧ SeqAt.shaped b = true) ∧ Let1 (PyData.eqv a b) B) := q_eq
theorem q_ne : OS (cmpD .NotEq a b) B = ((SeqAt.shaped a = true ∧ SeqAt.shaped b = true) ∧ Let1 (!PyData.eqv a b) B) := by unfold Let1; exact os_ifB
theorem q_ne_i : @OSI _ (cmpD .NotEq a b) ⟨B⟩ = ((SeqAt.shaped a = true ∧ SeqAt.shaped b = true) ∧ Let1 (!PyData.eqv a b) B) := q_ne
theorem q_inL : OS (cmpD .In x (.list ds)) B = ((SeqAt.shaped x = true ∧ SeqAt.shaped (.list ds) = true) ∧ Let1 (ds.any fun z => PyData.eqv z x) B) := by unfold Let1; exact os_ifB
theorem q_inL_i : @OSI _ (cmpD .In x (.list ds)) ⟨B⟩ = ((SeqAt.shaped x = true ∧ SeqAt.shaped (.list ds) = true) ∧ Let1 (ds.any fun z => PyData.eqv z x) B) := q_inL
theorem q_inT : OS (cmpD .In x (.tuple ds)) B = ((SeqAt.shaped x = true ∧ SeqAt.shaped (.list ds) = true) ∧ Let1 (ds.any fun z => PyData.eqv z x) B) := by unfold Let1; exact os_ifB
theorem q_inT_i : @OSI _ (cmpD .In x (.tuple ds)) ⟨B⟩ = ((SeqAt.shaped x = true ∧ SeqAt.shaped (.list ds) = true) ∧ Let1 (ds.any fun z => PyData.eqv z x) B) := q_inT
theorem q_ninG : OS ((inD x ds).map (!·)) B = ((SeqAt.shaped x = true ∧ SeqAt.shaped (.list ds) = true) ∧ Let1 (!ds.any fun z => PyData.eqv z x) B) := by
  rw [os_map]
  unfold Let1 inD
  exact os_ifB
theorem q_ninG_i : @OSI _ ((inD x ds).map (!·)) ⟨B⟩ = ((SeqAt.shaped x = true ∧ SeqAt.shaped (.list ds) = true) ∧ Let1 (!ds.any fun z => PyData.eqv z x) B) := q_ninG
theorem q_ninL : OS (cmpD .NotIn x (.list ds)) B = ((SeqAt.shaped x = true ∧ SeqAt.shaped (.list ds) = true) ∧ Let1 (!ds.any fun z => PyData.eqv z x) B) := q_ninG
theorem q_ninL_i : @OSI _ (cmpD .NotIn x (.list ds)) ⟨B⟩ = ((SeqAt.shaped x = true ∧ SeqAt.shaped (.list ds) = true) ∧ Let1 (!ds.any fun z => PyData.eqv z x) B) := q_ninL
theorem q_ninT : OS (cmpD .NotIn x (.tuple ds)) B = ((SeqAt.shaped x = true ∧ SeqAt.shaped (.list ds) = true) ∧ Let1 (!ds.any fun z => PyData.eqv z x) B) := q_ninG
theorem q_ninT_i : @OSI _ (cmpD .NotIn x (.tuple ds)) ⟨B⟩ = ((SeqAt.shaped x = true ∧ SeqAt.shaped (.list ds) = true) ∧ Let1 (!ds.any fun z => PyData.eqv z x) B) := q_ninT
theorem q_int : biD .int [.int i] = some (.int i) := rfl
theorem q_intb {t : Bool} : biD .int [.bool t] = some (.int (if t = true then 1 else 0)) := rfl
theorem q_abs : biD .abs [.int i] = some (.int (if i < 0 then -i else i)) := rfl
theorem q_max2 : biD .max2 [.int i, .int j] = some (.int (if j > i then j else i)) := rfl
theorem q_min2 : biD .min2 [.int i, .int j] = some (.int (if j < i then j else i)) := rfl
theorem q_lenL : biD .len [.list ds] = some (.int ds.length) := rfl
theorem q_lenT : biD .len [.tuple ds] = some (.int ds.length) := rfl
theorem q_tupL : biD .tuple [.list ds] = some (.tuple ds) := rfl
theorem q_tupT : biD .tuple [.tuple ds] = some (.tuple ds) := rfl
theorem q_listT : biD .list [.tuple ds] = some (.list ds) := rfl
theorem q_listL : biD .list [.list ds] = some (.list ds) := rfl
theorem q_all : OS (biD .all [.list ds]) P = OS (boolsOf ds) fun bs => P (.bool (bs.all id)) := os_map
theorem q_all_i : @OSI _ (biD .all [.list ds]) ⟨P⟩ = OS (boolsOf ds) fun bs => P (.bool (bs.all id)) := q_all
theorem q_any : OS (biD .any [.list ds]) P = OS (boolsOf ds) fun bs => P (.bool (bs.any id)) := os_map
theorem q_any_i : @OSI _ (biD .any [.list ds]) ⟨P⟩ = OS (boolsOf ds) fun bs => P (.bool (bs.any id)) := q_any
theorem q_sumL : OS (biD .sum [.list ds]) P = OS (intsOf ds) fun ns => P (.int ns.sum) := os_map
theorem q_sumL_i : @OSI _ (biD .sum [.list ds]) ⟨P⟩ = OS (intsOf ds) fun ns => P (.int ns.sum) := q_sumL
theorem q_sumT : OS (biD .sum [.tuple ds]) P = OS (intsOf ds) fun ns => P (.int ns.sum) := os_map
theorem q_sumT_i : @OSI _ (biD .sum [.tuple ds]) ⟨P⟩ = OS (intsOf ds) fun ns => P (.int ns.sum) := q_sumT
def maxD0 (z : D) : List Int → D
  | [] => z
  | i :: r => .int (maxL i r)
def maxO : List Int → Option Int
  | [] => none
  | i :: r => some (maxL i r)
def minO : List Int → Option Int
  | [] => none
  | i :: r => some (minL i r)
theorem q_maxd : OS (biD .maxd [.list ds, x]) P = OS (intsOf ds) fun ns => Let1 (maxD0 x ns) P := by
  show OS (match intsOf ds with | some [] => some x | some (i :: r) => some (.int (maxL i r)) | none => none) P = _
  cases intsOf ds with
  | none => simp [OS]
  | some l => cases l <;> simp [maxD0, OS, Let1]
theorem q_maxd_i : @OSI _ (biD .maxd [.list ds, x]) ⟨P⟩ = OS (intsOf ds) fun ns => Let1 (maxD0 x ns) P := q_maxd
theorem q_max : OS (biD .max [.list ds]) P = OS (intsOf ds) fun ns => OS (maxO ns) fun m => P (.int m) := by
  show OS (match intsOf ds with | some (i :: r) => some (PyData.int (maxL i r)) | _ => none) P = _
  cases intsOf ds with
  | none => simp [OS]
  | some l => cases l <;> simp [OS, maxO]
theorem q_max_i : @OSI _ (biD .max [.list ds]) ⟨P⟩ = OS (intsOf ds) fun ns => OS (maxO ns) fun m => P (.int m) := q_max
theorem q_min : OS (biD .min [.list ds]) P = OS (intsOf ds) fun ns => OS (minO ns) fun m => P (.int m) := by
  show OS (match intsOf ds with | some (i :: r) => some (PyData.int (minL i r)) | _ => none) P = _
  cases intsOf ds with
  | none => simp [OS]
  | some l => cases l <;> simp [OS, minO]
theorem q_min_i : @OSI _ (biD .min [.list ds]) ⟨P⟩ = OS (intsOf ds) fun ns => OS (minO ns) fun m => P (.int m) := q_min
theorem q_maxT : OS (biD .max [.tuple ds]) P = OS (intsOf ds) fun ns => OS (maxO ns) fun m => P (.int m) := by
  show OS (match intsOf ds with | some (i :: r) => some (PyData.int (maxL i r)) | _ => none) P = _
  cases intsOf ds with
  | none => simp [OS]
  | some l => cases l <;> simp [OS, maxO]
theorem q_maxT_i : @OSI _ (biD .max [.tuple ds]) ⟨P⟩ = OS (intsOf ds) fun ns => OS (maxO ns) fun m => P (.int m) := q_maxT
theorem q_minT : OS (biD .min [.tuple ds]) P = OS (intsOf ds) fun ns => OS (minO ns) fun m => P (.int m) := by
  show OS (match intsOf ds with | some (i :: r) => some (PyData.int (minL i r)) | _ => none) P = _
  cases intsOf ds with
  | none => simp [OS]
  | some l => cases l <;> simp [OS, minO]
theorem q_minT_i : @OSI _ (biD .min [.tuple ds]) ⟨P⟩ = OS (intsOf ds) fun ns => OS (minO ns) fun m => P (.int m) := q_minT
theorem q_lrng1 : OS (biD .lrng [.int i]) P = (rgB 0 i = true ∧ P (.list (rngD 0 i))) := os_if
theorem q_lrng1_i : @OSI _ (biD .lrng [.int i]) ⟨P⟩ = (rgB 0 i = true ∧ P (.list (rngD 0 i))) := q_lrng1
theorem q_lrng2 : OS (biD .lrng [.int i, .int j]) P = (rgB i j = true ∧ P (.list (rngD i j))) := os_if
theorem q_lrng2_i : @OSI _ (biD .lrng [.int i, .int j]) ⟨P⟩ = (rgB i j = true ∧ P (.list (rngD i j))) := q_lrng2
theorem q_ints {u : Str} : OS (biD .int [.str u]) P = (u.length ≤ 640 ∧ OS (PySem.intText? u) fun z => P (.int z)) := by
  show OS (if u.length ≤ 640 then (PySem.intText? u).map .int else none) P = _
  by_cases h : u.length ≤ 640
  · rw [if_pos h, os_map]; simp [h]
  · rw [if_neg h]; simp [h, OS]
theorem q_ints_i {u : Str} : @OSI _ (biD .int [.str u]) ⟨P⟩ = (u.length ≤ 640 ∧ OS (PySem.intText? u) fun z => P (.int z)) := q_ints
theorem q_sortL : OS (biD .sorted [.list ds]) P = OS (sortD ds) fun l => P (.list l) := os_map
theorem q_sortL_i : @OSI _ (biD .sorted [.list ds]) ⟨P⟩ = OS (sortD ds) fun l => P (.list l) := q_sortL
theorem q_sortT : OS (biD .sorted [.tuple ds]) P = OS (sortD ds) fun l => P (.list l) := os_map
theorem q_sortT_i : @OSI _ (biD .sorted [.tuple ds]) ⟨P⟩ = OS (sortD ds) fun l => P (.list l) := q_sortT
/-- what repr takes -/
def RP (d : D) : Prop := (d.showable && decide (d.shown.length ≤ sizeLine) && decide (d.depth ≤ 64) && !d.hasDict) = true
theorem q_repr : OS (biD .repr [x]) P = (RP x ∧ P (.str x.shown)) := os_if
theorem q_minkd {d : D} {ds : List D} {P : D → Prop} : OS (biD .minkd [.list (d :: ds)]) P = (sortsB (d :: ds) = true ∧ P (W.minD d ds)) := os_if
theorem q_minkd_i {d : D} {ds : List D} {P : D → Prop} : @OSI _ (biD .minkd [.list (d :: ds)]) ⟨P⟩ = (sortsB (d :: ds) = true ∧ P (W.minD d ds)) := q_minkd
theorem q_repr_i : @OSI _ (biD .repr [x]) ⟨P⟩ = (RP x ∧ P (.str x.shown)) := q_repr
theorem q_dk0 : ixD s dkD (.int 0) = some (.list (s.cells.map .int)) := by simp [ixD, dkIx]
theorem q_dk1 : ixD s dkD (.int 1) = some (.int s.pos) := by simp [ixD, dkIx]
theorem q_dk2 : ixD s dkD (.int 2) = some (.int s.big) := by simp [ixD, dkIx]
theorem q_dk3 : ixD s dkD (.int 3) = some (.int s.cnt) := by simp [ixD, dkIx]
theorem q_ixL : ixD s (.list ds) (.int i) = L2.atI ds i := rfl
theorem q_ixT : ixD s (.tuple ds) (.int i) = L2.atI ds i := rfl
theorem q_set1 {v : Int} : dkSet s 1 v = some { s with pos := v } := by simp [dkSet]
theorem q_set2 {v : Int} : dkSet s 2 v = some { s with big := v } := by simp [dkSet]
theorem q_set3 {v : Int} : dkSet s 3 v = some { s with cnt := v } := by simp [dkSet]
theorem q_slT {l h : Option Int} : slD (.tuple ds) l h = some (.tuple (cutL ds l h)) := rfl
theorem q_slL {l h : Option Int} : slD (.list ds) l h = some (.list (cutL ds l h)) := rfl
theorem q_revT : revD (.tuple ds) = some (.tuple ds.reverse) := rfl
theorem q_revL : revD (.list ds) = some (.list ds.reverse) := rfl
theorem q_zipT : zipK (.tuple ds) (.tuple es) = some (zipD ds es) := rfl
theorem q_zipL : zipK (.list ds) (.list es) = some (zipD ds es) := rfl
theorem q_zipTL : zipK (.tuple ds) (.list es) = some (zipD ds es) := rfl
theorem q_zipLT : zipK (.list ds) (.tuple es) = some (zipD ds es) := rfl
theorem q_itT : itemsOf (.tuple ds) = some ds := rfl
theorem q_itL : itemsOf (.list ds) = some ds := rfl
end
end CH

set_option Elab.async false
set_option linter.all false
set_option maxRecDepth 100000
set_option maxHeartbeats 4000000
/-! values in obligations, more of them; data that can be shown and compared -/
namespace CH
open PySem
section
variable {i j : Int} {xs ys ds es : List D} {a b x : D} {s : Dk}
theorem zipD_mapL {α : Type} {f : α → D} {l : List α} : zipD (l.map f) es = (l.zip es).map fun x => .tuple [f x.1, x.2] := by
  have := zipD_map (f := f) (g := id) (l := l) (m := es)
  simpa using this
theorem zipD_mapR {α : Type} {f : α → D} {l : List α} : zipD es (l.map f) = (es.zip l).map fun x => .tuple [x.1, f x.2] := by
  have := zipD_map (f := id) (g := f) (l := es) (m := l)
  simpa using this
theorem rngD_map : rngD i j = (List.range (j - i).toNat).map fun k => .int (i + (k : Nat)) := rfl
theorem rngD_map0 : rngD 0 j = (List.range j.toNat).map fun k => .int (k : Nat) := by
  unfold rngD; simp only [Int.sub_zero, Int.zero_add]
theorem cutL_map {α β : Type} {f : α → β} {l : List α} {lo hi : Option Int} : cutL (l.map f) lo hi = (cutL l lo hi).map f := by
  unfold cutL; simp only [List.length_map, List.map_take, List.map_drop]
theorem atI0 {α : Type} {x : α} {r : List α} : L2.atI (x :: r) 0 = some x := L2.atI_nat (j := 0) rfl
theorem atI1 {α : Type} {x y : α} {r : List α} : L2.atI (x :: y :: r) 1 = some y := L2.atI_nat (j := 1) rfl
theorem atI2 {α : Type} {x y z : α} {r : List α} : L2.atI (x :: y :: z :: r) 2 = some z := L2.atI_nat (j := 2) rfl
theorem atIL {α : Type} {x : α} {r : List α} : L2.atI (r ++ [x]) (-1) = some x := L2.atI_last r x
theorem atI_mapf {α β : Type} {f : α → β} {l : List α} : L2.atI (l.map f) i = (L2.atI l i).map f := by
  unfold L2.atI
  rw [List.length_map]
  cases L2.ixN l.length i <;> simp
theorem sum_int {ns : List Int} : intsOf (ns.map .int) = some ns := ints_map ns
theorem isi_tup1 : isiD "tuple" (.tuple ds) = some true := rfl
theorem isi_tup2 : isiD "tuple" (.list ds) = some false := rfl
theorem isi_tup3 : isiD "tuple" (.int i) = some false := rfl
theorem isi_tup4 {t : Bool} : isiD "tuple" (.bool t) = some false := rfl
theorem isi_tup5 : isiD "tuple" .none = some false := rfl
theorem isi_tup6 {t : Str} : isiD "tuple" (.str t) = some false := rfl
theorem isi_int5 : isiD "int" .none = some false := rfl
theorem isi_int6 {t : Str} : isiD "int" (.str t) = some false := rfl
theorem isi_bool5 : isiD "bool" .none = some false := rfl
theorem isi_bool6 {t : Str} : isiD "bool" (.str t) = some false := rfl
theorem isi_int1 : isiD "int" (.tuple ds) = some false := rfl
theorem isi_int2 : isiD "int" (.list ds) = some false := rfl
theorem isi_int3 : isiD "int" (.int i) = some true := rfl
theorem isi_int4 {t : Bool} : isiD "int" (.bool t) = some true := rfl
theorem isi_bool1 : isiD "bool" (.tuple ds) = some false := rfl
theorem isi_bool2 : isiD "bool" (.list ds) = some false := rfl
theorem isi_bool3 : isiD "bool" (.int i) = some false := rfl
theorem isi_bool4 {t : Bool} : isiD "bool" (.bool t) = some true := rfl
theorem isNone_0 : isNoneD .none = true := rfl
theorem isNone_tup : isNoneD (.tuple ds) = false := rfl
theorem isNone_list : isNoneD (.list ds) = false := rfl
theorem isNone_int : isNoneD (.int i) = false := rfl
theorem isNone_bool {t : Bool} : isNoneD (.bool t) = false := rfl
theorem isNone_str {t : Str} : isNoneD (.str t) = false := rfl
end
theorem sz0 : (0 ≤ sizeLine) = True := eq_true (by rw [sizeLine_eq]; omega)
theorem sz1 : (1 ≤ sizeLine) = True := eq_true (by rw [sizeLine_eq]; omega)
theorem sz2 : (2 ≤ sizeLine) = True := eq_true (by rw [sizeLine_eq]; omega)
theorem sz3 : (3 ≤ sizeLine) = True := eq_true (by rw [sizeLine_eq]; omega)
theorem sz4 : (4 ≤ sizeLine) = True := eq_true (by rw [sizeLine_eq]; omega)
theorem sz5 : (5 ≤ sizeLine) = True := eq_true (by rw [sizeLine_eq]; omega)
theorem sz6 : (6 ≤ sizeLine) = True := eq_true (by rw [sizeLine_eq]; omega)
theorem sz7 : (7 ≤ sizeLine) = True := eq_true (by rw [sizeLine_eq]; omega)
theorem sz8 : (8 ≤ sizeLine) = True := eq_true (by rw [sizeLine_eq]; omega)
theorem sz9 : (9 ≤ sizeLine) = True := eq_true (by rw [sizeLine_eq]; omega)
theorem zero_row (k : Nat) : (List.replicate k [PyData.int 0]).flatten = (List.replicate k (0 : Int)).map .int := by
  induction k with
  | zero => rfl
  | succ k ih => rw [List.replicate_succ, List.flatten_cons, ih, List.replicate_succ]; rfl
/-! ### data that can be shown and compared -/
/-- so deep, so long when shown -/
structure Nc (n w : Nat) (d : D) : Prop where
  lay : d.canLay0 = true
  dep : d.depth ≤ n
  sho : d.showable = true
  len : d.shown.length ≤ w
  sok : PyData.strOk d.shown = true
theorem Nc.mono {n w n' w' : Nat} {d : D} (h : Nc n w d) (hn : n ≤ n') (hw : w ≤ w') : Nc n' w' d := ⟨h.lay, Nat.le_trans h.dep hn, h.sho, Nat.le_trans h.len hw, h.sok⟩
theorem strOk_app (a b : Str) : PyData.strOk (a ++ b) = (PyData.strOk a && PyData.strOk b) := by
  show (a.cps ++ b.cps).all _ = _
  rw [Array.all_append]
  rfl
theorem strOk_lit (x : String) : PyData.strOk (Str.ofString x) = true := by
  unfold PyData.strOk
  rw [Str.ofString_eq_toList]
  simp only [List.all_toArray, List.all_map, List.all_eq_true]
  intro c _
  have := c.valid
  simp only [Function.comp, decide_eq_true_eq]
  rcases this with h | ⟨_, h⟩
  · have : c.toNat < 0xd800 := h
    omega
  · exact h
theorem strOk_from : ∀ (ts : List Str) (k : Nat) (acc : Str), PyData.strOk acc = true → (∀ t ∈ ts, PyData.strOk t = true) → PyData.strOk (textFrom k acc ts) = true
  | [], _, _, h, _ => h
  | t :: r, k, acc, h, ht => by
    rw [textFrom]
    refine strOk_from r _ _ ?_ fun y hy => ht y (List.mem_cons_of_mem _ hy)
    rw [strOk_app, strOk_app, h, ht t List.mem_cons_self, strOk_lit]
    rfl
theorem strOk_join (x : Str) (hx : PyData.strOk x = true) : ∀ (ts : List Str), (∀ t ∈ ts, PyData.strOk t = true) → PyData.strOk (Str.join x ts) = true
  | [], _ => by show PyData.strOk Str.empty = true; decide +kernel
  | [t], h => h t List.mem_cons_self
  | t :: u :: r, h => by
    show PyData.strOk (t ++ x ++ Str.join x (u :: r)) = true
    rw [strOk_app, strOk_app, h t List.mem_cons_self, hx, strOk_join x hx (u :: r) fun y hy => h y (List.mem_cons_of_mem _ hy)]
    rfl
theorem Nc.int {i : Int} (h : i.natAbs.log2 < 1920) : Nc 0 1921 (.int i) := ⟨rfl, Nat.le_refl _, decide_eq_true h, PyProof.Rows.int_text_len_1921 h, strOk_lit _⟩
theorem Nc.bool {b : Bool} : Nc 0 5 (.bool b) := ⟨rfl, Nat.le_refl _, rfl, by cases b <;> decide +kernel, by cases b <;> decide +kernel⟩
theorem Nc.none : Nc 0 5 .none := ⟨rfl, Nat.le_refl _, rfl, by decide +kernel, by decide +kernel⟩
theorem Nc.all {n w : Nat} : ∀ {ds : List D}, (∀ d ∈ ds, Nc n w d) → PyData.canLayAll0 ds = true ∧ PyData.depthAll ds ≤ n ∧ PyData.showableAll ds = true ∧ ((PyData.shownAll ds).map (·.length)).sum ≤ ds.length * w ∧ (∀ t ∈ PyData.shownAll ds, PyData.strOk t = true)
  | [], _ => ⟨rfl, Nat.zero_le _, rfl, Nat.zero_le _, fun _ h => by cases h⟩
  | d :: r, h => by
    obtain ⟨h1, h2, h3, h4, h5⟩ := Nc.all (ds := r) fun y hy => h y (List.mem_cons_of_mem _ hy)
    have g := h d List.mem_cons_self
    refine ⟨?_, ?_, ?_, ?_, ?_⟩
    · rw [PyData.canLayAll0, g.lay, h1]; rfl
    · rw [PyData.depthAll]; exact Nat.max_le.mpr ⟨g.dep, h2⟩
    · rw [PyData.showableAll, g.sho, h3]; rfl
    · rw [PyData.shownAll, List.map_cons, List.sum_cons, List.length_cons, Nat.add_mul, Nat.one_mul, Nat.add_comm]
      exact Nat.add_le_add h4 g.len
    · intro t ht
      rw [PyData.shownAll] at ht
      rcases List.mem_cons.mp ht with e | e
      · rw [e]; exact g.sok
      · exact h5 t e
theorem shownAll_len : ∀ ds : List D, (PyData.shownAll ds).length = ds.length
  | [] => rfl
  | d :: r => by rw [PyData.shownAll, List.length_cons, shownAll_len r]; rfl
theorem Nc.tup {n w : Nat} {ds : List D} (h : ∀ d ∈ ds, Nc n w d) : Nc (n + 1) (ds.length * (w + 2) + 3) (.tuple ds) := by
  obtain ⟨h1, h2, h3, h4, h5⟩ := Nc.all h
  refine ⟨h1, Nat.succ_le_succ h2, h3, ?_, ?_⟩
  · have := tupleText_len_le (PyData.shownAll ds)
    rw [shownAll_len] at this
    have e : ds.length * (w + 2) = ds.length * w + 2 * ds.length := by rw [Nat.mul_add, Nat.mul_comm ds.length 2]
    show (tupleText (PyData.shownAll ds)).length ≤ _
    omega
  · show PyData.strOk (tupleText (PyData.shownAll ds)) = true
    unfold tupleText
    rw [strOk_app, strOk_app, strOk_join _ (strOk_lit _) _ h5, strOk_lit]
    split <;> rw [strOk_lit] <;> rfl
theorem Nc.lst {n w : Nat} {ds : List D} (h : ∀ d ∈ ds, Nc n w d) : Nc (n + 1) (ds.length * (w + 2) + 3) (.list ds) := by
  obtain ⟨h1, h2, h3, h4, h5⟩ := Nc.all h
  refine ⟨h1, Nat.succ_le_succ h2, h3, ?_, ?_⟩
  · have := listText_len_le (PyData.shownAll ds)
    rw [shownAll_len] at this
    have e : ds.length * (w + 2) = ds.length * w + 2 * ds.length := by rw [Nat.mul_add, Nat.mul_comm ds.length 2]
    show (listText (PyData.shownAll ds)).length ≤ _
    omega
  · show PyData.strOk (listText (PyData.shownAll ds)) = true
    unfold listText
    rw [strOk_app, strOk_from _ _ _ (strOk_lit _) h5, strOk_lit]
    rfl
theorem Nc.shaped {n w : Nat} {d : D} (h : Nc n w d) (hn : n ≤ 64) : SeqAt.shaped d = true := by
  unfold SeqAt.shaped
  rw [h.lay, decide_eq_true (Nat.le_trans h.dep hn)]
  rfl
theorem Nc.rp {n w : Nat} {d : D} (h : Nc n w d) (hn : n ≤ 64) (hw : w ≤ sizeLine) : RP d := by
  unfold RP
  rw [h.sho, decide_eq_true (Nat.le_trans h.dep hn), decide_eq_true (Nat.le_trans h.len hw), PyData.hasDict_of_canLay d h.lay]
  rfl
theorem Nc.shs {n w : Nat} {d : D} (h : Nc n w d) : SeqAt.shaped (.str d.shown) = true := by
  unfold SeqAt.shaped PyData.canLay0
  rw [h.sok]
  rfl
theorem eqv_same (d : D) (h : d.canLay0 = true) : PyData.eqv d d = true := SeqAt.eqv_refl d h
theorem shaped_int {i : Int} : SeqAt.shaped (.int i) = true := rfl
theorem shaped_bool {b : Bool} : SeqAt.shaped (.bool b) = true := rfl
theorem shaped_none : SeqAt.shaped .none = true := rfl
theorem eqv_ss {x : Str} : PyData.eqv (.str x) (.str x) = true := by simp [PyData.eqv]
theorem eqv_bool {a b : Bool} : PyData.eqv (.bool a) (.bool b) = (a == b) := by rw [PyData.eqv]
theorem lay_ints : ∀ ns : List Int, PyData.canLayAll0 (ns.map .int) = true ∧ PyData.depthAll (ns.map .int) = 0
  | [] => ⟨rfl, rfl⟩
  | n :: r => by
    obtain ⟨h2, h3⟩ := lay_ints r
    exact ⟨by rw [List.map_cons, PyData.canLayAll0, h2]; rfl, by rw [List.map_cons, PyData.depthAll, h3]; rfl⟩
theorem shaped_iT {a : List Int} : SeqAt.shaped (.tuple (a.map .int)) = true := by
  unfold SeqAt.shaped
  rw [PyData.canLay0, PyData.depth, (lay_ints a).1, (lay_ints a).2]
  decide
theorem shaped_iL {a : List Int} : SeqAt.shaped (.list (a.map .int)) = true := by
  unfold SeqAt.shaped
  rw [PyData.canLay0, PyData.depth, (lay_ints a).1, (lay_ints a).2]
  decide
theorem eqv_ints : ∀ a b : List Int, PyData.eqvAll (a.map .int) (b.map .int) = decide (a = b)
  | [], [] => by simp [PyData.eqvAll]
  | [], _ :: _ => by simp [PyData.eqvAll]
  | _ :: _, [] => by simp [PyData.eqvAll]
  | x :: a, y :: b => by
    rw [List.map_cons, List.map_cons, PyData.eqvAll, eqv_int, eqv_ints a b, Bool.eq_iff_iff]
    simp
theorem eqv_iT {a b : List Int} : PyData.eqv (.tuple (a.map .int)) (.tuple (b.map .int)) = decide (a = b) := by
  rw [← eqv_ints]
  simp [PyData.eqv]
theorem eqv_nil {l : List D} : PyData.eqv (.list l) (.list []) = l.isEmpty := by
  cases l <;> simp [PyData.eqv, PyData.eqvAll]
theorem eqv_nilT {l : List D} : PyData.eqv (.tuple l) (.tuple []) = l.isEmpty := by
  cases l <;> simp [PyData.eqv, PyData.eqvAll]
/-- rows of things that compare as their Lean values do -/
theorem eqv_mapG {α : Type} [DecidableEq α] {f : α → D} (h : ∀ x y, PyData.eqv (f x) (f y) = decide (x = y)) : ∀ a b : List α, PyData.eqvAll (a.map f) (b.map f) = decide (a = b)
  | [], [] => by simp [PyData.eqvAll]
  | [], _ :: _ => by simp [PyData.eqvAll]
  | _ :: _, [] => by simp [PyData.eqvAll]
  | x :: a, y :: b => by
    rw [List.map_cons, List.map_cons, PyData.eqvAll, h, eqv_mapG h a b, Bool.eq_iff_iff]
    simp
abbrev Rows (rs : List (List Int)) : D := .tuple (rs.map iT)
theorem eqv_Rows {a b : List (List Int)} : PyData.eqv (Rows a) (Rows b) = decide (a = b) := by
  rw [← eqv_mapG (f := iT) (fun x y => eqv_iT) a b]
  simp [PyData.eqv]
theorem lay_all {α : Type} {f : α → D} (h : ∀ x, (f x).canLay0 = true ∧ (f x).depth ≤ 10) : ∀ l : List α, PyData.canLayAll0 (l.map f) = true ∧ PyData.depthAll (l.map f) ≤ 10
  | [] => ⟨rfl, Nat.zero_le _⟩
  | x :: r => by
    obtain ⟨h1, h2⟩ := lay_all h r
    exact ⟨by rw [List.map_cons, PyData.canLayAll0, (h x).1, h1]; rfl, by rw [List.map_cons, PyData.depthAll]; exact Nat.max_le.mpr ⟨(h x).2, h2⟩⟩
theorem lay_iT (a : List Int) : (iT a).canLay0 = true ∧ (iT a).depth ≤ 1 := ⟨(lay_ints a).1, by show PyData.depthAll _ + 1 ≤ 1; rw [(lay_ints a).2]; decide⟩
theorem shaped_of {d : D} (h : d.canLay0 = true ∧ d.depth ≤ 64) : SeqAt.shaped d = true := by
  unfold SeqAt.shaped; rw [h.1, decide_eq_true h.2]; rfl
theorem shaped_Rows {a : List (List Int)} : SeqAt.shaped (Rows a) = true := by
  obtain ⟨h1, h2⟩ := lay_all (f := iT) (fun x => ⟨(lay_iT x).1, Nat.le_trans (lay_iT x).2 (by decide)⟩) a
  exact shaped_of ⟨h1, Nat.le_trans (Nat.succ_le_succ h2) (by decide)⟩
theorem shaped_LRows {a : List (List Int)} : SeqAt.shaped (.list (a.map iT)) = true := by
  obtain ⟨h1, h2⟩ := lay_all (f := iT) (fun x => ⟨(lay_iT x).1, Nat.le_trans (lay_iT x).2 (by decide)⟩) a
  exact shaped_of ⟨h1, Nat.le_trans (Nat.succ_le_succ h2) (by decide)⟩
/-- a book -/
abbrev bk (k : Int) (rs : List (List Int)) : D := .tuple [.int k, .tuple (rs.map iT)]
theorem eqv_bk {k l : Int} {a b : List (List Int)} : PyData.eqv (bk k a) (bk l b) = decide (k = l ∧ a = b) := by
  show PyData.eqvAll [.int k, Rows a] [.int l, Rows b] = _
  rw [PyData.eqvAll, PyData.eqvAll, PyData.eqvAll, eqv_int, eqv_Rows, Bool.eq_iff_iff]
  simp
theorem lay_Rows (a : List (List Int)) : (Rows a).canLay0 = true ∧ (Rows a).depth ≤ 11 := by
  obtain ⟨h1, h2⟩ := lay_all (f := iT) (fun x => ⟨(lay_iT x).1, Nat.le_trans (lay_iT x).2 (by decide)⟩) a
  exact ⟨h1, Nat.succ_le_succ h2⟩
theorem lay_bk (k : Int) (a : List (List Int)) : (bk k a).canLay0 = true ∧ (bk k a).depth ≤ 12 := by
  obtain ⟨h1, h2⟩ := lay_Rows a
  refine ⟨?_, ?_⟩
  · show PyData.canLayAll0 [.int k, Rows a] = true
    rw [PyData.canLayAll0, PyData.canLayAll0, h1]; rfl
  · show PyData.depthAll [.int k, Rows a] + 1 ≤ 12
    rw [PyData.depthAll, PyData.depthAll]
    refine Nat.succ_le_succ (Nat.max_le.mpr ⟨Nat.zero_le _, Nat.max_le.mpr ⟨h2, Nat.zero_le _⟩⟩)
theorem shaped_bk {k : Int} {a : List (List Int)} : SeqAt.shaped (bk k a) = true := shaped_of ⟨(lay_bk k a).1, Nat.le_trans (lay_bk k a).2 (by decide)⟩
local macro_rules | `(tactic| walk_at "sw") => `(tactic| simp only [↓sat_in, ↓satS_in, ↓os_in, ↓bs_in, ↓is_in, ↓ls_in, ↓strS_in, ↓StrS_str_i, ↓if_in, ↓let_in, ↓ss_nil_i, ↓ss_cons_i, ↓ss_set_i, ↓ss_own_i, ↓ss_if_i, ↓ss_ret_i, ↓ss_retN_i, ↓ss_pass_i, ↓ss_cont_i, ↓ss_unp_i, ↓ss_dset_i, ↓ss_app_i, ↓ss_lset_i, pIx_var, pIx_cst, pIx_neg, pAt_succ, pAt_zero, ↓ss_ext_i,
  ↓ss_pop_i, ↓ss_parP_i, ↓ss_drop_i, ↓ss_par_i, ↓sp_nil_i, ↓sp_cons_i, ↓ss_for_i, ↓ss_while_i, slot_val, slot_own, setAll_nil, setAll_cons, ↓sv_var_i, ↓sv_cst_i, ↓sv_nil_i, ↓sv_cons_i, ↓sv_tup_i, ↓sv_lst_i, ↓sv_bin_i, ↓sv_neg_i,
  ↓sv_cmp_i, ↓sv_isn_i, ↓sv_notn_i, ↓sv_and_i, ↓sv_or_i, ↓sv_not_i, ↓sv_ite_i, ↓sv_ix_i, ↓sv_sl_i, ↓sv_rev_i, ↓so_none_i, ↓so_some_i, ↓sv_call_i, ↓sv_callk_i, ↓sv_newk_i, ↓sv_mkx_i, ↓sv_isx_i, ↓sv_xfl_i, perm1, perm2, ↓sv_bi_i, ↓sv_isi_i, ↓sv_sortk_i, ↓sv_mink_i, ↓sv_meth_i, ↓sv_fld_i, ↓sv_pcall_i, ↓sv_new_i, ↓sv_prop_i, ↓sv_obj_i, ↓sv_isc_i, ↓sv_obin_i, ↓sv_oeq_i, ↓sv_last_i, ↓sv_chain_i, ↓sv_lc_i,
  ↓sv_lc2_i, ↓si_seq_i, ↓si_rng1_i, ↓si_rng2_i, ↓si_enum_i, ↓si_zip_i, ↓sc_none_i, ↓sc_some_i, ↓sat_onE_i, ↓sat_ok_i, ↓sat_bind_i, OS_some_i, BS_bool_i, IS_int_i, LS_list_i, IfS_true_i, IfS_false_i, Let1_go_i, mix_nil,
  mix_val, mix_un, mix_own, mix_so, fix_so, frz_so, mix_sx, fix_sx, frz_sx, fix_nil, fix_val, fix_un, fix_own, frz_nil, frz_val, frz_un, frz_own, fx_bool, fx_int, fx_str, fx_none, fx_iT, fx, noLf_int, noLf_bool, noLf_str, noLf_none, noLf_tup, noLf_list, noLs_ones, noLs_strs, noLs_strs', noLg_int, noLg_bool, noLg_str, noLg_none, noLg_tup, noLg_list, fxL, io_var, iox_var, pli_var, plin_var, io_cst, iox_cst, pli_cst, plin_cst, io_tup, iox_tup, pli_tup, io_lst, iox_lst, pli_lst, io_bin, iox_bin, pli_bin, plin_bin, io_neg, iox_neg, io_cmp, iox_cmp, pli_cmp, io_isn, iox_isn, pli_isn, io_notn, iox_notn, pli_notn, io_chain, iox_chain, pli_chain, io_and, iox_and, pli_and, io_or, iox_or, pli_or, io_not, iox_not, pli_not, io_ite, iox_ite, pli_ite, iox_ix, pli_ix, plin_ix, io_sl, iox_sl, pli_sl, io_rev, iox_rev, pli_rev, io_call, iox_call, pli_call, io_bi, iox_bi, pli_bi, plin_bi, io_isi, iox_isi, pli_isi, io_sortk, iox_sortk, pli_sortk, io_mink, iox_mink, pli_mink, io_meth, io_fld, io_pcall, io_new, io_prop, io_obj, io_isc, io_last, io_callk, io_obin, io_ocmp, io_newk, io_mkx, io_isx, io_xfl, iox_meth, iox_fld, iox_pcall, iox_new, iox_prop, iox_obj, iox_isc, iox_last, iox_callk, iox_obin, iox_ocmp, iox_newk, iox_mkx, iox_isx, iox_xfl, pli_meth, pli_fld, pli_pcall, pli_new, pli_prop, pli_obj, pli_isc, pli_last, pli_callk, pli_obin, pli_ocmp, pli_newk, pli_mkx, pli_isx, pli_xfl, io_lc, iox_lc, pli_lc, io_lc2, iox_lc2, pli_lc2, icb_abs, icb_all, icb_any, icb_int, icb_len, icb_list, icb_max, icb_max2, icb_min, icb_min2, icb_repr, icb_sorted, icb_str, icb_sum, icb_tuple, icb_maxd, icb_minkd, icb_lrng, icb_sset, ic_var, pl_var, ic_cst, pl_cst, ic_tup, pl_tup, ic_lst, pl_lst, ic_bin, pl_bin, ic_neg, pl_neg, ic_cmp, pl_cmp, ic_isn, pl_isn, ic_notn, pl_notn, ic_chain, pl_chain, ic_and, pl_and, ic_or, pl_or, ic_not, pl_not, ic_ite, pl_ite, ic_ix, pl_ix, ic_sl, pl_sl, ic_rev, pl_rev, ic_call, pl_call, pl_bi, ic_isi, pl_isi, ic_sortk, pl_sortk, ic_mink, pl_mink, ic_meth, ic_fld, ic_pcall, ic_new, ic_prop, ic_obj, ic_isc, ic_last, ic_callk, ic_obin, ic_ocmp, ic_newk, ic_mkx, ic_isx, ic_xfl, pl_meth, pl_fld, pl_pcall, pl_new, pl_prop, pl_obj, pl_isc, pl_last, pl_callk, pl_obin, pl_ocmp, pl_newk, pl_mkx, pl_isx, pl_xfl, ic_lc, pl_lc, ic_lc2, pl_lc2, noL, ite_self, PX.at, PIt.at, PX.uses, PX.usess, PX.useso, PIt.uses,
  PX.freshy, ownAt_succ, ownAt_zero, sz0, sz1, sz2, sz3, sz4, sz5, sz6, sz7, sz8, sz9, zero_row, Nat.reduceBEq, Nat.reduceEqDiff, Bool.or_false, Bool.false_and, Bool.true_and, Bool.and_false, Bool.and_true, Bool.false_or, Bool.or_true, Bool.true_or, beq_self_eq_true, Nat.reduceAdd, q_add, q_sub, q_mul_i, q_fdiv_i, q_mod_i, q_pow_i, q_lt,
  q_le, q_gt, q_ge, q_eq_i, q_ne_i, q_inL_i, q_inT_i, q_ninL_i, q_ninT_i, shaped_int, shaped_iT, shaped_bool, shaped_none, eqv_int, eqv_iT, eqv_bool, eqv_ss, q_int, q_intb, q_abs, q_max2, q_min2, q_lenL, q_lenT, q_tupL, q_tupT,
  q_listT, q_listL, q_all_i, q_any_i, q_maxd_i, q_lrng1_i, q_lrng2_i, q_ints_i, q_max_i, q_min_i, q_sumL_i, q_sumT_i, q_sortL_i, q_sortT_i, q_repr_i, q_minkd_i, q_addT_i, q_addL_i, q_addS_i, q_mulS_i, q_mulT_i, q_mulL_i, q_maxT_i, q_minT_i, untup_T, untup_L, q_slT, q_slL, q_revL, q_revT, q_dk0, q_dk1, q_dk2, q_dk3,
  q_ixL, q_ixT, q_set1, q_set2, q_set3, q_zipT, q_zipL, q_zipTL, q_zipLT, q_itT, q_itL, atI0, atI1, atI2, atIL, zipD_map, enumD_map, rngD_map, Int.sub_zero, Int.zero_add, Int.toNat_natCast, cutL_map, bools_map,
  bools_mapf, ints_map, ints_mapf, isNone_0, isNone_tup, isNone_list, isNone_int, isNone_bool, isNone_str, isi_tup1, isi_tup2, isi_tup3, isi_tup4, isi_tup5, isi_tup6, isi_int1, isi_int2, isi_int3, isi_int4, isi_int5, isi_int6, isi_bool1, isi_bool2, isi_bool3, isi_bool4, isi_bool5, isi_bool6, setT_one, setT_two, setT_three, setS_one,
  setS_two, setS_three, tgSl, wipeE, Option.join_some, List.getElem?_cons_succ, List.getElem?_cons_zero, List.set_cons_succ, List.set_cons_zero, List.take_succ_cons, List.take_zero, List.drop_succ_cons, List.drop_zero, if_true, Bool.false_eq_true, if_false, List.map_cons, List.map_nil,
  List.replicate, List.cons_append, List.nil_append, Nat.reduceSub, true_and, and_true, List.length_cons, List.length_nil, List.length_map, Bool.not_true, Bool.not_false, Bool.not_not])
local macro_rules | `(tactic| walk_at "w") => `(tactic| try walk_at "sw")
end CH

namespace CH
open PySem L2
def fd__law_draw : Fd := ⟨2, 5, [.dset 0 3 (.bin .Add (.ix (.var 0) (.cst (.int 3))) (.cst (.int 1))),
  .if_ (.cmp .Gt (.ix (.var 0) (.cst (.int 2))) (.cst (.int 0))) [.set 2 (.bin .Mod (.bi .int [(.ix (.var 0) (.cst (.int 2)))]) (.var 1)), .dset 0 2 (.bin .FloorDiv (.ix (.var 0) (.cst (.int 2))) (.var 1)), .ret (.var 2)] [],
  .set 3 (.cst (.int 71)),
  .if_ (.cmp .NotEq (.ix (.var 0) (.cst (.int 0))) (.lst [])) [.set 3 (.ix (.ix (.var 0) (.cst (.int 0))) (.bin .Mod (.bi .int [(.ix (.var 0) (.cst (.int 1)))]) (.bi .len [(.ix (.var 0) (.cst (.int 0)))])))] [],
  .dset 0 1 (.bin .Add (.ix (.var 0) (.cst (.int 1))) (.cst (.int 1))),
  .if_ (.and_ (.cmp .GtE (.bi .abs [(.var 3)]) (.bin .Pow (.cst (.int 10)) (.cst (.int 18)))) (.cmp .LtE (.ix (.var 0) (.cst (.int 1))) (.bi .len [(.ix (.var 0) (.cst (.int 0)))]))) [.dset 0 2 (.bin .FloorDiv (.bi .abs [(.var 3)]) (.var 1)), .ret (.bin .Mod (.bi .int [(.bi .abs [(.var 3)])]) (.var 1))] [],
  .set 4 (.bin .Mod (.bin .Pow (.bi .int [(.bin .Add (.bin .Mod (.bi .int [(.var 3)]) (.cst (.int 2147483587))) (.bin .Mult (.cst (.int 91283161)) (.ix (.var 0) (.cst (.int 3)))))]) (.cst (.int 5))) (.cst (.int 2147483629))),
  .set 4 (.bin .Mod (.bin .Pow (.bi .int [(.bin .Add (.bin .Mult (.var 4) (.bin .Add (.bin .Mult (.cst (.int 2)) (.ix (.var 0) (.cst (.int 3)))) (.cst (.int 5)))) (.cst (.int 7919)))]) (.cst (.int 3))) (.cst (.int 2147483647))),
  .ret (.bin .Mod (.bin .FloorDiv (.var 4) (.cst (.int 32))) (.var 1))], 0⟩
def fd__law_one : Fd := ⟨2, 2, [.ret (.ix (.var 1) (.call 3 [(.var 0), (.bi .len [(.var 1)])]))], 0⟩
def fd__law_odd : Fd := ⟨1, 2, [.set 1 (.lst [(.cst .none), (.cst (.bool true)), (.cst (.bool false)), (.neg (.cst (.int 1))), (.cst (.int 0)), (.cst (.int 1)), (.cst (.int 2)), (.cst (.int 4)), (.cst (.int 5)), (.bin .Pow (.cst (.int 10)) (.cst (.int 40))), (.cst (.str (Str.ofString ""))), (.cst (.str (Str.ofString "1"))), (.cst (.str (Str.ofString "kinds 2"))), (.tup []), (.lst []), (.tup [(.cst (.int 0))]), (.tup [(.cst (.int 0)), (.cst (.int 1))])]),
  .set 1 (.bin .Add (.var 1) (.lst [(.tup [(.cst (.int 1)), (.cst (.int 0))]), (.lst [(.cst (.int 0)), (.cst (.int 1))]), (.tup [(.neg (.cst (.int 1))), (.cst (.int 2))]), (.tup [(.cst (.bool true)), (.cst (.int 0))]), (.tup [(.cst (.str (Str.ofString "0"))), (.cst (.int 1))]), (.tup [(.cst .none)]), (.tup [(.tup []), (.tup [])]), (.tup [(.cst (.int 2)), (.tup [])])])),
  .ret (.call 4 [(.var 0), (.bin .Add (.var 1) (.lst [(.tup [(.cst (.int 2)), (.tup [(.tup [(.cst (.int 0)), (.cst (.int 1))])])]), (.tup [(.tup [(.cst (.int 0)), (.cst (.int 1))]), (.tup [(.cst (.int 1)), (.cst (.int 0))])]), (.tup [(.tup [(.cst (.int 1))])])]))])], 0⟩
def fd__law_classes : Fd := ⟨1, 2, [.set 1 (.lst [(.isx (Str.ofString "BadHeap") (.var 0)), (.isx (Str.ofString "NoRoom") (.var 0)), (.isx (Str.ofString "NotHeld") (.var 0)), (.isx (Str.ofString "NoHeap") (.var 0))]),
  .set 1 (.bin .Add (.var 1) (.lst [(.isx (Str.ofString "NoCorner") (.var 0)), (.isx (Str.ofString "NothingDone") (.var 0)), (.isx (Str.ofString "BadText") (.var 0))])),
  .ret (.bin .Add (.var 1) (.lst [(.isx (Str.ofString "HeapError") (.var 0)), (.isx (Str.ofString "ValueError") (.var 0))]))], 0⟩
def T : Nat → Option Fd
  | 3 => some fd__law_draw
  | 4 => some fd__law_one
  | 69 => some fd__law_odd
  | 152 => some fd__law_classes
  | _ => none
end CH
set_option Elab.async false
set_option linter.all false
/-! heaps and books, with no program in sight -/
namespace CH
abbrev He := List Int
/-- a heap of k kinds with counts from 0 to M -/
def HeapLe (k : Nat) (M : Int) (ns : He) : Prop := ns.length = k ∧ ∀ x ∈ ns, 0 ≤ x ∧ x ≤ M
/-! ### rows in order -/
/-! ### the least ones -/
end CH

set_option Elab.async false
set_option linter.all false
set_option maxRecDepth 100000
set_option maxHeartbeats 400000
/-! the law's own small defs: draws, heaps -/
namespace CH
open PySem
local macro_rules | `(tactic| walk_at "sw") => `(tactic| simp only [↓sat_in, ↓satS_in, ↓os_in, ↓bs_in, ↓is_in, ↓ls_in, ↓strS_in, ↓StrS_str_i, ↓if_in, ↓let_in, ↓ss_nil_i, ↓ss_cons_i, ↓ss_set_i, ↓ss_own_i, ↓ss_if_i, ↓ss_ret_i, ↓ss_retN_i, ↓ss_pass_i, ↓ss_cont_i, ↓ss_unp_i, ↓ss_dset_i, ↓ss_app_i, ↓ss_lset_i, pIx_var, pIx_cst, pIx_neg, pAt_succ, pAt_zero, ↓ss_ext_i,
  ↓ss_pop_i, ↓ss_parP_i, ↓ss_drop_i, ↓ss_par_i, ↓sp_nil_i, ↓sp_cons_i, ↓ss_for_i, ↓ss_while_i, slot_val, slot_own, setAll_nil, setAll_cons, ↓sv_var_i, ↓sv_cst_i, ↓sv_nil_i, ↓sv_cons_i, ↓sv_tup_i, ↓sv_lst_i, ↓sv_bin_i, ↓sv_neg_i,
  ↓sv_cmp_i, ↓sv_isn_i, ↓sv_notn_i, ↓sv_and_i, ↓sv_or_i, ↓sv_not_i, ↓sv_ite_i, ↓sv_ix_i, ↓sv_sl_i, ↓sv_rev_i, ↓so_none_i, ↓so_some_i, ↓sv_call_i, ↓sv_callk_i, ↓sv_newk_i, ↓sv_mkx_i, ↓sv_isx_i, ↓sv_xfl_i, perm1, perm2, ↓sv_bi_i, ↓sv_isi_i, ↓sv_sortk_i, ↓sv_mink_i, ↓sv_meth_i, ↓sv_fld_i, ↓sv_pcall_i, ↓sv_new_i, ↓sv_prop_i, ↓sv_obj_i, ↓sv_isc_i, ↓sv_obin_i, ↓sv_oeq_i, ↓sv_last_i, ↓sv_chain_i, ↓sv_lc_i,
  ↓sv_lc2_i, ↓si_seq_i, ↓si_rng1_i, ↓si_rng2_i, ↓si_enum_i, ↓si_zip_i, ↓sc_none_i, ↓sc_some_i, ↓sat_onE_i, ↓sat_ok_i, ↓sat_bind_i, OS_some_i, BS_bool_i, IS_int_i, LS_list_i, IfS_true_i, IfS_false_i, Let1_go_i, mix_nil,
  mix_val, mix_un, mix_own, mix_so, fix_so, frz_so, mix_sx, fix_sx, frz_sx, fix_nil, fix_val, fix_un, fix_own, frz_nil, frz_val, frz_un, frz_own, fx_bool, fx_int, fx_str, fx_none, fx_iT, fx, noLf_int, noLf_bool, noLf_str, noLf_none, noLf_tup, noLf_list, noLs_ones, noLs_strs, noLs_strs', noLg_int, noLg_bool, noLg_str, noLg_none, noLg_tup, noLg_list, fxL, io_var, iox_var, pli_var, plin_var, io_cst, iox_cst, pli_cst, plin_cst, io_tup, iox_tup, pli_tup, io_lst, iox_lst, pli_lst, io_bin, iox_bin, pli_bin, plin_bin, io_neg, iox_neg, io_cmp, iox_cmp, pli_cmp, io_isn, iox_isn, pli_isn, io_notn, iox_notn, pli_notn, io_chain, iox_chain, pli_chain, io_and, iox_and, pli_and, io_or, iox_or, pli_or, io_not, iox_not, pli_not, io_ite, iox_ite, pli_ite, iox_ix, pli_ix, plin_ix, io_sl, iox_sl, pli_sl, io_rev, iox_rev, pli_rev, io_call, iox_call, pli_call, io_bi, iox_bi, pli_bi, plin_bi, io_isi, iox_isi, pli_isi, io_sortk, iox_sortk, pli_sortk, io_mink, iox_mink, pli_mink, io_meth, io_fld, io_pcall, io_new, io_prop, io_obj, io_isc, io_last, io_callk, io_obin, io_ocmp, io_newk, io_mkx, io_isx, io_xfl, iox_meth, iox_fld, iox_pcall, iox_new, iox_prop, iox_obj, iox_isc, iox_last, iox_callk, iox_obin, iox_ocmp, iox_newk, iox_mkx, iox_isx, iox_xfl, pli_meth, pli_fld, pli_pcall, pli_new, pli_prop, pli_obj, pli_isc, pli_last, pli_callk, pli_obin, pli_ocmp, pli_newk, pli_mkx, pli_isx, pli_xfl, io_lc, iox_lc, pli_lc, io_lc2, iox_lc2, pli_lc2, icb_abs, icb_all, icb_any, icb_int, icb_len, icb_list, icb_max, icb_max2, icb_min, icb_min2, icb_repr, icb_sorted, icb_str, icb_sum, icb_tuple, icb_maxd, icb_minkd, icb_lrng, icb_sset, ic_var, pl_var, ic_cst, pl_cst, ic_tup, pl_tup, ic_lst, pl_lst, ic_bin, pl_bin, ic_neg, pl_neg, ic_cmp, pl_cmp, ic_isn, pl_isn, ic_notn, pl_notn, ic_chain, pl_chain, ic_and, pl_and, ic_or, pl_or, ic_not, pl_not, ic_ite, pl_ite, ic_ix, pl_ix, ic_sl, pl_sl, ic_rev, pl_rev, ic_call, pl_call, pl_bi, ic_isi, pl_isi, ic_sortk, pl_sortk, ic_mink, pl_mink, ic_meth, ic_fld, ic_pcall, ic_new, ic_prop, ic_obj, ic_isc, ic_last, ic_callk, ic_obin, ic_ocmp, ic_newk, ic_mkx, ic_isx, ic_xfl, pl_meth, pl_fld, pl_pcall, pl_new, pl_prop, pl_obj, pl_isc, pl_last, pl_callk, pl_obin, pl_ocmp, pl_newk, pl_mkx, pl_isx, pl_xfl, ic_lc, pl_lc, ic_lc2, pl_lc2, noL, ite_self, PX.at, PIt.at, PX.uses, PX.usess, PX.useso, PIt.uses,
  PX.freshy, ownAt_succ, ownAt_zero, sz0, sz1, sz2, sz3, sz4, sz5, sz6, sz7, sz8, sz9, zero_row, Nat.reduceBEq, Nat.reduceEqDiff, Bool.or_false, Bool.false_and, Bool.true_and, Bool.and_false, Bool.and_true, Bool.false_or, Bool.or_true, Bool.true_or, beq_self_eq_true, Nat.reduceAdd, q_add, q_sub, q_mul_i, q_fdiv_i, q_mod_i, q_pow_i, q_lt,
  q_le, q_gt, q_ge, q_eq_i, q_ne_i, q_inL_i, q_inT_i, q_ninL_i, q_ninT_i, shaped_int, shaped_iT, shaped_bool, shaped_none, eqv_int, eqv_iT, eqv_bool, eqv_ss, q_int, q_intb, q_abs, q_max2, q_min2, q_lenL, q_lenT, q_tupL, q_tupT,
  q_listT, q_listL, q_all_i, q_any_i, q_maxd_i, q_lrng1_i, q_lrng2_i, q_ints_i, q_max_i, q_min_i, q_sumL_i, q_sumT_i, q_sortL_i, q_sortT_i, q_repr_i, q_minkd_i, q_addT_i, q_addL_i, q_addS_i, q_mulS_i, q_mulT_i, q_mulL_i, q_maxT_i, q_minT_i, untup_T, untup_L, q_slT, q_slL, q_revL, q_revT, q_dk0, q_dk1, q_dk2, q_dk3,
  q_ixL, q_ixT, q_set1, q_set2, q_set3, q_zipT, q_zipL, q_zipTL, q_zipLT, q_itT, q_itL, atI0, atI1, atI2, atIL, zipD_map, enumD_map, rngD_map, Int.sub_zero, Int.zero_add, Int.toNat_natCast, cutL_map, bools_map,
  bools_mapf, ints_map, ints_mapf, isNone_0, isNone_tup, isNone_list, isNone_int, isNone_bool, isNone_str, isi_tup1, isi_tup2, isi_tup3, isi_tup4, isi_tup5, isi_tup6, isi_int1, isi_int2, isi_int3, isi_int4, isi_int5, isi_int6, isi_bool1, isi_bool2, isi_bool3, isi_bool4, isi_bool5, isi_bool6, setT_one, setT_two, setT_three, setS_one,
  setS_two, setS_three, tgSl, wipeE, Option.join_some, List.getElem?_cons_succ, List.getElem?_cons_zero, List.set_cons_succ, List.set_cons_zero, List.take_succ_cons, List.take_zero, List.drop_succ_cons, List.drop_zero, if_true, Bool.false_eq_true, if_false, List.map_cons, List.map_nil,
  List.replicate, List.cons_append, List.nil_append, Nat.reduceSub, true_and, and_true, List.length_cons, List.length_nil, List.length_map, Bool.not_true, Bool.not_false, Bool.not_not])
local macro_rules | `(tactic| walk_at "w") => `(tactic| try walk_at "sw")
theorem p4000 : (2 : Int) ^ 200 ≤ 2 ^ 4000 := by decide +kernel
theorem mul_l {i j : Int} (h1 : -(2 ^ 64) < i) (h2 : i < 2 ^ 64) : mulOk i j = true := by
  unfold mulOk
  rw [decide_eq_true h1, decide_eq_true h2]
  rfl
theorem draw_tail {m b c cnt pos big : Int} {cells : List Int} {p : D → Dk → Prop} (hm : 0 < m) (b1 : 0 ≤ cnt) (b3 : cnt + (b + 1) ≤ 2 ^ 30) (h0 : 0 ≤ b) (h : ∀ r s', 0 ≤ r → r < m → Bud s' b → p (.int r) s') :
    (0 < (2147483587 : Int) ∧ mulOk 91283161 (cnt + 1) = true ∧ (0 ≤ (5 : Int) ∧ (5 : Int) ≤ 100 ∧ (c % 2147483587 + 91283161 * (cnt + 1)).natAbs < 2 ^ 64) ∧ 0 < (2147483629 : Int) ∧ mulOk 2 (cnt + 1) = true ∧
      mulOk ((c % 2147483587 + 91283161 * (cnt + 1)) ^ Int.toNat 5 % 2147483629) (2 * (cnt + 1) + 5) = true ∧ (0 ≤ (3 : Int) ∧ (3 : Int) ≤ 100 ∧ ((c % 2147483587 + 91283161 * (cnt + 1)) ^ Int.toNat 5 % 2147483629 * (2 * (cnt + 1) + 5) + 7919).natAbs < 2 ^ 64) ∧ 0 < (2147483647 : Int) ∧
      (0 < (32 : Int) ∧ (32 : Int) < 2 ^ 4000) ∧ 0 < m ∧ p (.int (((c % 2147483587 + 91283161 * (cnt + 1)) ^ Int.toNat 5 % 2147483629 * (2 * (cnt + 1) + 5) + 7919) ^ Int.toNat 3 % 2147483647 / 32 % m)) { cells := cells, pos := pos, big := big, cnt := cnt + 1 }) := by
  have e1 : (0 : Int) ≤ c % 2147483587 ∧ c % 2147483587 < 2147483587 := ⟨Int.emod_nonneg _ (by decide), Int.emod_lt_of_pos _ (by decide)⟩
  generalize c % 2147483587 = u at e1 ⊢
  generalize hy : (u + 91283161 * (cnt + 1)) ^ Int.toNat 5 = y
  have e2 : (0 : Int) ≤ y % 2147483629 ∧ y % 2147483629 < 2147483629 := ⟨Int.emod_nonneg _ (by decide), Int.emod_lt_of_pos _ (by decide)⟩
  generalize y % 2147483629 = v at e2 ⊢
  have e3 : v * (2 * (cnt + 1) + 5) ≤ 2147483629 * 2147483700 := Int.mul_le_mul (by omega) (by omega) (by omega) (by decide)
  have e4 : 0 ≤ v * (2 * (cnt + 1) + 5) := Int.mul_nonneg (by omega) (by omega)
  refine ⟨by decide, mul_l (by decide) (by decide), ⟨by decide, by decide, by omega⟩, by decide, mul_l (by decide) (by decide), mul_l (by omega) (by omega), ⟨by decide, by decide, by omega⟩, by decide, ⟨by decide, Int.lt_of_lt_of_le (by decide) p4000⟩, hm, h _ _ (Int.emod_nonneg _ (by omega)) (Int.emod_lt_of_pos _ hm) ⟨?_, h0, ?_⟩⟩
  · show 0 ≤ cnt + 1; omega
  · show cnt + 1 + b ≤ 2 ^ 30; omega
theorem draw_sp {n : Nat} {m b : Int} {s : Dk} {p : D → Dk → Prop} (hm : 0 < m) (hM : m < 2 ^ 200) (hb : Bud s (b + 1)) (h0 : 0 ≤ b) (h : ∀ r s', 0 ≤ r → r < m → Bud s' b → p (.int r) s') : Sat (callF T PF (n + 1) 3 [dkD, .int m] s) p := by
  obtain ⟨cells, pos, big, cnt⟩ := s
  obtain ⟨b1, b2, b3⟩ := hb
  simp only at b1 b2 b3
  have md : ∀ x : Int, 0 ≤ x % m ∧ x % m < m := fun x => ⟨Int.emod_nonneg _ (by omega), Int.emod_lt_of_pos _ hm⟩
  rw [sat_call (d := fd__law_draw) rfl rfl]
  simp only [fd__law_draw]
  walk_at "sw"
  have big4 : m < 2 ^ 4000 := Int.lt_of_lt_of_le hM p4000
  have bud : ∀ (cells : List Int) (pos big : Int), Bud ⟨cells, pos, big, cnt + 1⟩ b := fun _ _ _ => ⟨by show 0 ≤ cnt + 1; omega, h0, by show cnt + 1 + b ≤ 2 ^ 30; omega⟩
  refine ifD (fun hbig => ?_) fun hbig => ?_
  · walk_at "sw"
    exact ⟨hm, ⟨hm, big4⟩, h _ _ (md _).1 (md _).2 (bud _ _ _)⟩
  · walk_at "sw"
    refine ⟨⟨shaped_iL, by decide +kernel⟩, ?_⟩
    rw [eqv_nil]
    have tl : ∀ (c pos : Int) (f : Prop), f → f := fun _ _ _ h => h
    cases cells with
    | nil =>
      refine ifF (by simp) ?_
      walk_at "sw"
      refine ⟨by decide, ?_⟩
      refine ifF (by decide) ?_
      walk_at "sw"
      exact draw_tail (c := 71) hm b1 b3 h0 h
    | cons c0 cr =>
      refine ifT (by simp) ?_
      walk_at "sw"
      have hl : (0 : Int) < ((c0 :: cr).length : Int) := by rw [List.length_cons]; omega
      refine ⟨by simpa using hl, ?_⟩
      generalize hcs : c0 :: cr = cs at hl
      have i1 := Int.emod_nonneg pos (show (cs.length : Int) ≠ 0 by omega)
      have i2 := Int.emod_lt_of_pos pos hl
      obtain ⟨j, hj⟩ : ∃ j : Nat, pos % (cs.length : Int) = j := ⟨(pos % (cs.length : Int)).toNat, by omega⟩
      have hj2 : j < cs.length := by omega
      refine OS_of (a := .int cs[j]) ?_ ?_
      · subst hcs
        rw [List.length_cons] at hj
        rw [hj]
        exact L2.atI_nat (by rw [← List.map_cons, List.getElem?_map, List.getElem?_eq_getElem hj2]; rfl)
      · generalize cs[j] = c
        walk_at "sw"
        refine ⟨by decide, ?_⟩
        refine ifD (fun h18 => ?_) fun h18 => ?_
        · walk_at "sw"
          refine ifD (fun hp => ?_) fun hp => ?_
          · walk_at "sw"
            exact ⟨⟨hm, big4⟩, hm, h _ _ (md _).1 (md _).2 (bud _ _ _)⟩
          · walk_at "sw"
            exact draw_tail hm b1 b3 h0 h
        · walk_at "sw"
          exact draw_tail hm b1 b3 h0 h
theorem atI_lt {α : Type} {xs : List α} {r : Int} (h0 : 0 ≤ r) (h1 : r < xs.length) : ∃ (j : Nat) (d : α), xs[j]? = some d ∧ L2.atI xs r = some d ∧ r = j := by
  obtain ⟨j, rfl⟩ : ∃ j : Nat, r = j := ⟨r.toNat, by omega⟩
  have hj : j < xs.length := by omega
  exact ⟨j, xs[j], List.getElem?_eq_getElem hj, L2.atI_nat (List.getElem?_eq_getElem hj), rfl⟩
theorem one_list {n : Nat} {b : Int} {s : Dk} {ds : List D} {p : D → Dk → Prop} (hl : 0 < ds.length) (hL : ds.length ≤ 100000) (hb : Bud s (b + 1)) (h0 : 0 ≤ b) (h : ∀ (d : D) (s' : Dk), d ∈ ds → Bud s' b → p d s') : Sat (callF T PF (n + 2) 4 [dkD, .list ds] s) p := by
  rw [sat_call (d := fd__law_one) rfl rfl]
  simp only [fd__law_one]
  walk_at "sw"
  refine draw_sp (b := b) (by omega) (Int.lt_of_le_of_lt (b := 100000) (by omega) (by decide)) hb h0 fun r s' r0 r1 hs => ?_
  walk_at "sw"
  obtain ⟨j, d, h1, h2, _⟩ := atI_lt r0 r1
  exact OS_of h2 (h d s' (List.mem_of_getElem? h1) hs)
theorem szl {n : Nat} (h : n ≤ 1000000) : n ≤ sizeLine := by rw [sizeLine_eq]; omega
end CH

set_option Elab.async false
set_option linter.all false
set_option maxRecDepth 100000
set_option maxHeartbeats 400000
/-! the algebra of books -/
namespace CH
open PySem
local macro_rules | `(tactic| walk_at "sw") => `(tactic| simp only [↓sat_in, ↓satS_in, ↓os_in, ↓bs_in, ↓is_in, ↓ls_in, ↓strS_in, ↓StrS_str_i, ↓if_in, ↓let_in, ↓ss_nil_i, ↓ss_cons_i, ↓ss_set_i, ↓ss_own_i, ↓ss_if_i, ↓ss_ret_i, ↓ss_retN_i, ↓ss_pass_i, ↓ss_cont_i, ↓ss_unp_i, ↓ss_dset_i, ↓ss_app_i, ↓ss_lset_i, pIx_var, pIx_cst, pIx_neg, pAt_succ, pAt_zero, ↓ss_ext_i,
  ↓ss_pop_i, ↓ss_parP_i, ↓ss_drop_i, ↓ss_par_i, ↓sp_nil_i, ↓sp_cons_i, ↓ss_for_i, ↓ss_while_i, slot_val, slot_own, setAll_nil, setAll_cons, ↓sv_var_i, ↓sv_cst_i, ↓sv_nil_i, ↓sv_cons_i, ↓sv_tup_i, ↓sv_lst_i, ↓sv_bin_i, ↓sv_neg_i,
  ↓sv_cmp_i, ↓sv_isn_i, ↓sv_notn_i, ↓sv_and_i, ↓sv_or_i, ↓sv_not_i, ↓sv_ite_i, ↓sv_ix_i, ↓sv_sl_i, ↓sv_rev_i, ↓so_none_i, ↓so_some_i, ↓sv_call_i, ↓sv_callk_i, ↓sv_newk_i, ↓sv_mkx_i, ↓sv_isx_i, ↓sv_xfl_i, perm1, perm2, ↓sv_bi_i, ↓sv_isi_i, ↓sv_sortk_i, ↓sv_mink_i, ↓sv_meth_i, ↓sv_fld_i, ↓sv_pcall_i, ↓sv_new_i, ↓sv_prop_i, ↓sv_obj_i, ↓sv_isc_i, ↓sv_obin_i, ↓sv_oeq_i, ↓sv_last_i, ↓sv_chain_i, ↓sv_lc_i,
  ↓sv_lc2_i, ↓si_seq_i, ↓si_rng1_i, ↓si_rng2_i, ↓si_enum_i, ↓si_zip_i, ↓sc_none_i, ↓sc_some_i, ↓sat_onE_i, ↓sat_ok_i, ↓sat_bind_i, OS_some_i, BS_bool_i, IS_int_i, LS_list_i, IfS_true_i, IfS_false_i, Let1_go_i, mix_nil,
  mix_val, mix_un, mix_own, mix_so, fix_so, frz_so, mix_sx, fix_sx, frz_sx, fix_nil, fix_val, fix_un, fix_own, frz_nil, frz_val, frz_un, frz_own, fx_bool, fx_int, fx_str, fx_none, fx_iT, fx, noLf_int, noLf_bool, noLf_str, noLf_none, noLf_tup, noLf_list, noLs_ones, noLs_strs, noLs_strs', noLg_int, noLg_bool, noLg_str, noLg_none, noLg_tup, noLg_list, fxL, io_var, iox_var, pli_var, plin_var, io_cst, iox_cst, pli_cst, plin_cst, io_tup, iox_tup, pli_tup, io_lst, iox_lst, pli_lst, io_bin, iox_bin, pli_bin, plin_bin, io_neg, iox_neg, io_cmp, iox_cmp, pli_cmp, io_isn, iox_isn, pli_isn, io_notn, iox_notn, pli_notn, io_chain, iox_chain, pli_chain, io_and, iox_and, pli_and, io_or, iox_or, pli_or, io_not, iox_not, pli_not, io_ite, iox_ite, pli_ite, iox_ix, pli_ix, plin_ix, io_sl, iox_sl, pli_sl, io_rev, iox_rev, pli_rev, io_call, iox_call, pli_call, io_bi, iox_bi, pli_bi, plin_bi, io_isi, iox_isi, pli_isi, io_sortk, iox_sortk, pli_sortk, io_mink, iox_mink, pli_mink, io_meth, io_fld, io_pcall, io_new, io_prop, io_obj, io_isc, io_last, io_callk, io_obin, io_ocmp, io_newk, io_mkx, io_isx, io_xfl, iox_meth, iox_fld, iox_pcall, iox_new, iox_prop, iox_obj, iox_isc, iox_last, iox_callk, iox_obin, iox_ocmp, iox_newk, iox_mkx, iox_isx, iox_xfl, pli_meth, pli_fld, pli_pcall, pli_new, pli_prop, pli_obj, pli_isc, pli_last, pli_callk, pli_obin, pli_ocmp, pli_newk, pli_mkx, pli_isx, pli_xfl, io_lc, iox_lc, pli_lc, io_lc2, iox_lc2, pli_lc2, icb_abs, icb_all, icb_any, icb_int, icb_len, icb_list, icb_max, icb_max2, icb_min, icb_min2, icb_repr, icb_sorted, icb_str, icb_sum, icb_tuple, icb_maxd, icb_minkd, icb_lrng, icb_sset, ic_var, pl_var, ic_cst, pl_cst, ic_tup, pl_tup, ic_lst, pl_lst, ic_bin, pl_bin, ic_neg, pl_neg, ic_cmp, pl_cmp, ic_isn, pl_isn, ic_notn, pl_notn, ic_chain, pl_chain, ic_and, pl_and, ic_or, pl_or, ic_not, pl_not, ic_ite, pl_ite, ic_ix, pl_ix, ic_sl, pl_sl, ic_rev, pl_rev, ic_call, pl_call, pl_bi, ic_isi, pl_isi, ic_sortk, pl_sortk, ic_mink, pl_mink, ic_meth, ic_fld, ic_pcall, ic_new, ic_prop, ic_obj, ic_isc, ic_last, ic_callk, ic_obin, ic_ocmp, ic_newk, ic_mkx, ic_isx, ic_xfl, pl_meth, pl_fld, pl_pcall, pl_new, pl_prop, pl_obj, pl_isc, pl_last, pl_callk, pl_obin, pl_ocmp, pl_newk, pl_mkx, pl_isx, pl_xfl, ic_lc, pl_lc, ic_lc2, pl_lc2, noL, ite_self, PX.at, PIt.at, PX.uses, PX.usess, PX.useso, PIt.uses,
  PX.freshy, ownAt_succ, ownAt_zero, sz0, sz1, sz2, sz3, sz4, sz5, sz6, sz7, sz8, sz9, zero_row, Nat.reduceBEq, Nat.reduceEqDiff, Bool.or_false, Bool.false_and, Bool.true_and, Bool.and_false, Bool.and_true, Bool.false_or, Bool.or_true, Bool.true_or, beq_self_eq_true, Nat.reduceAdd, q_add, q_sub, q_mul_i, q_fdiv_i, q_mod_i, q_pow_i, q_lt,
  q_le, q_gt, q_ge, q_eq_i, q_ne_i, q_inL_i, q_inT_i, q_ninL_i, q_ninT_i, shaped_int, shaped_iT, shaped_bool, shaped_none, eqv_int, eqv_iT, eqv_bool, eqv_ss, q_int, q_intb, q_abs, q_max2, q_min2, q_lenL, q_lenT, q_tupL, q_tupT,
  q_listT, q_listL, q_all_i, q_any_i, q_maxd_i, q_lrng1_i, q_lrng2_i, q_ints_i, q_max_i, q_min_i, q_sumL_i, q_sumT_i, q_sortL_i, q_sortT_i, q_repr_i, q_minkd_i, q_addT_i, q_addL_i, q_addS_i, q_mulS_i, q_mulT_i, q_mulL_i, q_maxT_i, q_minT_i, untup_T, untup_L, q_slT, q_slL, q_revL, q_revT, q_dk0, q_dk1, q_dk2, q_dk3,
  q_ixL, q_ixT, q_set1, q_set2, q_set3, q_zipT, q_zipL, q_zipTL, q_zipLT, q_itT, q_itL, atI0, atI1, atI2, atIL, zipD_map, enumD_map, rngD_map, Int.sub_zero, Int.zero_add, Int.toNat_natCast, cutL_map, bools_map,
  bools_mapf, ints_map, ints_mapf, isNone_0, isNone_tup, isNone_list, isNone_int, isNone_bool, isNone_str, isi_tup1, isi_tup2, isi_tup3, isi_tup4, isi_tup5, isi_tup6, isi_int1, isi_int2, isi_int3, isi_int4, isi_int5, isi_int6, isi_bool1, isi_bool2, isi_bool3, isi_bool4, isi_bool5, isi_bool6, setT_one, setT_two, setT_three, setS_one,
  setS_two, setS_three, tgSl, wipeE, Option.join_some, List.getElem?_cons_succ, List.getElem?_cons_zero, List.set_cons_succ, List.set_cons_zero, List.take_succ_cons, List.take_zero, List.drop_succ_cons, List.drop_zero, if_true, Bool.false_eq_true, if_false, List.map_cons, List.map_nil,
  List.replicate, List.cons_append, List.nil_append, Nat.reduceSub, true_and, and_true, List.length_cons, List.length_nil, List.length_map, Bool.not_true, Bool.not_false, Bool.not_not])
local macro_rules | `(tactic| walk_at "w") => `(tactic| try walk_at "sw")
theorem range_get {k j r : Nat} (h : (List.range k)[j]? = some r) : r = j ∧ j < k := by
  obtain ⟨h1, h2⟩ := List.getElem?_eq_some_iff.mp h
  rw [List.getElem_range] at h2
  rw [List.length_range] at h1
  exact ⟨h2.symm, h1⟩
end CH

set_option Elab.async false
set_option linter.all false
set_option maxRecDepth 100000
set_option maxHeartbeats 400000
/-! the law's books -/
namespace CH
open PySem
local macro_rules | `(tactic| walk_at "sw") => `(tactic| simp only [↓sat_in, ↓satS_in, ↓os_in, ↓bs_in, ↓is_in, ↓ls_in, ↓strS_in, ↓StrS_str_i, ↓if_in, ↓let_in, ↓ss_nil_i, ↓ss_cons_i, ↓ss_set_i, ↓ss_own_i, ↓ss_if_i, ↓ss_ret_i, ↓ss_retN_i, ↓ss_pass_i, ↓ss_cont_i, ↓ss_unp_i, ↓ss_dset_i, ↓ss_app_i, ↓ss_lset_i, pIx_var, pIx_cst, pIx_neg, pAt_succ, pAt_zero, ↓ss_ext_i,
  ↓ss_pop_i, ↓ss_parP_i, ↓ss_drop_i, ↓ss_par_i, ↓sp_nil_i, ↓sp_cons_i, ↓ss_for_i, ↓ss_while_i, slot_val, slot_own, setAll_nil, setAll_cons, ↓sv_var_i, ↓sv_cst_i, ↓sv_nil_i, ↓sv_cons_i, ↓sv_tup_i, ↓sv_lst_i, ↓sv_bin_i, ↓sv_neg_i,
  ↓sv_cmp_i, ↓sv_isn_i, ↓sv_notn_i, ↓sv_and_i, ↓sv_or_i, ↓sv_not_i, ↓sv_ite_i, ↓sv_ix_i, ↓sv_sl_i, ↓sv_rev_i, ↓so_none_i, ↓so_some_i, ↓sv_call_i, ↓sv_callk_i, ↓sv_newk_i, ↓sv_mkx_i, ↓sv_isx_i, ↓sv_xfl_i, perm1, perm2, ↓sv_bi_i, ↓sv_isi_i, ↓sv_sortk_i, ↓sv_mink_i, ↓sv_meth_i, ↓sv_fld_i, ↓sv_pcall_i, ↓sv_new_i, ↓sv_prop_i, ↓sv_obj_i, ↓sv_isc_i, ↓sv_obin_i, ↓sv_oeq_i, ↓sv_last_i, ↓sv_chain_i, ↓sv_lc_i,
  ↓sv_lc2_i, ↓si_seq_i, ↓si_rng1_i, ↓si_rng2_i, ↓si_enum_i, ↓si_zip_i, ↓sc_none_i, ↓sc_some_i, ↓sat_onE_i, ↓sat_ok_i, ↓sat_bind_i, OS_some_i, BS_bool_i, IS_int_i, LS_list_i, IfS_true_i, IfS_false_i, Let1_go_i, mix_nil,
  mix_val, mix_un, mix_own, mix_so, fix_so, frz_so, mix_sx, fix_sx, frz_sx, fix_nil, fix_val, fix_un, fix_own, frz_nil, frz_val, frz_un, frz_own, fx_bool, fx_int, fx_str, fx_none, fx_iT, fx, noLf_int, noLf_bool, noLf_str, noLf_none, noLf_tup, noLf_list, noLs_ones, noLs_strs, noLs_strs', noLg_int, noLg_bool, noLg_str, noLg_none, noLg_tup, noLg_list, fxL, io_var, iox_var, pli_var, plin_var, io_cst, iox_cst, pli_cst, plin_cst, io_tup, iox_tup, pli_tup, io_lst, iox_lst, pli_lst, io_bin, iox_bin, pli_bin, plin_bin, io_neg, iox_neg, io_cmp, iox_cmp, pli_cmp, io_isn, iox_isn, pli_isn, io_notn, iox_notn, pli_notn, io_chain, iox_chain, pli_chain, io_and, iox_and, pli_and, io_or, iox_or, pli_or, io_not, iox_not, pli_not, io_ite, iox_ite, pli_ite, iox_ix, pli_ix, plin_ix, io_sl, iox_sl, pli_sl, io_rev, iox_rev, pli_rev, io_call, iox_call, pli_call, io_bi, iox_bi, pli_bi, plin_bi, io_isi, iox_isi, pli_isi, io_sortk, iox_sortk, pli_sortk, io_mink, iox_mink, pli_mink, io_meth, io_fld, io_pcall, io_new, io_prop, io_obj, io_isc, io_last, io_callk, io_obin, io_ocmp, io_newk, io_mkx, io_isx, io_xfl, iox_meth, iox_fld, iox_pcall, iox_new, iox_prop, iox_obj, iox_isc, iox_last, iox_callk, iox_obin, iox_ocmp, iox_newk, iox_mkx, iox_isx, iox_xfl, pli_meth, pli_fld, pli_pcall, pli_new, pli_prop, pli_obj, pli_isc, pli_last, pli_callk, pli_obin, pli_ocmp, pli_newk, pli_mkx, pli_isx, pli_xfl, io_lc, iox_lc, pli_lc, io_lc2, iox_lc2, pli_lc2, icb_abs, icb_all, icb_any, icb_int, icb_len, icb_list, icb_max, icb_max2, icb_min, icb_min2, icb_repr, icb_sorted, icb_str, icb_sum, icb_tuple, icb_maxd, icb_minkd, icb_lrng, icb_sset, ic_var, pl_var, ic_cst, pl_cst, ic_tup, pl_tup, ic_lst, pl_lst, ic_bin, pl_bin, ic_neg, pl_neg, ic_cmp, pl_cmp, ic_isn, pl_isn, ic_notn, pl_notn, ic_chain, pl_chain, ic_and, pl_and, ic_or, pl_or, ic_not, pl_not, ic_ite, pl_ite, ic_ix, pl_ix, ic_sl, pl_sl, ic_rev, pl_rev, ic_call, pl_call, pl_bi, ic_isi, pl_isi, ic_sortk, pl_sortk, ic_mink, pl_mink, ic_meth, ic_fld, ic_pcall, ic_new, ic_prop, ic_obj, ic_isc, ic_last, ic_callk, ic_obin, ic_ocmp, ic_newk, ic_mkx, ic_isx, ic_xfl, pl_meth, pl_fld, pl_pcall, pl_new, pl_prop, pl_obj, pl_isc, pl_last, pl_callk, pl_obin, pl_ocmp, pl_newk, pl_mkx, pl_isx, pl_xfl, ic_lc, pl_lc, ic_lc2, pl_lc2, noL, ite_self, PX.at, PIt.at, PX.uses, PX.usess, PX.useso, PIt.uses,
  PX.freshy, ownAt_succ, ownAt_zero, sz0, sz1, sz2, sz3, sz4, sz5, sz6, sz7, sz8, sz9, zero_row, Nat.reduceBEq, Nat.reduceEqDiff, Bool.or_false, Bool.false_and, Bool.true_and, Bool.and_false, Bool.and_true, Bool.false_or, Bool.or_true, Bool.true_or, beq_self_eq_true, Nat.reduceAdd, q_add, q_sub, q_mul_i, q_fdiv_i, q_mod_i, q_pow_i, q_lt,
  q_le, q_gt, q_ge, q_eq_i, q_ne_i, q_inL_i, q_inT_i, q_ninL_i, q_ninT_i, shaped_int, shaped_iT, shaped_bool, shaped_none, eqv_int, eqv_iT, eqv_bool, eqv_ss, q_int, q_intb, q_abs, q_max2, q_min2, q_lenL, q_lenT, q_tupL, q_tupT,
  q_listT, q_listL, q_all_i, q_any_i, q_maxd_i, q_lrng1_i, q_lrng2_i, q_ints_i, q_max_i, q_min_i, q_sumL_i, q_sumT_i, q_sortL_i, q_sortT_i, q_repr_i, q_minkd_i, q_addT_i, q_addL_i, q_addS_i, q_mulS_i, q_mulT_i, q_mulL_i, q_maxT_i, q_minT_i, untup_T, untup_L, q_slT, q_slL, q_revL, q_revT, q_dk0, q_dk1, q_dk2, q_dk3,
  q_ixL, q_ixT, q_set1, q_set2, q_set3, q_zipT, q_zipL, q_zipTL, q_zipLT, q_itT, q_itL, atI0, atI1, atI2, atIL, zipD_map, enumD_map, rngD_map, Int.sub_zero, Int.zero_add, Int.toNat_natCast, cutL_map, bools_map,
  bools_mapf, ints_map, ints_mapf, isNone_0, isNone_tup, isNone_list, isNone_int, isNone_bool, isNone_str, isi_tup1, isi_tup2, isi_tup3, isi_tup4, isi_tup5, isi_tup6, isi_int1, isi_int2, isi_int3, isi_int4, isi_int5, isi_int6, isi_bool1, isi_bool2, isi_bool3, isi_bool4, isi_bool5, isi_bool6, setT_one, setT_two, setT_three, setS_one,
  setS_two, setS_three, tgSl, wipeE, Option.join_some, List.getElem?_cons_succ, List.getElem?_cons_zero, List.set_cons_succ, List.set_cons_zero, List.take_succ_cons, List.take_zero, List.drop_succ_cons, List.drop_zero, if_true, Bool.false_eq_true, if_false, List.map_cons, List.map_nil,
  List.replicate, List.cons_append, List.nil_append, Nat.reduceSub, true_and, and_true, List.length_cons, List.length_nil, List.length_map, Bool.not_true, Bool.not_false, Bool.not_not])
local macro_rules | `(tactic| walk_at "w") => `(tactic| try walk_at "sw")
theorem HeapLe.mono {k : Nat} {M N : Int} {r : He} (h : HeapLe k M r) (hm : M ≤ N) : HeapLe k N r := ⟨h.1, fun x hx => ⟨(h.2 x hx).1, Int.le_trans (h.2 x hx).2 hm⟩⟩
end CH

set_option Elab.async false
set_option linter.all false
set_option maxRecDepth 100000
set_option maxHeartbeats 400000
/-! what the laws draw and look at: shapes, pairs of books, near heaps, boxes, looks at books -/
namespace CH
open PySem
local macro_rules | `(tactic| walk_at "sw") => `(tactic| simp only [↓sat_in, ↓satS_in, ↓os_in, ↓bs_in, ↓is_in, ↓ls_in, ↓strS_in, ↓StrS_str_i, ↓if_in, ↓let_in, ↓ss_nil_i, ↓ss_cons_i, ↓ss_set_i, ↓ss_own_i, ↓ss_if_i, ↓ss_ret_i, ↓ss_retN_i, ↓ss_pass_i, ↓ss_cont_i, ↓ss_unp_i, ↓ss_dset_i, ↓ss_app_i, ↓ss_lset_i, pIx_var, pIx_cst, pIx_neg, pAt_succ, pAt_zero, ↓ss_ext_i,
  ↓ss_pop_i, ↓ss_parP_i, ↓ss_drop_i, ↓ss_par_i, ↓sp_nil_i, ↓sp_cons_i, ↓ss_for_i, ↓ss_while_i, slot_val, slot_own, setAll_nil, setAll_cons, ↓sv_var_i, ↓sv_cst_i, ↓sv_nil_i, ↓sv_cons_i, ↓sv_tup_i, ↓sv_lst_i, ↓sv_bin_i, ↓sv_neg_i,
  ↓sv_cmp_i, ↓sv_isn_i, ↓sv_notn_i, ↓sv_and_i, ↓sv_or_i, ↓sv_not_i, ↓sv_ite_i, ↓sv_ix_i, ↓sv_sl_i, ↓sv_rev_i, ↓so_none_i, ↓so_some_i, ↓sv_call_i, ↓sv_callk_i, ↓sv_newk_i, ↓sv_mkx_i, ↓sv_isx_i, ↓sv_xfl_i, perm1, perm2, ↓sv_bi_i, ↓sv_isi_i, ↓sv_sortk_i, ↓sv_mink_i, ↓sv_meth_i, ↓sv_fld_i, ↓sv_pcall_i, ↓sv_new_i, ↓sv_prop_i, ↓sv_obj_i, ↓sv_isc_i, ↓sv_obin_i, ↓sv_oeq_i, ↓sv_last_i, ↓sv_chain_i, ↓sv_lc_i,
  ↓sv_lc2_i, ↓si_seq_i, ↓si_rng1_i, ↓si_rng2_i, ↓si_enum_i, ↓si_zip_i, ↓sc_none_i, ↓sc_some_i, ↓sat_onE_i, ↓sat_ok_i, ↓sat_bind_i, OS_some_i, BS_bool_i, IS_int_i, LS_list_i, IfS_true_i, IfS_false_i, Let1_go_i, mix_nil,
  mix_val, mix_un, mix_own, mix_so, fix_so, frz_so, mix_sx, fix_sx, frz_sx, fix_nil, fix_val, fix_un, fix_own, frz_nil, frz_val, frz_un, frz_own, fx_bool, fx_int, fx_str, fx_none, fx_iT, fx, noLf_int, noLf_bool, noLf_str, noLf_none, noLf_tup, noLf_list, noLs_ones, noLs_strs, noLs_strs', noLg_int, noLg_bool, noLg_str, noLg_none, noLg_tup, noLg_list, fxL, io_var, iox_var, pli_var, plin_var, io_cst, iox_cst, pli_cst, plin_cst, io_tup, iox_tup, pli_tup, io_lst, iox_lst, pli_lst, io_bin, iox_bin, pli_bin, plin_bin, io_neg, iox_neg, io_cmp, iox_cmp, pli_cmp, io_isn, iox_isn, pli_isn, io_notn, iox_notn, pli_notn, io_chain, iox_chain, pli_chain, io_and, iox_and, pli_and, io_or, iox_or, pli_or, io_not, iox_not, pli_not, io_ite, iox_ite, pli_ite, iox_ix, pli_ix, plin_ix, io_sl, iox_sl, pli_sl, io_rev, iox_rev, pli_rev, io_call, iox_call, pli_call, io_bi, iox_bi, pli_bi, plin_bi, io_isi, iox_isi, pli_isi, io_sortk, iox_sortk, pli_sortk, io_mink, iox_mink, pli_mink, io_meth, io_fld, io_pcall, io_new, io_prop, io_obj, io_isc, io_last, io_callk, io_obin, io_ocmp, io_newk, io_mkx, io_isx, io_xfl, iox_meth, iox_fld, iox_pcall, iox_new, iox_prop, iox_obj, iox_isc, iox_last, iox_callk, iox_obin, iox_ocmp, iox_newk, iox_mkx, iox_isx, iox_xfl, pli_meth, pli_fld, pli_pcall, pli_new, pli_prop, pli_obj, pli_isc, pli_last, pli_callk, pli_obin, pli_ocmp, pli_newk, pli_mkx, pli_isx, pli_xfl, io_lc, iox_lc, pli_lc, io_lc2, iox_lc2, pli_lc2, icb_abs, icb_all, icb_any, icb_int, icb_len, icb_list, icb_max, icb_max2, icb_min, icb_min2, icb_repr, icb_sorted, icb_str, icb_sum, icb_tuple, icb_maxd, icb_minkd, icb_lrng, icb_sset, ic_var, pl_var, ic_cst, pl_cst, ic_tup, pl_tup, ic_lst, pl_lst, ic_bin, pl_bin, ic_neg, pl_neg, ic_cmp, pl_cmp, ic_isn, pl_isn, ic_notn, pl_notn, ic_chain, pl_chain, ic_and, pl_and, ic_or, pl_or, ic_not, pl_not, ic_ite, pl_ite, ic_ix, pl_ix, ic_sl, pl_sl, ic_rev, pl_rev, ic_call, pl_call, pl_bi, ic_isi, pl_isi, ic_sortk, pl_sortk, ic_mink, pl_mink, ic_meth, ic_fld, ic_pcall, ic_new, ic_prop, ic_obj, ic_isc, ic_last, ic_callk, ic_obin, ic_ocmp, ic_newk, ic_mkx, ic_isx, ic_xfl, pl_meth, pl_fld, pl_pcall, pl_new, pl_prop, pl_obj, pl_isc, pl_last, pl_callk, pl_obin, pl_ocmp, pl_newk, pl_mkx, pl_isx, pl_xfl, ic_lc, pl_lc, ic_lc2, pl_lc2, noL, ite_self, PX.at, PIt.at, PX.uses, PX.usess, PX.useso, PIt.uses,
  PX.freshy, ownAt_succ, ownAt_zero, sz0, sz1, sz2, sz3, sz4, sz5, sz6, sz7, sz8, sz9, zero_row, Nat.reduceBEq, Nat.reduceEqDiff, Bool.or_false, Bool.false_and, Bool.true_and, Bool.and_false, Bool.and_true, Bool.false_or, Bool.or_true, Bool.true_or, beq_self_eq_true, Nat.reduceAdd, q_add, q_sub, q_mul_i, q_fdiv_i, q_mod_i, q_pow_i, q_lt,
  q_le, q_gt, q_ge, q_eq_i, q_ne_i, q_inL_i, q_inT_i, q_ninL_i, q_ninT_i, shaped_int, shaped_iT, shaped_bool, shaped_none, eqv_int, eqv_iT, eqv_bool, eqv_ss, q_int, q_intb, q_abs, q_max2, q_min2, q_lenL, q_lenT, q_tupL, q_tupT,
  q_listT, q_listL, q_all_i, q_any_i, q_maxd_i, q_lrng1_i, q_lrng2_i, q_ints_i, q_max_i, q_min_i, q_sumL_i, q_sumT_i, q_sortL_i, q_sortT_i, q_repr_i, q_minkd_i, q_addT_i, q_addL_i, q_addS_i, q_mulS_i, q_mulT_i, q_mulL_i, q_maxT_i, q_minT_i, untup_T, untup_L, q_slT, q_slL, q_revL, q_revT, q_dk0, q_dk1, q_dk2, q_dk3,
  q_ixL, q_ixT, q_set1, q_set2, q_set3, q_zipT, q_zipL, q_zipTL, q_zipLT, q_itT, q_itL, atI0, atI1, atI2, atIL, zipD_map, enumD_map, rngD_map, Int.sub_zero, Int.zero_add, Int.toNat_natCast, cutL_map, bools_map,
  bools_mapf, ints_map, ints_mapf, isNone_0, isNone_tup, isNone_list, isNone_int, isNone_bool, isNone_str, isi_tup1, isi_tup2, isi_tup3, isi_tup4, isi_tup5, isi_tup6, isi_int1, isi_int2, isi_int3, isi_int4, isi_int5, isi_int6, isi_bool1, isi_bool2, isi_bool3, isi_bool4, isi_bool5, isi_bool6, setT_one, setT_two, setT_three, setS_one,
  setS_two, setS_three, tgSl, wipeE, Option.join_some, List.getElem?_cons_succ, List.getElem?_cons_zero, List.set_cons_succ, List.set_cons_zero, List.take_succ_cons, List.take_zero, List.drop_succ_cons, List.drop_zero, if_true, Bool.false_eq_true, if_false, List.map_cons, List.map_nil,
  List.replicate, List.cons_append, List.nil_append, Nat.reduceSub, true_and, and_true, List.length_cons, List.length_nil, List.length_map, Bool.not_true, Bool.not_false, Bool.not_not])
local macro_rules | `(tactic| walk_at "w") => `(tactic| try walk_at "sw")
theorem szw {w : Nat} (h : w ≤ 16000000) : w ≤ sizeLine := by rw [sizeLine_eq]; omega
/-! ### a heap near a corner -/
end CH

set_option Elab.async false
set_option linter.all false
set_option maxRecDepth 100000
set_option maxHeartbeats 400000
/-! values of any kind: what can be shown and compared, how long it is when shown -/
namespace CH
open PySem
mutual
/-- a value that can be shown and compared -/
def okD : D → Bool
  | .none => true
  | .bool _ => true
  | .int i => decide (i.natAbs.log2 < 1920)
  | .str x => PyData.strOk x && PyData.strOk (PyData.shown (.str x)) && decide ((PyData.shown (.str x)).length ≤ 2000)
  | .tuple ds => okDs ds
  | .list ds => okDs ds
  | .dict _ => false
def okDs : List D → Bool
  | [] => true
  | d :: r => okD d && okDs r
end
mutual
/-- a bound of how long it is when shown -/
def wtD : D → Nat
  | .tuple ds => wtDs ds + 3
  | .list ds => wtDs ds + 3
  | .int _ => 2000
  | .str _ => 2000
  | .none => 5
  | .bool _ => 5
  | .dict _ => 0
def wtDs : List D → Nat
  | [] => 0
  | d :: r => wtD d + 2 + wtDs r
end
mutual
theorem ok_facts : ∀ {d : D}, okD d = true → d.canLay0 = true ∧ d.showable = true ∧ PyData.strOk d.shown = true ∧ d.shown.length ≤ wtD d
  | .none, _ => ⟨rfl, rfl, by decide +kernel, by decide +kernel⟩
  | .bool b, _ => ⟨rfl, rfl, by cases b <;> decide +kernel, by cases b <;> decide +kernel⟩
  | .int i, h => by
    simp only [okD, decide_eq_true_eq] at h
    have := Nc.int h
    exact ⟨this.lay, this.sho, this.sok, Nat.le_trans this.len (by rw [wtD]; omega)⟩
  | .str x, h => by
    simp only [okD, Bool.and_eq_true, decide_eq_true_eq] at h
    exact ⟨h.1.1, rfl, h.1.2, h.2⟩
  | .tuple ds, h => by
    rw [okD] at h
    obtain ⟨h1, h2, h3, h4⟩ := oks_facts h
    refine ⟨h1, h2, ?_, ?_⟩
    · show PyData.strOk (tupleText (PyData.shownAll ds)) = true
      unfold tupleText
      rw [strOk_app, strOk_app, strOk_join _ (strOk_lit _) _ h3, strOk_lit]
      split <;> rw [strOk_lit] <;> rfl
    · have := tupleText_len_le (PyData.shownAll ds)
      show (tupleText (PyData.shownAll ds)).length ≤ _
      rw [wtD]
      omega
  | .list ds, h => by
    rw [okD] at h
    obtain ⟨h1, h2, h3, h4⟩ := oks_facts h
    refine ⟨h1, h2, ?_, ?_⟩
    · show PyData.strOk (listText (PyData.shownAll ds)) = true
      unfold listText
      rw [strOk_app, strOk_from _ _ _ (strOk_lit _) h3, strOk_lit]
      rfl
    · have := listText_len_le (PyData.shownAll ds)
      show (listText (PyData.shownAll ds)).length ≤ _
      rw [wtD]
      omega
  | .dict _, h => by cases h
theorem oks_facts : ∀ {ds : List D}, okDs ds = true → PyData.canLayAll0 ds = true ∧ PyData.showableAll ds = true ∧ (∀ t ∈ PyData.shownAll ds, PyData.strOk t = true) ∧ ((PyData.shownAll ds).map (·.length)).sum + 2 * (PyData.shownAll ds).length ≤ wtDs ds
  | [], _ => ⟨rfl, rfl, fun _ h => (by cases h), Nat.le_refl _⟩
  | d :: r, h => by
    rw [okDs, Bool.and_eq_true] at h
    obtain ⟨a1, a2, a3, a4⟩ := ok_facts h.1
    obtain ⟨b1, b2, b3, b4⟩ := oks_facts h.2
    refine ⟨by rw [PyData.canLayAll0, a1, b1]; rfl, by rw [PyData.showableAll, a2, b2]; rfl, fun t ht => ?_, ?_⟩
    · rw [PyData.shownAll] at ht
      rcases List.mem_cons.mp ht with e | e
      · rw [e]; exact a3
      · exact b3 t e
    · rw [PyData.shownAll, List.map_cons, List.sum_cons, List.length_cons, wtDs]
      omega
end
theorem nc_ok {d : D} {n w : Nat} (h : okD d = true) (hn : d.depth ≤ n) (hw : wtD d ≤ w) : Nc n w d :=
  let ⟨h1, h2, h3, h4⟩ := ok_facts h
  ⟨h1, hn, h2, Nat.le_trans h4 hw, h3⟩
theorem log2_small {x : Int} (h0 : 0 ≤ x) (h1 : x < 2 ^ 200) : x.natAbs.log2 < 1920 := by
  have h : x.natAbs < 2 ^ 200 := by omega
  by_cases z : x.natAbs = 0
  · rw [z]; decide
  · exact Nat.lt_trans ((Nat.log2_lt z).mpr h) (by decide)
end CH

set_option Elab.async false
set_option linter.all false
set_option maxRecDepth 100000
set_option maxHeartbeats 400000
/-! values of any kind: drawn, bent, looked at -/
namespace CH
open PySem
local macro_rules | `(tactic| walk_at "sw") => `(tactic| simp only [↓sat_in, ↓satS_in, ↓os_in, ↓bs_in, ↓is_in, ↓ls_in, ↓strS_in, ↓StrS_str_i, ↓if_in, ↓let_in, ↓ss_nil_i, ↓ss_cons_i, ↓ss_set_i, ↓ss_own_i, ↓ss_if_i, ↓ss_ret_i, ↓ss_retN_i, ↓ss_pass_i, ↓ss_cont_i, ↓ss_unp_i, ↓ss_dset_i, ↓ss_app_i, ↓ss_lset_i, pIx_var, pIx_cst, pIx_neg, pAt_succ, pAt_zero, ↓ss_ext_i,
  ↓ss_pop_i, ↓ss_parP_i, ↓ss_drop_i, ↓ss_par_i, ↓sp_nil_i, ↓sp_cons_i, ↓ss_for_i, ↓ss_while_i, slot_val, slot_own, setAll_nil, setAll_cons, ↓sv_var_i, ↓sv_cst_i, ↓sv_nil_i, ↓sv_cons_i, ↓sv_tup_i, ↓sv_lst_i, ↓sv_bin_i, ↓sv_neg_i,
  ↓sv_cmp_i, ↓sv_isn_i, ↓sv_notn_i, ↓sv_and_i, ↓sv_or_i, ↓sv_not_i, ↓sv_ite_i, ↓sv_ix_i, ↓sv_sl_i, ↓sv_rev_i, ↓so_none_i, ↓so_some_i, ↓sv_call_i, ↓sv_callk_i, ↓sv_newk_i, ↓sv_mkx_i, ↓sv_isx_i, ↓sv_xfl_i, perm1, perm2, ↓sv_bi_i, ↓sv_isi_i, ↓sv_sortk_i, ↓sv_mink_i, ↓sv_meth_i, ↓sv_fld_i, ↓sv_pcall_i, ↓sv_new_i, ↓sv_prop_i, ↓sv_obj_i, ↓sv_isc_i, ↓sv_obin_i, ↓sv_oeq_i, ↓sv_last_i, ↓sv_chain_i, ↓sv_lc_i,
  ↓sv_lc2_i, ↓si_seq_i, ↓si_rng1_i, ↓si_rng2_i, ↓si_enum_i, ↓si_zip_i, ↓sc_none_i, ↓sc_some_i, ↓sat_onE_i, ↓sat_ok_i, ↓sat_bind_i, OS_some_i, BS_bool_i, IS_int_i, LS_list_i, IfS_true_i, IfS_false_i, Let1_go_i, mix_nil,
  mix_val, mix_un, mix_own, mix_so, fix_so, frz_so, mix_sx, fix_sx, frz_sx, fix_nil, fix_val, fix_un, fix_own, frz_nil, frz_val, frz_un, frz_own, fx_bool, fx_int, fx_str, fx_none, fx_iT, fx, noLf_int, noLf_bool, noLf_str, noLf_none, noLf_tup, noLf_list, noLs_ones, noLs_strs, noLs_strs', noLg_int, noLg_bool, noLg_str, noLg_none, noLg_tup, noLg_list, fxL, io_var, iox_var, pli_var, plin_var, io_cst, iox_cst, pli_cst, plin_cst, io_tup, iox_tup, pli_tup, io_lst, iox_lst, pli_lst, io_bin, iox_bin, pli_bin, plin_bin, io_neg, iox_neg, io_cmp, iox_cmp, pli_cmp, io_isn, iox_isn, pli_isn, io_notn, iox_notn, pli_notn, io_chain, iox_chain, pli_chain, io_and, iox_and, pli_and, io_or, iox_or, pli_or, io_not, iox_not, pli_not, io_ite, iox_ite, pli_ite, iox_ix, pli_ix, plin_ix, io_sl, iox_sl, pli_sl, io_rev, iox_rev, pli_rev, io_call, iox_call, pli_call, io_bi, iox_bi, pli_bi, plin_bi, io_isi, iox_isi, pli_isi, io_sortk, iox_sortk, pli_sortk, io_mink, iox_mink, pli_mink, io_meth, io_fld, io_pcall, io_new, io_prop, io_obj, io_isc, io_last, io_callk, io_obin, io_ocmp, io_newk, io_mkx, io_isx, io_xfl, iox_meth, iox_fld, iox_pcall, iox_new, iox_prop, iox_obj, iox_isc, iox_last, iox_callk, iox_obin, iox_ocmp, iox_newk, iox_mkx, iox_isx, iox_xfl, pli_meth, pli_fld, pli_pcall, pli_new, pli_prop, pli_obj, pli_isc, pli_last, pli_callk, pli_obin, pli_ocmp, pli_newk, pli_mkx, pli_isx, pli_xfl, io_lc, iox_lc, pli_lc, io_lc2, iox_lc2, pli_lc2, icb_abs, icb_all, icb_any, icb_int, icb_len, icb_list, icb_max, icb_max2, icb_min, icb_min2, icb_repr, icb_sorted, icb_str, icb_sum, icb_tuple, icb_maxd, icb_minkd, icb_lrng, icb_sset, ic_var, pl_var, ic_cst, pl_cst, ic_tup, pl_tup, ic_lst, pl_lst, ic_bin, pl_bin, ic_neg, pl_neg, ic_cmp, pl_cmp, ic_isn, pl_isn, ic_notn, pl_notn, ic_chain, pl_chain, ic_and, pl_and, ic_or, pl_or, ic_not, pl_not, ic_ite, pl_ite, ic_ix, pl_ix, ic_sl, pl_sl, ic_rev, pl_rev, ic_call, pl_call, pl_bi, ic_isi, pl_isi, ic_sortk, pl_sortk, ic_mink, pl_mink, ic_meth, ic_fld, ic_pcall, ic_new, ic_prop, ic_obj, ic_isc, ic_last, ic_callk, ic_obin, ic_ocmp, ic_newk, ic_mkx, ic_isx, ic_xfl, pl_meth, pl_fld, pl_pcall, pl_new, pl_prop, pl_obj, pl_isc, pl_last, pl_callk, pl_obin, pl_ocmp, pl_newk, pl_mkx, pl_isx, pl_xfl, ic_lc, pl_lc, ic_lc2, pl_lc2, noL, ite_self, PX.at, PIt.at, PX.uses, PX.usess, PX.useso, PIt.uses,
  PX.freshy, ownAt_succ, ownAt_zero, sz0, sz1, sz2, sz3, sz4, sz5, sz6, sz7, sz8, sz9, zero_row, Nat.reduceBEq, Nat.reduceEqDiff, Bool.or_false, Bool.false_and, Bool.true_and, Bool.and_false, Bool.and_true, Bool.false_or, Bool.or_true, Bool.true_or, beq_self_eq_true, Nat.reduceAdd, q_add, q_sub, q_mul_i, q_fdiv_i, q_mod_i, q_pow_i, q_lt,
  q_le, q_gt, q_ge, q_eq_i, q_ne_i, q_inL_i, q_inT_i, q_ninL_i, q_ninT_i, shaped_int, shaped_iT, shaped_bool, shaped_none, eqv_int, eqv_iT, eqv_bool, eqv_ss, q_int, q_intb, q_abs, q_max2, q_min2, q_lenL, q_lenT, q_tupL, q_tupT,
  q_listT, q_listL, q_all_i, q_any_i, q_maxd_i, q_lrng1_i, q_lrng2_i, q_ints_i, q_max_i, q_min_i, q_sumL_i, q_sumT_i, q_sortL_i, q_sortT_i, q_repr_i, q_minkd_i, q_addT_i, q_addL_i, q_addS_i, q_mulS_i, q_mulT_i, q_mulL_i, q_maxT_i, q_minT_i, untup_T, untup_L, q_slT, q_slL, q_revL, q_revT, q_dk0, q_dk1, q_dk2, q_dk3,
  q_ixL, q_ixT, q_set1, q_set2, q_set3, q_zipT, q_zipL, q_zipTL, q_zipLT, q_itT, q_itL, atI0, atI1, atI2, atIL, zipD_map, enumD_map, rngD_map, Int.sub_zero, Int.zero_add, Int.toNat_natCast, cutL_map, bools_map,
  bools_mapf, ints_map, ints_mapf, isNone_0, isNone_tup, isNone_list, isNone_int, isNone_bool, isNone_str, isi_tup1, isi_tup2, isi_tup3, isi_tup4, isi_tup5, isi_tup6, isi_int1, isi_int2, isi_int3, isi_int4, isi_int5, isi_int6, isi_bool1, isi_bool2, isi_bool3, isi_bool4, isi_bool5, isi_bool6, setT_one, setT_two, setT_three, setS_one,
  setS_two, setS_three, tgSl, wipeE, Option.join_some, List.getElem?_cons_succ, List.getElem?_cons_zero, List.set_cons_succ, List.set_cons_zero, List.take_succ_cons, List.take_zero, List.drop_succ_cons, List.drop_zero, if_true, Bool.false_eq_true, if_false, List.map_cons, List.map_nil,
  List.replicate, List.cons_append, List.nil_append, Nat.reduceSub, true_and, and_true, List.length_cons, List.length_nil, List.length_map, Bool.not_true, Bool.not_false, Bool.not_not])
local macro_rules | `(tactic| walk_at "w") => `(tactic| try walk_at "sw")
def oddL : List D := [.none, .bool true, .bool false, .int (-1), .int 0, .int 1, .int 2, .int 4, .int 5, .int (10 ^ 40), .str (Str.ofString ""), .str (Str.ofString "1"), .str (Str.ofString "kinds 2"), .tuple [], .list [], .tuple [.int 0], .tuple [.int 0, .int 1],
  .tuple [.int 1, .int 0], .list [.int 0, .int 1], .tuple [.int (-1), .int 2], .tuple [.bool true, .int 0], .tuple [.str (Str.ofString "0"), .int 1], .tuple [.none], .tuple [.tuple [], .tuple []], .tuple [.int 2, .tuple []],
  .tuple [.int 2, .tuple [.tuple [.int 0, .int 1]]], .tuple [.tuple [.int 0, .int 1], .tuple [.int 1, .int 0]], .tuple [.tuple [.int 1]]]
theorem oddL_ok : ∀ d ∈ oddL, okD d = true ∧ d.depth ≤ 3 ∧ wtD d ≤ 10000 := by
  have h : (oddL.all fun d => okD d && decide (d.depth ≤ 3) && decide (wtD d ≤ 10000)) = true := by decide +kernel
  intro d hd
  have := List.all_eq_true.mp h d hd
  simpa [Bool.and_eq_true, and_assoc] using this
theorem odd_sp {n : Nat} {b : Int} {s : Dk} {p : D → Dk → Prop} (hb : Bud s (b + 1)) (h0 : 0 ≤ b) (h : ∀ d s', d ∈ oddL → Bud s' b → p d s') : Sat (callF T PF (n + 3) 69 [dkD] s) p := by
  rw [sat_call (d := fd__law_odd) rfl rfl]
  simp only [fd__law_odd]
  walk_at "sw"
  refine ⟨by decide +kernel, szl (by decide), szl (by decide), szl (by decide), ?_⟩
  refine one_list (by simp) (by simp) hb h0 fun d s' hd hb' => h d s' ?_ hb'
  rw [show oddL = _ from rfl]
  exact hd
/-! ### looks -/
end CH

set_option Elab.async false
set_option linter.all false
set_option maxRecDepth 100000
set_option maxHeartbeats 400000
/-! k34: of which classes an error is -/
namespace CH
open PySem
local macro_rules | `(tactic| walk_at "sw") => `(tactic| simp only [↓sat_in, ↓satS_in, ↓os_in, ↓bs_in, ↓is_in, ↓ls_in, ↓strS_in, ↓StrS_str_i, ↓if_in, ↓let_in, ↓ss_nil_i, ↓ss_cons_i, ↓ss_set_i, ↓ss_own_i, ↓ss_if_i, ↓ss_ret_i, ↓ss_retN_i, ↓ss_pass_i, ↓ss_cont_i, ↓ss_unp_i, ↓ss_dset_i, ↓ss_app_i, ↓ss_lset_i, pIx_var, pIx_cst, pIx_neg, pAt_succ, pAt_zero, ↓ss_ext_i,
  ↓ss_pop_i, ↓ss_parP_i, ↓ss_drop_i, ↓ss_par_i, ↓sp_nil_i, ↓sp_cons_i, ↓ss_for_i, ↓ss_while_i, slot_val, slot_own, setAll_nil, setAll_cons, ↓sv_var_i, ↓sv_cst_i, ↓sv_nil_i, ↓sv_cons_i, ↓sv_tup_i, ↓sv_lst_i, ↓sv_bin_i, ↓sv_neg_i,
  ↓sv_cmp_i, ↓sv_isn_i, ↓sv_notn_i, ↓sv_and_i, ↓sv_or_i, ↓sv_not_i, ↓sv_ite_i, ↓sv_ix_i, ↓sv_sl_i, ↓sv_rev_i, ↓so_none_i, ↓so_some_i, ↓sv_call_i, ↓sv_callk_i, ↓sv_newk_i, ↓sv_mkx_i, ↓sv_isx_i, ↓sv_xfl_i, perm1, perm2, ↓sv_bi_i, ↓sv_isi_i, ↓sv_sortk_i, ↓sv_mink_i, ↓sv_meth_i, ↓sv_fld_i, ↓sv_pcall_i, ↓sv_new_i, ↓sv_prop_i, ↓sv_obj_i, ↓sv_isc_i, ↓sv_obin_i, ↓sv_oeq_i, ↓sv_last_i, ↓sv_chain_i, ↓sv_lc_i,
  ↓sv_lc2_i, ↓si_seq_i, ↓si_rng1_i, ↓si_rng2_i, ↓si_enum_i, ↓si_zip_i, ↓sc_none_i, ↓sc_some_i, ↓sat_onE_i, ↓sat_ok_i, ↓sat_bind_i, OS_some_i, BS_bool_i, IS_int_i, LS_list_i, IfS_true_i, IfS_false_i, Let1_go_i, mix_nil,
  mix_val, mix_un, mix_own, mix_so, fix_so, frz_so, mix_sx, fix_sx, frz_sx, fix_nil, fix_val, fix_un, fix_own, frz_nil, frz_val, frz_un, frz_own, fx_bool, fx_int, fx_str, fx_none, fx_iT, fx, noLf_int, noLf_bool, noLf_str, noLf_none, noLf_tup, noLf_list, noLs_ones, noLs_strs, noLs_strs', noLg_int, noLg_bool, noLg_str, noLg_none, noLg_tup, noLg_list, fxL, io_var, iox_var, pli_var, plin_var, io_cst, iox_cst, pli_cst, plin_cst, io_tup, iox_tup, pli_tup, io_lst, iox_lst, pli_lst, io_bin, iox_bin, pli_bin, plin_bin, io_neg, iox_neg, io_cmp, iox_cmp, pli_cmp, io_isn, iox_isn, pli_isn, io_notn, iox_notn, pli_notn, io_chain, iox_chain, pli_chain, io_and, iox_and, pli_and, io_or, iox_or, pli_or, io_not, iox_not, pli_not, io_ite, iox_ite, pli_ite, iox_ix, pli_ix, plin_ix, io_sl, iox_sl, pli_sl, io_rev, iox_rev, pli_rev, io_call, iox_call, pli_call, io_bi, iox_bi, pli_bi, plin_bi, io_isi, iox_isi, pli_isi, io_sortk, iox_sortk, pli_sortk, io_mink, iox_mink, pli_mink, io_meth, io_fld, io_pcall, io_new, io_prop, io_obj, io_isc, io_last, io_callk, io_obin, io_ocmp, io_newk, io_mkx, io_isx, io_xfl, iox_meth, iox_fld, iox_pcall, iox_new, iox_prop, iox_obj, iox_isc, iox_last, iox_callk, iox_obin, iox_ocmp, iox_newk, iox_mkx, iox_isx, iox_xfl, pli_meth, pli_fld, pli_pcall, pli_new, pli_prop, pli_obj, pli_isc, pli_last, pli_callk, pli_obin, pli_ocmp, pli_newk, pli_mkx, pli_isx, pli_xfl, io_lc, iox_lc, pli_lc, io_lc2, iox_lc2, pli_lc2, icb_abs, icb_all, icb_any, icb_int, icb_len, icb_list, icb_max, icb_max2, icb_min, icb_min2, icb_repr, icb_sorted, icb_str, icb_sum, icb_tuple, icb_maxd, icb_minkd, icb_lrng, icb_sset, ic_var, pl_var, ic_cst, pl_cst, ic_tup, pl_tup, ic_lst, pl_lst, ic_bin, pl_bin, ic_neg, pl_neg, ic_cmp, pl_cmp, ic_isn, pl_isn, ic_notn, pl_notn, ic_chain, pl_chain, ic_and, pl_and, ic_or, pl_or, ic_not, pl_not, ic_ite, pl_ite, ic_ix, pl_ix, ic_sl, pl_sl, ic_rev, pl_rev, ic_call, pl_call, pl_bi, ic_isi, pl_isi, ic_sortk, pl_sortk, ic_mink, pl_mink, ic_meth, ic_fld, ic_pcall, ic_new, ic_prop, ic_obj, ic_isc, ic_last, ic_callk, ic_obin, ic_ocmp, ic_newk, ic_mkx, ic_isx, ic_xfl, pl_meth, pl_fld, pl_pcall, pl_new, pl_prop, pl_obj, pl_isc, pl_last, pl_callk, pl_obin, pl_ocmp, pl_newk, pl_mkx, pl_isx, pl_xfl, ic_lc, pl_lc, ic_lc2, pl_lc2, noL, ite_self, PX.at, PIt.at, PX.uses, PX.usess, PX.useso, PIt.uses,
  PX.freshy, ownAt_succ, ownAt_zero, sz0, sz1, sz2, sz3, sz4, sz5, sz6, sz7, sz8, sz9, zero_row, Nat.reduceBEq, Nat.reduceEqDiff, Bool.or_false, Bool.false_and, Bool.true_and, Bool.and_false, Bool.and_true, Bool.false_or, Bool.or_true, Bool.true_or, beq_self_eq_true, Nat.reduceAdd, q_add, q_sub, q_mul_i, q_fdiv_i, q_mod_i, q_pow_i, q_lt,
  q_le, q_gt, q_ge, q_eq_i, q_ne_i, q_inL_i, q_inT_i, q_ninL_i, q_ninT_i, shaped_int, shaped_iT, shaped_bool, shaped_none, eqv_int, eqv_iT, eqv_bool, eqv_ss, q_int, q_intb, q_abs, q_max2, q_min2, q_lenL, q_lenT, q_tupL, q_tupT,
  q_listT, q_listL, q_all_i, q_any_i, q_maxd_i, q_lrng1_i, q_lrng2_i, q_ints_i, q_max_i, q_min_i, q_sumL_i, q_sumT_i, q_sortL_i, q_sortT_i, q_repr_i, q_minkd_i, q_addT_i, q_addL_i, q_addS_i, q_mulS_i, q_mulT_i, q_mulL_i, q_maxT_i, q_minT_i, untup_T, untup_L, q_slT, q_slL, q_revL, q_revT, q_dk0, q_dk1, q_dk2, q_dk3,
  q_ixL, q_ixT, q_set1, q_set2, q_set3, q_zipT, q_zipL, q_zipTL, q_zipLT, q_itT, q_itL, atI0, atI1, atI2, atIL, zipD_map, enumD_map, rngD_map, Int.sub_zero, Int.zero_add, Int.toNat_natCast, cutL_map, bools_map,
  bools_mapf, ints_map, ints_mapf, isNone_0, isNone_tup, isNone_list, isNone_int, isNone_bool, isNone_str, isi_tup1, isi_tup2, isi_tup3, isi_tup4, isi_tup5, isi_tup6, isi_int1, isi_int2, isi_int3, isi_int4, isi_int5, isi_int6, isi_bool1, isi_bool2, isi_bool3, isi_bool4, isi_bool5, isi_bool6, setT_one, setT_two, setT_three, setS_one,
  setS_two, setS_three, tgSl, wipeE, Option.join_some, List.getElem?_cons_succ, List.getElem?_cons_zero, List.set_cons_succ, List.set_cons_zero, List.take_succ_cons, List.take_zero, List.drop_succ_cons, List.drop_zero, if_true, Bool.false_eq_true, if_false, List.map_cons, List.map_nil,
  List.replicate, List.cons_append, List.nil_append, Nat.reduceSub, true_and, and_true, List.length_cons, List.length_nil, List.length_map, Bool.not_true, Bool.not_false, Bool.not_not])
local macro_rules | `(tactic| walk_at "w") => `(tactic| try walk_at "sw")
def clsesM (c : Str) : List Bool := [exIs c (Str.ofString "BadHeap"), exIs c (Str.ofString "NoRoom"), exIs c (Str.ofString "NotHeld"), exIs c (Str.ofString "NoHeap"), exIs c (Str.ofString "NoCorner"), exIs c (Str.ofString "NothingDone"), exIs c (Str.ofString "BadText"), exIs c (Str.ofString "HeapError"), exIs c (Str.ofString "ValueError")]
theorem isx_ex {c d : Str} {ds : List D} : isxD d (exD c ds) = some (exIs c d) := rfl
theorem classes_sp {n : Nat} {c : Str} {ds : List D} {s : Dk} {p : D → Dk → Prop} (h : p (.list ((clsesM c).map .bool)) s) : Sat (callF T PF (n + 1) 152 [exD c ds] s) p := by
  rw [sat_call (d := fd__law_classes) rfl rfl]
  simp only [fd__law_classes]
  walk_at "sw"
  iterate 9 (refine OS_of isx_ex ?_; walk_at "w")
  exact h
end CH

set_option Elab.async false
set_option linter.all false
set_option maxRecDepth 100000
set_option maxHeartbeats 400000
/-! the law k04 -/
namespace CH
open PySem
local macro_rules | `(tactic| walk_at "sw") => `(tactic| simp only [↓sat_in, ↓satS_in, ↓os_in, ↓bs_in, ↓is_in, ↓ls_in, ↓strS_in, ↓StrS_str_i, ↓if_in, ↓let_in, ↓ss_nil_i, ↓ss_cons_i, ↓ss_set_i, ↓ss_own_i, ↓ss_if_i, ↓ss_ret_i, ↓ss_retN_i, ↓ss_pass_i, ↓ss_cont_i, ↓ss_unp_i, ↓ss_dset_i, ↓ss_app_i, ↓ss_lset_i, pIx_var, pIx_cst, pIx_neg, pAt_succ, pAt_zero, ↓ss_ext_i,
  ↓ss_pop_i, ↓ss_parP_i, ↓ss_drop_i, ↓ss_par_i, ↓sp_nil_i, ↓sp_cons_i, ↓ss_for_i, ↓ss_while_i, slot_val, slot_own, setAll_nil, setAll_cons, ↓sv_var_i, ↓sv_cst_i, ↓sv_nil_i, ↓sv_cons_i, ↓sv_tup_i, ↓sv_lst_i, ↓sv_bin_i, ↓sv_neg_i,
  ↓sv_cmp_i, ↓sv_isn_i, ↓sv_notn_i, ↓sv_and_i, ↓sv_or_i, ↓sv_not_i, ↓sv_ite_i, ↓sv_ix_i, ↓sv_sl_i, ↓sv_rev_i, ↓so_none_i, ↓so_some_i, ↓sv_call_i, ↓sv_callk_i, ↓sv_newk_i, ↓sv_mkx_i, ↓sv_isx_i, ↓sv_xfl_i, perm1, perm2, ↓sv_bi_i, ↓sv_isi_i, ↓sv_sortk_i, ↓sv_mink_i, ↓sv_meth_i, ↓sv_fld_i, ↓sv_pcall_i, ↓sv_new_i, ↓sv_prop_i, ↓sv_obj_i, ↓sv_isc_i, ↓sv_obin_i, ↓sv_oeq_i, ↓sv_last_i, ↓sv_chain_i, ↓sv_lc_i,
  ↓sv_lc2_i, ↓si_seq_i, ↓si_rng1_i, ↓si_rng2_i, ↓si_enum_i, ↓si_zip_i, ↓sc_none_i, ↓sc_some_i, ↓sat_onE_i, ↓sat_ok_i, ↓sat_bind_i, OS_some_i, BS_bool_i, IS_int_i, LS_list_i, IfS_true_i, IfS_false_i, Let1_go_i, mix_nil,
  mix_val, mix_un, mix_own, mix_so, fix_so, frz_so, mix_sx, fix_sx, frz_sx, fix_nil, fix_val, fix_un, fix_own, frz_nil, frz_val, frz_un, frz_own, fx_bool, fx_int, fx_str, fx_none, fx_iT, fx, noLf_int, noLf_bool, noLf_str, noLf_none, noLf_tup, noLf_list, noLs_ones, noLs_strs, noLs_strs', noLg_int, noLg_bool, noLg_str, noLg_none, noLg_tup, noLg_list, fxL, io_var, iox_var, pli_var, plin_var, io_cst, iox_cst, pli_cst, plin_cst, io_tup, iox_tup, pli_tup, io_lst, iox_lst, pli_lst, io_bin, iox_bin, pli_bin, plin_bin, io_neg, iox_neg, io_cmp, iox_cmp, pli_cmp, io_isn, iox_isn, pli_isn, io_notn, iox_notn, pli_notn, io_chain, iox_chain, pli_chain, io_and, iox_and, pli_and, io_or, iox_or, pli_or, io_not, iox_not, pli_not, io_ite, iox_ite, pli_ite, iox_ix, pli_ix, plin_ix, io_sl, iox_sl, pli_sl, io_rev, iox_rev, pli_rev, io_call, iox_call, pli_call, io_bi, iox_bi, pli_bi, plin_bi, io_isi, iox_isi, pli_isi, io_sortk, iox_sortk, pli_sortk, io_mink, iox_mink, pli_mink, io_meth, io_fld, io_pcall, io_new, io_prop, io_obj, io_isc, io_last, io_callk, io_obin, io_ocmp, io_newk, io_mkx, io_isx, io_xfl, iox_meth, iox_fld, iox_pcall, iox_new, iox_prop, iox_obj, iox_isc, iox_last, iox_callk, iox_obin, iox_ocmp, iox_newk, iox_mkx, iox_isx, iox_xfl, pli_meth, pli_fld, pli_pcall, pli_new, pli_prop, pli_obj, pli_isc, pli_last, pli_callk, pli_obin, pli_ocmp, pli_newk, pli_mkx, pli_isx, pli_xfl, io_lc, iox_lc, pli_lc, io_lc2, iox_lc2, pli_lc2, icb_abs, icb_all, icb_any, icb_int, icb_len, icb_list, icb_max, icb_max2, icb_min, icb_min2, icb_repr, icb_sorted, icb_str, icb_sum, icb_tuple, icb_maxd, icb_minkd, icb_lrng, icb_sset, ic_var, pl_var, ic_cst, pl_cst, ic_tup, pl_tup, ic_lst, pl_lst, ic_bin, pl_bin, ic_neg, pl_neg, ic_cmp, pl_cmp, ic_isn, pl_isn, ic_notn, pl_notn, ic_chain, pl_chain, ic_and, pl_and, ic_or, pl_or, ic_not, pl_not, ic_ite, pl_ite, ic_ix, pl_ix, ic_sl, pl_sl, ic_rev, pl_rev, ic_call, pl_call, pl_bi, ic_isi, pl_isi, ic_sortk, pl_sortk, ic_mink, pl_mink, ic_meth, ic_fld, ic_pcall, ic_new, ic_prop, ic_obj, ic_isc, ic_last, ic_callk, ic_obin, ic_ocmp, ic_newk, ic_mkx, ic_isx, ic_xfl, pl_meth, pl_fld, pl_pcall, pl_new, pl_prop, pl_obj, pl_isc, pl_last, pl_callk, pl_obin, pl_ocmp, pl_newk, pl_mkx, pl_isx, pl_xfl, ic_lc, pl_lc, ic_lc2, pl_lc2, noL, ite_self, PX.at, PIt.at, PX.uses, PX.usess, PX.useso, PIt.uses,
  PX.freshy, ownAt_succ, ownAt_zero, sz0, sz1, sz2, sz3, sz4, sz5, sz6, sz7, sz8, sz9, zero_row, Nat.reduceBEq, Nat.reduceEqDiff, Bool.or_false, Bool.false_and, Bool.true_and, Bool.and_false, Bool.and_true, Bool.false_or, Bool.or_true, Bool.true_or, beq_self_eq_true, Nat.reduceAdd, q_add, q_sub, q_mul_i, q_fdiv_i, q_mod_i, q_pow_i, q_lt,
  q_le, q_gt, q_ge, q_eq_i, q_ne_i, q_inL_i, q_inT_i, q_ninL_i, q_ninT_i, shaped_int, shaped_iT, shaped_bool, shaped_none, eqv_int, eqv_iT, eqv_bool, eqv_ss, q_int, q_intb, q_abs, q_max2, q_min2, q_lenL, q_lenT, q_tupL, q_tupT,
  q_listT, q_listL, q_all_i, q_any_i, q_maxd_i, q_lrng1_i, q_lrng2_i, q_ints_i, q_max_i, q_min_i, q_sumL_i, q_sumT_i, q_sortL_i, q_sortT_i, q_repr_i, q_minkd_i, q_addT_i, q_addL_i, q_addS_i, q_mulS_i, q_mulT_i, q_mulL_i, q_maxT_i, q_minT_i, untup_T, untup_L, q_slT, q_slL, q_revL, q_revT, q_dk0, q_dk1, q_dk2, q_dk3,
  q_ixL, q_ixT, q_set1, q_set2, q_set3, q_zipT, q_zipL, q_zipTL, q_zipLT, q_itT, q_itL, atI0, atI1, atI2, atIL, zipD_map, enumD_map, rngD_map, Int.sub_zero, Int.zero_add, Int.toNat_natCast, cutL_map, bools_map,
  bools_mapf, ints_map, ints_mapf, isNone_0, isNone_tup, isNone_list, isNone_int, isNone_bool, isNone_str, isi_tup1, isi_tup2, isi_tup3, isi_tup4, isi_tup5, isi_tup6, isi_int1, isi_int2, isi_int3, isi_int4, isi_int5, isi_int6, isi_bool1, isi_bool2, isi_bool3, isi_bool4, isi_bool5, isi_bool6, setT_one, setT_two, setT_three, setS_one,
  setS_two, setS_three, tgSl, wipeE, Option.join_some, List.getElem?_cons_succ, List.getElem?_cons_zero, List.set_cons_succ, List.set_cons_zero, List.take_succ_cons, List.take_zero, List.drop_succ_cons, List.drop_zero, if_true, Bool.false_eq_true, if_false, List.map_cons, List.map_nil,
  List.replicate, List.cons_append, List.nil_append, Nat.reduceSub, true_and, and_true, List.length_cons, List.length_nil, List.length_map, Bool.not_true, Bool.not_false, Bool.not_not])
local macro_rules | `(tactic| walk_at "w") => `(tactic| try walk_at "sw")
theorem bud0 (cells : List Int) : Bud ⟨cells, 0, 0, 0⟩ 1000000000 := ⟨Int.le_refl 0, by decide, by show (0 : Int) + 1000000000 ≤ 2 ^ 30; decide⟩
end CH

set_option Elab.async false
set_option linter.all false
set_option maxRecDepth 100000
set_option maxHeartbeats 400000
/-! the law k34 -/
namespace CH
open PySem
local macro_rules | `(tactic| walk_at "sw") => `(tactic| simp only [↓sat_in, ↓satS_in, ↓os_in, ↓bs_in, ↓is_in, ↓ls_in, ↓strS_in, ↓StrS_str_i, ↓if_in, ↓let_in, ↓ss_nil_i, ↓ss_cons_i, ↓ss_set_i, ↓ss_own_i, ↓ss_if_i, ↓ss_ret_i, ↓ss_retN_i, ↓ss_pass_i, ↓ss_cont_i, ↓ss_unp_i, ↓ss_dset_i, ↓ss_app_i, ↓ss_lset_i, pIx_var, pIx_cst, pIx_neg, pAt_succ, pAt_zero, ↓ss_ext_i,
  ↓ss_pop_i, ↓ss_parP_i, ↓ss_drop_i, ↓ss_par_i, ↓sp_nil_i, ↓sp_cons_i, ↓ss_for_i, ↓ss_while_i, slot_val, slot_own, setAll_nil, setAll_cons, ↓sv_var_i, ↓sv_cst_i, ↓sv_nil_i, ↓sv_cons_i, ↓sv_tup_i, ↓sv_lst_i, ↓sv_bin_i, ↓sv_neg_i,
  ↓sv_cmp_i, ↓sv_isn_i, ↓sv_notn_i, ↓sv_and_i, ↓sv_or_i, ↓sv_not_i, ↓sv_ite_i, ↓sv_ix_i, ↓sv_sl_i, ↓sv_rev_i, ↓so_none_i, ↓so_some_i, ↓sv_call_i, ↓sv_callk_i, ↓sv_newk_i, ↓sv_mkx_i, ↓sv_isx_i, ↓sv_xfl_i, perm1, perm2, ↓sv_bi_i, ↓sv_isi_i, ↓sv_sortk_i, ↓sv_mink_i, ↓sv_meth_i, ↓sv_fld_i, ↓sv_pcall_i, ↓sv_new_i, ↓sv_prop_i, ↓sv_obj_i, ↓sv_isc_i, ↓sv_obin_i, ↓sv_oeq_i, ↓sv_last_i, ↓sv_chain_i, ↓sv_lc_i,
  ↓sv_lc2_i, ↓si_seq_i, ↓si_rng1_i, ↓si_rng2_i, ↓si_enum_i, ↓si_zip_i, ↓sc_none_i, ↓sc_some_i, ↓sat_onE_i, ↓sat_ok_i, ↓sat_bind_i, OS_some_i, BS_bool_i, IS_int_i, LS_list_i, IfS_true_i, IfS_false_i, Let1_go_i, mix_nil,
  mix_val, mix_un, mix_own, mix_so, fix_so, frz_so, mix_sx, fix_sx, frz_sx, fix_nil, fix_val, fix_un, fix_own, frz_nil, frz_val, frz_un, frz_own, fx_bool, fx_int, fx_str, fx_none, fx_iT, fx, noLf_int, noLf_bool, noLf_str, noLf_none, noLf_tup, noLf_list, noLs_ones, noLs_strs, noLs_strs', noLg_int, noLg_bool, noLg_str, noLg_none, noLg_tup, noLg_list, fxL, io_var, iox_var, pli_var, plin_var, io_cst, iox_cst, pli_cst, plin_cst, io_tup, iox_tup, pli_tup, io_lst, iox_lst, pli_lst, io_bin, iox_bin, pli_bin, plin_bin, io_neg, iox_neg, io_cmp, iox_cmp, pli_cmp, io_isn, iox_isn, pli_isn, io_notn, iox_notn, pli_notn, io_chain, iox_chain, pli_chain, io_and, iox_and, pli_and, io_or, iox_or, pli_or, io_not, iox_not, pli_not, io_ite, iox_ite, pli_ite, iox_ix, pli_ix, plin_ix, io_sl, iox_sl, pli_sl, io_rev, iox_rev, pli_rev, io_call, iox_call, pli_call, io_bi, iox_bi, pli_bi, plin_bi, io_isi, iox_isi, pli_isi, io_sortk, iox_sortk, pli_sortk, io_mink, iox_mink, pli_mink, io_meth, io_fld, io_pcall, io_new, io_prop, io_obj, io_isc, io_last, io_callk, io_obin, io_ocmp, io_newk, io_mkx, io_isx, io_xfl, iox_meth, iox_fld, iox_pcall, iox_new, iox_prop, iox_obj, iox_isc, iox_last, iox_callk, iox_obin, iox_ocmp, iox_newk, iox_mkx, iox_isx, iox_xfl, pli_meth, pli_fld, pli_pcall, pli_new, pli_prop, pli_obj, pli_isc, pli_last, pli_callk, pli_obin, pli_ocmp, pli_newk, pli_mkx, pli_isx, pli_xfl, io_lc, iox_lc, pli_lc, io_lc2, iox_lc2, pli_lc2, icb_abs, icb_all, icb_any, icb_int, icb_len, icb_list, icb_max, icb_max2, icb_min, icb_min2, icb_repr, icb_sorted, icb_str, icb_sum, icb_tuple, icb_maxd, icb_minkd, icb_lrng, icb_sset, ic_var, pl_var, ic_cst, pl_cst, ic_tup, pl_tup, ic_lst, pl_lst, ic_bin, pl_bin, ic_neg, pl_neg, ic_cmp, pl_cmp, ic_isn, pl_isn, ic_notn, pl_notn, ic_chain, pl_chain, ic_and, pl_and, ic_or, pl_or, ic_not, pl_not, ic_ite, pl_ite, ic_ix, pl_ix, ic_sl, pl_sl, ic_rev, pl_rev, ic_call, pl_call, pl_bi, ic_isi, pl_isi, ic_sortk, pl_sortk, ic_mink, pl_mink, ic_meth, ic_fld, ic_pcall, ic_new, ic_prop, ic_obj, ic_isc, ic_last, ic_callk, ic_obin, ic_ocmp, ic_newk, ic_mkx, ic_isx, ic_xfl, pl_meth, pl_fld, pl_pcall, pl_new, pl_prop, pl_obj, pl_isc, pl_last, pl_callk, pl_obin, pl_ocmp, pl_newk, pl_mkx, pl_isx, pl_xfl, ic_lc, pl_lc, ic_lc2, pl_lc2, noL, ite_self, PX.at, PIt.at, PX.uses, PX.usess, PX.useso, PIt.uses,
  PX.freshy, ownAt_succ, ownAt_zero, sz0, sz1, sz2, sz3, sz4, sz5, sz6, sz7, sz8, sz9, zero_row, Nat.reduceBEq, Nat.reduceEqDiff, Bool.or_false, Bool.false_and, Bool.true_and, Bool.and_false, Bool.and_true, Bool.false_or, Bool.or_true, Bool.true_or, beq_self_eq_true, Nat.reduceAdd, q_add, q_sub, q_mul_i, q_fdiv_i, q_mod_i, q_pow_i, q_lt,
  q_le, q_gt, q_ge, q_eq_i, q_ne_i, q_inL_i, q_inT_i, q_ninL_i, q_ninT_i, shaped_int, shaped_iT, shaped_bool, shaped_none, eqv_int, eqv_iT, eqv_bool, eqv_ss, q_int, q_intb, q_abs, q_max2, q_min2, q_lenL, q_lenT, q_tupL, q_tupT,
  q_listT, q_listL, q_all_i, q_any_i, q_maxd_i, q_lrng1_i, q_lrng2_i, q_ints_i, q_max_i, q_min_i, q_sumL_i, q_sumT_i, q_sortL_i, q_sortT_i, q_repr_i, q_minkd_i, q_addT_i, q_addL_i, q_addS_i, q_mulS_i, q_mulT_i, q_mulL_i, q_maxT_i, q_minT_i, untup_T, untup_L, q_slT, q_slL, q_revL, q_revT, q_dk0, q_dk1, q_dk2, q_dk3,
  q_ixL, q_ixT, q_set1, q_set2, q_set3, q_zipT, q_zipL, q_zipTL, q_zipLT, q_itT, q_itL, atI0, atI1, atI2, atIL, zipD_map, enumD_map, rngD_map, Int.sub_zero, Int.zero_add, Int.toNat_natCast, cutL_map, bools_map,
  bools_mapf, ints_map, ints_mapf, isNone_0, isNone_tup, isNone_list, isNone_int, isNone_bool, isNone_str, isi_tup1, isi_tup2, isi_tup3, isi_tup4, isi_tup5, isi_tup6, isi_int1, isi_int2, isi_int3, isi_int4, isi_int5, isi_int6, isi_bool1, isi_bool2, isi_bool3, isi_bool4, isi_bool5, isi_bool6, setT_one, setT_two, setT_three, setS_one,
  setS_two, setS_three, tgSl, wipeE, Option.join_some, List.getElem?_cons_succ, List.getElem?_cons_zero, List.set_cons_succ, List.set_cons_zero, List.take_succ_cons, List.take_zero, List.drop_succ_cons, List.drop_zero, if_true, Bool.false_eq_true, if_false, List.map_cons, List.map_nil,
  List.replicate, List.cons_append, List.nil_append, Nat.reduceSub, true_and, and_true, List.length_cons, List.length_nil, List.length_map, Bool.not_true, Bool.not_false, Bool.not_not])
local macro_rules | `(tactic| walk_at "w") => `(tactic| try walk_at "sw")
def lawB_k34 : List PSm := [.for_ (.one 2) (.rng1 (.cst (.int 4))) [.par [(3, false), (4, false)] [(.call 69 [(.var 1)]), (.call 3 [(.var 1), (.cst (.int 1000))])], .set 5 (.lst [(.mkx (Str.ofString "BadHeap") [(.var 4)]), (.mkx (Str.ofString "NoRoom") []), (.mkx (Str.ofString "NotHeld") [(.var 4)]), (.mkx (Str.ofString "NoHeap") []), (.mkx (Str.ofString "NoCorner") []), (.mkx (Str.ofString "NothingDone") []), (.mkx (Str.ofString "BadText") [(.var 4), (.var 3)])]), .for_ (.one 6) (.rng1 (.cst (.int 7))) [.if_ (.cmp .NotEq (.call 152 [(.ix (.var 5) (.var 6))]) (.bin .Add (.lc (.one 7) (.rng1 (.cst (.int 7))) none (.cmp .Eq (.var 7) (.var 6))) (.lst [(.cst (.bool true)), (.cst (.bool true))]))) [.ret (.cst (.bool false))] []], .if_ (.cmp .NotEq (.bi .repr [(.lst [(.xfl (.ix (.var 5) (.cst (.int 0))) (Str.ofString "number")), (.xfl (.ix (.var 5) (.cst (.int 2))) (Str.ofString "number")), (.xfl (.ix (.var 5) (.cst (.int 6))) (Str.ofString "line")), (.xfl (.ix (.var 5) (.cst (.int 6))) (Str.ofString "word"))])]) (.bi .repr [(.lst [(.var 4), (.var 4), (.var 4), (.var 3)])])) [.ret (.cst (.bool false))] []],
  .ret (.cst (.bool true))]
def madeM (q : Int) (a : D) : List D := [exD "BadHeap" [.int q], exD "NoRoom" [], exD "NotHeld" [.int q], exD "NoHeap" [], exD "NoCorner" [], exD "NothingDone" [], exD "BadText" [.int q, a]]
theorem bools34 : ∀ i : Nat, i < 7 → SeqAt.shaped (PyData.list (List.map PyData.bool (List.map (fun k : Nat => decide ((k : Int) = (i : Int))) (List.range 7) ++ [true, true]))) = true ∧
    PyData.eqv (PyData.list (List.map PyData.bool (List.map (fun k : Nat => decide ((k : Int) = (i : Int))) (List.range 7) ++ [true, true]))) (PyData.list (List.map PyData.bool (List.map (fun k : Nat => decide ((k : Int) = (i : Int))) (List.range 7) ++ [true, true]))) = true := by decide +kernel
theorem law_runs_k34 (cells : List Int) : ∃ s', runs (callF T PF 11) lawB_k34 (.un :: .val dkD :: List.replicate 6 .un) ⟨cells, 0, 0, 0⟩ = .rt (.bool true) s' := by
  refine law_end ?_
  simp only [lawB_k34]
  have hb := bud0 cells
  generalize (⟨cells, 0, 0, 0⟩ : Dk) = s at hb
  walk_at "sw"
  refine ⟨by decide, ?_⟩
  refine for0 (fun i ρ s => (∃ d2 d3 d4 d5 d6, ρ = [.un, .val dkD, so d2, so d3, so d4, so d5, so d6, .un]) ∧ Bud s (1000000 * (4 - i))) ⟨⟨none, none, none, none, none, rfl⟩, hb.le (by decide) (by decide)⟩ (fun i x ρ s hx hi => ?_) fun ρ s hi => ?_
  · obtain ⟨⟨d2, d3, d4, d5, d6, rfl⟩, hb⟩ := hi
    obtain ⟨rfl, hi⟩ := range_get hx
    have hi : x < 4 := hi
    refine ⟨_, rfl, ?_⟩
    walk_at "sw"
    refine odd_sp (n := 8) (b := 1000000 * (4 - x) - 10) (hb.le (by omega) (by omega)) (by omega) fun a s1 ha hb1 => ?_
    obtain ⟨oa, da, wa⟩ := oddL_ok a ha
    walk_at "sw"
    refine draw_sp (n := 10) (b := 1000000 * (4 - x) - 20) (by decide) (by decide) (hb1.le (by omega) (by omega)) (by omega) fun q s2 q0 q1 hb2 => ?_
    walk_at "sw"
    refine ⟨by decide +kernel, by decide +kernel, by decide +kernel, by decide +kernel, by decide +kernel, by decide +kernel, by decide +kernel, by decide, ?_⟩
    have hM : ∀ i, i < 7 → ∃ c ds, L2.atI (madeM q a) ((i : Nat) : Int) = some (exD c ds) ∧ clsesM c = ((List.range 7).map fun k : Nat => decide ((k : Int) = (i : Int))) ++ [true, true] := fun i hi => by
      match i, hi with
      | 0, _ => exact ⟨_, _, rfl, by decide +kernel⟩
      | 1, _ => exact ⟨_, _, rfl, by decide +kernel⟩
      | 2, _ => exact ⟨_, _, rfl, by decide +kernel⟩
      | 3, _ => exact ⟨_, _, rfl, by decide +kernel⟩
      | 4, _ => exact ⟨_, _, rfl, by decide +kernel⟩
      | 5, _ => exact ⟨_, _, rfl, by decide +kernel⟩
      | 6, _ => exact ⟨_, _, rfl, by decide +kernel⟩
    refine forC (fun ρ s => s = s2 ∧ ∃ d6, ρ = [.un, .val dkD, .val (.int x), .val a, .val (.int q), .val (.list (madeM q a)), so d6, .un]) ⟨rfl, d6, rfl⟩ (fun i ρ s hi2 hI => ?_) fun ρ s hI => ?_
    · obtain ⟨rfl, d6, rfl⟩ := hI
      have hi2 : i < 7 := by simpa using hi2
      obtain ⟨c, ds, e1, e2⟩ := hM i hi2
      refine ⟨_, rfl, ?_⟩
      walk_at "sw"
      refine OS_of e1 ?_
      walk_at "w"
      refine classes_sp (n := 10) ?_
      rw [e2]
      walk_at "w"
      refine ⟨by decide, ?_⟩
      refine lc_mapN (g := fun k : Nat => PyData.bool (decide ((k : Int) = (i : Int)))) (fun k hk => by walk_at "w") ?_
      walk_at "w"
      obtain ⟨f1, f2⟩ := bools34 i hi2
      refine ⟨szw (by decide), szl (by decide), ⟨f1, f1⟩, ?_⟩
      rw [show (!PyData.eqv (PyData.list (List.map PyData.bool (List.map (fun k : Nat => decide ((k : Int) = (i : Int))) (List.range 7) ++ [true, true]))) (PyData.list (List.map (fun k : Nat => PyData.bool (decide ((k : Int) = (i : Int)))) (List.range (Int.toNat 7)) ++ [PyData.bool true, PyData.bool true]))) = false from by
        rw [Bool.not_eq_false']; exact f2]
      walk_at "w"
      exact ⟨some _, rfl⟩
    · obtain ⟨rfl, d6, rfl⟩ := hI
      walk_at "sw"
      refine OS_of rfl ?_
      walk_at "w"
      refine OS_of rfl ?_
      walk_at "w"
      refine OS_of rfl ?_
      walk_at "w"
      refine OS_of rfl ?_
      walk_at "w"
      refine OS_of rfl ?_
      walk_at "w"
      refine OS_of rfl ?_
      walk_at "w"
      refine OS_of rfl ?_
      walk_at "w"
      refine OS_of rfl ?_
      walk_at "w"
      have n1 : Nc 3 10000 (.int q) := (Nc.int (log2_small q0 (Int.lt_trans q1 (by decide)))).mono (by decide) (by decide)
      have nl : Nc 4 50000 (.list [.int q, .int q, .int q, a]) := (Nc.lst (n := 3) (w := 10000) fun d hd => by
        simp only [List.mem_cons, List.mem_nil_iff, or_false] at hd
        rcases hd with e | e | e | e
        · rw [e]; exact n1
        · rw [e]; exact n1
        · rw [e]; exact n1
        · rw [e]; exact nc_ok oa da wa).mono (by decide) (by show 4 * (10000 + 2) + 3 ≤ 50000; decide)
      exact ⟨nl.rp (by decide) (szw (by decide)), nl.rp (by decide) (szw (by decide)), ⟨nl.shs, nl.shs⟩, ⟨some _, some _, some _, some _, d6, rfl⟩, hb2.le (by omega) (by omega)⟩
  · obtain ⟨⟨d2, d3, d4, d5, d6, rfl⟩, hb⟩ := hi
    walk_at "sw"
end CH

set_option maxHeartbeats 4000000
namespace CH
open PySem L2 PyProof.Rows
def topS (i : Nat) : Stmt := PySem.Challenge.pw_cornerheaps_k34_errors_made_by_hand.main.body.getD i (.Pass ⟨0, 0, 0, 0⟩)
def fsT : List (Str × Nat) := [(("_law_draw" : Str), 3), (("_law_one" : Str), 4), (("_law_odd" : Str), 69), (("_law_classes" : Str), 152)]
def pgT : Pg := ⟨fsT, [], false, ["HeapError", "BadHeap", "NoRoom", "NotHeld", "NoHeap", "NoCorner", "NothingDone", "BadText"], ⟨[], [], [], [], [], none, [], [], [], ["HeapError", "BadHeap", "NoRoom", "NotHeld", "NoHeap", "NoCorner", "NothingDone", "BadText"]⟩⟩
theorem sc__law_draw : FnScope ["_law_deck_here", "_law_many", "_law_found", "_law_cell", "_law_mixed"] ["_law_deck_here", "_law_many"] (defScope (topS 11)) := ⟨rfl, rfl, rfl, by decide +kernel, rfl, by decide +kernel, by decide +kernel⟩
theorem sc__law_one : FnScope ["_law_deck_here", "_law_items"] ["_law_deck_here", "_law_items"] (defScope (topS 12)) := ⟨rfl, rfl, rfl, by decide +kernel, rfl, by decide +kernel, by decide +kernel⟩
theorem sc__law_odd : FnScope ["_law_deck_here", "_law_some"] ["_law_deck_here"] (defScope (topS 13)) := ⟨rfl, rfl, rfl, by decide +kernel, rfl, by decide +kernel, by decide +kernel⟩
theorem sc__law_classes : FnScope ["_law_e", "_law_some"] ["_law_e"] (defScope (topS 14)) := ⟨rfl, rfl, rfl, by decide +kernel, rfl, by decide +kernel, by decide +kernel⟩
theorem sc_law : FnScope ["_law_script", "_law_deck_here", "_law_turn", "_law_a", "_law_b", "_law_made", "_law_k", "_law_place"] ["_law_script"] (defScope (topS 15)) := ⟨rfl, rfl, rfl, by decide +kernel, rfl, by decide +kernel, by decide +kernel⟩
theorem sc__law_deck : FnScope ["_law_script"] ["_law_script"] (defScope (topS 10)) := ⟨rfl, rfl, rfl, by decide +kernel, rfl, by decide +kernel, by decide +kernel⟩
theorem sci1 : FnScope ["self", "number"] ["self", "number"] (defScope (clsInit (topS 2))) := ⟨rfl, rfl, rfl, by decide +kernel, rfl, by decide +kernel, by decide +kernel⟩
theorem sci3 : FnScope ["self", "number"] ["self", "number"] (defScope (clsInit (topS 4))) := ⟨rfl, rfl, rfl, by decide +kernel, rfl, by decide +kernel, by decide +kernel⟩
theorem sci7 : FnScope ["self", "line", "word"] ["self", "line", "word"] (defScope (clsInit (topS 8))) := ⟨rfl, rfl, rfl, by decide +kernel, rfl, by decide +kernel, by decide +kernel⟩
theorem tr__law_draw : mapO (cS 60 (pgT.cn ["_law_deck_here", "_law_many", "_law_found", "_law_cell", "_law_mixed"] (defScope (topS 11)) false) []) (defBody (topS 11)) = some fd__law_draw.body := by rfl
theorem tr__law_one : mapO (cS 60 (pgT.cn ["_law_deck_here", "_law_items"] (defScope (topS 12)) false) []) (defBody (topS 12)) = some fd__law_one.body := by rfl
theorem tr__law_odd : mapO (cS 60 (pgT.cn ["_law_deck_here", "_law_some"] (defScope (topS 13)) false) []) (defBody (topS 13)) = some fd__law_odd.body := by rfl
theorem tr__law_classes : mapO (cS 60 (pgT.cn ["_law_e", "_law_some"] (defScope (topS 14)) false) []) (defBody (topS 14)) = some fd__law_classes.body := by rfl
theorem tr_law : mapO (cS 60 (pgT.cn ["_law_script", "_law_deck_here", "_law_turn", "_law_a", "_law_b", "_law_made", "_law_k", "_law_place"] (defScope (topS 15)) false) []) (defBody (topS 15)).tail = some lawB_k34 := by rfl
theorem all_mk {l : PySem.W.OpenLaw} {w : World} {K : PySem.W.Frag} {h : Heap} {mg : Str → Option Value} {fa f0 f1 f2 f3 f4 f5 : Addr} (KX : K.In h) (G : h.Ns mainGlobals mg) (hfa : mg "law" = some (.ref fa))
    {od0 an0 od1 an1 od2 an2 od3 an3 od4 an4 od5 an5 : Option Addr} {sl0 sl1 sl2 sl3 sl4 sl5 : Array (Option Value)} {oc0 kV0 dc0 pm0 cd0 ct0 oc1 kV1 dc1 pm1 cd1 ct1 oc2 kV2 dc2 pm2 cd2 ct2 oc3 kV3 dc3 pm3 cd3 ct3 oc4 kV4 dc4 pm4 cd4 ct4 oc5 kV5 dc5 pm5 cd5 ct5 : Value}
    (a0 : PySem.W.nsIn K mainGlobals "_law_draw" = some (some (.ref f0))) (l0 : K.lookup f0 = some ⟨oc0, od0, .func (PySem.W.fnOf "_law_draw" "_law_draw" (defArgs (topS 11)) (defBody (topS 11)) (defScope (topS 11)) .none kV0 dc0 pm0 an0 cd0 ct0), sl0⟩) (c0 : PySem.W.codeIn K cd0 "_law_draw" = true) (k0 : PySem.W.keepIn K (.ref f0) = true)
    (a1 : PySem.W.nsIn K mainGlobals "_law_one" = some (some (.ref f1))) (l1 : K.lookup f1 = some ⟨oc1, od1, .func (PySem.W.fnOf "_law_one" "_law_one" (defArgs (topS 12)) (defBody (topS 12)) (defScope (topS 12)) .none kV1 dc1 pm1 an1 cd1 ct1), sl1⟩) (c1 : PySem.W.codeIn K cd1 "_law_one" = true) (k1 : PySem.W.keepIn K (.ref f1) = true)
    (a2 : PySem.W.nsIn K mainGlobals "_law_odd" = some (some (.ref f2))) (l2 : K.lookup f2 = some ⟨oc2, od2, .func (PySem.W.fnOf "_law_odd" "_law_odd" (defArgs (topS 13)) (defBody (topS 13)) (defScope (topS 13)) .none kV2 dc2 pm2 an2 cd2 ct2), sl2⟩) (c2 : PySem.W.codeIn K cd2 "_law_odd" = true) (k2 : PySem.W.keepIn K (.ref f2) = true)
    (a3 : PySem.W.nsIn K mainGlobals "_law_classes" = some (some (.ref f3))) (l3 : K.lookup f3 = some ⟨oc3, od3, .func (PySem.W.fnOf "_law_classes" "_law_classes" (defArgs (topS 14)) (defBody (topS 14)) (defScope (topS 14)) .none kV3 dc3 pm3 an3 cd3 ct3), sl3⟩) (c3 : PySem.W.codeIn K cd3 "_law_classes" = true) (k3 : PySem.W.keepIn K (.ref f3) = true)
    (a4 : PySem.W.nsIn K mainGlobals "law" = some (some (.ref f4))) (l4 : K.lookup f4 = some ⟨oc4, od4, .func (PySem.W.fnOf "law" "law" (defArgs (topS 15)) (defBody (topS 15)) (defScope (topS 15)) .none kV4 dc4 pm4 an4 cd4 ct4), sl4⟩) (c4 : PySem.W.codeIn K cd4 "law" = true) (k4 : PySem.W.keepIn K (.ref f4) = true)
    (a5 : PySem.W.nsIn K mainGlobals "_law_deck" = some (some (.ref f5))) (l5 : K.lookup f5 = some ⟨oc5, od5, .func (PySem.W.fnOf "_law_deck" "_law_deck" (defArgs (topS 10)) (defBody (topS 10)) (defScope (topS 10)) .none kV5 dc5 pm5 an5 cd5 ct5), sl5⟩) (c5 : PySem.W.codeIn K cd5 "_law_deck" = true) (k5 : PySem.W.keepIn K (.ref f5) = true)
    (z0 : PySem.W.nsIn K mainGlobals "len" = some none)
    (z1 : PySem.W.nsIn K mainGlobals "all" = some none)
    (z2 : PySem.W.nsIn K mainGlobals "any" = some none)
    (z3 : PySem.W.nsIn K mainGlobals "int" = some none)
    (z4 : PySem.W.nsIn K mainGlobals "abs" = some none)
    (z5 : PySem.W.nsIn K mainGlobals "list" = some none)
    (z6 : PySem.W.nsIn K mainGlobals "tuple" = some none)
    (z7 : PySem.W.nsIn K mainGlobals "sum" = some none)
    (z8 : PySem.W.nsIn K mainGlobals "max" = some none)
    (z9 : PySem.W.nsIn K mainGlobals "min" = some none)
    (z10 : PySem.W.nsIn K mainGlobals "sorted" = some none)
    (z11 : PySem.W.nsIn K mainGlobals "repr" = some none)
    (z12 : PySem.W.nsIn K mainGlobals "range" = some none)
    (z13 : PySem.W.nsIn K mainGlobals "enumerate" = some none)
    (z14 : PySem.W.nsIn K mainGlobals "zip" = some none)
    (z15 : PySem.W.nsIn K mainGlobals "isinstance" = some none)
    (z16 : PySem.W.nsIn K mainGlobals "bool" = some none)
    (z17 : PySem.W.nsIn K mainGlobals "str" = some none)
    (z18 : PySem.W.nsIn K mainGlobals "set" = some none)
    {g0 : Addr}
    {g1 : Addr}
    {nm1 qn1 : Str} {N1 : Addr} {bs1 : List Value} {sn1 : List Str} {sub1 : List Value} {ab1 : Bool} {col1 : Option Bool} {dd1 : Option Addr} {m0_1 m1_1 m2_1 m3_1 m5_1 : Option Value} {fi1 : Addr} {odi1 ani1 : Option Addr} {sli1 : Array (Option Value)} {oci1 dci1 pmi1 cdi1 cti1 : Value}
    {g2 : Addr}
    {g3 : Addr}
    {nm3 qn3 : Str} {N3 : Addr} {bs3 : List Value} {sn3 : List Str} {sub3 : List Value} {ab3 : Bool} {col3 : Option Bool} {dd3 : Option Addr} {m0_3 m1_3 m2_3 m3_3 m5_3 : Option Value} {fi3 : Addr} {odi3 ani3 : Option Addr} {sli3 : Array (Option Value)} {oci3 dci3 pmi3 cdi3 cti3 : Value}
    {g4 : Addr}
    {g5 : Addr}
    {g6 : Addr}
    {g7 : Addr}
    {nm7 qn7 : Str} {N7 : Addr} {bs7 : List Value} {sn7 : List Str} {sub7 : List Value} {ab7 : Bool} {col7 : Option Bool} {dd7 : Option Addr} {m0_7 m1_7 m2_7 m3_7 m5_7 : Option Value} {fi7 : Addr} {odi7 ani7 : Option Addr} {sli7 : Array (Option Value)} {oci7 dci7 pmi7 cdi7 cti7 : Value}
    (xa0 : PySem.W.nsIn K mainGlobals "HeapError" = some (some (.ref g0)))
    (xa1 : PySem.W.nsIn K mainGlobals "BadHeap" = some (some (.ref g1)))
    (xa2 : PySem.W.nsIn K mainGlobals "NoRoom" = some (some (.ref g2)))
    (xa3 : PySem.W.nsIn K mainGlobals "NotHeld" = some (some (.ref g3)))
    (xa4 : PySem.W.nsIn K mainGlobals "NoHeap" = some (some (.ref g4)))
    (xa5 : PySem.W.nsIn K mainGlobals "NoCorner" = some (some (.ref g5)))
    (xa6 : PySem.W.nsIn K mainGlobals "NothingDone" = some (some (.ref g6)))
    (xa7 : PySem.W.nsIn K mainGlobals "BadText" = some (some (.ref g7)))
    (xk0 : PySem.W.keepIn K (.ref g0) = true)
    (xe0 : PySem.W.subIn K (.ref g0) (.type "BaseException") = some true)
    (xt0 : PySem.W.typeIn K (.ref g0) = some (.type "type"))
    (xc0 : PySem.W.isClsIn K g0 = true)
    (xd0 : PySem.W.hasDictIn K g0 = true)
    (xg0 : PySem.W.findIn K (.ref g0) "__getattribute__" = some (some (.builtin "BaseException.__getattribute__")))
    (xh0 : PySem.W.findIn K (.ref g0) "__getattr__" = some none)
    (xl0 : PySem.W.findIn K (.ref g0) "__class__" = some (some (.builtin "object.__class__")))
    (xm0 : PySem.W.mroIn K g0 (.type "object") = some true)
    (xv0 : PySem.W.subIn K (.ref g0) (.type "ValueError") = some true)
    (xs0_0 : PySem.W.subIn K (.ref g0) (.ref g0) = some true)
    (xs0_1 : PySem.W.subIn K (.ref g0) (.ref g1) = some false)
    (xs0_2 : PySem.W.subIn K (.ref g0) (.ref g2) = some false)
    (xs0_3 : PySem.W.subIn K (.ref g0) (.ref g3) = some false)
    (xs0_4 : PySem.W.subIn K (.ref g0) (.ref g4) = some false)
    (xs0_5 : PySem.W.subIn K (.ref g0) (.ref g5) = some false)
    (xs0_6 : PySem.W.subIn K (.ref g0) (.ref g6) = some false)
    (xs0_7 : PySem.W.subIn K (.ref g0) (.ref g7) = some false)
    (xk1 : PySem.W.keepIn K (.ref g1) = true)
    (xe1 : PySem.W.subIn K (.ref g1) (.type "BaseException") = some true)
    (xt1 : PySem.W.typeIn K (.ref g1) = some (.type "type"))
    (xc1 : PySem.W.isClsIn K g1 = true)
    (xd1 : PySem.W.hasDictIn K g1 = true)
    (xg1 : PySem.W.findIn K (.ref g1) "__getattribute__" = some (some (.builtin "BaseException.__getattribute__")))
    (xh1 : PySem.W.findIn K (.ref g1) "__getattr__" = some none)
    (xl1 : PySem.W.findIn K (.ref g1) "__class__" = some (some (.builtin "object.__class__")))
    (xm1 : PySem.W.mroIn K g1 (.type "object") = some true)
    (xv1 : PySem.W.subIn K (.ref g1) (.type "ValueError") = some true)
    (xf1_0 : PySem.W.findIn K (.ref g1) "number" = some none)
    (xs1_0 : PySem.W.subIn K (.ref g1) (.ref g0) = some true)
    (xs1_1 : PySem.W.subIn K (.ref g1) (.ref g1) = some true)
    (xs1_2 : PySem.W.subIn K (.ref g1) (.ref g2) = some false)
    (xs1_3 : PySem.W.subIn K (.ref g1) (.ref g3) = some false)
    (xs1_4 : PySem.W.subIn K (.ref g1) (.ref g4) = some false)
    (xs1_5 : PySem.W.subIn K (.ref g1) (.ref g5) = some false)
    (xs1_6 : PySem.W.subIn K (.ref g1) (.ref g6) = some false)
    (xs1_7 : PySem.W.subIn K (.ref g1) (.ref g7) = some false)
    (xL1 : K.lookup g1 = some (excClassObj nm1 qn1 g1 N1 bs1 [.ref g0, .type "ValueError", .type "Exception", .type "BaseException", .type "object"] true sn1 sub1 ab1 col1 dd1 m0_1 m1_1 m2_1 m3_1 m5_1 "ValueError.__new__"))
    (xw1 : PySem.W.findIn K (.ref g1) "__setattr__" = some (some (.builtin "object.__setattr__")))
    (xi1 : PySem.W.findIn K (.ref g1) "__init__" = some (some (.ref fi1)))
    (xn1 : PySem.W.typeIn K (.ref fi1) = some (.type "function"))
    (xj1 : K.lookup fi1 = some ⟨oci1, odi1, .func (PySem.W.fnOf "__init__" "BadHeap.__init__" (defArgs (clsInit (topS 2))) (defBody (clsInit (topS 2))) (defScope (clsInit (topS 2))) .none .none dci1 pmi1 ani1 cdi1 cti1), sli1⟩)
    (xo1 : PySem.W.codeIn K cdi1 "BadHeap.__init__" = true)
    (xk2 : PySem.W.keepIn K (.ref g2) = true)
    (xe2 : PySem.W.subIn K (.ref g2) (.type "BaseException") = some true)
    (xt2 : PySem.W.typeIn K (.ref g2) = some (.type "type"))
    (xc2 : PySem.W.isClsIn K g2 = true)
    (xd2 : PySem.W.hasDictIn K g2 = true)
    (xg2 : PySem.W.findIn K (.ref g2) "__getattribute__" = some (some (.builtin "BaseException.__getattribute__")))
    (xh2 : PySem.W.findIn K (.ref g2) "__getattr__" = some none)
    (xl2 : PySem.W.findIn K (.ref g2) "__class__" = some (some (.builtin "object.__class__")))
    (xm2 : PySem.W.mroIn K g2 (.type "object") = some true)
    (xv2 : PySem.W.subIn K (.ref g2) (.type "ValueError") = some true)
    (xs2_0 : PySem.W.subIn K (.ref g2) (.ref g0) = some true)
    (xs2_1 : PySem.W.subIn K (.ref g2) (.ref g1) = some false)
    (xs2_2 : PySem.W.subIn K (.ref g2) (.ref g2) = some true)
    (xs2_3 : PySem.W.subIn K (.ref g2) (.ref g3) = some false)
    (xs2_4 : PySem.W.subIn K (.ref g2) (.ref g4) = some false)
    (xs2_5 : PySem.W.subIn K (.ref g2) (.ref g5) = some false)
    (xs2_6 : PySem.W.subIn K (.ref g2) (.ref g6) = some false)
    (xs2_7 : PySem.W.subIn K (.ref g2) (.ref g7) = some false)
    (xq2 : PySem.W.excIn K g2 [.type "ValueError", .type "Exception", .type "BaseException", .type "object"] "ValueError.__new__" = true)
    (xk3 : PySem.W.keepIn K (.ref g3) = true)
    (xe3 : PySem.W.subIn K (.ref g3) (.type "BaseException") = some true)
    (xt3 : PySem.W.typeIn K (.ref g3) = some (.type "type"))
    (xc3 : PySem.W.isClsIn K g3 = true)
    (xd3 : PySem.W.hasDictIn K g3 = true)
    (xg3 : PySem.W.findIn K (.ref g3) "__getattribute__" = some (some (.builtin "BaseException.__getattribute__")))
    (xh3 : PySem.W.findIn K (.ref g3) "__getattr__" = some none)
    (xl3 : PySem.W.findIn K (.ref g3) "__class__" = some (some (.builtin "object.__class__")))
    (xm3 : PySem.W.mroIn K g3 (.type "object") = some true)
    (xv3 : PySem.W.subIn K (.ref g3) (.type "ValueError") = some true)
    (xf3_0 : PySem.W.findIn K (.ref g3) "number" = some none)
    (xs3_0 : PySem.W.subIn K (.ref g3) (.ref g0) = some true)
    (xs3_1 : PySem.W.subIn K (.ref g3) (.ref g1) = some false)
    (xs3_2 : PySem.W.subIn K (.ref g3) (.ref g2) = some false)
    (xs3_3 : PySem.W.subIn K (.ref g3) (.ref g3) = some true)
    (xs3_4 : PySem.W.subIn K (.ref g3) (.ref g4) = some false)
    (xs3_5 : PySem.W.subIn K (.ref g3) (.ref g5) = some false)
    (xs3_6 : PySem.W.subIn K (.ref g3) (.ref g6) = some false)
    (xs3_7 : PySem.W.subIn K (.ref g3) (.ref g7) = some false)
    (xL3 : K.lookup g3 = some (excClassObj nm3 qn3 g3 N3 bs3 [.ref g0, .type "ValueError", .type "Exception", .type "BaseException", .type "object"] true sn3 sub3 ab3 col3 dd3 m0_3 m1_3 m2_3 m3_3 m5_3 "ValueError.__new__"))
    (xw3 : PySem.W.findIn K (.ref g3) "__setattr__" = some (some (.builtin "object.__setattr__")))
    (xi3 : PySem.W.findIn K (.ref g3) "__init__" = some (some (.ref fi3)))
    (xn3 : PySem.W.typeIn K (.ref fi3) = some (.type "function"))
    (xj3 : K.lookup fi3 = some ⟨oci3, odi3, .func (PySem.W.fnOf "__init__" "NotHeld.__init__" (defArgs (clsInit (topS 4))) (defBody (clsInit (topS 4))) (defScope (clsInit (topS 4))) .none .none dci3 pmi3 ani3 cdi3 cti3), sli3⟩)
    (xo3 : PySem.W.codeIn K cdi3 "NotHeld.__init__" = true)
    (xk4 : PySem.W.keepIn K (.ref g4) = true)
    (xe4 : PySem.W.subIn K (.ref g4) (.type "BaseException") = some true)
    (xt4 : PySem.W.typeIn K (.ref g4) = some (.type "type"))
    (xc4 : PySem.W.isClsIn K g4 = true)
    (xd4 : PySem.W.hasDictIn K g4 = true)
    (xg4 : PySem.W.findIn K (.ref g4) "__getattribute__" = some (some (.builtin "BaseException.__getattribute__")))
    (xh4 : PySem.W.findIn K (.ref g4) "__getattr__" = some none)
    (xl4 : PySem.W.findIn K (.ref g4) "__class__" = some (some (.builtin "object.__class__")))
    (xm4 : PySem.W.mroIn K g4 (.type "object") = some true)
    (xv4 : PySem.W.subIn K (.ref g4) (.type "ValueError") = some true)
    (xs4_0 : PySem.W.subIn K (.ref g4) (.ref g0) = some true)
    (xs4_1 : PySem.W.subIn K (.ref g4) (.ref g1) = some false)
    (xs4_2 : PySem.W.subIn K (.ref g4) (.ref g2) = some false)
    (xs4_3 : PySem.W.subIn K (.ref g4) (.ref g3) = some false)
    (xs4_4 : PySem.W.subIn K (.ref g4) (.ref g4) = some true)
    (xs4_5 : PySem.W.subIn K (.ref g4) (.ref g5) = some false)
    (xs4_6 : PySem.W.subIn K (.ref g4) (.ref g6) = some false)
    (xs4_7 : PySem.W.subIn K (.ref g4) (.ref g7) = some false)
    (xq4 : PySem.W.excIn K g4 [.type "ValueError", .type "Exception", .type "BaseException", .type "object"] "ValueError.__new__" = true)
    (xk5 : PySem.W.keepIn K (.ref g5) = true)
    (xe5 : PySem.W.subIn K (.ref g5) (.type "BaseException") = some true)
    (xt5 : PySem.W.typeIn K (.ref g5) = some (.type "type"))
    (xc5 : PySem.W.isClsIn K g5 = true)
    (xd5 : PySem.W.hasDictIn K g5 = true)
    (xg5 : PySem.W.findIn K (.ref g5) "__getattribute__" = some (some (.builtin "BaseException.__getattribute__")))
    (xh5 : PySem.W.findIn K (.ref g5) "__getattr__" = some none)
    (xl5 : PySem.W.findIn K (.ref g5) "__class__" = some (some (.builtin "object.__class__")))
    (xm5 : PySem.W.mroIn K g5 (.type "object") = some true)
    (xv5 : PySem.W.subIn K (.ref g5) (.type "ValueError") = some true)
    (xs5_0 : PySem.W.subIn K (.ref g5) (.ref g0) = some true)
    (xs5_1 : PySem.W.subIn K (.ref g5) (.ref g1) = some false)
    (xs5_2 : PySem.W.subIn K (.ref g5) (.ref g2) = some false)
    (xs5_3 : PySem.W.subIn K (.ref g5) (.ref g3) = some false)
    (xs5_4 : PySem.W.subIn K (.ref g5) (.ref g4) = some false)
    (xs5_5 : PySem.W.subIn K (.ref g5) (.ref g5) = some true)
    (xs5_6 : PySem.W.subIn K (.ref g5) (.ref g6) = some false)
    (xs5_7 : PySem.W.subIn K (.ref g5) (.ref g7) = some false)
    (xq5 : PySem.W.excIn K g5 [.type "ValueError", .type "Exception", .type "BaseException", .type "object"] "ValueError.__new__" = true)
    (xk6 : PySem.W.keepIn K (.ref g6) = true)
    (xe6 : PySem.W.subIn K (.ref g6) (.type "BaseException") = some true)
    (xt6 : PySem.W.typeIn K (.ref g6) = some (.type "type"))
    (xc6 : PySem.W.isClsIn K g6 = true)
    (xd6 : PySem.W.hasDictIn K g6 = true)
    (xg6 : PySem.W.findIn K (.ref g6) "__getattribute__" = some (some (.builtin "BaseException.__getattribute__")))
    (xh6 : PySem.W.findIn K (.ref g6) "__getattr__" = some none)
    (xl6 : PySem.W.findIn K (.ref g6) "__class__" = some (some (.builtin "object.__class__")))
    (xm6 : PySem.W.mroIn K g6 (.type "object") = some true)
    (xv6 : PySem.W.subIn K (.ref g6) (.type "ValueError") = some true)
    (xs6_0 : PySem.W.subIn K (.ref g6) (.ref g0) = some true)
    (xs6_1 : PySem.W.subIn K (.ref g6) (.ref g1) = some false)
    (xs6_2 : PySem.W.subIn K (.ref g6) (.ref g2) = some false)
    (xs6_3 : PySem.W.subIn K (.ref g6) (.ref g3) = some false)
    (xs6_4 : PySem.W.subIn K (.ref g6) (.ref g4) = some false)
    (xs6_5 : PySem.W.subIn K (.ref g6) (.ref g5) = some false)
    (xs6_6 : PySem.W.subIn K (.ref g6) (.ref g6) = some true)
    (xs6_7 : PySem.W.subIn K (.ref g6) (.ref g7) = some false)
    (xq6 : PySem.W.excIn K g6 [.type "ValueError", .type "Exception", .type "BaseException", .type "object"] "ValueError.__new__" = true)
    (xk7 : PySem.W.keepIn K (.ref g7) = true)
    (xe7 : PySem.W.subIn K (.ref g7) (.type "BaseException") = some true)
    (xt7 : PySem.W.typeIn K (.ref g7) = some (.type "type"))
    (xc7 : PySem.W.isClsIn K g7 = true)
    (xd7 : PySem.W.hasDictIn K g7 = true)
    (xg7 : PySem.W.findIn K (.ref g7) "__getattribute__" = some (some (.builtin "BaseException.__getattribute__")))
    (xh7 : PySem.W.findIn K (.ref g7) "__getattr__" = some none)
    (xl7 : PySem.W.findIn K (.ref g7) "__class__" = some (some (.builtin "object.__class__")))
    (xm7 : PySem.W.mroIn K g7 (.type "object") = some true)
    (xv7 : PySem.W.subIn K (.ref g7) (.type "ValueError") = some true)
    (xf7_0 : PySem.W.findIn K (.ref g7) "line" = some none)
    (xf7_1 : PySem.W.findIn K (.ref g7) "word" = some none)
    (xs7_0 : PySem.W.subIn K (.ref g7) (.ref g0) = some true)
    (xs7_1 : PySem.W.subIn K (.ref g7) (.ref g1) = some false)
    (xs7_2 : PySem.W.subIn K (.ref g7) (.ref g2) = some false)
    (xs7_3 : PySem.W.subIn K (.ref g7) (.ref g3) = some false)
    (xs7_4 : PySem.W.subIn K (.ref g7) (.ref g4) = some false)
    (xs7_5 : PySem.W.subIn K (.ref g7) (.ref g5) = some false)
    (xs7_6 : PySem.W.subIn K (.ref g7) (.ref g6) = some false)
    (xs7_7 : PySem.W.subIn K (.ref g7) (.ref g7) = some true)
    (xL7 : K.lookup g7 = some (excClassObj nm7 qn7 g7 N7 bs7 [.ref g0, .type "ValueError", .type "Exception", .type "BaseException", .type "object"] true sn7 sub7 ab7 col7 dd7 m0_7 m1_7 m2_7 m3_7 m5_7 "ValueError.__new__"))
    (xw7 : PySem.W.findIn K (.ref g7) "__setattr__" = some (some (.builtin "object.__setattr__")))
    (xi7 : PySem.W.findIn K (.ref g7) "__init__" = some (some (.ref fi7)))
    (xn7 : PySem.W.typeIn K (.ref fi7) = some (.type "function"))
    (xj7 : K.lookup fi7 = some ⟨oci7, odi7, .func (PySem.W.fnOf "__init__" "BadText.__init__" (defArgs (clsInit (topS 8))) (defBody (clsInit (topS 8))) (defScope (clsInit (topS 8))) .none .none dci7 pmi7 ani7 cdi7 cti7), sli7⟩)
    (xo7 : PySem.W.codeIn K cdi7 "BadText.__init__" = true)
    (xsp : PySem.W.specialIn K (.builtin "object.__class__") "__get__" = some (some (.builtin "getset_descriptor.__get__")))
    (xtk : PySem.W.takesIn K (.builtin "object.__class__") = some true)
    (xve : PySem.W.nsIn K mainGlobals "ValueError" = some none)
    (yx : ([g0, g1, g2, g3, g4, g5, g6, g7] : List Addr).Nodup)
    : ∃ (Z : St0) (cs : List (Addr × Addr)) (fd : FuncData), (∀ p ∈ cs, h.get? p.2 = some { cls := .none, data := .fields #[] }) ∧ (∀ p ∈ cs, K.lookup p.2 = none) ∧ (∀ p ∈ cs, PySem.W.CodeHd h p.1 p.2) ∧ (∀ p ∈ Z.tabs, p.1 ∈ cs.map (·.2)) ∧ (∀ (s : Shared) (v : Value), BindsTo s fd ⟨[v], []⟩ [("_law_script", v)]) ∧ ∀ base : Heap, K.In base → base.Ns mainGlobals mg → base.NoLimit → Mod K mg base → (∀ p ∈ cs, LamX.TabB base mg p.1 p.2) → FnG l.prog w K mg base 50 fa fd ["_law_script"] (spLaw Z K) := by
  have e := hfa.symm.trans (PySem.W.mg_of KX G a4)
  cases e
  have F0 := fun_mk (st := (topS 11)) l0 c0 k0
  have b0 := F0.binds (ps := ["_law_deck_here", "_law_many"]) fun _ _ _ _ _ _ us hl => match us, hl with | [_, _], _ => rfl
  have F1 := fun_mk (st := (topS 12)) l1 c1 k1
  have b1 := F1.binds (ps := ["_law_deck_here", "_law_items"]) fun _ _ _ _ _ _ us hl => match us, hl with | [_, _], _ => rfl
  have F2 := fun_mk (st := (topS 13)) l2 c2 k2
  have b2 := F2.binds (ps := ["_law_deck_here"]) fun _ _ _ _ _ _ us hl => match us, hl with | [_], _ => rfl
  have F3 := fun_mk (st := (topS 14)) l3 c3 k3
  have b3 := F3.binds (ps := ["_law_e"]) fun _ _ _ _ _ _ us hl => match us, hl with | [_], _ => rfl
  have F4 := fun_mk (st := (topS 15)) l4 c4 k4
  have b4 := F4.binds (ps := ["_law_script"]) fun _ _ _ _ _ _ us hl => match us, hl with | [_], _ => rfl
  have F5 := fun_mk (st := (topS 10)) l5 c5 k5
  have b5 := F5.binds (ps := ["_law_script"]) fun _ _ _ _ _ _ us hl => match us, hl with | [_], _ => rfl
  let Z : St0 := ZX [(("HeapError" : Str), g0), (("BadHeap" : Str), g1), (("NoRoom" : Str), g2), (("NotHeld" : Str), g3), (("NoHeap" : Str), g4), (("NoCorner" : Str), g5), (("NothingDone" : Str), g6), (("BadText" : Str), g7)] yx
  refine ⟨Z, [], ?_⟩
  suffices go : ∃ fd : FuncData, (∀ (s : Shared) (v : Value), BindsTo s fd ⟨[v], []⟩ [("_law_script", v)]) ∧ ∀ base : Heap, K.In base → base.Ns mainGlobals mg → base.NoLimit → Mod K mg base → (∀ p ∈ ([] : List (Addr × Addr)), LamX.TabB base mg p.1 p.2) → FnG l.prog w K mg base 50 fa fd ["_law_script"] (spLaw Z K) from by
    obtain ⟨fd, g1, g2⟩ := go
    exact ⟨fd, (fun _ h => nomatch h), (fun _ h => nomatch h), (fun _ h => nomatch h), (fun _ h => nomatch h), g1, g2⟩
  refine ⟨PySem.W.fnOf "law" "law" (defArgs (topS 15)) (defBody (topS 15)) (defScope (topS 15)) .none kV4 dc4 pm4 an4 cd4 ct4, fun s v => .of_eq rfl, fun base kb gb nl M TBs => ?_⟩
  have FT : Facts Z l.prog w K mg base pgT T := by
    refine ⟨fun i x hx => ?_, fun x hx => ?_, fun x d hx => ?_, fun hk => ?_, ?_, ?_, ?_, fun m k i hm => ?_, fun m k i hm => ?_, fun x i hx => ?_, fun o k i ho => ?_, fun k i he => ?_, fun x i ks pm hx => ?_, fun x i ks pm hx => ?_, fun hb k C hC => ?_, fun hb => ?_⟩
    · have mem : (x, i) ∈ fsT := PySem.mem_of_lookup hx
      rcases List.mem_cons.mp mem with e | mem
      · cases e
        exact ⟨fd__law_draw, f0, _, rfl, PySem.W.mg_of KX G a0, ⟨_, (topS 11), _, ["_law_deck_here", "_law_many", "_law_found", "_law_cell", "_law_mixed"], ["_law_deck_here", "_law_many"], [], false, F0, b0, sc__law_draw, tr__law_draw, rfl, rfl, rfl, (fun z => nomatch z)⟩⟩
      rcases List.mem_cons.mp mem with e | mem
      · cases e
        exact ⟨fd__law_one, f1, _, rfl, PySem.W.mg_of KX G a1, ⟨_, (topS 12), _, ["_law_deck_here", "_law_items"], ["_law_deck_here", "_law_items"], [], false, F1, b1, sc__law_one, tr__law_one, rfl, rfl, rfl, (fun z => nomatch z)⟩⟩
      rcases List.mem_cons.mp mem with e | mem
      · cases e
        exact ⟨fd__law_odd, f2, _, rfl, PySem.W.mg_of KX G a2, ⟨_, (topS 13), _, ["_law_deck_here", "_law_some"], ["_law_deck_here"], [], false, F2, b2, sc__law_odd, tr__law_odd, rfl, rfl, rfl, (fun z => nomatch z)⟩⟩
      rcases List.mem_cons.mp mem with e | mem
      · cases e
        exact ⟨fd__law_classes, f3, _, rfl, PySem.W.mg_of KX G a3, ⟨_, (topS 14), _, ["_law_e", "_law_some"], ["_law_e"], [], false, F3, b3, sc__law_classes, tr__law_classes, rfl, rfl, rfl, (fun z => nomatch z)⟩⟩
      cases mem
    · have mem : x ∈ bNames := hx
      rcases List.mem_cons.mp mem with e | mem
      · subst e; exact PySem.W.mg_none_of KX G z0
      rcases List.mem_cons.mp mem with e | mem
      · subst e; exact PySem.W.mg_none_of KX G z1
      rcases List.mem_cons.mp mem with e | mem
      · subst e; exact PySem.W.mg_none_of KX G z2
      rcases List.mem_cons.mp mem with e | mem
      · subst e; exact PySem.W.mg_none_of KX G z3
      rcases List.mem_cons.mp mem with e | mem
      · subst e; exact PySem.W.mg_none_of KX G z4
      rcases List.mem_cons.mp mem with e | mem
      · subst e; exact PySem.W.mg_none_of KX G z5
      rcases List.mem_cons.mp mem with e | mem
      · subst e; exact PySem.W.mg_none_of KX G z6
      rcases List.mem_cons.mp mem with e | mem
      · subst e; exact PySem.W.mg_none_of KX G z7
      rcases List.mem_cons.mp mem with e | mem
      · subst e; exact PySem.W.mg_none_of KX G z8
      rcases List.mem_cons.mp mem with e | mem
      · subst e; exact PySem.W.mg_none_of KX G z9
      rcases List.mem_cons.mp mem with e | mem
      · subst e; exact PySem.W.mg_none_of KX G z10
      rcases List.mem_cons.mp mem with e | mem
      · subst e; exact PySem.W.mg_none_of KX G z11
      rcases List.mem_cons.mp mem with e | mem
      · subst e; exact PySem.W.mg_none_of KX G z12
      rcases List.mem_cons.mp mem with e | mem
      · subst e; exact PySem.W.mg_none_of KX G z13
      rcases List.mem_cons.mp mem with e | mem
      · subst e; exact PySem.W.mg_none_of KX G z14
      rcases List.mem_cons.mp mem with e | mem
      · subst e; exact PySem.W.mg_none_of KX G z15
      rcases List.mem_cons.mp mem with e | mem
      · subst e; exact PySem.W.mg_none_of KX G z16
      rcases List.mem_cons.mp mem with e | mem
      · subst e; exact PySem.W.mg_none_of KX G z17
      rcases List.mem_cons.mp mem with e | mem
      · subst e; exact PySem.W.mg_none_of KX G z18
      cases mem
    · cases hx
    · cases hk
    · have cl : ∀ n ∈ (["HeapError", "BadHeap", "NoRoom", "NotHeld", "NoHeap", "NoCorner", "NothingDone", "BadText"] : List Str), ∃ C, XCls K mg n C := by
        intro n hn
        rcases List.mem_cons.mp hn with e | hn
        · subst e
          exact ⟨g0, PySem.W.mg_of KX G xa0, xk0, xe0, xt0, xc0, xd0, xg0, xh0, xl0, xsp, xtk, xm0, (fun f hf => (nomatch hf)), xv0⟩
        rcases List.mem_cons.mp hn with e | hn
        · subst e
          exact ⟨g1, PySem.W.mg_of KX G xa1, xk1, xe1, xt1, xc1, xd1, xg1, xh1, xl1, xsp, xtk, xm1, (fun f hf => by rcases List.mem_cons.mp hf with e | hf; (· subst e; exact xf1_0); cases hf), xv1⟩
        rcases List.mem_cons.mp hn with e | hn
        · subst e
          exact ⟨g2, PySem.W.mg_of KX G xa2, xk2, xe2, xt2, xc2, xd2, xg2, xh2, xl2, xsp, xtk, xm2, (fun f hf => (nomatch hf)), xv2⟩
        rcases List.mem_cons.mp hn with e | hn
        · subst e
          exact ⟨g3, PySem.W.mg_of KX G xa3, xk3, xe3, xt3, xc3, xd3, xg3, xh3, xl3, xsp, xtk, xm3, (fun f hf => by rcases List.mem_cons.mp hf with e | hf; (· subst e; exact xf3_0); cases hf), xv3⟩
        rcases List.mem_cons.mp hn with e | hn
        · subst e
          exact ⟨g4, PySem.W.mg_of KX G xa4, xk4, xe4, xt4, xc4, xd4, xg4, xh4, xl4, xsp, xtk, xm4, (fun f hf => (nomatch hf)), xv4⟩
        rcases List.mem_cons.mp hn with e | hn
        · subst e
          exact ⟨g5, PySem.W.mg_of KX G xa5, xk5, xe5, xt5, xc5, xd5, xg5, xh5, xl5, xsp, xtk, xm5, (fun f hf => (nomatch hf)), xv5⟩
        rcases List.mem_cons.mp hn with e | hn
        · subst e
          exact ⟨g6, PySem.W.mg_of KX G xa6, xk6, xe6, xt6, xc6, xd6, xg6, xh6, xl6, xsp, xtk, xm6, (fun f hf => (nomatch hf)), xv6⟩
        rcases List.mem_cons.mp hn with e | hn
        · subst e
          exact ⟨g7, PySem.W.mg_of KX G xa7, xk7, xe7, xt7, xc7, xd7, xg7, xh7, xl7, xsp, xtk, xm7, (fun f hf => by rcases List.mem_cons.mp hf with e | hf; (· subst e; exact xf7_0); rcases List.mem_cons.mp hf with e | hf; (· subst e; exact xf7_1); cases hf), xv7⟩
        cases hn
      refine ⟨cl, fun n hn m hm C D hC hD => ?_, fun _ => PySem.W.mg_none_of KX G xve⟩
      rcases List.mem_cons.mp hn with e | hn
      · subst e
        cases hC.symm.trans (PySem.W.mg_of KX G xa0)
        rcases List.mem_cons.mp hm with e | hm
        · subst e
          cases hD.symm.trans (PySem.W.mg_of KX G xa0)
          exact xs0_0.trans (by decide +kernel)
        rcases List.mem_cons.mp hm with e | hm
        · subst e
          cases hD.symm.trans (PySem.W.mg_of KX G xa1)
          exact xs0_1.trans (by decide +kernel)
        rcases List.mem_cons.mp hm with e | hm
        · subst e
          cases hD.symm.trans (PySem.W.mg_of KX G xa2)
          exact xs0_2.trans (by decide +kernel)
        rcases List.mem_cons.mp hm with e | hm
        · subst e
          cases hD.symm.trans (PySem.W.mg_of KX G xa3)
          exact xs0_3.trans (by decide +kernel)
        rcases List.mem_cons.mp hm with e | hm
        · subst e
          cases hD.symm.trans (PySem.W.mg_of KX G xa4)
          exact xs0_4.trans (by decide +kernel)
        rcases List.mem_cons.mp hm with e | hm
        · subst e
          cases hD.symm.trans (PySem.W.mg_of KX G xa5)
          exact xs0_5.trans (by decide +kernel)
        rcases List.mem_cons.mp hm with e | hm
        · subst e
          cases hD.symm.trans (PySem.W.mg_of KX G xa6)
          exact xs0_6.trans (by decide +kernel)
        rcases List.mem_cons.mp hm with e | hm
        · subst e
          cases hD.symm.trans (PySem.W.mg_of KX G xa7)
          exact xs0_7.trans (by decide +kernel)
        cases hm
      rcases List.mem_cons.mp hn with e | hn
      · subst e
        cases hC.symm.trans (PySem.W.mg_of KX G xa1)
        rcases List.mem_cons.mp hm with e | hm
        · subst e
          cases hD.symm.trans (PySem.W.mg_of KX G xa0)
          exact xs1_0.trans (by decide +kernel)
        rcases List.mem_cons.mp hm with e | hm
        · subst e
          cases hD.symm.trans (PySem.W.mg_of KX G xa1)
          exact xs1_1.trans (by decide +kernel)
        rcases List.mem_cons.mp hm with e | hm
        · subst e
          cases hD.symm.trans (PySem.W.mg_of KX G xa2)
          exact xs1_2.trans (by decide +kernel)
        rcases List.mem_cons.mp hm with e | hm
        · subst e
          cases hD.symm.trans (PySem.W.mg_of KX G xa3)
          exact xs1_3.trans (by decide +kernel)
        rcases List.mem_cons.mp hm with e | hm
        · subst e
          cases hD.symm.trans (PySem.W.mg_of KX G xa4)
          exact xs1_4.trans (by decide +kernel)
        rcases List.mem_cons.mp hm with e | hm
        · subst e
          cases hD.symm.trans (PySem.W.mg_of KX G xa5)
          exact xs1_5.trans (by decide +kernel)
        rcases List.mem_cons.mp hm with e | hm
        · subst e
          cases hD.symm.trans (PySem.W.mg_of KX G xa6)
          exact xs1_6.trans (by decide +kernel)
        rcases List.mem_cons.mp hm with e | hm
        · subst e
          cases hD.symm.trans (PySem.W.mg_of KX G xa7)
          exact xs1_7.trans (by decide +kernel)
        cases hm
      rcases List.mem_cons.mp hn with e | hn
      · subst e
        cases hC.symm.trans (PySem.W.mg_of KX G xa2)
        rcases List.mem_cons.mp hm with e | hm
        · subst e
          cases hD.symm.trans (PySem.W.mg_of KX G xa0)
          exact xs2_0.trans (by decide +kernel)
        rcases List.mem_cons.mp hm with e | hm
        · subst e
          cases hD.symm.trans (PySem.W.mg_of KX G xa1)
          exact xs2_1.trans (by decide +kernel)
        rcases List.mem_cons.mp hm with e | hm
        · subst e
          cases hD.symm.trans (PySem.W.mg_of KX G xa2)
          exact xs2_2.trans (by decide +kernel)
        rcases List.mem_cons.mp hm with e | hm
        · subst e
          cases hD.symm.trans (PySem.W.mg_of KX G xa3)
          exact xs2_3.trans (by decide +kernel)
        rcases List.mem_cons.mp hm with e | hm
        · subst e
          cases hD.symm.trans (PySem.W.mg_of KX G xa4)
          exact xs2_4.trans (by decide +kernel)
        rcases List.mem_cons.mp hm with e | hm
        · subst e
          cases hD.symm.trans (PySem.W.mg_of KX G xa5)
          exact xs2_5.trans (by decide +kernel)
        rcases List.mem_cons.mp hm with e | hm
        · subst e
          cases hD.symm.trans (PySem.W.mg_of KX G xa6)
          exact xs2_6.trans (by decide +kernel)
        rcases List.mem_cons.mp hm with e | hm
        · subst e
          cases hD.symm.trans (PySem.W.mg_of KX G xa7)
          exact xs2_7.trans (by decide +kernel)
        cases hm
      rcases List.mem_cons.mp hn with e | hn
      · subst e
        cases hC.symm.trans (PySem.W.mg_of KX G xa3)
        rcases List.mem_cons.mp hm with e | hm
        · subst e
          cases hD.symm.trans (PySem.W.mg_of KX G xa0)
          exact xs3_0.trans (by decide +kernel)
        rcases List.mem_cons.mp hm with e | hm
        · subst e
          cases hD.symm.trans (PySem.W.mg_of KX G xa1)
          exact xs3_1.trans (by decide +kernel)
        rcases List.mem_cons.mp hm with e | hm
        · subst e
          cases hD.symm.trans (PySem.W.mg_of KX G xa2)
          exact xs3_2.trans (by decide +kernel)
        rcases List.mem_cons.mp hm with e | hm
        · subst e
          cases hD.symm.trans (PySem.W.mg_of KX G xa3)
          exact xs3_3.trans (by decide +kernel)
        rcases List.mem_cons.mp hm with e | hm
        · subst e
          cases hD.symm.trans (PySem.W.mg_of KX G xa4)
          exact xs3_4.trans (by decide +kernel)
        rcases List.mem_cons.mp hm with e | hm
        · subst e
          cases hD.symm.trans (PySem.W.mg_of KX G xa5)
          exact xs3_5.trans (by decide +kernel)
        rcases List.mem_cons.mp hm with e | hm
        · subst e
          cases hD.symm.trans (PySem.W.mg_of KX G xa6)
          exact xs3_6.trans (by decide +kernel)
        rcases List.mem_cons.mp hm with e | hm
        · subst e
          cases hD.symm.trans (PySem.W.mg_of KX G xa7)
          exact xs3_7.trans (by decide +kernel)
        cases hm
      rcases List.mem_cons.mp hn with e | hn
      · subst e
        cases hC.symm.trans (PySem.W.mg_of KX G xa4)
        rcases List.mem_cons.mp hm with e | hm
        · subst e
          cases hD.symm.trans (PySem.W.mg_of KX G xa0)
          exact xs4_0.trans (by decide +kernel)
        rcases List.mem_cons.mp hm with e | hm
        · subst e
          cases hD.symm.trans (PySem.W.mg_of KX G xa1)
          exact xs4_1.trans (by decide +kernel)
        rcases List.mem_cons.mp hm with e | hm
        · subst e
          cases hD.symm.trans (PySem.W.mg_of KX G xa2)
          exact xs4_2.trans (by decide +kernel)
        rcases List.mem_cons.mp hm with e | hm
        · subst e
          cases hD.symm.trans (PySem.W.mg_of KX G xa3)
          exact xs4_3.trans (by decide +kernel)
        rcases List.mem_cons.mp hm with e | hm
        · subst e
          cases hD.symm.trans (PySem.W.mg_of KX G xa4)
          exact xs4_4.trans (by decide +kernel)
        rcases List.mem_cons.mp hm with e | hm
        · subst e
          cases hD.symm.trans (PySem.W.mg_of KX G xa5)
          exact xs4_5.trans (by decide +kernel)
        rcases List.mem_cons.mp hm with e | hm
        · subst e
          cases hD.symm.trans (PySem.W.mg_of KX G xa6)
          exact xs4_6.trans (by decide +kernel)
        rcases List.mem_cons.mp hm with e | hm
        · subst e
          cases hD.symm.trans (PySem.W.mg_of KX G xa7)
          exact xs4_7.trans (by decide +kernel)
        cases hm
      rcases List.mem_cons.mp hn with e | hn
      · subst e
        cases hC.symm.trans (PySem.W.mg_of KX G xa5)
        rcases List.mem_cons.mp hm with e | hm
        · subst e
          cases hD.symm.trans (PySem.W.mg_of KX G xa0)
          exact xs5_0.trans (by decide +kernel)
        rcases List.mem_cons.mp hm with e | hm
        · subst e
          cases hD.symm.trans (PySem.W.mg_of KX G xa1)
          exact xs5_1.trans (by decide +kernel)
        rcases List.mem_cons.mp hm with e | hm
        · subst e
          cases hD.symm.trans (PySem.W.mg_of KX G xa2)
          exact xs5_2.trans (by decide +kernel)
        rcases List.mem_cons.mp hm with e | hm
        · subst e
          cases hD.symm.trans (PySem.W.mg_of KX G xa3)
          exact xs5_3.trans (by decide +kernel)
        rcases List.mem_cons.mp hm with e | hm
        · subst e
          cases hD.symm.trans (PySem.W.mg_of KX G xa4)
          exact xs5_4.trans (by decide +kernel)
        rcases List.mem_cons.mp hm with e | hm
        · subst e
          cases hD.symm.trans (PySem.W.mg_of KX G xa5)
          exact xs5_5.trans (by decide +kernel)
        rcases List.mem_cons.mp hm with e | hm
        · subst e
          cases hD.symm.trans (PySem.W.mg_of KX G xa6)
          exact xs5_6.trans (by decide +kernel)
        rcases List.mem_cons.mp hm with e | hm
        · subst e
          cases hD.symm.trans (PySem.W.mg_of KX G xa7)
          exact xs5_7.trans (by decide +kernel)
        cases hm
      rcases List.mem_cons.mp hn with e | hn
      · subst e
        cases hC.symm.trans (PySem.W.mg_of KX G xa6)
        rcases List.mem_cons.mp hm with e | hm
        · subst e
          cases hD.symm.trans (PySem.W.mg_of KX G xa0)
          exact xs6_0.trans (by decide +kernel)
        rcases List.mem_cons.mp hm with e | hm
        · subst e
          cases hD.symm.trans (PySem.W.mg_of KX G xa1)
          exact xs6_1.trans (by decide +kernel)
        rcases List.mem_cons.mp hm with e | hm
        · subst e
          cases hD.symm.trans (PySem.W.mg_of KX G xa2)
          exact xs6_2.trans (by decide +kernel)
        rcases List.mem_cons.mp hm with e | hm
        · subst e
          cases hD.symm.trans (PySem.W.mg_of KX G xa3)
          exact xs6_3.trans (by decide +kernel)
        rcases List.mem_cons.mp hm with e | hm
        · subst e
          cases hD.symm.trans (PySem.W.mg_of KX G xa4)
          exact xs6_4.trans (by decide +kernel)
        rcases List.mem_cons.mp hm with e | hm
        · subst e
          cases hD.symm.trans (PySem.W.mg_of KX G xa5)
          exact xs6_5.trans (by decide +kernel)
        rcases List.mem_cons.mp hm with e | hm
        · subst e
          cases hD.symm.trans (PySem.W.mg_of KX G xa6)
          exact xs6_6.trans (by decide +kernel)
        rcases List.mem_cons.mp hm with e | hm
        · subst e
          cases hD.symm.trans (PySem.W.mg_of KX G xa7)
          exact xs6_7.trans (by decide +kernel)
        cases hm
      rcases List.mem_cons.mp hn with e | hn
      · subst e
        cases hC.symm.trans (PySem.W.mg_of KX G xa7)
        rcases List.mem_cons.mp hm with e | hm
        · subst e
          cases hD.symm.trans (PySem.W.mg_of KX G xa0)
          exact xs7_0.trans (by decide +kernel)
        rcases List.mem_cons.mp hm with e | hm
        · subst e
          cases hD.symm.trans (PySem.W.mg_of KX G xa1)
          exact xs7_1.trans (by decide +kernel)
        rcases List.mem_cons.mp hm with e | hm
        · subst e
          cases hD.symm.trans (PySem.W.mg_of KX G xa2)
          exact xs7_2.trans (by decide +kernel)
        rcases List.mem_cons.mp hm with e | hm
        · subst e
          cases hD.symm.trans (PySem.W.mg_of KX G xa3)
          exact xs7_3.trans (by decide +kernel)
        rcases List.mem_cons.mp hm with e | hm
        · subst e
          cases hD.symm.trans (PySem.W.mg_of KX G xa4)
          exact xs7_4.trans (by decide +kernel)
        rcases List.mem_cons.mp hm with e | hm
        · subst e
          cases hD.symm.trans (PySem.W.mg_of KX G xa5)
          exact xs7_5.trans (by decide +kernel)
        rcases List.mem_cons.mp hm with e | hm
        · subst e
          cases hD.symm.trans (PySem.W.mg_of KX G xa6)
          exact xs7_6.trans (by decide +kernel)
        rcases List.mem_cons.mp hm with e | hm
        · subst e
          cases hD.symm.trans (PySem.W.mg_of KX G xa7)
          exact xs7_7.trans (by decide +kernel)
        cases hm
      cases hn
    · intro n hn hne
      rcases List.mem_cons.mp hn with e | hn
      · subst e
        exact absurd rfl hne
      rcases List.mem_cons.mp hn with e | hn
      · subst e
        refine ⟨g1, PySem.W.mg_of KX G xa1, .own (by decide +kernel) ⟨⟨_, _, _, _, _, _, _, _, _, _, _, _, _, _, _, xL1, by rfl⟩, xw1, xe1, xt1, xk1⟩ (fun f hf => by rcases List.mem_cons.mp hf with e | hf; (· subst e; exact xf1_0); cases hf) xi1 xn1 (ini_one (by decide +kernel) xj1 xo1 sci1 rfl (.inl (by decide +kernel)) (.inl (by decide +kernel)) (by decide +kernel) (by decide +kernel)) ?_⟩
        intro s us hk hl
        match us, hl with
        | [_, _], _ => exact .of_eq rfl
      rcases List.mem_cons.mp hn with e | hn
      · subst e
        exact ⟨g2, PySem.W.mg_of KX G xa2, .plain (by decide +kernel) xq2⟩
      rcases List.mem_cons.mp hn with e | hn
      · subst e
        refine ⟨g3, PySem.W.mg_of KX G xa3, .own (by decide +kernel) ⟨⟨_, _, _, _, _, _, _, _, _, _, _, _, _, _, _, xL3, by rfl⟩, xw3, xe3, xt3, xk3⟩ (fun f hf => by rcases List.mem_cons.mp hf with e | hf; (· subst e; exact xf3_0); cases hf) xi3 xn3 (ini_one (by decide +kernel) xj3 xo3 sci3 rfl (.inl (by decide +kernel)) (.inl (by decide +kernel)) (by decide +kernel) (by decide +kernel)) ?_⟩
        intro s us hk hl
        match us, hl with
        | [_, _], _ => exact .of_eq rfl
      rcases List.mem_cons.mp hn with e | hn
      · subst e
        exact ⟨g4, PySem.W.mg_of KX G xa4, .plain (by decide +kernel) xq4⟩
      rcases List.mem_cons.mp hn with e | hn
      · subst e
        exact ⟨g5, PySem.W.mg_of KX G xa5, .plain (by decide +kernel) xq5⟩
      rcases List.mem_cons.mp hn with e | hn
      · subst e
        exact ⟨g6, PySem.W.mg_of KX G xa6, .plain (by decide +kernel) xq6⟩
      rcases List.mem_cons.mp hn with e | hn
      · subst e
        refine ⟨g7, PySem.W.mg_of KX G xa7, .own (by decide +kernel) ⟨⟨_, _, _, _, _, _, _, _, _, _, _, _, _, _, _, xL7, by rfl⟩, xw7, xe7, xt7, xk7⟩ (fun f hf => by rcases List.mem_cons.mp hf with e | hf; (· subst e; exact xf7_0); rcases List.mem_cons.mp hf with e | hf; (· subst e; exact xf7_1); cases hf) xi7 xn7 (ini_two (by decide +kernel) xj7 xo7 sci7 rfl (.inl (by decide +kernel)) (.inl (by decide +kernel)) (.inl (by decide +kernel)) (by decide +kernel) (by decide +kernel) (by decide +kernel) (by decide +kernel)) ?_⟩
        intro s us hk hl
        match us, hl with
        | [_, _, _], _ => exact .of_eq rfl
      cases hn
    · exact ⟨(fun _ _ h => nomatch h), (fun _ _ _ h => nomatch h)⟩
    · exact nomatch hm
    · exact nomatch hm
    · exact nomatch hx
    · exact nomatch ho
    · exact nomatch he
    · exact nomatch hx
    · exact nomatch hx
    · exact absurd rfl hb
    · refine ⟨?_, fun n C hz => ?_, fun n hn => ?_, ?_⟩
      · have cl : ∀ n ∈ (["HeapError", "BadHeap", "NoRoom", "NotHeld", "NoHeap", "NoCorner", "NothingDone", "BadText"] : List Str), ∃ C, XCls K mg n C := by
          intro n hn
          rcases List.mem_cons.mp hn with e | hn
          · subst e
            exact ⟨g0, PySem.W.mg_of KX G xa0, xk0, xe0, xt0, xc0, xd0, xg0, xh0, xl0, xsp, xtk, xm0, (fun f hf => (nomatch hf)), xv0⟩
          rcases List.mem_cons.mp hn with e | hn
          · subst e
            exact ⟨g1, PySem.W.mg_of KX G xa1, xk1, xe1, xt1, xc1, xd1, xg1, xh1, xl1, xsp, xtk, xm1, (fun f hf => by rcases List.mem_cons.mp hf with e | hf; (· subst e; exact xf1_0); cases hf), xv1⟩
          rcases List.mem_cons.mp hn with e | hn
          · subst e
            exact ⟨g2, PySem.W.mg_of KX G xa2, xk2, xe2, xt2, xc2, xd2, xg2, xh2, xl2, xsp, xtk, xm2, (fun f hf => (nomatch hf)), xv2⟩
          rcases List.mem_cons.mp hn with e | hn
          · subst e
            exact ⟨g3, PySem.W.mg_of KX G xa3, xk3, xe3, xt3, xc3, xd3, xg3, xh3, xl3, xsp, xtk, xm3, (fun f hf => by rcases List.mem_cons.mp hf with e | hf; (· subst e; exact xf3_0); cases hf), xv3⟩
          rcases List.mem_cons.mp hn with e | hn
          · subst e
            exact ⟨g4, PySem.W.mg_of KX G xa4, xk4, xe4, xt4, xc4, xd4, xg4, xh4, xl4, xsp, xtk, xm4, (fun f hf => (nomatch hf)), xv4⟩
          rcases List.mem_cons.mp hn with e | hn
          · subst e
            exact ⟨g5, PySem.W.mg_of KX G xa5, xk5, xe5, xt5, xc5, xd5, xg5, xh5, xl5, xsp, xtk, xm5, (fun f hf => (nomatch hf)), xv5⟩
          rcases List.mem_cons.mp hn with e | hn
          · subst e
            exact ⟨g6, PySem.W.mg_of KX G xa6, xk6, xe6, xt6, xc6, xd6, xg6, xh6, xl6, xsp, xtk, xm6, (fun f hf => (nomatch hf)), xv6⟩
          rcases List.mem_cons.mp hn with e | hn
          · subst e
            exact ⟨g7, PySem.W.mg_of KX G xa7, xk7, xe7, xt7, xc7, xd7, xg7, xh7, xl7, xsp, xtk, xm7, (fun f hf => by rcases List.mem_cons.mp hf with e | hf; (· subst e; exact xf7_0); rcases List.mem_cons.mp hf with e | hf; (· subst e; exact xf7_1); cases hf), xv7⟩
          cases hn
        refine ⟨cl, fun n hn m hm C D hC hD => ?_, fun _ => PySem.W.mg_none_of KX G xve⟩
        rcases List.mem_cons.mp hn with e | hn
        · subst e
          cases hC.symm.trans (PySem.W.mg_of KX G xa0)
          rcases List.mem_cons.mp hm with e | hm
          · subst e
            cases hD.symm.trans (PySem.W.mg_of KX G xa0)
            exact xs0_0.trans (by decide +kernel)
          rcases List.mem_cons.mp hm with e | hm
          · subst e
            cases hD.symm.trans (PySem.W.mg_of KX G xa1)
            exact xs0_1.trans (by decide +kernel)
          rcases List.mem_cons.mp hm with e | hm
          · subst e
            cases hD.symm.trans (PySem.W.mg_of KX G xa2)
            exact xs0_2.trans (by decide +kernel)
          rcases List.mem_cons.mp hm with e | hm
          · subst e
            cases hD.symm.trans (PySem.W.mg_of KX G xa3)
            exact xs0_3.trans (by decide +kernel)
          rcases List.mem_cons.mp hm with e | hm
          · subst e
            cases hD.symm.trans (PySem.W.mg_of KX G xa4)
            exact xs0_4.trans (by decide +kernel)
          rcases List.mem_cons.mp hm with e | hm
          · subst e
            cases hD.symm.trans (PySem.W.mg_of KX G xa5)
            exact xs0_5.trans (by decide +kernel)
          rcases List.mem_cons.mp hm with e | hm
          · subst e
            cases hD.symm.trans (PySem.W.mg_of KX G xa6)
            exact xs0_6.trans (by decide +kernel)
          rcases List.mem_cons.mp hm with e | hm
          · subst e
            cases hD.symm.trans (PySem.W.mg_of KX G xa7)
            exact xs0_7.trans (by decide +kernel)
          cases hm
        rcases List.mem_cons.mp hn with e | hn
        · subst e
          cases hC.symm.trans (PySem.W.mg_of KX G xa1)
          rcases List.mem_cons.mp hm with e | hm
          · subst e
            cases hD.symm.trans (PySem.W.mg_of KX G xa0)
            exact xs1_0.trans (by decide +kernel)
          rcases List.mem_cons.mp hm with e | hm
          · subst e
            cases hD.symm.trans (PySem.W.mg_of KX G xa1)
            exact xs1_1.trans (by decide +kernel)
          rcases List.mem_cons.mp hm with e | hm
          · subst e
            cases hD.symm.trans (PySem.W.mg_of KX G xa2)
            exact xs1_2.trans (by decide +kernel)
          rcases List.mem_cons.mp hm with e | hm
          · subst e
            cases hD.symm.trans (PySem.W.mg_of KX G xa3)
            exact xs1_3.trans (by decide +kernel)
          rcases List.mem_cons.mp hm with e | hm
          · subst e
            cases hD.symm.trans (PySem.W.mg_of KX G xa4)
            exact xs1_4.trans (by decide +kernel)
          rcases List.mem_cons.mp hm with e | hm
          · subst e
            cases hD.symm.trans (PySem.W.mg_of KX G xa5)
            exact xs1_5.trans (by decide +kernel)
          rcases List.mem_cons.mp hm with e | hm
          · subst e
            cases hD.symm.trans (PySem.W.mg_of KX G xa6)
            exact xs1_6.trans (by decide +kernel)
          rcases List.mem_cons.mp hm with e | hm
          · subst e
            cases hD.symm.trans (PySem.W.mg_of KX G xa7)
            exact xs1_7.trans (by decide +kernel)
          cases hm
        rcases List.mem_cons.mp hn with e | hn
        · subst e
          cases hC.symm.trans (PySem.W.mg_of KX G xa2)
          rcases List.mem_cons.mp hm with e | hm
          · subst e
            cases hD.symm.trans (PySem.W.mg_of KX G xa0)
            exact xs2_0.trans (by decide +kernel)
          rcases List.mem_cons.mp hm with e | hm
          · subst e
            cases hD.symm.trans (PySem.W.mg_of KX G xa1)
            exact xs2_1.trans (by decide +kernel)
          rcases List.mem_cons.mp hm with e | hm
          · subst e
            cases hD.symm.trans (PySem.W.mg_of KX G xa2)
            exact xs2_2.trans (by decide +kernel)
          rcases List.mem_cons.mp hm with e | hm
          · subst e
            cases hD.symm.trans (PySem.W.mg_of KX G xa3)
            exact xs2_3.trans (by decide +kernel)
          rcases List.mem_cons.mp hm with e | hm
          · subst e
            cases hD.symm.trans (PySem.W.mg_of KX G xa4)
            exact xs2_4.trans (by decide +kernel)
          rcases List.mem_cons.mp hm with e | hm
          · subst e
            cases hD.symm.trans (PySem.W.mg_of KX G xa5)
            exact xs2_5.trans (by decide +kernel)
          rcases List.mem_cons.mp hm with e | hm
          · subst e
            cases hD.symm.trans (PySem.W.mg_of KX G xa6)
            exact xs2_6.trans (by decide +kernel)
          rcases List.mem_cons.mp hm with e | hm
          · subst e
            cases hD.symm.trans (PySem.W.mg_of KX G xa7)
            exact xs2_7.trans (by decide +kernel)
          cases hm
        rcases List.mem_cons.mp hn with e | hn
        · subst e
          cases hC.symm.trans (PySem.W.mg_of KX G xa3)
          rcases List.mem_cons.mp hm with e | hm
          · subst e
            cases hD.symm.trans (PySem.W.mg_of KX G xa0)
            exact xs3_0.trans (by decide +kernel)
          rcases List.mem_cons.mp hm with e | hm
          · subst e
            cases hD.symm.trans (PySem.W.mg_of KX G xa1)
            exact xs3_1.trans (by decide +kernel)
          rcases List.mem_cons.mp hm with e | hm
          · subst e
            cases hD.symm.trans (PySem.W.mg_of KX G xa2)
            exact xs3_2.trans (by decide +kernel)
          rcases List.mem_cons.mp hm with e | hm
          · subst e
            cases hD.symm.trans (PySem.W.mg_of KX G xa3)
            exact xs3_3.trans (by decide +kernel)
          rcases List.mem_cons.mp hm with e | hm
          · subst e
            cases hD.symm.trans (PySem.W.mg_of KX G xa4)
            exact xs3_4.trans (by decide +kernel)
          rcases List.mem_cons.mp hm with e | hm
          · subst e
            cases hD.symm.trans (PySem.W.mg_of KX G xa5)
            exact xs3_5.trans (by decide +kernel)
          rcases List.mem_cons.mp hm with e | hm
          · subst e
            cases hD.symm.trans (PySem.W.mg_of KX G xa6)
            exact xs3_6.trans (by decide +kernel)
          rcases List.mem_cons.mp hm with e | hm
          · subst e
            cases hD.symm.trans (PySem.W.mg_of KX G xa7)
            exact xs3_7.trans (by decide +kernel)
          cases hm
        rcases List.mem_cons.mp hn with e | hn
        · subst e
          cases hC.symm.trans (PySem.W.mg_of KX G xa4)
          rcases List.mem_cons.mp hm with e | hm
          · subst e
            cases hD.symm.trans (PySem.W.mg_of KX G xa0)
            exact xs4_0.trans (by decide +kernel)
          rcases List.mem_cons.mp hm with e | hm
          · subst e
            cases hD.symm.trans (PySem.W.mg_of KX G xa1)
            exact xs4_1.trans (by decide +kernel)
          rcases List.mem_cons.mp hm with e | hm
          · subst e
            cases hD.symm.trans (PySem.W.mg_of KX G xa2)
            exact xs4_2.trans (by decide +kernel)
          rcases List.mem_cons.mp hm with e | hm
          · subst e
            cases hD.symm.trans (PySem.W.mg_of KX G xa3)
            exact xs4_3.trans (by decide +kernel)
          rcases List.mem_cons.mp hm with e | hm
          · subst e
            cases hD.symm.trans (PySem.W.mg_of KX G xa4)
            exact xs4_4.trans (by decide +kernel)
          rcases List.mem_cons.mp hm with e | hm
          · subst e
            cases hD.symm.trans (PySem.W.mg_of KX G xa5)
            exact xs4_5.trans (by decide +kernel)
          rcases List.mem_cons.mp hm with e | hm
          · subst e
            cases hD.symm.trans (PySem.W.mg_of KX G xa6)
            exact xs4_6.trans (by decide +kernel)
          rcases List.mem_cons.mp hm with e | hm
          · subst e
            cases hD.symm.trans (PySem.W.mg_of KX G xa7)
            exact xs4_7.trans (by decide +kernel)
          cases hm
        rcases List.mem_cons.mp hn with e | hn
        · subst e
          cases hC.symm.trans (PySem.W.mg_of KX G xa5)
          rcases List.mem_cons.mp hm with e | hm
          · subst e
            cases hD.symm.trans (PySem.W.mg_of KX G xa0)
            exact xs5_0.trans (by decide +kernel)
          rcases List.mem_cons.mp hm with e | hm
          · subst e
            cases hD.symm.trans (PySem.W.mg_of KX G xa1)
            exact xs5_1.trans (by decide +kernel)
          rcases List.mem_cons.mp hm with e | hm
          · subst e
            cases hD.symm.trans (PySem.W.mg_of KX G xa2)
            exact xs5_2.trans (by decide +kernel)
          rcases List.mem_cons.mp hm with e | hm
          · subst e
            cases hD.symm.trans (PySem.W.mg_of KX G xa3)
            exact xs5_3.trans (by decide +kernel)
          rcases List.mem_cons.mp hm with e | hm
          · subst e
            cases hD.symm.trans (PySem.W.mg_of KX G xa4)
            exact xs5_4.trans (by decide +kernel)
          rcases List.mem_cons.mp hm with e | hm
          · subst e
            cases hD.symm.trans (PySem.W.mg_of KX G xa5)
            exact xs5_5.trans (by decide +kernel)
          rcases List.mem_cons.mp hm with e | hm
          · subst e
            cases hD.symm.trans (PySem.W.mg_of KX G xa6)
            exact xs5_6.trans (by decide +kernel)
          rcases List.mem_cons.mp hm with e | hm
          · subst e
            cases hD.symm.trans (PySem.W.mg_of KX G xa7)
            exact xs5_7.trans (by decide +kernel)
          cases hm
        rcases List.mem_cons.mp hn with e | hn
        · subst e
          cases hC.symm.trans (PySem.W.mg_of KX G xa6)
          rcases List.mem_cons.mp hm with e | hm
          · subst e
            cases hD.symm.trans (PySem.W.mg_of KX G xa0)
            exact xs6_0.trans (by decide +kernel)
          rcases List.mem_cons.mp hm with e | hm
          · subst e
            cases hD.symm.trans (PySem.W.mg_of KX G xa1)
            exact xs6_1.trans (by decide +kernel)
          rcases List.mem_cons.mp hm with e | hm
          · subst e
            cases hD.symm.trans (PySem.W.mg_of KX G xa2)
            exact xs6_2.trans (by decide +kernel)
          rcases List.mem_cons.mp hm with e | hm
          · subst e
            cases hD.symm.trans (PySem.W.mg_of KX G xa3)
            exact xs6_3.trans (by decide +kernel)
          rcases List.mem_cons.mp hm with e | hm
          · subst e
            cases hD.symm.trans (PySem.W.mg_of KX G xa4)
            exact xs6_4.trans (by decide +kernel)
          rcases List.mem_cons.mp hm with e | hm
          · subst e
            cases hD.symm.trans (PySem.W.mg_of KX G xa5)
            exact xs6_5.trans (by decide +kernel)
          rcases List.mem_cons.mp hm with e | hm
          · subst e
            cases hD.symm.trans (PySem.W.mg_of KX G xa6)
            exact xs6_6.trans (by decide +kernel)
          rcases List.mem_cons.mp hm with e | hm
          · subst e
            cases hD.symm.trans (PySem.W.mg_of KX G xa7)
            exact xs6_7.trans (by decide +kernel)
          cases hm
        rcases List.mem_cons.mp hn with e | hn
        · subst e
          cases hC.symm.trans (PySem.W.mg_of KX G xa7)
          rcases List.mem_cons.mp hm with e | hm
          · subst e
            cases hD.symm.trans (PySem.W.mg_of KX G xa0)
            exact xs7_0.trans (by decide +kernel)
          rcases List.mem_cons.mp hm with e | hm
          · subst e
            cases hD.symm.trans (PySem.W.mg_of KX G xa1)
            exact xs7_1.trans (by decide +kernel)
          rcases List.mem_cons.mp hm with e | hm
          · subst e
            cases hD.symm.trans (PySem.W.mg_of KX G xa2)
            exact xs7_2.trans (by decide +kernel)
          rcases List.mem_cons.mp hm with e | hm
          · subst e
            cases hD.symm.trans (PySem.W.mg_of KX G xa3)
            exact xs7_3.trans (by decide +kernel)
          rcases List.mem_cons.mp hm with e | hm
          · subst e
            cases hD.symm.trans (PySem.W.mg_of KX G xa4)
            exact xs7_4.trans (by decide +kernel)
          rcases List.mem_cons.mp hm with e | hm
          · subst e
            cases hD.symm.trans (PySem.W.mg_of KX G xa5)
            exact xs7_5.trans (by decide +kernel)
          rcases List.mem_cons.mp hm with e | hm
          · subst e
            cases hD.symm.trans (PySem.W.mg_of KX G xa6)
            exact xs7_6.trans (by decide +kernel)
          rcases List.mem_cons.mp hm with e | hm
          · subst e
            cases hD.symm.trans (PySem.W.mg_of KX G xa7)
            exact xs7_7.trans (by decide +kernel)
          cases hm
        cases hn
      · have mem : (n, C) ∈ ([(("HeapError" : Str), g0), (("BadHeap" : Str), g1), (("NoRoom" : Str), g2), (("NotHeld" : Str), g3), (("NoHeap" : Str), g4), (("NoCorner" : Str), g5), (("NothingDone" : Str), g6), (("BadText" : Str), g7)] : List (Str × Addr)) := PySem.mem_of_lookup hz
        rcases List.mem_cons.mp mem with e | mem
        · cases e; exact ⟨by decide +kernel, PySem.W.mg_of KX G xa0⟩
        rcases List.mem_cons.mp mem with e | mem
        · cases e; exact ⟨by decide +kernel, PySem.W.mg_of KX G xa1⟩
        rcases List.mem_cons.mp mem with e | mem
        · cases e; exact ⟨by decide +kernel, PySem.W.mg_of KX G xa2⟩
        rcases List.mem_cons.mp mem with e | mem
        · cases e; exact ⟨by decide +kernel, PySem.W.mg_of KX G xa3⟩
        rcases List.mem_cons.mp mem with e | mem
        · cases e; exact ⟨by decide +kernel, PySem.W.mg_of KX G xa4⟩
        rcases List.mem_cons.mp mem with e | mem
        · cases e; exact ⟨by decide +kernel, PySem.W.mg_of KX G xa5⟩
        rcases List.mem_cons.mp mem with e | mem
        · cases e; exact ⟨by decide +kernel, PySem.W.mg_of KX G xa6⟩
        rcases List.mem_cons.mp mem with e | mem
        · cases e; exact ⟨by decide +kernel, PySem.W.mg_of KX G xa7⟩
        cases mem
      · have hn : n ∈ (["HeapError", "BadHeap", "NoRoom", "NotHeld", "NoHeap", "NoCorner", "NothingDone", "BadText"] : List Str) := hn
        rcases List.mem_cons.mp hn with e | hn
        · subst e; exact ⟨g0, by rfl⟩
        rcases List.mem_cons.mp hn with e | hn
        · subst e; exact ⟨g1, by rfl⟩
        rcases List.mem_cons.mp hn with e | hn
        · subst e; exact ⟨g2, by rfl⟩
        rcases List.mem_cons.mp hn with e | hn
        · subst e; exact ⟨g3, by rfl⟩
        rcases List.mem_cons.mp hn with e | hn
        · subst e; exact ⟨g4, by rfl⟩
        rcases List.mem_cons.mp hn with e | hn
        · subst e; exact ⟨g5, by rfl⟩
        rcases List.mem_cons.mp hn with e | hn
        · subst e; exact ⟨g6, by rfl⟩
        rcases List.mem_cons.mp hn with e | hn
        · subst e; exact ⟨g7, by rfl⟩
        cases hn
      · intro n hn hne
        rcases List.mem_cons.mp hn with e | hn
        · subst e
          exact absurd rfl hne
        rcases List.mem_cons.mp hn with e | hn
        · subst e
          refine ⟨g1, PySem.W.mg_of KX G xa1, .own (by decide +kernel) ⟨⟨_, _, _, _, _, _, _, _, _, _, _, _, _, _, _, xL1, by rfl⟩, xw1, xe1, xt1, xk1⟩ (fun f hf => by rcases List.mem_cons.mp hf with e | hf; (· subst e; exact xf1_0); cases hf) xi1 xn1 (ini_one (by decide +kernel) xj1 xo1 sci1 rfl (.inl (by decide +kernel)) (.inl (by decide +kernel)) (by decide +kernel) (by decide +kernel)) ?_⟩
          intro s us hk hl
          match us, hl with
          | [_, _], _ => exact .of_eq rfl
        rcases List.mem_cons.mp hn with e | hn
        · subst e
          exact ⟨g2, PySem.W.mg_of KX G xa2, .plain (by decide +kernel) xq2⟩
        rcases List.mem_cons.mp hn with e | hn
        · subst e
          refine ⟨g3, PySem.W.mg_of KX G xa3, .own (by decide +kernel) ⟨⟨_, _, _, _, _, _, _, _, _, _, _, _, _, _, _, xL3, by rfl⟩, xw3, xe3, xt3, xk3⟩ (fun f hf => by rcases List.mem_cons.mp hf with e | hf; (· subst e; exact xf3_0); cases hf) xi3 xn3 (ini_one (by decide +kernel) xj3 xo3 sci3 rfl (.inl (by decide +kernel)) (.inl (by decide +kernel)) (by decide +kernel) (by decide +kernel)) ?_⟩
          intro s us hk hl
          match us, hl with
          | [_, _], _ => exact .of_eq rfl
        rcases List.mem_cons.mp hn with e | hn
        · subst e
          exact ⟨g4, PySem.W.mg_of KX G xa4, .plain (by decide +kernel) xq4⟩
        rcases List.mem_cons.mp hn with e | hn
        · subst e
          exact ⟨g5, PySem.W.mg_of KX G xa5, .plain (by decide +kernel) xq5⟩
        rcases List.mem_cons.mp hn with e | hn
        · subst e
          exact ⟨g6, PySem.W.mg_of KX G xa6, .plain (by decide +kernel) xq6⟩
        rcases List.mem_cons.mp hn with e | hn
        · subst e
          refine ⟨g7, PySem.W.mg_of KX G xa7, .own (by decide +kernel) ⟨⟨_, _, _, _, _, _, _, _, _, _, _, _, _, _, _, xL7, by rfl⟩, xw7, xe7, xt7, xk7⟩ (fun f hf => by rcases List.mem_cons.mp hf with e | hf; (· subst e; exact xf7_0); rcases List.mem_cons.mp hf with e | hf; (· subst e; exact xf7_1); cases hf) xi7 xn7 (ini_two (by decide +kernel) xj7 xo7 sci7 rfl (.inl (by decide +kernel)) (.inl (by decide +kernel)) (.inl (by decide +kernel)) (by decide +kernel) (by decide +kernel) (by decide +kernel) (by decide +kernel)) ?_⟩
          intro s us hk hl
          match us, hl with
          | [_, _, _], _ => exact .of_eq rfl
        cases hn
  exact law_ok (n := 10) (mu := []) FT F4 sc_law (deck_ok F5 sc__law_deck (PySem.W.mg_none_of KX G z5) rfl (by decide +kernel) (by decide +kernel) (by decide +kernel) (by decide +kernel)) (PySem.W.mg_of KX G a5) k5 b5 rfl (by first | exact .inl (by decide +kernel) | exact .inr (.inl (by decide +kernel))) (by first | exact .inl (by decide +kernel) | exact .inr (by decide +kernel)) (by decide +kernel) (by decide +kernel) (by decide +kernel) (by decide +kernel) tr_law (fun z => nomatch z) fun cells _ => law_runs_k34 cells
end CH
open PySem PySem.W PyProof.Rows
set_option maxHeartbeats 0 in
theorem PySem.Challenge.cw_cornerheaps_k34_errors_made_by_hand_holds : PySem.Challenge.rw_cornerheaps_k34_errors_made_by_hand.Holds := by
  w_on; o_law; k_head; (case hw => w_witness2)
  k_fill
  refine CH.walkG (l := PySem.Challenge.rw_cornerheaps_k34_errors_made_by_hand) (j := 50) (y := "_law_script") rfl rfl ⟨rfl, by decide, by decide⟩ (fun w h Y => PySem.W.kIn_of Y) ?F
  case F =>
    intro w mg fa h Y KX G hmg
    refine' CH.all_mk KX G hmg ?a0 ?l0 ?c0 ?k0 ?a1 ?l1 ?c1 ?k1 ?a2 ?l2 ?c2 ?k2 ?a3 ?l3 ?c3 ?k3 ?a4 ?l4 ?c4 ?k4 ?a5 ?l5 ?c5 ?k5 ?z0 ?z1 ?z2 ?z3 ?z4 ?z5 ?z6 ?z7 ?z8 ?z9 ?z10 ?z11 ?z12 ?z13 ?z14 ?z15 ?z16 ?z17 ?z18 ?xa0 ?xa1 ?xa2 ?xa3 ?xa4 ?xa5 ?xa6 ?xa7 ?xk0 ?xe0 ?xt0 ?xc0 ?xd0 ?xg0 ?xh0 ?xl0 ?xm0 ?xv0 ?xs0_0 ?xs0_1 ?xs0_2 ?xs0_3 ?xs0_4 ?xs0_5 ?xs0_6 ?xs0_7 ?xk1 ?xe1 ?xt1 ?xc1 ?xd1 ?xg1 ?xh1 ?xl1 ?xm1 ?xv1 ?xf1_0 ?xs1_0 ?xs1_1 ?xs1_2 ?xs1_3 ?xs1_4 ?xs1_5 ?xs1_6 ?xs1_7 ?xL1 ?xw1 ?xi1 ?xn1 ?xj1 ?xo1 ?xk2 ?xe2 ?xt2 ?xc2 ?xd2 ?xg2 ?xh2 ?xl2 ?xm2 ?xv2 ?xs2_0 ?xs2_1 ?xs2_2 ?xs2_3 ?xs2_4 ?xs2_5 ?xs2_6 ?xs2_7 ?xq2 ?xk3 ?xe3 ?xt3 ?xc3 ?xd3 ?xg3 ?xh3 ?xl3 ?xm3 ?xv3 ?xf3_0 ?xs3_0 ?xs3_1 ?xs3_2 ?xs3_3 ?xs3_4 ?xs3_5 ?xs3_6 ?xs3_7 ?xL3 ?xw3 ?xi3 ?xn3 ?xj3 ?xo3 ?xk4 ?xe4 ?xt4 ?xc4 ?xd4 ?xg4 ?xh4 ?xl4 ?xm4 ?xv4 ?xs4_0 ?xs4_1 ?xs4_2 ?xs4_3 ?xs4_4 ?xs4_5 ?xs4_6 ?xs4_7 ?xq4 ?xk5 ?xe5 ?xt5 ?xc5 ?xd5 ?xg5 ?xh5 ?xl5 ?xm5 ?xv5 ?xs5_0 ?xs5_1 ?xs5_2 ?xs5_3 ?xs5_4 ?xs5_5 ?xs5_6 ?xs5_7 ?xq5 ?xk6 ?xe6 ?xt6 ?xc6 ?xd6 ?xg6 ?xh6 ?xl6 ?xm6 ?xv6 ?xs6_0 ?xs6_1 ?xs6_2 ?xs6_3 ?xs6_4 ?xs6_5 ?xs6_6 ?xs6_7 ?xq6 ?xk7 ?xe7 ?xt7 ?xc7 ?xd7 ?xg7 ?xh7 ?xl7 ?xm7 ?xv7 ?xf7_0 ?xf7_1 ?xs7_0 ?xs7_1 ?xs7_2 ?xs7_3 ?xs7_4 ?xs7_5 ?xs7_6 ?xs7_7 ?xL7 ?xw7 ?xi7 ?xn7 ?xj7 ?xo7 ?xsp ?xtk ?xve ?yx
    (case a0 => k_is)
    (case a1 => k_is)
    (case a2 => k_is)
    (case a3 => k_is)
    (case a4 => k_is)
    (case a5 => k_is)
    (case l0 => k_is)
    (case c0 => k_is)
    (case k0 => k_is)
    (case l1 => k_is)
    (case c1 => k_is)
    (case k1 => k_is)
    (case l2 => k_is)
    (case c2 => k_is)
    (case k2 => k_is)
    (case l3 => k_is)
    (case c3 => k_is)
    (case k3 => k_is)
    (case l4 => k_is)
    (case c4 => k_is)
    (case k4 => k_is)
    (case l5 => k_is)
    (case c5 => k_is)
    (case k5 => k_is)
    (case z0 => k_is)
    (case z1 => k_is)
    (case z2 => k_is)
    (case z3 => k_is)
    (case z4 => k_is)
    (case z5 => k_is)
    (case z6 => k_is)
    (case z7 => k_is)
    (case z8 => k_is)
    (case z9 => k_is)
    (case z10 => k_is)
    (case z11 => k_is)
    (case z12 => k_is)
    (case z13 => k_is)
    (case z14 => k_is)
    (case z15 => k_is)
    (case z16 => k_is)
    (case z17 => k_is)
    (case z18 => k_is)
    (case xa0 => k_is)
    (case xa1 => k_is)
    (case xa2 => k_is)
    (case xa3 => k_is)
    (case xa4 => k_is)
    (case xa5 => k_is)
    (case xa6 => k_is)
    (case xa7 => k_is)
    (case xk0 => k_is)
    (case xe0 => k_is)
    (case xt0 => k_is)
    (case xc0 => k_is)
    (case xd0 => k_is)
    (case xg0 => k_is)
    (case xh0 => k_is)
    (case xl0 => k_is)
    (case xm0 => k_is)
    (case xv0 => k_is)
    (case xs0_0 => k_is)
    (case xs0_1 => k_is)
    (case xs0_2 => k_is)
    (case xs0_3 => k_is)
    (case xs0_4 => k_is)
    (case xs0_5 => k_is)
    (case xs0_6 => k_is)
    (case xs0_7 => k_is)
    (case xk1 => k_is)
    (case xe1 => k_is)
    (case xt1 => k_is)
    (case xc1 => k_is)
    (case xd1 => k_is)
    (case xg1 => k_is)
    (case xh1 => k_is)
    (case xl1 => k_is)
    (case xm1 => k_is)
    (case xv1 => k_is)
    (case xf1_0 => k_is)
    (case xs1_0 => k_is)
    (case xs1_1 => k_is)
    (case xs1_2 => k_is)
    (case xs1_3 => k_is)
    (case xs1_4 => k_is)
    (case xs1_5 => k_is)
    (case xs1_6 => k_is)
    (case xs1_7 => k_is)
    (case xL1 => k_is)
    (case xw1 => k_is)
    (case xi1 => k_is)
    (case xn1 => k_is)
    (case xj1 => k_is)
    (case xo1 => k_is)
    (case xk2 => k_is)
    (case xe2 => k_is)
    (case xt2 => k_is)
    (case xc2 => k_is)
    (case xd2 => k_is)
    (case xg2 => k_is)
    (case xh2 => k_is)
    (case xl2 => k_is)
    (case xm2 => k_is)
    (case xv2 => k_is)
    (case xs2_0 => k_is)
    (case xs2_1 => k_is)
    (case xs2_2 => k_is)
    (case xs2_3 => k_is)
    (case xs2_4 => k_is)
    (case xs2_5 => k_is)
    (case xs2_6 => k_is)
    (case xs2_7 => k_is)
    (case xq2 => k_exc)
    (case xk3 => k_is)
    (case xe3 => k_is)
    (case xt3 => k_is)
    (case xc3 => k_is)
    (case xd3 => k_is)
    (case xg3 => k_is)
    (case xh3 => k_is)
    (case xl3 => k_is)
    (case xm3 => k_is)
    (case xv3 => k_is)
    (case xf3_0 => k_is)
    (case xs3_0 => k_is)
    (case xs3_1 => k_is)
    (case xs3_2 => k_is)
    (case xs3_3 => k_is)
    (case xs3_4 => k_is)
    (case xs3_5 => k_is)
    (case xs3_6 => k_is)
    (case xs3_7 => k_is)
    (case xL3 => k_is)
    (case xw3 => k_is)
    (case xi3 => k_is)
    (case xn3 => k_is)
    (case xj3 => k_is)
    (case xo3 => k_is)
    (case xk4 => k_is)
    (case xe4 => k_is)
    (case xt4 => k_is)
    (case xc4 => k_is)
    (case xd4 => k_is)
    (case xg4 => k_is)
    (case xh4 => k_is)
    (case xl4 => k_is)
    (case xm4 => k_is)
    (case xv4 => k_is)
    (case xs4_0 => k_is)
    (case xs4_1 => k_is)
    (case xs4_2 => k_is)
    (case xs4_3 => k_is)
    (case xs4_4 => k_is)
    (case xs4_5 => k_is)
    (case xs4_6 => k_is)
    (case xs4_7 => k_is)
    (case xq4 => k_exc)
    (case xk5 => k_is)
    (case xe5 => k_is)
    (case xt5 => k_is)
    (case xc5 => k_is)
    (case xd5 => k_is)
    (case xg5 => k_is)
    (case xh5 => k_is)
    (case xl5 => k_is)
    (case xm5 => k_is)
    (case xv5 => k_is)
    (case xs5_0 => k_is)
    (case xs5_1 => k_is)
    (case xs5_2 => k_is)
    (case xs5_3 => k_is)
    (case xs5_4 => k_is)
    (case xs5_5 => k_is)
    (case xs5_6 => k_is)
    (case xs5_7 => k_is)
    (case xq5 => k_exc)
    (case xk6 => k_is)
    (case xe6 => k_is)
    (case xt6 => k_is)
    (case xc6 => k_is)
    (case xd6 => k_is)
    (case xg6 => k_is)
    (case xh6 => k_is)
    (case xl6 => k_is)
    (case xm6 => k_is)
    (case xv6 => k_is)
    (case xs6_0 => k_is)
    (case xs6_1 => k_is)
    (case xs6_2 => k_is)
    (case xs6_3 => k_is)
    (case xs6_4 => k_is)
    (case xs6_5 => k_is)
    (case xs6_6 => k_is)
    (case xs6_7 => k_is)
    (case xq6 => k_exc)
    (case xk7 => k_is)
    (case xe7 => k_is)
    (case xt7 => k_is)
    (case xc7 => k_is)
    (case xd7 => k_is)
    (case xg7 => k_is)
    (case xh7 => k_is)
    (case xl7 => k_is)
    (case xm7 => k_is)
    (case xv7 => k_is)
    (case xf7_0 => k_is)
    (case xf7_1 => k_is)
    (case xs7_0 => k_is)
    (case xs7_1 => k_is)
    (case xs7_2 => k_is)
    (case xs7_3 => k_is)
    (case xs7_4 => k_is)
    (case xs7_5 => k_is)
    (case xs7_6 => k_is)
    (case xs7_7 => k_is)
    (case xL7 => k_is)
    (case xw7 => k_is)
    (case xi7 => k_is)
    (case xn7 => k_is)
    (case xj7 => k_is)
    (case xo7 => k_is)
    (case xsp => k_is)
    (case xtk => k_is)
    (case xve => k_is)
    (case yx => decide)
