import PyProof.Rows.All
import Wide.All
import OpenK.AllK
import Wide.FinOn
import HandS.ForMost
import HandS.ForExc
import KE.SortData
import HandS.TupAny
import HandS.TupMul
import HandS.Style
import HandS.Text
import KE.DataMinMax
import PyProof.TupleOfStr
import HandS.RaiseMore
import HandS.SetFor
import HandS.TupSets
import HandS.IsInst
import KE.KTupSum
import HandS.Set
import HandS.Strs
import HandS.Iter
import HandS.Zip
import KE.GoesMore
import KE.GoesEnum
import HandS.Exc
import HandS.ExcOwn
import HandS.TryMany
import HandS.Defaults
import HandS.HeadEnd
import HandS.Flow
import HandS.Comp
import HandS.Conv
import HandS.ExcIs
import HandS.HeadHook1
import HandS.HeadHook2
import HandS.HeadHook4
import HandS.Head0
import HandS.Head1
import HandS.Head2
import PyProof.FitsInt
import PyProof.Rows.ReprOcc
import PyProof.Rows.StrClose
import PyProof.ReprText
import PyProof.ReprLen
import PyProof.StrLawsRepr
import Lean
import KE.KStateDown
import PySem.Challenge.RW_heapwhole_k69_trees_of_quarters
set_option Elab.async false
set_option linter.all false
set_option maxRecDepth 100000
namespace PT
open PySem

abbrev D := PyData
abbrev Env := List (Option D)
/-- stands for the one list that all draws go through -/
def stD : D := .dict [(.none, .none)]
inductive Exc where
  | unfit | wide
  deriving DecidableEq
/-- what the state list holds -/
abbrev G := List D
inductive Res (α : Type) where
  | ok (a : α) (g : G)
  | exc (x : Exc) (g : G)
  | bad
namespace Res
def bind {α β : Type} (r : Res α) (f : α → G → Res β) : Res β := match r with
  | .ok a g => f a g
  | .exc x g => .exc x g
  | .bad => .bad
@[simp] theorem bind_ok {α β : Type} (a : α) (g : G) (f : α → G → Res β) : (Res.ok a g).bind f = f a g := (rfl)
@[simp] theorem bind_exc {α β : Type} (x : Exc) (g : G) (f : α → G → Res β) : (Res.exc (α := α) x g).bind f = .exc x g := (rfl)
@[simp] theorem bind_bad {α β : Type} (f : α → G → Res β) : (Res.bad (α := α)).bind f = .bad := (rfl)
/-- no exception goes through -/
def nox {α : Type} (r : Res α) : Res α := match r with
  | .ok a g => .ok a g
  | _ => .bad
@[simp] theorem nox_ok {α : Type} (a : α) (g : G) : (Res.ok a g).nox = .ok a g := (rfl)
@[simp] theorem nox_bad {α : Type} : (Res.bad (α := α)).nox = .bad := (rfl)
@[simp] theorem nox_exc {α : Type} (x : Exc) (g : G) : (Res.exc (α := α) x g).nox = .bad := (rfl)
/-- of an optional value -/
def ofO {α : Type} (o : Option α) (g : G) : Res α := match o with
  | some a => .ok a g
  | none => .bad
@[simp] theorem ofO_some {α : Type} (a : α) (g : G) : ofO (some a) g = .ok a g := (rfl)
@[simp] theorem ofO_none {α : Type} (g : G) : ofO (none : Option α) g = .bad := (rfl)
end Res

def gv : Env → Nat → Option D
  | [], _ => none
  | x :: _, 0 => x
  | _ :: r, n + 1 => gv r n
def sv : Env → Nat → Option D → Env
  | [], _, _ => []
  | _ :: r, 0, x => x :: r
  | y :: r, n + 1, x => y :: sv r n x
def wipeE (ρ : Env) : List Nat → Env
  | [] => ρ
  | v :: vs => sv (wipeE ρ vs) v none

inductive BOp where
  | add | sub | mul | fdiv | mod | pow
  deriving DecidableEq
inductive COp where
  | eq | ne | lt | le | gt | ge | isin | notin
  deriving DecidableEq
/-- built-ins of one argument -/
inductive B1 where
  | len | int | str | tuple | list | sorted | sset | lset | min | max | sum | repr
  deriving DecidableEq
inductive B2 where
  | max2 | min2
  deriving DecidableEq
/-- methods of one argument -/
inductive M1 where
  | index | count
  deriving DecidableEq
inductive Kd where
  | int | bool | str | tuple | list | intTuple
  deriving DecidableEq
inductive Tg where
  | n (i : Nat)
  | tup (ts : List Tg)

mutual
inductive T where
  | var (i : Nat) | own (i : Nat)
  | int (i : Int) | bl (b : Bool) | non | str (x : Str) | glob (x : Str) (i : Int)
  | bin (o : BOp) (a b : T) | neg (a : T) | not (a : T)
  | and (a : T) (bs : List T) | or (a : T) (bs : List T)
  | cmp (o : COp) (a b : T) | ch2 (o p : COp) (a b c : T) | ch3 (o p q : COp) (a b c d : T)
  | isN (a : T) | isNN (a : T) | isNT (a : T)
  | ife (c a b : T)
  | tup (ts : List T) | lst (ts : List T) | dct0
  | ix (a i : T) | sl (a : T) (lo hi : Op) | rev (a : T)
  | call (f : Nat) (ts : List T)
  | b1 (o : B1) (a : T) | b2 (o : B2) (a b : T) | m1 (o : M1) (a b : T) | isi (k : Kd) (a : T) | join (a : T) | lrg (it : It)
  | lc (own : List Nat) (tg : Tg) (it : It) (ifs : Op) (elt : T)
  | lc2 (own own1 : List Nat) (tg : Tg) (it : It) (tg1 : Tg) (it1 : It) (elt : T)
inductive Op where
  | no | yes (t : T)
inductive It where
  | seq (a : T) | rg1 (a : T) | rg2 (a b : T) | rg3 (a b c : T) | enu (a : T) | zip2 (a b : T) | zip3 (a b c : T)
end

inductive S where
  | asg (i : Nat) (e : T) | asgO (i : Nat) (e : T)
  | unp (ts : List Tg) (e : T)
  | par (js : List (Nat × Bool)) (es : List T)
  | aug (i : Nat) (o : BOp) (e : T)
  | iff (c : T) (a b : List S)
  | fr (tg : Tg) (it : It) (body : List S)
  | wh (n : Nat) (c : T) (body : List S)
  | ret (e : T) | ex (e : T) | rai (x : Exc) (m : Str)
  | app (i : Nat) (e : T) | ext (i : Nat) (e : T) | rem (i : Nat) (e : T) | six (i : Nat) (k e : T) | saug (i : Nat) (o : BOp) (k e : T) | popS (i j : Nat) (e : T)
  | stS (s k : Nat) (e : T) | stA (s k : Nat) (o : BOp) (e : T)
  | tryR (e : T) (er : Nat) | tryU (c : Nat) (f1 f2 : T) (er : Nat)
  | brk

def okE (d : D) : Bool := SeqAt.shaped d
def b2i (b : Bool) : Int := if b then 1 else 0
def mulOk (i j : Int) : Bool := (decide (-(2 ^ 64) < i) && decide (i < 2 ^ 64)) || (decide (-(2 ^ 64) < j) && decide (j < 2 ^ 64))
def binD : BOp → D → D → Option D
  | .add, .int i, .int j => some (.int (i + j))
  | .add, .str x, .str y => if x.length + y.length ≤ sizeLine then some (.str (x ++ y)) else none
  | .add, .list xs, .list ys => if xs.length + ys.length ≤ sizeLine then some (.list (xs ++ ys)) else none
  | .add, .tuple xs, .tuple ys => if xs.length + ys.length ≤ sizeLine then some (.tuple (xs ++ ys)) else none
  | .sub, .int i, .int j => some (.int (i - j))
  | .mul, .int i, .int j => if mulOk i j = true then some (.int (i * j)) else none
  | .mul, .tuple [x], .int j => if 2 ≤ j ∧ j ≤ 1000 then some (.tuple (List.replicate j.toNat x)) else none
  | .fdiv, .int i, .int j => if 0 < j ∧ j < 1073741824 then some (.int (i / j)) else none
  | .mod, .int i, .int j => if 0 < j then some (.int (i % j)) else none
  | .pow, .int i, .int j => if 0 ≤ j ∧ j ≤ 1000000 ∧ i.natAbs < 2 ^ 64 then some (.int (i ^ j.toNat)) else none
  | _, _, _ => none
def flatD : D → Bool
  | .none | .bool _ | .int _ | .str _ => true
  | _ => false
def itemsD : D → Option (List D)
  | .list xs => some xs
  | .tuple xs => some xs
  | _ => none
def inD (x : D) (y : D) : Option Bool := match itemsD y with
  | some ys => if flatD x = true ∧ ys.all flatD = true then some (ys.any fun z => PyData.eqv z x) else none
  | none => none
def cmpD : COp → D → D → Option Bool
  | .eq, x, y => if okE x = true ∧ okE y = true then some (PyData.eqv x y) else none
  | .ne, x, y => if okE x = true ∧ okE y = true then some (!PyData.eqv x y) else none
  | .lt, .int i, .int j => some (decide (i < j))
  | .le, .int i, .int j => some (decide (i ≤ j))
  | .gt, .int i, .int j => some (decide (j < i))
  | .ge, .int i, .int j => some (decide (j ≤ i))
  | .isin, x, y => inD x y
  | .notin, x, y => (inD x y).map (!·)
  | _, _, _ => none
def truD : D → Option Bool
  | .none => some false
  | .bool b => some b
  | .int i => some (i != 0)
  | .str x => if x.length ≤ sizeLine then some ((x.length : Int) != 0) else none
  | .list xs => some (!xs.isEmpty)
  | .tuple xs => some (!xs.isEmpty)
  | .dict _ => none
def isiD : Kd → D → Option Bool
  | _, .dict (_ :: _) => none
  | .int, .int _ => some true
  | .int, .bool _ => some true
  | .bool, .bool _ => some true
  | .str, .str _ => some true
  | .tuple, .tuple _ => some true
  | .list, .list _ => some true
  | .intTuple, .int _ => some true
  | .intTuple, .bool _ => some true
  | .intTuple, .tuple _ => some true
  | _, _ => some false
def ixD : D → Int → Option D
  | .list xs, i => L2.atI xs i
  | .tuple xs, i => L2.atI xs i
  | _, _ => none
def cutL {α : Type} (xs : List α) (lo hi : Option Int) : List α := (xs.drop (HT.sIx xs.length 0 lo)).take (HT.sIx xs.length xs.length hi - HT.sIx xs.length 0 lo)
def cutD (lo hi : Option Int) : D → Option D
  | .list xs => some (.list (cutL xs lo hi))
  | .tuple xs => some (.tuple (cutL xs lo hi))
  | .str x => if x.length ≤ sizeLine then some (.str ⟨(cutL x.cps.toList lo hi).toArray⟩) else none
  | _ => none
def revD : D → Option D
  | .list xs => some (.list xs.reverse)
  | .tuple xs => some (.tuple xs.reverse)
  | .str x => if x.length ≤ sizeLine then some (.str ⟨x.cps.toList.reverse.toArray⟩) else none
  | _ => none
def intOf : D → Option Int
  | .int i => some i
  | _ => none
def intsD (xs : List D) : Option (List Int) := xs.mapM intOf
def minI : List Int → Option Int
  | [] => none
  | x :: xs => some (xs.foldl min x)
def maxI : List Int → Option Int
  | [] => none
  | x :: xs => some (xs.foldl max x)
/-- tuples of ints -/
def tupOf : D → Option (List Int)
  | .tuple xs => intsD xs
  | _ => none
def tupsD (xs : List D) : Option (List (List Int)) := xs.mapM tupOf
def minT : List (List Int) → Option (List Int)
  | [] => none
  | x :: xs => some (xs.foldl (fun a y => if y < a then y else a) x)
def mkT (r : List Int) : D := .tuple (r.map .int)
def mkL (r : List Int) : D := .list (r.map .int)
def leI (a b : Int) : Bool := decide (a ≤ b)
def leT (a b : List Int) : Bool := decide (a ≤ b)
def neT (rows : List (List Int)) : Bool := rows.all fun r => !r.isEmpty
/-- sorted: ints; tuples of ints as long -/
def srtD (xs : List D) : Option (List D) := match intsD xs with
  | some ns => some ((ns.mergeSort leI).map .int)
  | none => match tupsD xs with
    | some rows => if neT rows = true then some ((rows.mergeSort leT).map mkT) else none
    | none => none
def minD (xs : List D) : Option D := match intsD xs with
  | some ns => (minI ns).map .int
  | none => match tupsD xs with
    | some rows => (minT rows).map mkT
    | none => none
def maxD (xs : List D) : Option D := (intsD xs).bind fun ns => (maxI ns).map .int
def dedI (ns : List Int) : List Int := ns.eraseDups
def b1D : B1 → D → Option D
  | .len, .list xs => some (.int xs.length)
  | .len, .tuple xs => some (.int xs.length)
  | .len, .str x => if x.length ≤ sizeLine then some (.int x.length) else none
  | .int, .int i => some (.int i)
  | .int, .bool b => some (.int (b2i b))
  | .str, .int i => if i.natAbs.log2 < 1920 then some (.str (toString i)) else none
  | .str, .none => some (.str "None")
  | .tuple, .list xs => some (.tuple xs)
  | .tuple, .tuple xs => some (.tuple xs)
  | .tuple, .str x => if x.length ≤ 1000 then some (.tuple (x.cps.toList.map fun c => .str ⟨#[c]⟩)) else none
  | .list, .list xs => some (.list xs)
  | .list, .tuple xs => some (.list xs)
  | .sorted, d => (itemsD d).bind fun xs => (srtD xs).map .list
  | .sset, d => (itemsD d).bind fun xs => (intsD xs).bind fun ns => if ns.length < 64 then some (mkL ((dedI ns).mergeSort leI)) else none
  | .lset, d => (itemsD d).bind fun xs => (intsD xs).bind fun ns => if ns.length < 64 then some (.int (dedI ns).length) else none
  | .min, d => (itemsD d).bind minD
  | .max, d => (itemsD d).bind maxD
  | .sum, d => (itemsD d).bind fun xs => (intsD xs).map fun ns => .int ns.sum
  | .repr, d => if d.canLay0 = true ∧ d.depth ≤ 64 ∧ d.showable = true ∧ d.shown.length ≤ sizeLine then some (.str d.shown) else none
  | _, _ => none
def b2D : B2 → D → D → Option D
  | .max2, .int i, .int j => some (.int (if j > i then j else i))
  | .min2, .int i, .int j => some (.int (if j < i then j else i))
  | _, _, _ => none
def m1D : M1 → D → D → Option D
  | .index, .list xs, x => if flatD x = true ∧ xs.all flatD = true then (xs.findIdx? fun z => PyData.eqv z x).map fun j => .int (j : Nat) else none
  | .count, .list xs, .int k => (intsD xs).map fun ns => .int (ns.count k : Nat)
  | _, _, _ => none
def strOf : D → Option Str
  | .str x => some x
  | _ => none
def joinD : D → Option D
  | .tuple xs => (xs.mapM strOf).bind fun ss => if (ss.map (·.length)).sum ≤ 1000000 then some (.str (Txt.join ("" : Str) ss)) else none
  | _ => none
def rgB (i : Int) : Bool := decide (-(2 ^ 60) ≤ i) && decide (i < 2 ^ 60)
def rgL (i : Int) (n : Nat) (c : Int) : List D := (List.range n).map fun k => .int (i + (k : Nat) * c)
def rg3N (i j c : Int) : Nat := if 0 < c then ((j - i + c - 1) / c).toNat else ((i - j + (-c) - 1) / (-c)).toNat
def enuL : Nat → List D → List D
  | _, [] => []
  | n, x :: xs => .tuple [.int n, x] :: enuL (n + 1) xs
def zip2L : List D → List D → List D
  | x :: xs, y :: ys => .tuple [x, y] :: zip2L xs ys
  | _, _ => []
def zip3L : List D → List D → List D → List D
  | x :: xs, y :: ys, z :: zs => .tuple [x, y, z] :: zip3L xs ys zs
  | _, _, _ => []
def zip2D : D → D → Option (List D)
  | .list xs, .list ys => some (zip2L xs ys)
  | .tuple xs, .tuple ys => some (zip2L xs ys)
  | _, _ => none
def zip3D : D → D → D → Option (List D)
  | .tuple xs, .tuple ys, .tuple zs => some (zip3L xs ys zs)
  | _, _, _ => none

mutual
def bindT : Tg → D → Env → Option Env
  | .n i, d, ρ => some (sv ρ i (some d))
  | .tup ts, .tuple ds, ρ => bindTs ts ds ρ
  | .tup _, _, _ => none
def bindTs : List Tg → List D → Env → Option Env
  | [], [], ρ => some ρ
  | t :: ts, d :: ds, ρ => (bindT t d ρ).bind fun ρ' => bindTs ts ds ρ'
  | _, _, _ => none
end

abbrev Fn := Nat → List D → G → Res D
/-- the loop of a comprehension -/
def lcGo (f : D → G → Res (List D)) : List D → List D → G → Res (List D)
  | [], acc, g => .ok acc g
  | x :: xs, acc, g => (f x g).bind fun ys g' => lcGo f xs (acc ++ ys) g'
def lcEnd (r : Res (List D)) : Res D := r.nox.bind fun ys g => if ys.length ≤ sizeLine then .ok (.list ys) g else .bad
def noneD : D → Bool
  | .none => true
  | _ => false
/-- read an index of the state -/
def isSt : D → Bool
  | .dict [(.none, .none)] => true
  | _ => false
def ixG (a : D) (i : D) (g : G) : Option D := match i with
  | .int k => if isSt a = true then L2.atI g k else ixD a k
  | _ => none
section
variable (Φ : Fn)
mutual
def evE : T → Env → G → Res D
  | .var i, ρ, g => .ofO (gv ρ i) g
  | .own i, ρ, g => .ofO (gv ρ i) g
  | .int i, _, g => .ok (.int i) g
  | .bl b, _, g => .ok (.bool b) g
  | .non, _, g => .ok .none g
  | .str x, _, g => .ok (.str x) g
  | .glob _ i, _, g => .ok (.int i) g
  | .bin o a b, ρ, g => (evE a ρ g).bind fun x g => (evE b ρ g).bind fun y g => .ofO (binD o x y) g
  | .neg a, ρ, g => (evE a ρ g).bind fun x g => .ofO ((intOf x).map fun i => .int (-i)) g
  | .not a, ρ, g => (evE a ρ g).bind fun x g => .ofO ((truD x).map fun b => .bool (!b)) g
  | .and a bs, ρ, g => (evE a ρ g).bind fun x g => (Res.ofO (truD x) g).bind fun b g => if b = true then evA bs x ρ g else .ok x g
  | .or a bs, ρ, g => (evE a ρ g).bind fun x g => (Res.ofO (truD x) g).bind fun b g => if b = true then .ok x g else evO bs x ρ g
  | .cmp o a b, ρ, g => (evE a ρ g).bind fun x g => (evE b ρ g).bind fun y g => .ofO ((cmpD o x y).map .bool) g
  | .ch2 o p a b c, ρ, g => (evE a ρ g).bind fun x g => (evE b ρ g).bind fun y g => (Res.ofO (cmpD o x y) g).bind fun r g =>
      if r = true then (evE c ρ g).bind fun z g => .ofO ((cmpD p y z).map .bool) g else .ok (.bool false) g
  | .ch3 o p q a b c d, ρ, g => (evE a ρ g).bind fun x g => (evE b ρ g).bind fun y g => (Res.ofO (cmpD o x y) g).bind fun r g =>
      if r = true then (evE c ρ g).bind fun z g => (Res.ofO (cmpD p y z) g).bind fun r g =>
        if r = true then (evE d ρ g).bind fun u g => .ofO ((cmpD q z u).map .bool) g else .ok (.bool false) g
      else .ok (.bool false) g
  | .isN a, ρ, g => (evE a ρ g).bind fun x g => .ok (.bool (noneD x)) g
  | .isNN a, ρ, g => (evE a ρ g).bind fun x g => .ok (.bool (!noneD x)) g
  | .isNT a, ρ, g => (evE a ρ g).bind fun x g => match x with
    | .bool b => .ok (.bool (!b)) g
    | _ => .bad
  | .ife c a b, ρ, g => (evE c ρ g).bind fun x g => (Res.ofO (truD x) g).bind fun t g => if t = true then evE a ρ g else evE b ρ g
  | .tup ts, ρ, g => (evL ts ρ g).bind fun ds g => .ok (.tuple ds) g
  | .lst ts, ρ, g => (evL ts ρ g).bind fun ds g => .ok (.list ds) g
  | .dct0, _, g => .ok (.dict []) g
  | .ix a i, ρ, g => (evE a ρ g).bind fun x g => (evE i ρ g).bind fun y g => .ofO (ixG x y g) g
  | .sl a lo hi, ρ, g => (evE a ρ g).bind fun x g => (evP lo ρ g).bind fun l g => (evP hi ρ g).bind fun h g => .ofO (cutD l h x) g
  | .rev a, ρ, g => (evE a ρ g).bind fun x g => .ofO (revD x) g
  | .call f ts, ρ, g => (evL ts ρ g).bind fun ds g => Φ f ds g
  | .b1 o a, ρ, g => (evE a ρ g).bind fun x g => .ofO (b1D o x) g
  | .b2 o a b, ρ, g => (evE a ρ g).bind fun x g => (evE b ρ g).bind fun y g => .ofO (b2D o x y) g
  | .m1 o a b, ρ, g => (evE a ρ g).bind fun x g => match x with
    | .list xs => (evE b ρ g).bind fun y g => .ofO (m1D o (.list xs) y) g
    | _ => .bad
  | .isi k a, ρ, g => (evE a ρ g).bind fun x g => .ofO ((isiD k x).map .bool) g
  | .join a, ρ, g => (evE a ρ g).bind fun x g => .ofO (joinD x) g
  | .lrg it, ρ, g => (evI it ρ g).bind fun xs g => if xs.length ≤ sizeLine then .ok (.list xs) g else .bad
  | .lc own tg it ifs elt, ρ, g => (evI it ρ g).bind fun xs g => lcEnd (lcGo (fun x g => match bindT tg x (wipeE ρ own) with
      | some ρ' => (evC ifs ρ' g).bind fun b g => if b = true then (evE elt ρ' g).bind fun y g => .ok [y] g else .ok [] g
      | none => .bad) xs [] g)
  | .lc2 own own1 tg it tg1 it1 elt, ρ, g => (evI it ρ g).bind fun xs g => lcEnd (lcGo (fun x g => match bindT tg x (wipeE ρ own) with
      | some ρ' => (evI it1 ρ' g).bind fun ys g => lcGo (fun y g => match bindT tg1 y (wipeE ρ' own1) with
        | some ρ'' => (evE elt ρ'' g).bind fun z g => .ok [z] g
        | none => .bad) ys [] g
      | none => .bad) xs [] g)
def evL : List T → Env → G → Res (List D)
  | [], _, g => .ok [] g
  | t :: ts, ρ, g => (evE t ρ g).bind fun x g => (evL ts ρ g).bind fun xs g => .ok (x :: xs) g
/-- and, or: what is left, the last value -/
def evA : List T → D → Env → G → Res D
  | [], x, _, g => .ok x g
  | t :: ts, _, ρ, g => (evE t ρ g).bind fun x g => match ts with
    | [] => .ok x g
    | _ :: _ => (Res.ofO (truD x) g).bind fun b g => if b = true then evA ts x ρ g else .ok x g
def evO : List T → D → Env → G → Res D
  | [], x, _, g => .ok x g
  | t :: ts, _, ρ, g => (evE t ρ g).bind fun x g => match ts with
    | [] => .ok x g
    | _ :: _ => (Res.ofO (truD x) g).bind fun b g => if b = true then .ok x g else evO ts x ρ g
/-- an optional part of a slice -/
def evP : Op → Env → G → Res (Option Int)
  | .no, _, g => .ok none g
  | .yes t, ρ, g => (evE t ρ g).bind fun x g => (Res.ofO (intOf x) g).bind fun i g => .ok (some i) g
/-- an optional test -/
def evC : Op → Env → G → Res Bool
  | .no, _, g => .ok true g
  | .yes t, ρ, g => (evE t ρ g).bind fun x g => .ofO (truD x) g
def evI : It → Env → G → Res (List D)
  | .seq a, ρ, g => (evE a ρ g).bind fun x g => .ofO (itemsD x) g
  | .rg1 a, ρ, g => (evE a ρ g).bind fun x g => (Res.ofO (intOf x) g).bind fun j g => if rgB j = true then .ok (rgL 0 j.toNat 1) g else .bad
  | .rg2 a b, ρ, g => (evE a ρ g).bind fun x g => (evE b ρ g).bind fun y g => (Res.ofO (intOf x) g).bind fun i g => (Res.ofO (intOf y) g).bind fun j g =>
      if rgB i = true ∧ rgB j = true then .ok (rgL i (j - i).toNat 1) g else .bad
  | .rg3 a b c, ρ, g => (evE a ρ g).bind fun x g => (evE b ρ g).bind fun y g => (evE c ρ g).bind fun z g => (Res.ofO (intOf x) g).bind fun i g => (Res.ofO (intOf y) g).bind fun j g => (Res.ofO (intOf z) g).bind fun c g =>
      if rgB i = true ∧ rgB j = true ∧ c = -1 then .ok (rgL i (i - j).toNat c) g else .bad
  | .enu a, ρ, g => (evE a ρ g).bind fun x g => (Res.ofO (itemsD x) g).bind fun xs g => .ok (enuL 0 xs) g
  | .zip2 a b, ρ, g => (evE a ρ g).bind fun x g => (evE b ρ g).bind fun y g => .ofO (zip2D x y) g
  | .zip3 a b c, ρ, g => (evE a ρ g).bind fun x g => (evE b ρ g).bind fun y g => (evE c ρ g).bind fun z g => .ofO (zip3D x y z) g
end

inductive Fl where
  | nx (ρ : Env) | rt (d : D) | bk (ρ : Env)
def frGo (f : Env → D → G → Res Fl) : List D → Env → G → Res Fl
  | [], ρ, g => .ok (.nx ρ) g
  | x :: xs, ρ, g => (f ρ x g).bind fun fl g => match fl with
    | .nx ρ' => frGo f xs ρ' g
    | .bk ρ' => .ok (.nx ρ') g
    | .rt d => .ok (.rt d) g
def whGo (c : Env → G → Res Bool) (f : Env → G → Res Fl) : Nat → Env → G → Res Fl
  | 0, _, _ => .bad
  | n + 1, ρ, g => (c ρ g).bind fun b g => if b = true then (f ρ g).bind fun fl g => match fl with
      | .nx ρ' => whGo c f n ρ' g
      | .bk ρ' => .ok (.nx ρ') g
      | .rt d => .ok (.rt d) g
    else .ok (.nx ρ) g
def svAll : List (Nat × Bool) → List D → Env → Option Env
  | [], [], ρ => some ρ
  | (i, _) :: js, d :: ds, ρ => svAll js ds (sv ρ i (some d))
  | _, _, _ => none
def lstG (ρ : Env) (i : Nat) : Option (List D) := match gv ρ i with
  | some (.list xs) => some xs
  | _ => none
def lstD : D → Option (List D)
  | .list xs => some xs
  | _ => none
def natOf : D → Option Nat
  | .int i => if 0 ≤ i then some i.toNat else none
  | _ => none
/-- xs[k] = v -/
def setL (xs : List D) (k : D) (v : D) : Option (List D) := match k with
  | .int i => (L2.ixN xs.length i).map fun j => xs.set j v
  | _ => none
def stOf (ρ : Env) (s : Nat) (g : G) (k : Nat) : Option D := match gv ρ s with
  | some t => if isSt t = true then g[k]? else none
  | none => none
def stSet (g : G) (k : Nat) (d : D) : Option G := match d with
  | .int i => if 1 ≤ k ∧ k < g.length then some (g.set k (.int i)) else none
  | _ => none
mutual
def evS : S → Env → G → Res Fl
  | .asg i e, ρ, g => (evE Φ e ρ g).bind fun x g => .ok (.nx (sv ρ i (some x))) g
  | .asgO i e, ρ, g => (evE Φ e ρ g).bind fun x g => match x with
    | .list _ => .ok (.nx (sv ρ i (some x))) g
    | _ => .bad
  | .unp ts e, ρ, g => (evE Φ e ρ g).bind fun x g => match x with
    | .tuple ds => (Res.ofO (bindTs ts ds ρ) g).bind fun ρ' g => .ok (.nx ρ') g
    | _ => .bad
  | .par js es, ρ, g => (evL Φ es ρ g).bind fun ds g => (Res.ofO (svAll js ds ρ) g).bind fun ρ' g => .ok (.nx ρ') g
  | .aug i o e, ρ, g => (Res.ofO (gv ρ i) g).bind fun x g => (evE Φ e ρ g).bind fun y g => (Res.ofO (intOf x) g).bind fun a g => (Res.ofO (intOf y) g).bind fun b g => (Res.ofO (binD o (.int a) (.int b)) g).bind fun z g => .ok (.nx (sv ρ i (some z))) g
  | .iff c a b, ρ, g => (evE Φ c ρ g).bind fun x g => (Res.ofO (truD x) g).bind fun t g => if t = true then evB a ρ g else evB b ρ g
  | .fr tg it body, ρ, g => (evI Φ it ρ g).bind fun xs g => frGo (fun ρ x g => match bindT tg x ρ with
      | some ρ' => evB body ρ' g
      | none => .bad) xs ρ g
  | .wh n c body, ρ, g => whGo (fun ρ g => (evE Φ c ρ g).bind fun x g => .ofO (truD x) g) (fun ρ g => evB body ρ g) n ρ g
  | .ret e, ρ, g => (evE Φ e ρ g).bind fun x g => .ok (.rt x) g
  | .ex e, ρ, g => (evE Φ e ρ g).bind fun _ g => .ok (.nx ρ) g
  | .rai x _, _, g => .exc x g
  | .app i e, ρ, g => (Res.ofO (lstG ρ i) g).bind fun xs g => (evE Φ e ρ g).bind fun x g => if xs.length < sizeLine then .ok (.nx (sv ρ i (some (.list (xs ++ [x]))))) g else .bad
  | .ext i e, ρ, g => (Res.ofO (lstG ρ i) g).bind fun xs g => (evE Φ e ρ g).bind fun x g => (Res.ofO (lstD x) g).bind fun ys g => if xs.length + ys.length ≤ sizeLine then .ok (.nx (sv ρ i (some (.list (xs ++ ys))))) g else .bad
  | .rem i e, ρ, g => (Res.ofO (lstG ρ i) g).bind fun xs g => (evE Φ e ρ g).bind fun x g => (Res.ofO (intsD xs) g).bind fun ns g => (Res.ofO (intOf x) g).bind fun k g => if k ∈ ns then .ok (.nx (sv ρ i (some (mkL (ns.erase k))))) g else .bad
  | .six i k e, ρ, g => (evE Φ e ρ g).bind fun x g => (Res.ofO (lstG ρ i) g).bind fun xs g => (evE Φ k ρ g).bind fun y g => (Res.ofO (setL xs y x) g).bind fun ys g => .ok (.nx (sv ρ i (some (.list ys)))) g
  | .saug i o k e, ρ, g => (Res.ofO (lstG ρ i) g).bind fun xs g => (evE Φ k ρ g).bind fun y g => (Res.ofO (natOf y) g).bind fun j g => (Res.ofO xs[j]? g).bind fun v g => (evE Φ e ρ g).bind fun z g => (Res.ofO (intOf v) g).bind fun a g => (Res.ofO (intOf z) g).bind fun b g => (Res.ofO (binD o (.int a) (.int b)) g).bind fun u g => .ok (.nx (sv ρ i (some (.list (xs.set j u))))) g
  | .popS i j e, ρ, g => (Res.ofO (lstG ρ j) g).bind fun xs g => (evE Φ e ρ g).bind fun y g => (Res.ofO (intOf y) g).bind fun k g => (Res.ofO (if rgB k = true then L2.ixN xs.length k else none) g).bind fun n g => (Res.ofO xs[n]? g).bind fun v g => .ok (.nx (sv (sv ρ j (some (.list (xs.eraseIdx n)))) i (some v))) g
  | .stS s k e, ρ, g => (evE Φ e ρ g).bind fun x g => (Res.ofO (gv ρ s) g).bind fun t g => if isSt t = true then (Res.ofO (stSet g k x) g).bind fun g' _ => .ok (.nx ρ) g' else .bad
  | .stA s k o e, ρ, g => (Res.ofO (stOf ρ s g k) g).bind fun v g => (evE Φ e ρ g).bind fun z g => (Res.ofO (intOf v) g).bind fun a g => (Res.ofO (intOf z) g).bind fun b g => (Res.ofO (binD o (.int a) (.int b)) g).bind fun u g => (Res.ofO (stSet g k u) g).bind fun g' _ => .ok (.nx ρ) g'
  | .tryR e _, ρ, g => match evE Φ e ρ g with
    | .ok d g => .ok (.rt d) g
    | .exc _ g => .ok (.rt (.tuple [])) g
    | .bad => .bad
  | .tryU c f1 f2 er, ρ, g => (Res.ofO (gv ρ c) g).bind fun x g => (Res.ofO (truD x) g).bind fun t g => match (if t = true then evE Φ f1 ρ g else evE Φ f2 ρ g) with
    | .ok _ g => .ok (.rt (.bool false)) g
    | .exc .unfit g => .ok (.nx (sv ρ er none)) g
    | .exc x g => .exc x g
    | .bad => .bad
  | .brk, ρ, g => .ok (.bk ρ) g
def evB : List S → Env → G → Res Fl
  | [], ρ, g => .ok (.nx ρ) g
  | s :: ss, ρ, g => (evS s ρ g).bind fun fl g => match fl with
    | .nx ρ' => evB ss ρ' g
    | .bk ρ' => .ok (.bk ρ') g
    | .rt d => .ok (.rt d) g
end
end

structure Def where
  name : Str
  ps : Nat
  ns : List Str
  mu : List Nat
  fr : Bool
  body : List S
def runF (P : List Def) : Nat → Fn
  | 0, _, _, _ => .bad
  | n + 1, f, ds, g => match P[f]? with
    | none => .bad
    | some d => if ds.length = d.ps then match evB (runF P n) d.body (ds.map some ++ List.replicate (d.ns.length - d.ps) none) g with
        | .ok (.rt v) g => .ok v g
        | .ok (.nx _) g => .ok .none g
        | .ok (.bk _) _ => .bad
        | .exc x g => .exc x g
        | .bad => .bad
      else .bad
end PT
namespace PT
open PySem PySem.Spec PyProof.Rows L2

/-- the state's list, and the list of numbers in it -/
structure Sa where
  a : Addr
  q : Addr
instance : CoeOut Sa Addr := ⟨Sa.a⟩
mutual
inductive Is (O : List Addr) (ast : Sa) (H : Hp) : V → D → Prop
  | non : Is O ast H .non .none
  | bl (b : Bool) : Is O ast H (.bl b) (.bool b)
  | int (i : Int) : Is O ast H (.int i) (.int i)
  | str (x : Str) : Is O ast H (.str x) (.str x)
  | tup {a : Addr} {xs : List V} {ds : List D} : H a = some (.tup xs) → IsL O ast H xs ds → Is O ast H (.ref a) (.tuple ds)
  | lst {a : Addr} {xs : List V} {ds : List D} : H a = some (.lst xs) → a ∉ O → IsL O ast H xs ds → Is O ast H (.ref a) (.list ds)
  | dct {a : Addr} : H a = some (.dK []) → a ∉ O → Is O ast H (.ref a) (.dict [])
  | st : Is O ast H (.ref ast) stD
inductive IsL (O : List Addr) (ast : Sa) (H : Hp) : List V → List D → Prop
  | nil : IsL O ast H [] []
  | cons {v : V} {vs : List V} {d : D} {ds : List D} : Is O ast H v d → IsL O ast H vs ds → IsL O ast H (v :: vs) (d :: ds)
end

section
variable {O O' : List Addr} {ast : Sa} {a p : Addr} {H H' : Hp} {v : V} {d : D} {vs ws : List V} {ds es : List D}
mutual
theorem Is.keep (k : ∀ a o, H a = some o → a ∉ O → H' a = some o) (kt : ∀ a xs, H a = some (.tup xs) → H' a = some (.tup xs)) : ∀ {v : V} {d : D}, Is O ast H v d → Is O ast H' v d
  | _, _, .non => .non
  | _, _, .bl b => .bl b
  | _, _, .int i => .int i
  | _, _, .str x => .str x
  | _, _, .tup h l => .tup (kt _ _ h) (IsL.keep k kt l)
  | _, _, .lst h n l => .lst (k _ _ h n) n (IsL.keep k kt l)
  | _, _, .dct h n => .dct (k _ _ h n) n
  | _, _, .st => .st
theorem IsL.keep (k : ∀ a o, H a = some o → a ∉ O → H' a = some o) (kt : ∀ a xs, H a = some (.tup xs) → H' a = some (.tup xs)) : ∀ {vs : List V} {ds : List D}, IsL O ast H vs ds → IsL O ast H' vs ds
  | _, _, .nil => .nil
  | _, _, .cons h l => .cons (Is.keep k kt h) (IsL.keep k kt l)
end
mutual
theorem Is.anti (s : ∀ a, a ∈ O' → a ∈ O) : ∀ {v : V} {d : D}, Is O ast H v d → Is O' ast H v d
  | _, _, .non => .non
  | _, _, .bl b => .bl b
  | _, _, .int i => .int i
  | _, _, .str x => .str x
  | _, _, .tup h l => .tup h (IsL.anti s l)
  | _, _, .lst h n l => .lst h (fun z => n (s _ z)) (IsL.anti s l)
  | _, _, .dct h n => .dct h (fun z => n (s _ z))
  | _, _, .st => .st
theorem IsL.anti (s : ∀ a, a ∈ O' → a ∈ O) : ∀ {vs : List V} {ds : List D}, IsL O ast H vs ds → IsL O' ast H vs ds
  | _, _, .nil => .nil
  | _, _, .cons h l => .cons (Is.anti s h) (IsL.anti s l)
end
mutual
/-- a place that was free is not in it -/
theorem Is.more (hp : H p = none) : ∀ {v : V} {d : D}, Is O ast H v d → Is (p :: O) ast H v d
  | _, _, .non => .non
  | _, _, .bl b => .bl b
  | _, _, .int i => .int i
  | _, _, .str x => .str x
  | _, _, .tup h l => .tup h (IsL.more hp l)
  | _, _, .lst h n l => .lst h (by rw [List.mem_cons, not_or]; exact ⟨fun e => (by rw [e, hp] at h; cases h), n⟩) (IsL.more hp l)
  | _, _, .dct h n => .dct h (by rw [List.mem_cons, not_or]; exact ⟨fun e => (by rw [e, hp] at h; cases h), n⟩)
  | _, _, .st => .st
theorem IsL.more (hp : H p = none) : ∀ {vs : List V} {ds : List D}, IsL O ast H vs ds → IsL (p :: O) ast H vs ds
  | _, _, .nil => .nil
  | _, _, .cons h l => .cons (Is.more hp h) (IsL.more hp l)
end
theorem IsL.length : ∀ {vs : List V} {ds : List D}, IsL O ast H vs ds → vs.length = ds.length
  | _, _, .nil => rfl
  | _, _, .cons _ l => by rw [List.length_cons, List.length_cons, l.length]
theorem IsL.get : ∀ {vs : List V} {ds : List D} {i : Nat} {d : D}, IsL O ast H vs ds → ds[i]? = some d → ∃ v, vs[i]? = some v ∧ Is O ast H v d
  | _, _, _, _, .nil, e => by simp at e
  | _, _, 0, _, .cons h _, e => by simp at e; subst e; exact ⟨_, rfl, h⟩
  | _, _, i + 1, d, .cons _ l, e => by
    obtain ⟨v, h1, h2⟩ := IsL.get (i := i) (d := d) l (by simpa using e)
    exact ⟨v, by simpa using h1, h2⟩
theorem IsL.append : ∀ {vs ws : List V} {ds es : List D}, IsL O ast H vs ds → IsL O ast H ws es → IsL O ast H (vs ++ ws) (ds ++ es)
  | _, _, _, _, .nil, m => m
  | _, _, _, _, .cons h l, m => .cons h (IsL.append l m)
theorem IsL.take : ∀ {vs : List V} {ds : List D} (n : Nat), IsL O ast H vs ds → IsL O ast H (vs.take n) (ds.take n)
  | _, _, 0, _ => .nil
  | _, _, _ + 1, .nil => .nil
  | _, _, n + 1, .cons h l => .cons h (IsL.take n l)
theorem IsL.drop : ∀ {vs : List V} {ds : List D} (n : Nat), IsL O ast H vs ds → IsL O ast H (vs.drop n) (ds.drop n)
  | _, _, 0, l => l
  | _, _, _ + 1, .nil => .nil
  | _, _, n + 1, .cons _ l => IsL.drop n l
theorem IsL.reverse {vs : List V} {ds : List D} (l : IsL O ast H vs ds) : IsL O ast H vs.reverse ds.reverse := by
  induction vs generalizing ds with
  | nil => cases l; exact .nil
  | cons v vs ih =>
    cases l with
    | cons h l =>
      rw [List.reverse_cons, List.reverse_cons]
      exact (ih l).append (.cons h .nil)
theorem IsL.set : ∀ {vs : List V} {ds : List D} (i : Nat), IsL O ast H vs ds → Is O ast H v d → IsL O ast H (vs.set i v) (ds.set i d)
  | _, _, _, .nil, _ => .nil
  | _, _, 0, .cons _ l, h => .cons h l
  | _, _, i + 1, .cons g l, h => .cons g (IsL.set i l h)
theorem IsL.eraseIdx : ∀ {vs : List V} {ds : List D} (i : Nat), IsL O ast H vs ds → IsL O ast H (vs.eraseIdx i) (ds.eraseIdx i)
  | _, _, _, .nil => .nil
  | _, _, 0, .cons _ l => l
  | _, _, i + 1, .cons g l => .cons g (IsL.eraseIdx i l)
theorem IsL.rep (h : Is O ast H v d) : ∀ n : Nat, IsL O ast H (List.replicate n v) (List.replicate n d)
  | 0 => .nil
  | n + 1 => by rw [List.replicate_succ, List.replicate_succ]; exact .cons h (IsL.rep h n)
theorem IsL.atI {i : Int} (l : IsL O ast H vs ds) (e : L2.atI ds i = some d) : ∃ v, L2.atI vs i = some v ∧ Is O ast H v d := by
  unfold L2.atI at e ⊢
  rw [l.length]
  cases q : ixN ds.length i with
  | none => rw [q] at e; cases e
  | some j =>
    rw [q] at e
    exact l.get e
theorem IsL.ints : ∀ {ds : List D} {vs : List V} {ns : List Int}, IsL O ast H vs ds → intsD ds = some ns → vs = ns.map V.int ∧ ds = ns.map PyData.int
  | [], vs, ns, l, e => by
    cases l
    have : ns = [] := by simpa [intsD] using e.symm
    subst this
    exact ⟨rfl, rfl⟩
  | d :: ds, vs, ns, l, e => by
    unfold intsD at e
    rw [List.mapM_cons] at e
    cases d with
    | int i =>
      cases q : ds.mapM intOf with
      | none => rw [q] at e; cases e
      | some ms =>
        rw [q] at e
        have e2 : i :: ms = ns := Option.some.inj e
        subst e2
        cases l with
        | cons h l =>
          cases h
          obtain ⟨h1, h2⟩ := IsL.ints l q
          exact ⟨by rw [h1]; rfl, by rw [h2]; rfl⟩
    | _ => cases e
theorem IsL.ofInts : ∀ ns : List Int, IsL O ast H (ns.map V.int) (ns.map PyData.int)
  | [] => .nil
  | n :: ns => .cons (.int n) (IsL.ofInts ns)
end

/-- all but the state is kept -/
def Fr (ast : Sa) (H H' : Hp) : Prop := ∀ (a : Addr) (o : HO), a ≠ ast.a → H a = some o → H' a = some o
theorem Fr.refl {ast : Sa} {H : Hp} : Fr ast H H := fun _ _ _ h => h
theorem Fr.trans {ast : Sa} {H H1 H2 : Hp} (a : Fr ast H H1) (b : Fr ast H1 H2) : Fr ast H H2 := fun c o n h => b c o n (a c o n h)
theorem Fr.upd {ast : Sa} {p : Addr} {H : Hp} {o : HO} (h : H p = none) : Fr ast H (upd H p o) := fun b x _ e => by
  rw [upd_ne (ne_of_none e h)]; exact e
/-- the state is no tuple -/
def NT (ast : Sa) (H : Hp) : Prop := ∀ xs, H ast ≠ some (.tup xs)
structure StIs (O : List Addr) (ast : Sa) (H : Hp) (g : G) : Prop where
  nO : ast.q ∉ O
  ne : ast.q ≠ ast.a
  ex : ∃ ns ms : List Int, g = .list (ns.map .int) :: ms.map .int ∧ H ast.a = some (.lst (.ref ast.q :: ms.map V.int)) ∧ H ast.q = some (.lst (ns.map V.int))
section
variable {O O' : List Addr} {ast : Sa} {a p : Addr} {H H' : Hp} {v : V} {d : D} {vs ws : List V} {ds es : List D} {g : G}
theorem Fr.none (f : Fr ast H H') (n : p ≠ ast.a) (h : H' p = none) : H p = none := by
  cases q : H p with
  | none => rfl
  | some o => rw [f p o n q] at h; cases h
theorem Fr.tups (f : Fr ast H H') (nt : NT ast H) : ∀ a xs, H a = some (.tup xs) → H' a = some (.tup xs) := fun a xs h => by
  refine f a _ (fun e => ?_) h
  rw [e] at h; exact nt xs h
theorem StIs.nt (st : StIs O ast H g) : NT ast H := fun xs h => by
  obtain ⟨ns, ms, _, hy, _⟩ := st.ex
  rw [hy] at h; cases h
theorem Is.fr (h : Is O ast H v d) (ha : ast.a ∈ O) (f : Fr ast H H') (nt : NT ast H) : Is O ast H' v d :=
  h.keep (fun b o e n => f b o (fun z => n (z ▸ ha)) e) (f.tups nt)
theorem IsL.fr (h : IsL O ast H vs ds) (ha : ast.a ∈ O) (f : Fr ast H H') (nt : NT ast H) : IsL O ast H' vs ds :=
  h.keep (fun b o e n => f b o (fun z => n (z ▸ ha)) e) (f.tups nt)
theorem StIs.lt (st : StIs O ast H g) : H ast ≠ .none := by
  obtain ⟨ns, ms, _, hy, _⟩ := st.ex
  rw [hy]; exact fun e => nomatch e
theorem StIs.qne (st : StIs O ast H g) : H ast.q ≠ .none := by
  obtain ⟨ns, ms, _, _, hy⟩ := st.ex
  rw [hy]; exact fun e => nomatch e
theorem StIs.isL (st : StIs O ast H g) : ∃ xs, H ast = some (.lst xs) ∧ IsL O ast H xs g := by
  obtain ⟨ns, ms, rfl, h1, h2⟩ := st.ex
  exact ⟨_, h1, .cons (.lst h2 st.nO (IsL.ofInts ns)) (IsL.ofInts ms)⟩
/-- where both lists stand as they were -/
theorem StIs.at (st : StIs O ast H g) (h1 : H' ast.a = H ast.a) (h2 : H' ast.q = H ast.q) : StIs O ast H' g := by
  obtain ⟨ns, ms, e, q1, q2⟩ := st.ex
  exact ⟨st.nO, st.ne, ns, ms, e, h1.trans q1, h2.trans q2⟩
theorem StIs.oo (st : StIs O ast H g) (n : ast.q ∉ O') : StIs O' ast H g := ⟨n, st.ne, st.ex⟩
theorem StIs.anti (st : StIs O ast H g) (s : ∀ a, a ∈ O' → a ∈ O) : StIs O' ast H g := st.oo fun z => st.nO (s _ z)
theorem StIs.upd (st : StIs O ast H g) (ha : ast.a ∈ O) {o : HO} (hp : H p = .none) : StIs O ast (L2.upd H p o) g :=
  st.at (upd_ne fun e => st.lt (by rw [← e] at hp; exact hp)) (upd_ne fun e => st.qne (by rw [← e] at hp; exact hp))
end

/-- how a result lies: tr: as it stands now; cl: for good; fr: a list is new -/
inductive Md where
  | tr | cl | fr
  deriving DecidableEq
def IsT (O : List Addr) (ast : Sa) (H : Hp) (v : V) (d : D) : Prop :=
  (∃ (a : Addr) (xs : List V) (ds : List D), v = .ref a ∧ d = .list ds ∧ a ≠ ast.a ∧ H a = some (.lst xs) ∧ IsL O ast H xs ds) ∨ ((∀ ds, d ≠ .list ds) ∧ Is O ast H v d)
def IsF (O : List Addr) (ast : Sa) (H H' : Hp) (v : V) (d : D) : Prop :=
  (∃ (a : Addr) (xs : List V) (ds : List D), v = .ref a ∧ d = .list ds ∧ H a = none ∧ H' a = some (.lst xs) ∧ IsL (a :: O) ast H' xs ds) ∨ ((∀ ds, d ≠ .list ds) ∧ Is O ast H' v d)
def IsR (m : Md) (O : List Addr) (ast : Sa) (H H' : Hp) (v : V) (d : D) : Prop := match m with
  | .tr => IsT O ast H' v d
  | .cl => Is O ast H' v d
  | .fr => IsF O ast H H' v d
/-- all of O stands -/
def Al (O : List Addr) (H : Hp) : Prop := ∀ a ∈ O, H a ≠ none
section
variable {O O' : List Addr} {ast : Sa} {a p : Addr} {H H' H2 : Hp} {v : V} {d : D} {vs ws : List V} {ds es : List D} {g : G} {m : Md}
theorem Is.t (h : Is O ast H v d) (ha : ast.a ∈ O) : IsT O ast H v d := by
  cases h with
  | lst h n l => exact .inl ⟨_, _, _, rfl, rfl, fun e => n (e ▸ ha), h, l⟩
  | non => exact .inr ⟨fun _ e => (nomatch e), .non⟩
  | bl b => exact .inr ⟨fun _ e => (nomatch e), .bl b⟩
  | int b => exact .inr ⟨fun _ e => (nomatch e), .int b⟩
  | str b => exact .inr ⟨fun _ e => (nomatch e), .str b⟩
  | tup h l => exact .inr ⟨fun _ e => (nomatch e), .tup h l⟩
  | dct h n => exact .inr ⟨fun _ e => (nomatch e), .dct h n⟩
  | st => exact .inr ⟨fun _ e => (nomatch e), .st⟩
theorem IsF.is (h : IsF O ast H H' v d) (al : Al O H) : Is O ast H' v d := by
  rcases h with ⟨a, xs, ds, rfl, rfl, h1, h2, l⟩ | ⟨_, h⟩
  · exact .lst h2 (fun z => al a z h1) (l.anti fun b hb => List.mem_cons_of_mem _ hb)
  · exact h
theorem IsR.is (h : IsR m O ast H H' v d) (al : Al O H) (hm : m ≠ .tr) : Is O ast H' v d := by
  cases m with
  | tr => exact absurd rfl hm
  | cl => exact h
  | fr => exact IsF.is h al
theorem IsR.t (h : IsR m O ast H H' v d) (al : Al O H) (ha : ast.a ∈ O) : IsT O ast H' v d := by
  cases m with
  | tr => exact h
  | cl => exact Is.t h ha
  | fr => exact (IsF.is h al).t ha
theorem IsT.fr (h : IsT O ast H v d) (ha : ast.a ∈ O) (f : Fr ast H H') (st : NT ast H) : IsT O ast H' v d := by
  rcases h with ⟨a, xs, ds, rfl, rfl, n, h, l⟩ | ⟨n, h⟩
  · exact .inl ⟨a, xs, ds, rfl, rfl, n, f _ _ n h, l.fr ha f st⟩
  · exact .inr ⟨n, h.fr ha f st⟩
theorem IsT.int {i : Int} (h : IsT O ast H v (.int i)) : v = .int i := by
  rcases h with ⟨_, _, _, _, e, _⟩ | ⟨_, h⟩
  · cases e
  · cases h; rfl
theorem IsT.bool {b : Bool} (h : IsT O ast H v (.bool b)) : v = .bl b := by
  rcases h with ⟨_, _, _, _, e, _⟩ | ⟨_, h⟩
  · cases e
  · cases h; rfl
theorem IsT.str {b : Str} (h : IsT O ast H v (.str b)) : v = .str b := by
  rcases h with ⟨_, _, _, _, e, _⟩ | ⟨_, h⟩
  · cases e
  · cases h; rfl
theorem IsT.none (h : IsT O ast H v .none) : v = .non := by
  rcases h with ⟨_, _, _, _, e, _⟩ | ⟨_, h⟩
  · cases e
  · cases h; rfl
theorem IsT.tup {ds : List D} (h : IsT O ast H v (.tuple ds)) : ∃ a xs, v = .ref a ∧ H a = some (.tup xs) ∧ IsL O ast H xs ds := by
  rcases h with ⟨_, _, _, _, e, _⟩ | ⟨_, h⟩
  · cases e
  · cases h with
    | tup h l => exact ⟨_, _, rfl, h, l⟩
theorem IsT.lst {ds : List D} (h : IsT O ast H v (.list ds)) : ∃ (a : Addr) (xs : List V), v = .ref a ∧ a ≠ ast.a ∧ H a = some (.lst xs) ∧ IsL O ast H xs ds := by
  rcases h with ⟨a, xs, _, e1, e, n, h, l⟩ | ⟨n, _⟩
  · cases e; exact ⟨a, xs, e1, n, h, l⟩
  · exact absurd rfl (n ds)
/-- a list or a tuple -/
theorem IsT.items {ds : List D} (h : IsT O ast H v d) (e : itemsD d = some ds) : ∃ a xs, v = .ref a ∧ IsL O ast H xs ds ∧ ((d = .list ds ∧ a ≠ ast.a ∧ H a = some (.lst xs)) ∨ (d = .tuple ds ∧ H a = some (.tup xs))) := by
  cases d with
  | list es =>
    have e2 : es = ds := Option.some.inj e
    subst e2
    obtain ⟨a, xs, e1, n, h, l⟩ := h.lst
    exact ⟨a, xs, e1, l, .inl ⟨rfl, n, h⟩⟩
  | tuple es =>
    have e2 : es = ds := Option.some.inj e
    subst e2
    obtain ⟨a, xs, e1, h, l⟩ := h.tup
    exact ⟨a, xs, e1, l, .inr ⟨rfl, h⟩⟩
  | _ => cases e
/-- a new object of scalars -/
theorem IsR.sc (h : Is O ast H' v d) (n : ∀ ds, d ≠ .list ds) : IsR m O ast H H' v d := by
  cases m with
  | tr => exact .inr ⟨n, h⟩
  | cl => exact h
  | fr => exact .inr ⟨n, h⟩
mutual
theorem Is.dp {K : PySem.W.Frag} : ∀ {v : V} {d : D}, Is O ast H v d → d.canLay0 = true → Dp K H v d
  | _, _, .non, _ => .non
  | _, _, .bl b, _ => .bl b
  | _, _, .int i, _ => .int i
  | _, _, .str x, _ => .str x
  | _, _, .tup h l, c => .tup (SqT.of h) (IsL.dp l (by simpa only [PyData.canLay0] using c))
  | _, _, .lst h n l, c => .lst (SqL.of h) (IsL.dp l (by simpa only [PyData.canLay0] using c))
  | _, _, .dct h n, c => by simp only [PyData.canLay0] at c; cases c
  | _, _, .st, c => by simp only [stD, PyData.canLay0] at c; cases c
theorem IsL.dp {K : PySem.W.Frag} : ∀ {vs : List V} {ds : List D}, IsL O ast H vs ds → PyData.canLayAll0 ds = true → DpAll K H vs ds
  | _, _, .nil, _ => .nil
  | _, _, .cons h l, c => by
    simp only [PyData.canLayAll0, Bool.and_eq_true] at c
    exact .cons (Is.dp h c.1) (IsL.dp l c.2)
end
theorem IsT.dp {K : PySem.W.Frag} (h : IsT O ast H v d) (c : d.canLay0 = true) : Dp K H v d := by
  rcases h with ⟨a, xs, ds, rfl, rfl, n, h, l⟩ | ⟨_, h⟩
  · exact .lst (SqL.of h) (l.dp (by simpa only [PyData.canLay0] using c))
  · exact h.dp c
end
end PT
namespace PT
open PySem PySem.Spec PyProof.Rows L2

structure Cf where
  H0 : Hp
  ast : Sa
  O : List Addr
  ρ : Env
  g : G
structure Rel (mu : List Nat) (c : Cf) (σ : L2.St) (H : Hp) : Prop where
  ast : c.ast.a ∈ c.O
  al : Al c.O H
  len : σ.length = c.ρ.length
  st : StIs c.O c.ast H c.g
  fr0 : Fr c.ast c.H0 H
  val : ∀ i d, gv c.ρ i = some d → i ∉ mu → ∃ v, σ[i]? = some (some v) ∧ Is c.O c.ast H v d
  own : ∀ i d, gv c.ρ i = some d → i ∈ mu → ∃ (a : Addr) (xs : List V) (ds : List D), σ[i]? = some (some (V.ref a)) ∧ d = .list ds ∧ a ∈ c.O ∧ a ≠ c.ast.a ∧ c.H0 a = none ∧ H a = some (.lst xs) ∧ IsL c.O c.ast H xs ds
  inj : ∀ i j a, i ∈ mu → j ∈ mu → gv c.ρ i ≠ none → gv c.ρ j ≠ none → σ[i]? = some (some (V.ref a)) → σ[j]? = some (some (V.ref a)) → i = j
section
variable {mu : List Nat} {c : Cf} {σ : L2.St} {H H' : Hp} {g : G}
theorem Al.fr {O : List Addr} {ast : Sa} (al : Al O H) (f : Fr ast H H') (st : H' ast ≠ none) : Al O H' := fun a ha => by
  by_cases e : a = ast.a
  · rw [e]; exact st
  · cases q : H a with
    | none => exact absurd q (al a ha)
    | some o => rw [f a o e q]; exact fun z => nomatch z
theorem Rel.step (R : Rel mu c σ H) (f : Fr c.ast H H') (st : StIs c.O c.ast H' g) : Rel mu { c with g := g } σ H' where
  ast := R.ast
  al := R.al.fr f st.lt
  len := R.len
  st := st
  fr0 := R.fr0.trans f
  val := fun i d e n => by
    obtain ⟨v, h1, h2⟩ := R.val i d e n
    exact ⟨v, h1, h2.fr R.ast f R.st.nt⟩
  own := fun i d e n => by
    obtain ⟨a, xs, ds, h1, h2, h3, h4, h5, h6, h7⟩ := R.own i d e n
    exact ⟨a, xs, ds, h1, h2, h3, h4, h5, f _ _ h4 h6, h7.fr R.ast f R.st.nt⟩
  inj := R.inj
end

section
variable (cE : Exc → Addr)
def pX {α : Type} (W : WX) (c : Cf) (σ : L2.St) (H : Hp) (K : α → G → Prop) : Res α → Prop
  | .ok a g => K a g
  | .exc x g => ∀ H', Fr c.ast H H' → StIs c.O c.ast H' g → W (Value.ref (cE x)) none σ H'
  | .bad => False
variable {cE : Exc → Addr} {α β : Type} {W : WX} {c : Cf} {σ : L2.St} {H H' : Hp}
theorem pX.mono {r : Res α} {K K' : α → G → Prop} (h : pX cE W c σ H K r) (k : ∀ a g, r = .ok a g → K a g → K' a g) : pX cE W c σ H K' r := by
  cases r with
  | ok a g => exact k a g rfl h
  | exc x g => exact h
  | bad => exact h
theorem pX.fr {r : Res α} {K K' : α → G → Prop} (h : pX cE W c σ H K r) (f : Fr c.ast H H') (k : ∀ a g, r = .ok a g → K a g → K' a g) (g' : G) : pX cE W { c with g := g' } σ H' K' r := by
  cases r with
  | ok a g => exact k a g rfl h
  | exc x g => exact fun H2 f2 st => h H2 (f.trans f2) st
  | bad => exact h
theorem pX_bind {r : Res α} {f : α → G → Res β} {K : β → G → Prop} : pX cE W c σ H K (r.bind f) ↔ pX cE W c σ H (fun a g => pX cE W c σ H K (f a g)) r := by
  cases r <;> exact Iff.rfl
theorem pX_ofO {o : Option α} {g : G} {K : α → G → Prop} : pX cE W c σ H K (Res.ofO o g) ↔ ∃ a, o = some a ∧ K a g := by
  cases o with
  | none => exact ⟨False.elim, fun ⟨a, e, _⟩ => nomatch e⟩
  | some a => exact ⟨fun h => ⟨a, rfl, h⟩, fun ⟨b, e, h⟩ => by cases e; exact h⟩
end

/-- what is wanted of a value behind an expression -/
def kE (m : Md) (c : Cf) (H : Hp) (Q : VK) : D → G → Prop := fun d g => ∀ v H', Fr c.ast H H' → StIs c.O c.ast H' g → IsR m c.O c.ast H H' v d → Q v H'

/-- two data, a new one -/
structure V2 (c : Cf) (H : Hp) (x y : V) (d e : D) : Prop where
  ast : c.ast.a ∈ c.O
  al : Al c.O H
  st : StIs c.O c.ast H c.g
  x : IsT c.O c.ast H x d
  y : IsT c.O c.ast H y e
def r2 (f : D → D → Option D) : R2 := fun x y H Q => ∃ c d e z, V2 c H x y d e ∧ f d e = some z ∧ ∀ v H', Fr c.ast H H' → StIs c.O c.ast H' c.g → IsF c.O c.ast H H' v z → Q v H'
theorem isF_new {O : List Addr} {ast : Sa} {p : Addr} {H : Hp} {xs : List V} {ds : List D} {g : G} (ha : ast.a ∈ O) (st : StIs O ast H g) (hp : H p = none) (l : IsL O ast H xs ds) : IsF O ast H (upd H p (.lst xs)) (.ref p) (.list ds) :=
  .inl ⟨p, xs, ds, rfl, rfl, hp, upd_same, (l.more hp).fr (List.mem_cons_of_mem _ ha) (Fr.upd hp) st.nt⟩
theorem isF_tup {O : List Addr} {ast : Sa} {p : Addr} {H : Hp} {xs : List V} {ds : List D} {g : G} (ha : ast.a ∈ O) (st : StIs O ast H g) (hp : H p = none) (l : IsL O ast H xs ds) : IsF O ast H (upd H p (.tup xs)) (.ref p) (.tuple ds) :=
  .inr ⟨fun _ e => (nomatch e), .tup upd_same (l.fr ha (Fr.upd hp) st.nt)⟩
end PT
namespace PT
open PySem PySem.Spec PyProof.Rows L2

def opM : BOp → Operator
  | .add => .Add | .sub => .Sub | .mul => .Mult | .fdiv => .FloorDiv | .mod => .Mod | .pow => .Pow
theorem ite_some {c : Prop} [Decidable c] {α : Type} {a z : α} (h : (if c then some a else none) = some z) : c ∧ a = z := by
  by_cases q : c
  · rw [if_pos q] at h; exact ⟨q, Option.some.inj h⟩
  · rw [if_neg q] at h; cases h
section
variable {X : Cx}
theorem V2.fin {c : Cf} {H : Hp} {x y : V} {d e z : D} (h : V2 c H x y d e) {Q : VK} (q : ∀ v H', Fr c.ast H H' → StIs c.O c.ast H' c.g → IsF c.O c.ast H H' v z → Q v H') {v : V} (hv : Is c.O c.ast H v z) (n : ∀ ds, z ≠ .list ds) : Q v H :=
  q v H Fr.refl h.st (.inr ⟨n, hv⟩)
theorem V2.new {c : Cf} {H : Hp} {x y : V} {d e : D} {xs : List V} {ds : List D} (h : V2 c H x y d e) {Q : VK} (q : ∀ v H', Fr c.ast H H' → StIs c.O c.ast H' c.g → IsF c.O c.ast H H' v (.list ds) → Q v H') (l : IsL c.O c.ast H xs ds) : ∀ p, H p = none → Q (.ref p) (upd H p (.lst xs)) := fun p hp =>
  q _ _ (Fr.upd hp) (h.st.upd h.ast hp) (isF_new h.ast h.st hp l)
theorem V2.newT {c : Cf} {H : Hp} {x y : V} {d e : D} {xs : List V} {ds : List D} (h : V2 c H x y d e) {Q : VK} (q : ∀ v H', Fr c.ast H H' → StIs c.O c.ast H' c.g → IsF c.O c.ast H H' v (.tuple ds) → Q v H') (l : IsL c.O c.ast H xs ds) : ∀ p, H p = none → Q (.ref p) (upd H p (.tup xs)) := fun p hp =>
  q _ _ (Fr.upd hp) (h.st.upd h.ast hp) (isF_tup h.ast h.st hp l)
theorem opr_add : OpR X (binaryOp .Add) (r2 (binD .add)) := by
  intro pins s σ H x y v u Q I rx ry h
  obtain ⟨c, d, e, z, w2, ez, q⟩ := h
  cases d with
  | int i => cases e with
    | int j =>
      obtain rfl := w2.x.int; obtain rfl := w2.y.int
      have e1 : PyData.int (i + j) = z := Option.some.inj ez
      subst e1
      exact op_add pins s σ H _ _ v u Q I rx ry ⟨i, j, rfl, rfl, w2.fin q (.int _) (fun _ e => nomatch e)⟩
    | _ => cases ez
  | str i => cases e with
    | str j =>
      obtain rfl := w2.x.str; obtain rfl := w2.y.str
      obtain ⟨hl, rfl⟩ := ite_some ez
      exact op_add_str pins s σ H _ _ v u Q I rx ry ⟨i, j, rfl, rfl, hl, w2.fin q (.str _) (fun _ e => nomatch e)⟩
    | _ => cases ez
  | list xs => cases e with
    | list ys =>
      obtain ⟨a, vs, rfl, na, ha, la⟩ := w2.x.lst
      obtain ⟨b, ws, rfl, nb, hb, lb⟩ := w2.y.lst
      obtain ⟨hl, rfl⟩ := ite_some ez
      exact op_cat pins s σ H _ _ v u Q I rx ry ⟨a, b, vs, ws, rfl, rfl, ha, hb, by rw [la.length, lb.length]; exact hl, w2.new q (la.append lb)⟩
    | _ => cases ez
  | tuple xs => cases e with
    | tuple ys =>
      obtain ⟨a, vs, rfl, ha, la⟩ := w2.x.tup
      obtain ⟨b, ws, rfl, hb, lb⟩ := w2.y.tup
      obtain ⟨hl, rfl⟩ := ite_some ez
      refine op_catA pins s σ H _ _ v u Q I rx ry ⟨a, b, vs, ws, rfl, rfl, SqT.of ha, SqT.of hb, by rw [la.length, lb.length]; exact hl, fun e => ?_, fun _ e => ?_, fun _ _ => w2.newT q (la.append lb)⟩
      · subst e
        cases la
        exact w2.fin q (.tup hb lb) (fun _ e => nomatch e)
      · subst e
        cases lb
        rw [List.append_nil] at q
        exact w2.fin q (.tup ha la) (fun _ e => nomatch e)
    | _ => cases ez
  | _ => cases e <;> cases ez
theorem opr_sub : OpR X (binaryOp .Sub) (r2 (binD .sub)) := by
  intro pins s σ H x y v u Q I rx ry h
  obtain ⟨c, d, e, z, w2, ez, q⟩ := h
  cases d with
  | int i => cases e with
    | int j =>
      obtain rfl := w2.x.int; obtain rfl := w2.y.int
      have e1 : PyData.int (i - j) = z := Option.some.inj ez
      subst e1
      exact op_sub pins s σ H _ _ v u Q I rx ry ⟨i, j, rfl, rfl, w2.fin q (.int _) (fun _ e => nomatch e)⟩
    | _ => cases ez
  | _ => cases e <;> cases ez
theorem opr_mul : OpR X (binaryOp .Mult) (r2 (binD .mul)) := by
  intro pins s σ H x y v u Q I rx ry h
  obtain ⟨c, d, e, z, w2, ez, q⟩ := h
  cases d with
  | int i => cases e with
    | int j =>
      obtain rfl := w2.x.int; obtain rfl := w2.y.int
      obtain ⟨hm, rfl⟩ := ite_some ez
      refine op_mul pins s σ H _ _ v u Q I rx ry ⟨i, j, rfl, rfl, ?_, w2.fin q (.int _) (fun _ e => nomatch e)⟩
      unfold mulOk at hm
      simp only [Bool.or_eq_true, Bool.and_eq_true, decide_eq_true_eq] at hm
      exact hm
    | _ => cases ez
  | tuple xs =>
    match xs, w2, ez with
    | [x0], w2, ez => cases e with
      | int j =>
        obtain ⟨hj, rfl⟩ := ite_some ez
        obtain ⟨a, vs, rfl, ha, la⟩ := w2.x.tup
        obtain rfl := w2.y.int
        cases la with
        | cons h0 l0 =>
          cases l0
          refine op_repT pins s σ H _ _ v u Q I rx ry ⟨a, j, _, rfl, rfl, SqT.of ha, List.cons_ne_nil _ _, hj.1, hj.2, by simp, ?_⟩
          have e2 : ∀ {α : Type} (x : α) (n : Nat), (List.replicate n [x]).flatten = List.replicate n x := fun x n => by
            induction n with
            | zero => rfl
            | succ n ih => rw [List.replicate_succ, List.replicate_succ, List.flatten_cons, ih]; rfl
          rw [e2]
          exact w2.newT q (IsL.rep h0 _)
      | _ => cases ez
    | [], w2, ez => cases e <;> cases ez
    | _ :: _ :: _, w2, ez => cases e <;> cases ez
  | _ => cases e <;> cases ez
theorem opr_fdiv : OpR X (binaryOp .FloorDiv) (r2 (binD .fdiv)) := by
  intro pins s σ H x y v u Q I rx ry h
  obtain ⟨c, d, e, z, w2, ez, q⟩ := h
  cases d with
  | int i => cases e with
    | int j =>
      obtain rfl := w2.x.int; obtain rfl := w2.y.int
      obtain ⟨hm, rfl⟩ := ite_some ez
      exact op_fdiv pins s σ H _ _ v u Q I rx ry ⟨i, j, rfl, rfl, hm, w2.fin q (.int _) (fun _ e => nomatch e)⟩
    | _ => cases ez
  | _ => cases e <;> cases ez
theorem opr_mod : OpR X (binaryOp .Mod) (r2 (binD .mod)) := by
  intro pins s σ H x y v u Q I rx ry h
  obtain ⟨c, d, e, z, w2, ez, q⟩ := h
  cases d with
  | int i => cases e with
    | int j =>
      obtain rfl := w2.x.int; obtain rfl := w2.y.int
      obtain ⟨hm, rfl⟩ := ite_some ez
      exact op_mod pins s σ H _ _ v u Q I rx ry ⟨i, j, rfl, rfl, hm, w2.fin q (.int _) (fun _ e => nomatch e)⟩
    | _ => cases ez
  | _ => cases e <;> cases ez
theorem opr_pow : OpR X (binaryOp .Pow) (r2 (binD .pow)) := by
  intro pins s σ H x y v u Q I rx ry h
  obtain ⟨c, d, e, z, w2, ez, q⟩ := h
  cases d with
  | int i => cases e with
    | int j =>
      obtain rfl := w2.x.int; obtain rfl := w2.y.int
      obtain ⟨hm, rfl⟩ := ite_some ez
      exact op_pow pins s σ H _ _ v u Q I rx ry ⟨i, j, rfl, rfl, hm, w2.fin q (.int _) (fun _ e => nomatch e)⟩
    | _ => cases ez
  | _ => cases e <;> cases ez
theorem opr_bin : ∀ o : BOp, OpR X (binaryOp (opM o)) (r2 (binD o))
  | .add => opr_add
  | .sub => opr_sub
  | .mul => opr_mul
  | .fdiv => opr_fdiv
  | .mod => opr_mod
  | .pow => opr_pow
end
end PT
namespace PT
open PySem PySem.Spec PyProof.Rows L2

def copM : COp → CmpOp
  | .eq => .Eq | .ne => .NotEq | .lt => .Lt | .le => .LtE | .gt => .Gt | .ge => .GtE | .isin => .In | .notin => .NotIn
def cmpV (o : COp) (d e : D) : Option D := (cmpD o d e).map .bool
section
variable {X : Cx}
theorem map_some {α β : Type} {f : α → β} {o : Option α} {z : β} (h : o.map f = some z) : ∃ a, o = some a ∧ f a = z := by
  cases o with
  | none => cases h
  | some a => exact ⟨a, rfl, Option.some.inj h⟩
theorem V2.b {c : Cf} {H : Hp} {x y : V} {d e : D} {b : Bool} (h : V2 c H x y d e) {Q : VK} (q : ∀ v H', Fr c.ast H H' → StIs c.O c.ast H' c.g → IsF c.O c.ast H H' v (.bool b) → Q v H') : Q (.bl b) H :=
  h.fin q (.bl b) (fun _ e => nomatch e)
theorem flat_is {O : List Addr} {ast : Sa} {H : Hp} {v : V} {d : D} (h : Is O ast H v d) (f : flatD d = true) : flatV v = true := by
  cases h <;> first | rfl | cases f
theorem flat_isL {O : List Addr} {ast : Sa} {H : Hp} : ∀ {vs : List V} {ds : List D}, IsL O ast H vs ds → ds.all flatD = true → vs.all flatV = true
  | _, _, .nil, _ => rfl
  | _, _, .cons h l, f => by
    rw [List.all_cons, Bool.and_eq_true] at f ⊢
    exact ⟨flat_is h f.1, flat_isL l f.2⟩
theorem eqV_is {O : List Addr} {ast : Sa} {H : Hp} {v w : V} {d e : D} (h : Is O ast H v d) (k : Is O ast H w e) (fd : flatD d = true) (fe : flatD e = true) : eqV v w = PyData.eqv d e := by
  cases h <;> cases k <;> first | rfl | cases fd | cases fe | skip
  all_goals first | (simp only [eqV, PyData.eqv]; done) | (simp [eqV, PyData.eqv, b2i]; done) | skip
theorem inV_is {O : List Addr} {ast : Sa} {H : Hp} {v : V} {d : D} (h : Is O ast H v d) (fd : flatD d = true) : ∀ {vs : List V} {ds : List D}, IsL O ast H vs ds → ds.all flatD = true → inV v vs = ds.any fun z => PyData.eqv z d
  | _, _, .nil, _ => rfl
  | _, _, .cons k l, f => by
    rw [List.all_cons, Bool.and_eq_true] at f
    unfold inV
    rw [List.any_cons, List.any_cons, eqV_is k h f.1 fd]
    have ih := inV_is h fd l f.2
    unfold inV at ih
    rw [ih]
theorem inD_is {O : List Addr} {ast : Sa} {H : Hp} {K : PySem.W.Frag} {x y : V} {d e : D} {b : Bool} (hx : IsT O ast H x d) (hy : IsT O ast H y e) (h : inD d e = some b) :
    ∃ p xs, y = .ref p ∧ (SqL K H p xs ∨ SqT K H p xs) ∧ flatV x = true ∧ xs.all flatV = true ∧ inV x xs = b := by
  unfold inD at h
  cases q : itemsD e with
  | none => rw [q] at h; cases h
  | some ys =>
    rw [q] at h
    obtain ⟨⟨f1, f2⟩, rfl⟩ := ite_some h
    obtain ⟨a, xs, rfl, l, k⟩ := hy.items q
    have hx' : Is O ast H x d := by
      rcases hx with ⟨_, _, _, _, rfl, _⟩ | ⟨_, h⟩
      · cases f1
      · exact h
    refine ⟨a, xs, rfl, ?_, flat_is hx' f1, flat_isL l f2, inV_is hx' f1 l f2⟩
    rcases k with ⟨_, _, k⟩ | ⟨_, k⟩
    · exact .inl (SqL.of k)
    · exact .inr (SqT.of k)
theorem opr_cmp (hu : X.A.units + 64 < cLine) : ∀ o : COp, OpR X (compareOp (copM o)) (r2 (cmpV o))
  | .eq => by
    intro pins s σ H x y v u Q I rx ry h
    obtain ⟨c, d, e, z, w2, ez, q⟩ := h
    obtain ⟨b, eb, rfl⟩ := map_some ez
    obtain ⟨⟨h1, h2⟩, rfl⟩ := ite_some eb
    exact op_eqD hu pins s σ H x y v u Q I rx ry ⟨d, e, w2.x.dp (SeqAt.canLay_of_shaped h1), w2.y.dp (SeqAt.canLay_of_shaped h2), h1, h2, w2.b q⟩
  | .ne => by
    intro pins s σ H x y v u Q I rx ry h
    obtain ⟨c, d, e, z, w2, ez, q⟩ := h
    obtain ⟨b, eb, rfl⟩ := map_some ez
    obtain ⟨⟨h1, h2⟩, rfl⟩ := ite_some eb
    exact op_neD hu pins s σ H x y v u Q I rx ry ⟨d, e, w2.x.dp (SeqAt.canLay_of_shaped h1), w2.y.dp (SeqAt.canLay_of_shaped h2), h1, h2, w2.b q⟩
  | .lt => by
    intro pins s σ H x y v u Q I rx ry h
    obtain ⟨c, d, e, z, w2, ez, q⟩ := h
    obtain ⟨b, eb, rfl⟩ := map_some ez
    cases d with
    | int i => cases e with
      | int j =>
        obtain rfl := w2.x.int; obtain rfl := w2.y.int
        cases eb
        exact op_lt pins s σ H _ _ v u Q I rx ry ⟨i, j, rfl, rfl, w2.b q⟩
      | _ => cases eb
    | _ => cases e <;> cases eb
  | .le => by
    intro pins s σ H x y v u Q I rx ry h
    obtain ⟨c, d, e, z, w2, ez, q⟩ := h
    obtain ⟨b, eb, rfl⟩ := map_some ez
    cases d with
    | int i => cases e with
      | int j =>
        obtain rfl := w2.x.int; obtain rfl := w2.y.int
        cases eb
        exact op_le pins s σ H _ _ v u Q I rx ry ⟨i, j, rfl, rfl, w2.b q⟩
      | _ => cases eb
    | _ => cases e <;> cases eb
  | .gt => by
    intro pins s σ H x y v u Q I rx ry h
    obtain ⟨c, d, e, z, w2, ez, q⟩ := h
    obtain ⟨b, eb, rfl⟩ := map_some ez
    cases d with
    | int i => cases e with
      | int j =>
        obtain rfl := w2.x.int; obtain rfl := w2.y.int
        cases eb
        exact op_gt pins s σ H _ _ v u Q I rx ry ⟨i, j, rfl, rfl, w2.b q⟩
      | _ => cases eb
    | _ => cases e <;> cases eb
  | .ge => by
    intro pins s σ H x y v u Q I rx ry h
    obtain ⟨c, d, e, z, w2, ez, q⟩ := h
    obtain ⟨b, eb, rfl⟩ := map_some ez
    cases d with
    | int i => cases e with
      | int j =>
        obtain rfl := w2.x.int; obtain rfl := w2.y.int
        cases eb
        exact op_ge pins s σ H _ _ v u Q I rx ry ⟨i, j, rfl, rfl, w2.b q⟩
      | _ => cases eb
    | _ => cases e <;> cases eb
  | .isin => by
    intro pins s σ H x y v u Q I rx ry h
    obtain ⟨c, d, e, z, w2, ez, q⟩ := h
    obtain ⟨b, eb, rfl⟩ := map_some ez
    obtain ⟨p, xs, e1, h1, h2, h3, h4⟩ := inD_is (K := X.K) w2.x w2.y eb
    subst h4
    exact op_in_seq pins s σ H x y v u Q I rx ry ⟨p, xs, e1, h1, h2, h3, w2.b q⟩
  | .notin => by
    intro pins s σ H x y v u Q I rx ry h
    obtain ⟨c, d, e, z, w2, ez, q⟩ := h
    obtain ⟨b, eb, rfl⟩ := map_some ez
    obtain ⟨b', eb', rfl⟩ := map_some eb
    obtain ⟨p, xs, e1, h1, h2, h3, h4⟩ := inD_is (K := X.K) w2.x w2.y eb'
    subst h4
    exact op_notIn_seq pins s σ H x y v u Q I rx ry ⟨p, xs, e1, h1, h2, h3, w2.b q⟩
/-- truth -/
theorem tru_is {K : PySem.W.Frag} {O : List Addr} {ast : Sa} {H : Hp} {x : V} {d : D} {b : Bool} (h : IsT O ast H x d) (e : truD d = some b) : TruV K x H b := by
  cases d with
  | none => obtain rfl := h.none; cases e; rfl
  | bool k => obtain rfl := h.bool; cases e; rfl
  | int i => obtain rfl := h.int; cases e; rfl
  | str y =>
    obtain rfl := h.str
    obtain ⟨h1, rfl⟩ := ite_some e
    exact ⟨h1, rfl⟩
  | list ds =>
    obtain ⟨a, xs, rfl, _, h, l⟩ := h.lst
    cases e
    exact .inl ⟨xs, SqL.of h, by cases l <;> rfl⟩
  | tuple ds =>
    obtain ⟨a, xs, rfl, h, l⟩ := h.tup
    cases e
    exact .inr (.inl ⟨xs, SqT.of h, by cases l <;> rfl⟩)
  | dict _ => cases e
end
end PT
namespace PT
open PySem PySem.Spec PyProof.Rows L2

structure V1 (c : Cf) (H : Hp) (x : V) (d : D) : Prop where
  ast : c.ast.a ∈ c.O
  al : Al c.O H
  st : StIs c.O c.ast H c.g
  x : IsT c.O c.ast H x d
/-- what is wanted of a new value -/
abbrev KF (c : Cf) (H : Hp) (z : D) (Q : VK) : Prop := ∀ v H', Fr c.ast H H' → StIs c.O c.ast H' c.g → IsF c.O c.ast H H' v z → Q v H'
section
variable {X : Cx}
theorem V1.fin {c : Cf} {H : Hp} {x : V} {d z : D} (h : V1 c H x d) {Q : VK} (q : KF c H z Q) {v : V} (hv : Is c.O c.ast H v z) (n : ∀ ds, z ≠ .list ds) : Q v H :=
  q v H Fr.refl h.st (.inr ⟨n, hv⟩)
theorem V1.new {c : Cf} {H : Hp} {x : V} {d : D} {xs : List V} {ds : List D} (h : V1 c H x d) {Q : VK} (q : KF c H (.list ds) Q) (l : IsL c.O c.ast H xs ds) : ∀ p, H p = none → Q (.ref p) (upd H p (.lst xs)) := fun p hp =>
  q _ _ (Fr.upd hp) (h.st.upd h.ast hp) (isF_new h.ast h.st hp l)
theorem V1.newT {c : Cf} {H : Hp} {x : V} {d : D} {xs : List V} {ds : List D} (h : V1 c H x d) {Q : VK} (q : KF c H (.tuple ds) Q) (l : IsL c.O c.ast H xs ds) : ∀ p, H p = none → Q (.ref p) (upd H p (.tup xs)) := fun p hp =>
  q _ _ (Fr.upd hp) (h.st.upd h.ast hp) (isF_tup h.ast h.st hp l)
theorem isSt_eq {d : D} (h : isSt d = true) : d = stD := by
  unfold isSt at h
  split at h
  · rfl
  · cases h
/-- an item -/
def rIxD : R2 := fun x y H Q => ∃ c d i z, V2 c H x y d i ∧ ixG d i c.g = some z ∧ ∀ v, Is c.O c.ast H v z → Q v H
theorem ixr : IxR X rIxD := by
  intro value slice pins s σ H x y v u Q I rx ry h hsub
  obtain ⟨c, d, i, z, w2, ez, q⟩ := h
  cases i with
  | int k =>
    obtain rfl := w2.y.int
    have ez : (if isSt d = true then L2.atI c.g k else ixD d k) = some z := ez
    by_cases hs : isSt d = true
    · rw [if_pos hs] at ez
      obtain rfl := isSt_eq hs
      obtain ⟨xs, hx, l⟩ := w2.st.isL
      obtain ⟨v0, e0, i0⟩ := l.atI ez
      have hxs : x = .ref c.ast := by
        rcases w2.x with ⟨_, _, _, _, e, _⟩ | ⟨_, h⟩
        · cases e
        · cases h; rfl
      subst hxs
      exact ix_list value slice pins s σ H _ _ v u Q I rx ry ⟨c.ast, xs, k, v0, rfl, rfl, SqL.of hx, e0, q v0 i0⟩ hsub
    · rw [if_neg hs] at ez
      cases d with
      | list ds =>
        obtain ⟨a, xs, rfl, _, hx, l⟩ := w2.x.lst
        obtain ⟨v0, e0, i0⟩ := l.atI ez
        exact ix_list value slice pins s σ H _ _ v u Q I rx ry ⟨a, xs, k, v0, rfl, rfl, SqL.of hx, e0, q v0 i0⟩ hsub
      | tuple ds =>
        obtain ⟨a, xs, rfl, hx, l⟩ := w2.x.tup
        obtain ⟨v0, e0, i0⟩ := l.atI ez
        exact ix_tup value slice pins s σ H _ _ v u Q I rx ry ⟨a, xs, k, v0, rfl, rfl, SqT.of hx, e0, q v0 i0⟩ hsub
      | _ => cases ez
  | _ => cases ez
/-- a slice -/
def rSlD : V → Option Int → Option Int → Hp → VK → Prop := fun x lo hi H Q => ∃ c d z, V1 c H x d ∧ cutD lo hi d = some z ∧ KF c H z Q
theorem cutL_is {O : List Addr} {ast : Sa} {H : Hp} {xs : List V} {ds : List D} (l : IsL O ast H xs ds) (lo hi : Option Int) : IsL O ast H (cutV xs lo hi) (cutL ds lo hi) := by
  unfold cutV cutL
  rw [l.length]
  exact (l.drop _).take _
theorem slr : SlR X rSlD := by
  intro pins s σ H x v vl vu lo hi sl Q I rx hs pl pu h
  obtain ⟨c, d, z, w1, ez, q⟩ := h
  cases d with
  | list ds =>
    obtain ⟨a, xs, rfl, _, hx, l⟩ := w1.x.lst
    cases ez
    exact sl_list pins s σ H _ v vl vu lo hi sl Q I rx hs pl pu ⟨a, xs, rfl, SqL.of hx, w1.new q (cutL_is l lo hi)⟩
  | tuple ds =>
    obtain ⟨a, xs, rfl, hx, l⟩ := w1.x.tup
    cases ez
    refine sl_tupA pins s σ H _ v vl vu lo hi sl Q I rx hs pl pu ⟨a, xs, rfl, SqT.of hx, fun hw => ?_, fun _ => w1.newT q (cutL_is l lo hi)⟩
    have e : cutL ds lo hi = ds := by
      unfold cutL
      rw [← l.length, hw.1, hw.2, List.drop_zero, Nat.sub_zero, List.take_of_length_le (by rw [l.length]; exact Nat.le_refl _)]
    rw [e] at q
    exact w1.fin q (.tup hx l) (fun _ e => nomatch e)
  | str y =>
    obtain rfl := w1.x.str
    obtain ⟨hy, rfl⟩ := ite_some ez
    exact sl_str pins s σ H _ v vl vu lo hi sl Q I rx hs pl pu ⟨y, rfl, hy, w1.fin q (.str _) (fun _ e => nomatch e)⟩
  | _ => cases ez
theorem rev_pick (xs : Array Value) : ((List.range xs.size).filterMap fun (k : Nat) => xs[(((xs.size : Int) - 1) + (k : Int) * (-1)).toNat]?).toArray = xs.toList.reverse.toArray := by
  have e : (fun (k : Nat) => xs[(((xs.size : Int) - 1) + (k : Int) * (-1)).toNat]?) = (fun (i : Nat) => xs[i]?) ∘ fun (k : Nat) => (((xs.size : Int) - 1) + (k : Int) * (-1)).toNat := rfl
  rw [e, ← List.filterMap_map]
  have e2 : ((List.range xs.size).map fun (k : Nat) => (((xs.size : Int) - 1) + (k : Int) * (-1)).toNat) = (List.range xs.size).map fun k => xs.size - 1 - k := by
    apply List.map_congr_left
    intro k hk
    have := List.mem_range.mp hk
    omega
  rw [e2, PySem.W.krv_range, List.filterMap_reverse, PySem.W.krv_all]
theorem sliceApplied_rev {prog : Program} {w : World} {A : Around} {E : Value → Shared → Prop} {s : Shared} {sl : Addr} {t : Tok} {n : Nat} {Q : Int × Int × Nat → Shared → Prop} (hs : s.heap.IsSliceOf sl .none .none (.int (-1) t))
    (h : Q ((n : Int) - 1, -1, n) s) : wpAny (model prog w) A (Builtin.Slice.sliceApplied (.ref sl) (pure (n : Int))) Q E s := by
  obtain ⟨os, hos, hcs, hds⟩ := id hs
  unfold Builtin.Slice.sliceApplied Builtin.Slice.sliceFields
  refine wpAny_bind (wpAny_bind (wpAny_field hos hds (x := .none) rfl (wpAny_bind (wpAny_field hos hds (x := .none) rfl (wpAny_bind (wpAny_field hos hds (x := .int (-1) t) rfl (wpAny_pure ?_)))))))
  refine wpAny_bind (slicePart_int ?_)
  show wpAny _ _ (if ((-1 : Int) == 0) = true then _ else _) _ _ s
  rw [if_neg (by decide)]
  refine wpAny_bind (slicePart_none (wpAny_bind (slicePart_none (wpAny_bind (wpAny_pure ?_)))))
  show wpAny _ _ (match Builtin.Slice.sliceAdjust none none (-1) (n : Int) with | (lo, hi) => pure (lo, (-1 : Int), Builtin.Slice.slicePlaces lo hi (-1))) _ _ s
  have e1 : Builtin.Slice.sliceAdjust none none (-1) (n : Int) = ((n : Int) - 1, -1) := rfl
  rw [e1]
  show wpAny _ _ (pure ((n : Int) - 1, (-1 : Int), Builtin.Slice.slicePlaces ((n : Int) - 1) (-1) (-1))) _ _ s
  have e2 : Builtin.Slice.slicePlaces ((n : Int) - 1) (-1) (-1) = n := by
    unfold Builtin.Slice.slicePlaces
    have h1 : ¬ ((-1 : Int) > 0) := by omega
    have h2 : (- -1 : Int) = 1 := by omega
    simp only [h1, if_false, h2, Int.ediv_one]
    split <;> omega
  rw [e2]
  exact wpAny_pure h
theorem getItem_tuple_rev {prog : Program} {w : World} {A : Around} {E : Value → Shared → Prop} {s : Shared} {a sl : Addr} {t : Tok} {items : Array Value} {Q : Value → Shared → Prop} (ht : IsTup s.heap a items) (hs : s.heap.IsSliceOf sl .none .none (.int (-1) t))
    (h : Q (.ref s.heap.objs.size) { s with heap := s.heap.push { cls := .type "tuple", data := .seq items.toList.reverse.toArray } }) (hsz : items.size ≤ sizeLine) : wpAny (model prog w) A (getItem (.ref a) (.ref sl)) Q E s := by
  have htake : sizeOk (.seq items.toList.reverse.toArray) := by
    show items.toList.reverse.toArray.size ≤ sizeLine
    rw [List.size_toArray, List.length_reverse, Array.length_toList]
    exact hsz
  obtain ⟨os, hos, hcs, hds⟩ := id hs
  have hTs : s.TypeIs (.ref sl) "slice" := ⟨os, hos, hcs⟩
  unfold getItem
  try with_reducible refine wpAny_holding ?_
  first | refine wpAny_bind (wpAny_pure ?_) | skip
  refine wpAny_bind (wpAny_sequenceKey ht.typeIs (by decide) ?_)
  refine wpAny_bind (wpAny_callSpecial?_slot (name := Str.ofString "__getitem__") ht.typeIs PyProof.Rows.slot_tuple_getitem
    (wpAny_call_entry PyProof.Rows.slot_tuple_getitem ht.typeIs entry_tuple_getitem ?_ (args_tuple_getitem _ _)))
  show wpAny _ _ (Builtin.Tuple.tupleItemsOf (.ref a) >>= _) _ _ s
  refine wpAny_bind (tupleItemsOf_ ht ?_)
  refine wpAny_bind (wpAny_typeOf hTs ?_)
  rw [if_pos (by decide)]
  refine wpAny_bind (sliceApplied_rev hs ?_)
  have hno : ¬ ((((items.size : Int) - 1) == 0 && (-1 : Int) == 1 && items.size == items.size) = true) := by
    intro q
    rw [Bool.and_eq_true, Bool.and_eq_true] at q
    exact absurd q.1.2 (by decide)
  show wpAny _ _ (if (((items.size : Int) - 1) == 0 && (-1 : Int) == 1 && items.size == items.size) = true then _ else _) _ _ s
  rw [if_neg hno, rev_pick]
  first
    | exact wpAny_bind (m := Builtin.Tuple.tupleExact _) (wpAny_newObj_type (wpAny_pure ⟨_, rfl, wpAny_pure h⟩) htake)
    | exact wpAny_bind (m := Builtin.Tuple.tupleExact _) (wpAny_newObj_type (wpAny_bind (wpAny_pure (wpAny_pure ⟨_, rfl, wpAny_pure h⟩))) htake)
    | exact wpAny_bind (wpAny_bind (m := Builtin.Tuple.tupleExact _) (wpAny_newObj_type (wpAny_pure (wpAny_pure ⟨_, rfl, wpAny_pure h⟩)) htake))
    | exact wpAny_bind (wpAny_bind (m := Builtin.Tuple.tupleExact _) (wpAny_newObj_type (wpAny_pure ⟨_, rfl, wpAny_pure h⟩) htake))
theorem sliceRange_rev (n : Nat) : Builtin.Str.strSliceIndices none none (-1) n = (List.range n).reverse := by
  show sliceRange ((n : Int) - 1) (-1) (-1) = _
  rw [PySem.W.krv_sliceRange, PySem.W.krv_range]
def tRevD (te : TE) : TE := fun σ H Q => te σ H fun x H1 => ∃ c d z, V1 c H1 x d ∧ revD d = some z ∧ KF c H1 z Q
theorem pe_revD {e : Expr} {te : TE} {k : Nat} {p1 p2 p3 pos : Pos} (he : PE X e te) : PE X (.Subscript e (.Slice none none (some (.UnaryOp .USub (.Constant (.int 1) k p1) p2)) p3) pos) (tRevD te) := by
  refine ⟨fun pins s σ H Q I h => ?_⟩
  refine Subscript_ (thn (he.run pins s σ H _ I h) fun v s1 ⟨x, H1, I1, r1, q1⟩ => ?_)
  obtain ⟨c, d, z, w1, ez, q⟩ := q1
  have hst : PO X (some (.UnaryOp .USub (.Constant (.int 1) k p1) p2)) (tPart (tUn (rU fun i => .int (-i)) (tC (.int 1)))) := po_some (pe_un un_neg pe_int)
  refine wpAny_Slice (thn (po_none.run pins s1 σ H1 (fun o H2 => o = none ∧ H2 = H1) I1 ⟨rfl, rfl⟩) fun vl s2 ⟨l, H2, I2, pl, el, e2⟩ => ?_)
  subst el e2
  refine thn (po_none.run pins s2 σ H2 (fun o H3 => o = none ∧ H3 = H2) I2 ⟨rfl, rfl⟩) fun vu s3 ⟨u, H3, I3, pu, eu, e3⟩ => ?_
  subst eu e3
  refine thn (hst.run pins s3 σ H3 (fun o H4 => o = some (-1) ∧ H4 = H3) I3 ⟨1, rfl, -1, rfl, rfl, rfl⟩) fun vs s4 ⟨o, H4, I4, ps, eo, e4⟩ => ?_
  subst eo e4
  cases pl
  cases pu
  cases ps with
  | int _ t =>
  have I5 : Inv X pins σ H4 { s4 with heap := s4.heap.push { cls := .type "slice", data := .fields #[.none, .none, .int (-1) t] } } := I4.kept (t' := s4.toks) fun b ob q => Heap.get?_push_of_some _ q
  cases d with
  | list ds =>
    obtain ⟨a, xs, rfl, _, hx, l⟩ := w1.x.lst
    cases ez
    cases r1
    obtain ⟨its, r, ht, hz⟩ := I5.list (SqL.of hx)
    have hlen := r.length
    show wpAny (model X.prog X.w) X.A (subscriptTail e (.Slice none none (some (.UnaryOp .USub (.Constant (.int 1) k p1) p2)) p3) (.ref a) (.ref s4.heap.objs.size)) (EP X pins σ Q) X.xe { s4 with heap := s4.heap.push { cls := .type "slice", data := .fields #[.none, .none, .int (-1) t] } }
    refine PyProof.Rows.tail_any (ops := [.ref a, .ref s4.heap.objs.size]) ht.isList.typeIs (PySem.slot_list_getitem.lookup) ?_ (by with_unfolding_all rfl)
    refine wpAny_getItem_list_slice ht.isList (Heap.IsSliceOf.new _ .none .none (.int (-1) t)) .none .none (.int _ _) (by decide) ?_ (by rw [List.size_toArray]; omega)
    rw [PySem.W.krv_pick]
    refine ⟨.ref _, _, I5.laid (t' := s4.toks) (o := .lst xs.reverse) (fun b ob q => Heap.get?_push_of_some _ q) (Nat.le_refl _) ?_, rfl, w1.new q l.reverse _ (I5.hok.fresh (Nat.le_refl _))⟩
    exact ⟨by rw [List.length_reverse]; exact hz, _, 0, r.reverse, Heap.get?_push_size _ rfl⟩
  | tuple ds =>
    obtain ⟨a, xs, rfl, hx, l⟩ := w1.x.tup
    cases ez
    cases r1
    obtain ⟨its, r, ht, hz⟩ := I5.tuple (SqT.of hx)
    have hlen := r.length
    show wpAny (model X.prog X.w) X.A (subscriptTail e (.Slice none none (some (.UnaryOp .USub (.Constant (.int 1) k p1) p2)) p3) (.ref a) (.ref s4.heap.objs.size)) (EP X pins σ Q) X.xe { s4 with heap := s4.heap.push { cls := .type "slice", data := .fields #[.none, .none, .int (-1) t] } }
    refine PyProof.Rows.tail_any (ops := [.ref a, .ref s4.heap.objs.size]) ht.typeIs (PyProof.Rows.slot_tuple_getitem.lookup) ?_ (by with_unfolding_all rfl)
    refine getItem_tuple_rev ht (Heap.IsSliceOf.new _ .none .none (.int (-1) t)) ?_ (by rw [List.size_toArray]; omega)
    refine ⟨.ref _, _, I5.laid (t' := s4.toks) (o := .tup xs.reverse) (fun b ob q => Heap.get?_push_of_some _ q) (Nat.le_refl _) ?_, rfl, w1.newT q l.reverse _ (I5.hok.fresh (Nat.le_refl _))⟩
    exact ⟨by rw [List.length_reverse]; exact hz, _, r.reverse, IsTup.new _ _⟩
  | str y =>
    obtain rfl := w1.x.str
    obtain ⟨hy, rfl⟩ := ite_some ez
    obtain ⟨ty, rfl⟩ := r1
    show wpAny (model X.prog X.w) X.A (subscriptTail e (.Slice none none (some (.UnaryOp .USub (.Constant (.int 1) k p1) p2)) p3) (.str y ty) (.ref s4.heap.objs.size)) (EP X pins σ Q) X.xe { s4 with heap := s4.heap.push { cls := .type "slice", data := .fields #[.none, .none, .int (-1) t] } }
    refine PyProof.Rows.tail_any (ops := [.str y ty, .ref s4.heap.objs.size]) (typeIs_str _ _ _) (PySem.F.slot_str_getitem.lookup) ?_ (by with_unfolding_all rfl)
    refine wpAny_getItem_str_slice (l := none) (u := none) (st := some (-1, t)) (Heap.IsSliceOf.new _ .none .none (.int (-1) t)) rfl ?_
    unfold sliceMade slicePicked
    show Made.post (if ((-1 : Int) == 1 && (Builtin.Str.strSliceIndices none none (-1) y.length).length == y.length) = true then Made.val (.str y ty) else Made.str ⟨((Builtin.Str.strSliceIndices none none (-1) y.length).filterMap (y.cps[·]?)).toArray⟩) (EP X pins σ Q) _
    rw [if_neg (by intro q; rw [Bool.and_eq_true] at q; exact absurd q.1 (by decide)), sliceRange_rev, List.filterMap_reverse]
    have e3 : (List.range y.length).filterMap (y.cps[·]?) = y.cps.toList := PySem.W.krv_all y.cps
    rw [e3]
    have hl : (⟨y.cps.toList.reverse.toArray⟩ : Str).length ≤ sizeLine := by
      show y.cps.toList.reverse.toArray.size ≤ sizeLine
      rw [List.size_toArray, List.length_reverse, Array.length_toList]
      exact hy
    exact ⟨hl, .str _, H4, I5.tok _, ⟨_, rfl⟩, w1.fin q (.str _) (fun _ e => nomatch e)⟩
  | _ => cases ez
end
end PT
namespace PT
open PySem PySem.Spec PyProof.Rows L2

def rB (f : D → Option D) : List V → Hp → VK → Prop := fun vs H Q => ∃ c x d z, vs = [x] ∧ V1 c H x d ∧ f d = some z ∧ KF c H z Q
section
variable {X : Cx}
theorem cb_len : CallR X (.builtin "len") (rB (b1D .len)) := by
  intro pins s σ H xs us Q I r h
  obtain ⟨c, x, d, z, rfl, w1, ez, q⟩ := h
  cases d with
  | list ds =>
    obtain ⟨a, vs, rfl, _, hx, l⟩ := w1.x.lst
    cases ez
    exact call_len_seq pins s σ H _ us Q I r ⟨a, vs, rfl, .inl (SqL.of hx), by rw [l.length]; exact w1.fin q (.int _) (fun _ e => nomatch e)⟩
  | tuple ds =>
    obtain ⟨a, vs, rfl, hx, l⟩ := w1.x.tup
    cases ez
    exact call_len_seq pins s σ H _ us Q I r ⟨a, vs, rfl, .inr (SqT.of hx), by rw [l.length]; exact w1.fin q (.int _) (fun _ e => nomatch e)⟩
  | str y =>
    obtain rfl := w1.x.str
    obtain ⟨hy, rfl⟩ := ite_some ez
    exact call_len_str pins s σ H _ us Q I r ⟨y, rfl, hy, w1.fin q (.int _) (fun _ e => nomatch e)⟩
  | _ => cases ez
theorem cb_int : CallR X (.type "int") (rB (b1D .int)) := by
  intro pins s σ H xs us Q I r h
  obtain ⟨c, x, d, z, rfl, w1, ez, q⟩ := h
  cases d with
  | int i =>
    obtain rfl := w1.x.int
    cases ez
    exact call_int1 pins s σ H _ us Q I r (.inl ⟨i, rfl, w1.fin q (.int _) (fun _ e => nomatch e)⟩)
  | bool b =>
    obtain rfl := w1.x.bool
    cases ez
    exact call_int1 pins s σ H _ us Q I r (.inr ⟨b, rfl, w1.fin q (.int _) (fun _ e => nomatch e)⟩)
  | _ => cases ez
theorem cb_str : CallR X (.type "str") (rB (b1D .str)) := by
  intro pins s σ H xs us Q I r h
  obtain ⟨c, x, d, z, rfl, w1, ez, q⟩ := h
  cases d with
  | int i =>
    obtain rfl := w1.x.int
    obtain ⟨hy, rfl⟩ := ite_some ez
    exact call_str_int pins s σ H _ us Q I r ⟨i, rfl, hy, w1.fin q (.str _) (fun _ e => nomatch e)⟩
  | none =>
    obtain rfl := w1.x.none
    cases ez
    obtain ⟨u, rfl, ru⟩ := vals1 r
    cases ru
    exact PySem.P.str_of_none ⟨.str _, H, I.tok _, ⟨_, rfl⟩, w1.fin q (.str _) (fun _ e => nomatch e)⟩
  | _ => cases ez
theorem isL_chars {O : List Addr} {ast : Sa} {H : Hp} : ∀ l : List Nat, IsL O ast H (l.map fun c => V.str ⟨#[c]⟩) (l.map fun c => PyData.str ⟨#[c]⟩)
  | [] => .nil
  | c :: l => .cons (.str _) (isL_chars l)
theorem vals_chars {x : Str} {acc : Array Value} (h : ItemsOf (SignAt x) acc x.cps.size) : Vals (x.cps.toList.map fun c => V.str ⟨#[c]⟩) acc.toList := by
  have key : ∀ (l : List Nat) (vs : List Value), l.length = vs.length → (∀ (j : Nat) (v : Value), vs[j]? = some v → ∃ (c : Nat) (u : Tok), l[j]? = some c ∧ v = Value.str ⟨#[c]⟩ u) → Vals (l.map fun c => V.str ⟨#[c]⟩) vs := by
    intro l
    induction l with
    | nil =>
      intro vs hl _
      have : vs = [] := List.eq_nil_of_length_eq_zero hl.symm
      subst this
      exact .nil
    | cons c l ih =>
      intro vs hl hv
      cases vs with
      | nil => cases hl
      | cons v vs =>
        obtain ⟨c', u, e1, e2⟩ := hv 0 v rfl
        have e3 : c = c' := Option.some.inj e1
        subst e3 e2
        exact .cons ⟨u, rfl⟩ (ih vs (Nat.succ.inj hl) fun j v h => hv (j + 1) v h)
  refine key _ _ ?_ fun j v hv => ?_
  · rw [Array.length_toList, Array.length_toList, h.1]
  · obtain ⟨c, u, hc, rfl⟩ := h.2 j v (by simpa using hv)
    exact ⟨c, u, by simpa using hc, rfl⟩
theorem cb_tuple (hc : X.calm = true) : CallR X (.type "tuple") (rB (b1D .tuple)) := by
  intro pins s σ H xs us Q I r h
  obtain ⟨c, x, d, z, rfl, w1, ez, q⟩ := h
  cases d with
  | list ds =>
    obtain ⟨a, vs, rfl, _, hx, l⟩ := w1.x.lst
    cases ez
    exact call_tuple_of pins s σ H _ us Q I r ⟨a, vs, rfl, .inl ⟨SqL.of hx, w1.newT q l⟩⟩
  | tuple ds =>
    obtain ⟨a, vs, rfl, hx, l⟩ := w1.x.tup
    cases ez
    exact call_tuple_of pins s σ H _ us Q I r ⟨a, vs, rfl, .inr ⟨SqT.of hx, w1.fin q (.tup hx l) (fun _ e => nomatch e)⟩⟩
  | str y =>
    obtain rfl := w1.x.str
    obtain ⟨hy, rfl⟩ := ite_some ez
    obtain ⟨u, rfl, t, rfl⟩ := vals1 r
    have hsz : y.cps.size ≤ sizeLine := Nat.le_trans hy (by rw [sizeLine_eq]; decide)
    refine call_tuple_str (hsz := hsz) (I.ok.hd hc) y t fun h' tk acc hk hacc => ?_
    have I2 : Inv X pins σ H { s with heap := h', toks := tk } := I.kept hk
    refine ⟨.ref h'.objs.size, _, I2.laid (t' := tk) (o := .tup (y.cps.toList.map fun c => V.str ⟨#[c]⟩)) (fun b ob q => Heap.get?_push_of_some _ q) (Nat.le_refl _) ?_, rfl, w1.newT q (isL_chars _) _ (I2.hok.fresh (Nat.le_refl _))⟩
    exact ⟨by rw [List.length_map, Array.length_toList]; exact hsz, _, vals_chars hacc, ⟨_, Heap.get?_push_size _ rfl, rfl, 0, by simp⟩⟩
  | _ => cases ez
theorem cb_list : CallR X (.type "list") (rB (b1D .list)) := by
  intro pins s σ H xs us Q I r h
  obtain ⟨c, x, d, z, rfl, w1, ez, q⟩ := h
  cases d with
  | list ds =>
    obtain ⟨a, vs, rfl, _, hx, l⟩ := w1.x.lst
    cases ez
    exact call_list_of pins s σ H _ us Q I r ⟨a, vs, rfl, .inl (SqL.of hx), w1.new q l⟩
  | tuple ds =>
    obtain ⟨a, vs, rfl, hx, l⟩ := w1.x.tup
    cases ez
    exact call_list_of pins s σ H _ us Q I r ⟨a, vs, rfl, .inr (SqT.of hx), w1.new q l⟩
  | _ => cases ez
theorem isL_dpAll {K : PySem.W.Frag} {O : List Addr} {ast : Sa} {H : Hp} {vs : List V} {ds : List D} (l : IsL O ast H vs ds) (c : PyData.canLayAll0 ds = true) : DpAll K H vs ds := l.dp c
theorem canLay_ints : ∀ ns : List Int, PyData.canLayAll0 (ns.map .int) = true
  | [] => by simp only [List.map_nil, PyData.canLayAll0]
  | n :: ns => by simp only [List.map_cons, PyData.canLayAll0, PyData.canLay0, canLay_ints ns, Bool.and_self]
theorem canLay_mkTs : ∀ rs : List (List Int), PyData.canLayAll0 (rs.map mkT) = true
  | [] => by simp only [List.map_nil, PyData.canLayAll0]
  | n :: ns => by simp only [List.map_cons, mkT, PyData.canLayAll0, PyData.canLay0, canLay_ints n, canLay_mkTs ns, Bool.and_self]
theorem tupOf_eq {d : D} {r : List Int} (h : tupOf d = some r) : d = mkT r := by
  cases d with
  | tuple xs =>
    have h : intsD xs = some r := h
    have key : ∀ (xs : List D) (r : List Int), intsD xs = some r → xs = r.map PyData.int := by
      intro xs
      induction xs with
      | nil => intro r h; have : r = [] := by simpa [intsD] using h.symm
               subst this; rfl
      | cons x xs ih =>
        intro r h
        unfold intsD at h
        rw [List.mapM_cons] at h
        cases x with
        | int i =>
          cases q : xs.mapM intOf with
          | none => rw [q] at h; cases h
          | some ms =>
            rw [q] at h
            have e2 : i :: ms = r := Option.some.inj h
            subst e2
            rw [ih ms q]
            rfl
        | _ => cases h
    rw [key xs r h]
    rfl
  | _ => cases h
theorem tupsD_eq : ∀ {xs : List D} {rs : List (List Int)}, tupsD xs = some rs → xs = rs.map mkT
  | [], rs, h => by
    have : rs = [] := by simpa [tupsD] using h.symm
    subst this; rfl
  | x :: xs, rs, h => by
    unfold tupsD at h
    rw [List.mapM_cons] at h
    cases q : tupOf x with
    | none => rw [q] at h; cases h
    | some r =>
      rw [q] at h
      cases q2 : xs.mapM tupOf with
      | none => rw [q2] at h; cases h
      | some ms =>
        rw [q2] at h
        have e2 : r :: ms = rs := Option.some.inj h
        subst e2
        rw [tupsD_eq q2, tupOf_eq q]
        rfl
theorem alikeAll_ints : ∀ xs ys : List Int, PySem.W.alikeAll (xs.map .int) (ys.map .int) = true
  | [], _ => by simp only [List.map_nil, PySem.W.alikeAll]
  | _ :: _, [] => by simp only [List.map_nil, List.map_cons, PySem.W.alikeAll]
  | x :: xs, y :: ys => by simp only [List.map_cons, PySem.W.alikeAll, PySem.W.alike, alikeAll_ints xs ys, Bool.and_self]
theorem alike_mkT (a b : List Int) : PySem.W.alike (mkT a) (mkT b) = true := by
  simp only [mkT, PySem.W.alike, alikeAll_ints]
theorem depth_mkT (a : List Int) : (mkT a).depth ≤ 1 := by
  simp only [mkT, PyData.depth, PySem.W.depth_ints]; omega
theorem depthAll_mkT : ∀ rs : List (List Int), PyData.depthAll (rs.map mkT) ≤ 1
  | [] => by simp only [List.map_nil, PyData.depthAll]; omega
  | r :: rs => by
    have h1 := depth_mkT r
    have h2 := depthAll_mkT rs
    simp only [List.map_cons, PyData.depthAll]; omega
theorem dataLt_mkT (a b : List Int) : PySem.W.dataLt (mkT a) (mkT b) = decide (a < b) := by
  show PySem.W.rowLt (a.map .int) (b.map .int) = _
  exact PySem.W.dataLt_ints a b
theorem minD_mkT (x : List Int) : ∀ xs : List (List Int), PySem.W.minD (mkT x) (xs.map mkT) = mkT (xs.foldl (fun a y => if y < a then y else a) x) := by
  intro xs
  unfold PySem.W.minD
  induction xs generalizing x with
  | nil => rfl
  | cons y xs ih =>
    rw [List.map_cons, List.foldl_cons, List.foldl_cons, ← ih, dataLt_mkT]
    by_cases h : y < x
    · rw [if_pos (decide_eq_true h), if_pos h]
    · rw [if_neg (by rw [decide_eq_false h]; exact Bool.false_ne_true), if_neg h]
/-- where the least item stands -/
theorem at_reads {pins : List (Addr × Obj)} {s : Shared} {σ : L2.St} {H : Hp} {O : List Addr} {ast : Sa} (I : Inv X pins σ H s) {vs : List V} {ds : List D} {its : List Value} (l : IsL O ast H vs ds) (c : PyData.canLayAll0 ds = true) (r : Vals vs its) {i : Nat} {u : Value} (hu : its[i]? = some u) {z : D} {h' : Heap} {bs : List Addr}
    (hz : Reads h' u z bs) (hk : ∀ b o, s.heap.get? b = some o → h'.get? b = some o) : ∃ v, RelV v u ∧ Is O ast H v z := by
  have hi : i < its.length := (List.getElem?_eq_some_iff.mp hu).1
  have hd : i < ds.length := by rw [← l.length, r.length]; exact hi
  obtain ⟨v, hv, iv⟩ := l.get (List.getElem?_eq_getElem hd)
  obtain ⟨u', hu', rv⟩ := r.get hv
  rw [hu] at hu'
  cases hu'
  have cd : ds[i].canLay0 = true := by
    have key : ∀ (l : List D) (i : Nat) (h : i < l.length), PyData.canLayAll0 l = true → l[i].canLay0 = true := by
      intro l
      induction l with
      | nil => intro i h; exact absurd h (Nat.not_lt_zero _)
      | cons x l ih =>
        intro i h c
        simp only [PyData.canLayAll0, Bool.and_eq_true] at c
        cases i with
        | zero => exact c.1
        | succ i => exact ih i (Nat.lt_of_succ_lt_succ h) c.2
    exact key ds i hd c
  obtain ⟨as, ra⟩ := Dp.reads I _ v u (iv.dp cd) rv
  obtain ⟨e, _⟩ := PyProof.Rows.reads_det (fun b o e _ => hk b o e) ra hz
  exact ⟨v, rv, e ▸ iv⟩
theorem alikeAll_isI (ns : List Int) : PySem.W.AlikeAll (ns.map .int) := ⟨fun x hx y hy => by
    obtain ⟨a, _, rfl⟩ := List.mem_map.mp hx
    obtain ⟨b, _, rfl⟩ := List.mem_map.mp hy
    rfl, fun x hx e => by
    obtain ⟨a, _, rfl⟩ := List.mem_map.mp hx
    cases e⟩
theorem alikeAll_isT (ns : List (List Int)) : PySem.W.AlikeAll (ns.map mkT) := ⟨fun x hx y hy => by
    obtain ⟨a, _, rfl⟩ := List.mem_map.mp hx
    obtain ⟨b, _, rfl⟩ := List.mem_map.mp hy
    exact alike_mkT a b, fun x hx e => by
    obtain ⟨a, _, rfl⟩ := List.mem_map.mp hx
    cases e⟩
theorem cb_min (hc : X.calm = true) (hu : X.A.units + 64 < cLine) : CallR X (.builtin "min") (rB (b1D .min)) := by
  intro pins s σ H xs us Q I r h
  obtain ⟨c, x, d, z, rfl, w1, ez, q⟩ := h
  have ez : (itemsD d).bind minD = some z := ez
  cases e0 : itemsD d with
  | none => rw [e0] at ez; cases ez
  | some ds =>
    rw [e0] at ez
    have ez : minD ds = some z := ez
    obtain ⟨a, vs, rfl, l, k⟩ := w1.x.items e0
    obtain ⟨u, rfl, ru⟩ := vals1 r
    cases ru
    -- the least as the library says it
    have key : ∃ y ys, ds = y :: ys ∧ PySem.W.AlikeAll (y :: ys) ∧ PyData.canLayAll0 (y :: ys) = true ∧ PyData.depthAll (y :: ys) ≤ 1 ∧ PySem.W.minD y ys = z ∧ ∀ ds, z ≠ .list ds := by
      unfold minD at ez
      cases e1 : intsD ds with
      | some ns =>
        rw [e1] at ez
        obtain ⟨_, ed⟩ := l.ints e1
        obtain ⟨n, en, ez⟩ := map_some ez
        cases ns with
        | nil => cases en
        | cons n0 ns =>
          cases en
          refine ⟨.int n0, ns.map .int, ed, alikeAll_isI (n0 :: ns), canLay_ints (n0 :: ns), by have := PySem.W.depth_ints (n0 :: ns); rw [List.map_cons] at this; omega, ?_, ?_⟩
          · rw [← ez, PySem.W.minD_ints]
          · rw [← ez]; exact fun _ e => nomatch e
      | none =>
        rw [e1] at ez
        cases e2 : tupsD ds with
        | none => rw [e2] at ez; cases ez
        | some rs =>
          rw [e2] at ez
          have ed := tupsD_eq e2
          obtain ⟨n, en, ez⟩ := map_some ez
          cases rs with
          | nil => cases en
          | cons n0 ns =>
            cases en
            refine ⟨mkT n0, ns.map mkT, ed, alikeAll_isT (n0 :: ns), canLay_mkTs (n0 :: ns), depthAll_mkT (n0 :: ns), ?_, ?_⟩
            · rw [← ez, minD_mkT]
            · rw [← ez]; exact fun _ e => nomatch e
    obtain ⟨y, ys, rfl, ha, hl, hd, hm, hn⟩ := key
    rcases k with ⟨_, _, hx⟩ | ⟨_, hx⟩
    · obtain ⟨its, rv, pl, hz⟩ := I.list (SqL.of hx)
      obtain ⟨as, hr⟩ := Dp.readsAll I _ _ its (l.dp (K := X.K) hl) rv
      refine PySem.W.min_list_data (I.ok.hd hc) pl.isList hr ha (by omega) fun i u h' tk bs hu hz hk => ?_
      rw [hm] at hz
      obtain ⟨v, rv', iv⟩ := at_reads I l hl rv (by simpa using hu) hz hk
      exact ⟨v, H, I.kept hk, rv', w1.fin q iv hn⟩
    · obtain ⟨its, rv, pl, hz⟩ := I.tuple (SqT.of hx)
      obtain ⟨as, hr⟩ := Dp.readsAll I _ _ its (l.dp (K := X.K) hl) rv
      refine PySem.W.min_tuple_data (I.ok.hd hc) pl hr ha (by omega) fun i u h' tk bs hu hz hk => ?_
      rw [hm] at hz
      obtain ⟨v, rv', iv⟩ := at_reads I l hl rv (by simpa using hu) hz hk
      exact ⟨v, H, I.kept hk, rv', w1.fin q iv hn⟩
theorem cb_max (hc : X.calm = true) (hu : X.A.units + 64 < cLine) : CallR X (.builtin "max") (rB (b1D .max)) := by
  intro pins s σ H xs us Q I r h
  obtain ⟨c, x, d, z, rfl, w1, ez, q⟩ := h
  have ez : (itemsD d).bind maxD = some z := ez
  cases e0 : itemsD d with
  | none => rw [e0] at ez; cases ez
  | some ds =>
    rw [e0] at ez
    have ez : maxD ds = some z := ez
    obtain ⟨a, vs, rfl, l, k⟩ := w1.x.items e0
    obtain ⟨u, rfl, ru⟩ := vals1 r
    cases ru
    have key : ∃ y ys, ds = y :: ys ∧ PySem.W.AlikeAll (y :: ys) ∧ PyData.canLayAll0 (y :: ys) = true ∧ PyData.depthAll (y :: ys) ≤ 1 ∧ PySem.W.maxD y ys = z ∧ ∀ ds, z ≠ .list ds := by
      unfold maxD at ez
      cases e1 : intsD ds with
      | some ns =>
        rw [e1] at ez
        obtain ⟨_, ed⟩ := l.ints e1
        obtain ⟨n, en, ez⟩ := map_some (show (maxI ns).map PyData.int = some z from ez)
        cases ns with
        | nil => cases en
        | cons n0 ns =>
          cases en
          refine ⟨.int n0, ns.map .int, ed, alikeAll_isI (n0 :: ns), canLay_ints (n0 :: ns), by have := PySem.W.depth_ints (n0 :: ns); rw [List.map_cons] at this; omega, ?_, ?_⟩
          · rw [← ez, PySem.W.maxD_ints]
          · rw [← ez]; exact fun _ e => nomatch e
      | none => rw [e1] at ez; cases ez
    obtain ⟨y, ys, rfl, ha, hl, hd, hm, hn⟩ := key
    rcases k with ⟨_, _, hx⟩ | ⟨_, hx⟩
    · obtain ⟨its, rv, pl, hz⟩ := I.list (SqL.of hx)
      obtain ⟨as, hr⟩ := Dp.readsAll I _ _ its (l.dp (K := X.K) hl) rv
      refine PySem.W.max_list_data (I.ok.hd hc) pl.isList hr ha (by omega) fun i u h' tk bs hu hz hk => ?_
      rw [hm] at hz
      obtain ⟨v, rv', iv⟩ := at_reads I l hl rv (by simpa using hu) hz hk
      exact ⟨v, H, I.kept hk, rv', w1.fin q iv hn⟩
    · obtain ⟨its, rv, pl, hz⟩ := I.tuple (SqT.of hx)
      obtain ⟨as, hr⟩ := Dp.readsAll I _ _ its (l.dp (K := X.K) hl) rv
      refine PySem.W.max_tuple_data (I.ok.hd hc) pl hr ha (by omega) fun i u h' tk bs hu hz hk => ?_
      rw [hm] at hz
      obtain ⟨v, rv', iv⟩ := at_reads I l hl rv (by simpa using hu) hz hk
      exact ⟨v, H, I.kept hk, rv', w1.fin q iv hn⟩
theorem cb_repr (hg : X.A.guards = some []) (hu : X.A.units + 80 < cLine) : CallR X (.builtin "repr") (rB (b1D .repr)) := by
  intro pins s σ H xs us Q I r h
  obtain ⟨c, x, d, z, rfl, w1, ez, q⟩ := h
  obtain ⟨⟨h1, h2, h3, h4⟩, rfl⟩ := ite_some ez
  obtain ⟨u, rfl, ru⟩ := vals1 r
  obtain ⟨as, hr⟩ := Dp.reads I d x u (w1.x.dp h1) ru
  have qq := w1.fin q (.str d.shown) (fun _ e => nomatch e)
  cases hr with
  | none => exact PySem.P.repr_of_none ⟨.str _, H, I.tok _, ⟨_, rfl⟩, qq⟩
  | bool b => exact PySem.P.repr_of_bool ⟨.str _, H, I.tok _, ⟨_, rfl⟩, by cases b <;> exact qq⟩
  | int i t => exact PySem.P.repr_of_int (by simpa [PyData.showable] using h3) ⟨.str _, H, I.tok _, ⟨_, rfl⟩, qq⟩
  | str y t => exact PySem.P.repr_of_str ⟨.str _, H, I.tok _, ⟨_, rfl⟩, qq⟩ h4
  | list a1 a2 a3 a4 => exact repr_of_reads' (.list a1 a2 a3 a4) h3 (PyData.noDict_hsm (PyData.hasDict_of_canLay _ h1)) hg (by omega) (fun _ _ e => e) (fun h' u tk hk => ⟨.str _, H, I.kept hk, ⟨_, rfl⟩, qq⟩) h4
  | tuple a1 a2 a3 a4 => exact repr_of_reads' (.tuple a1 a2 a3 a4) h3 (PyData.noDict_hsm (PyData.hasDict_of_canLay _ h1)) hg (by omega) (fun _ _ e => e) (fun h' u tk hk => ⟨.str _, H, I.kept hk, ⟨_, rfl⟩, qq⟩) h4
  | dict _ _ _ _ _ => simp only [PyData.canLay0] at h1; cases h1
end
end PT
namespace PT
open PySem PySem.Spec PyProof.Rows L2

section
variable {prog : Program} {w : World} {A : Around} {E : Value → Shared → Prop} {s : Shared}
theorem collectT {l : Addr} {vs : List Value} {Q : List Value → Shared → Prop} (hl : IsTup s.heap l vs.toArray)
    (h : Q vs { s with heap := (s.heap.push (seqObj "list" #[] 0)).update s.heap.objs.size (Obj.mapSeq (· ++ vs.toArray)) }) (hsz : vs.length ≤ sizeLine) :
    wpAny (model prog w) A (collect (.ref l)) Q E s := by
  obtain ⟨o, ho, hc, n, hd⟩ := id hl
  unfold collect
  refine wpAny_bind (wpAny_runValue (codeAny_builtin entry_proto_collect' ?_))
  show wpAny _ _ (do again (.builtin "list.__iadd__" ⟨[← newList [], .ref l], []⟩)) _ _ s
  refine wpAny_bind (wpAny_newList (wpAny_pure ⟨Code.quiet_builtin _ (by decide +kernel), codeAny_builtin entry_list_iadd' ?_⟩))
  show wpAny _ _ (Builtin.List.listExtendWith (.ref s.heap.objs.size) (.ref l) (.ref s.heap.objs.size)) _ _ { s with heap := s.heap.push (seqObj "list" #[] 0) }
  unfold Builtin.List.listExtendWith
  have ho' : (s.heap.push (seqObj "list" #[] 0)).get? l = some o := Heap.get?_push_of_some _ ho
  refine wpAny_bind (wpAny_typeOf (T := "tuple") ⟨o, ho', hc⟩ ?_)
  have ht : (Value.type "tuple" == Value.type "tuple") = true := by rfl
  rw [if_pos (by rw [ht]; simp)]
  refine wpAny_bind (listItems_at ho' hd ?_)
  refine wpAny_bind (listItems_at (xs := #[]) (n := 0) (Heap.get?_push_size _ rfl) rfl ?_)
  rw [if_neg (by simp)]
  refine wpAny_bind (listUpdate_at (xs := #[]) (n := 0) (Heap.get?_push_size _ rfl) rfl ?_ (Nat.zero_le _) (by show (#[] ++ vs.toArray).size ≤ sizeLine + 1; simp only [Array.size_append, List.size_toArray, List.length_nil]; omega))
  refine wpAny_pure ?_
  show wpAny (model prog w) A (do
      let o ← load s.heap.objs.size
      match o.data with
      | .seq xs _ => pure xs.toList
      | _ => unsupported "internal:collect") Q E { s with heap := (s.heap.push (seqObj "list" #[] 0)).update s.heap.objs.size (Obj.mapSeq (· ++ vs.toArray)) }
  refine wpAny_bind (wpAny_load (get?_update_seq (Heap.get?_push_size _ rfl) _) ?_)
  show wpAny _ _ (pure ((#[] : Array Value) ++ vs.toArray).toList) Q E _
  rw [show ((#[] : Array Value) ++ vs.toArray).toList = vs by simp]
  exact wpAny_pure h
open PySem.W in
theorem sortedT_data {β : Type} {vs : List Value} {bs : List β} {enc : β → PyData} {R : Value → β → Prop} {l : Addr} {Q : Value → Shared → Prop} (hl : IsTup s.heap l vs.toArray) (e : EachIs R vs bs) (er : EachIs (fun v b => ∃ as, Reads s.heap v (enc b) as) vs bs) (hal : AllAlike (bs.map enc)) (hk : Sortable (bs.map enc)) (hL : bs.length ≤ sizeLine)
    (hu : ∀ b, b ∈ bs → A.units + 2 + (enc b).depth < cLine) (h : ∀ out, out.length = bs.length → EachIs R out (bs.mergeSort (dataLe false enc)) → Q (.ref (s.heap.objs.size + 1)) { s with heap := sortedAll s.heap vs (List.toArray out) }) :
    wpAny (model prog w) A (call (.builtin "sorted") [.ref l]) Q E s := by
  have er' : EachIs (fun v b => ∃ as, Reads (sortingHeap (copyHeap s.heap vs) (s.heap.objs.size + 1) vs) v (enc b) as) vs bs := er.mono fun _ _ ⟨as, r⟩ => ⟨as, PyProof.Rows.Reads.keeps (fun _ _ => sorting_copy_old) r⟩
  have hL' : vs.length ≤ sizeLine := by rw [e.length]; exact hL
  have S := SortsAt.data (prog := prog) (w := w) (A := A.in1.in1) (s := { s with heap := sortingHeap (copyHeap s.heap vs) (s.heap.objs.size + 1) vs }) (each_map (R := fun v d => ∃ as, Reads (sortingHeap (copyHeap s.heap vs) (s.heap.objs.size + 1) vs) v d as) enc er') hal hk (bound_map hu)
  have hq := h _ (by rw [sortVals_length false rfl]; exact e.length) (sortVals_data false e er' hal)
  refine call_function_entry_kw kind_sorted plain_sorted entry_sorted (args_sorted1 _) ?_
  unfold Builtin.«sorted»
  refine wpAny_bind (m := checkCount "sorted" 1 1 _) (wpAny_pure ?_)
  refine wpAny_bind (collectT hl ?_ hL')
  refine wpAny_bind (wpAny_newList ?_ hL')
  have hsz : ((s.heap.push (seqObj "list" #[] 0)).update s.heap.objs.size (Obj.mapSeq (· ++ vs.toArray))).objs.size = s.heap.objs.size + 1 := by
    rw [Heap.size_update, size_push']
  show wpAny _ _ _ _ _ { s with heap := copyHeap s.heap vs }
  rw [hsz]
  refine wpAny_bind (wpAny_holding (wpAny_call_entry_kw slot_list_sort ⟨_, copyHeap_at s.heap vs, rfl⟩ entry_list_sort ?body (args_list_sort _)))
  case body =>
    show wpAny (model prog w) A.in1.in1 (Builtin.«list.sort» ⟨[.ref (s.heap.objs.size + 1)], []⟩) _ _ _
    refine wpAny_mono (list_sort_vals (s := { s with heap := copyHeap s.heap vs }) (P := fun f s' => f = .done (.ret .none) ∧ Q (.ref (s.heap.objs.size + 1)) s') (copyHeap_at s.heap vs) S hL' ⟨rfl, hq⟩) (fun f s' hf => ?_) fun _ _ e => e
    obtain ⟨rfl, hq⟩ := hf
    exact ⟨_, rfl, wpAny_pure ⟨_, rfl, hq⟩⟩
end

section
variable {X : Cx} {O : List Addr} {ast : Sa} {H : Hp}
theorem leI_eq (a b : Int) : (!PySem.W.dataLt (.int b) (.int a)) = leI a b := by
  rw [PySem.W.dataLt_int, PySem.W.not_lt_int]; rfl
theorem leT_eq (a b : List Int) : (!PySem.W.dataLt (mkT b) (mkT a)) = leT a b := by
  rw [dataLt_mkT]
  unfold leT
  by_cases h : b < a
  · have h' : ¬ a ≤ b := fun r => List.not_lt.mpr r h
    simp [h, h']
  · have h' : a ≤ b := List.not_lt.mp h
    simp [h, h']
/-- what sorted wants of its items -/
structure Srt (ds es : List D) : Prop where
  al : PySem.W.AllAlike ds
  so : PySem.W.Sortable ds
  lay : PyData.canLayAll0 ds = true
  dp : ∀ d ∈ ds, d.depth ≤ 1
  eq : ds.mergeSort (PySem.W.dataLe false id) = es
theorem srtD_srt {ds es : List D} (h : srtD ds = some es) : Srt ds es := by
  unfold srtD at h
  cases e1 : intsD ds with
  | some ns =>
    rw [e1] at h
    have ed : ds = ns.map PyData.int := by
      have := tupOf_eq (d := .tuple ds) (r := ns) e1
      exact PyData.tuple.inj this
    cases h
    subst ed
    refine ⟨PySem.W.AllAlike.of (fun _ _ => by simp [PySem.W.alike]), PySem.W.Sortable.others (fun _ => ⟨(fun e => nomatch e), fun _ e => nomatch e⟩), canLay_ints ns, fun d hd => ?_, ?_⟩
    · obtain ⟨n, _, rfl⟩ := List.mem_map.mp hd
      simp [PyData.depth]
    · exact (List.map_mergeSort (f := PyData.int) (r := leI) (s := PySem.W.dataLe false id) fun a _ b _ => (leI_eq a b).symm).symm
  | none =>
    rw [e1] at h
    cases e2 : tupsD ds with
    | none => rw [e2] at h; cases h
    | some rs =>
      rw [e2] at h
      obtain ⟨hne, rfl⟩ := ite_some (show (if neT rs = true then some ((rs.mergeSort leT).map mkT) else none) = some es from h)
      obtain rfl := tupsD_eq e2
      refine ⟨PySem.W.AllAlike.of (fun a b => alike_mkT a b), .inl fun d hd => ?_, canLay_mkTs rs, fun d hd => ?_, ?_⟩
      · obtain ⟨r, hr, rfl⟩ := List.mem_map.mp hd
        have := List.all_eq_true.mp hne r hr
        cases r with
        | nil => cases this
        | cons x r => exact ⟨.int x, r.map .int, rfl⟩
      · obtain ⟨n, _, rfl⟩ := List.mem_map.mp hd
        exact depth_mkT n
      · exact (List.map_mergeSort (f := mkT) (r := leT) (s := PySem.W.dataLe false id) fun a _ b _ => (leT_eq a b).symm).symm
theorem isL_zip : ∀ {vs : List V} {ds : List D}, IsL O ast H vs ds → (∀ p ∈ vs.zip ds, Is O ast H p.1 p.2) ∧ (vs.zip ds).map (·.1) = vs ∧ (vs.zip ds).map (·.2) = ds
  | _, _, .nil => ⟨fun p hp => by simp at hp, rfl, rfl⟩
  | _, _, .cons h l => by
    obtain ⟨h1, h2, h3⟩ := isL_zip l
    refine ⟨fun p hp => ?_, ?_, ?_⟩
    · rw [List.zip_cons_cons, List.mem_cons] at hp
      rcases hp with rfl | hp
      · exact h
      · exact h1 p hp
    · rw [List.zip_cons_cons, List.map_cons, h2]
    · rw [List.zip_cons_cons, List.map_cons, h3]
theorem isL_of_pairs : ∀ (l : List (V × D)), (∀ p ∈ l, Is O ast H p.1 p.2) → IsL O ast H (l.map (·.1)) (l.map (·.2))
  | [], _ => .nil
  | p :: l, h => .cons (h p List.mem_cons_self) (isL_of_pairs l fun q hq => h q (List.mem_cons_of_mem _ hq))
theorem each_rel : ∀ {l : List (V × D)} {us : List Value}, Vals (l.map (·.1)) us → PySem.W.EachIs (fun u (p : V × D) => RelV p.1 u) us l
  | [], _, .nil => .nil
  | _ :: _, _, .cons r t => .cons r (each_rel t)
theorem rel_each : ∀ {l : List (V × D)} {us : List Value}, PySem.W.EachIs (fun u (p : V × D) => RelV p.1 u) us l → Vals (l.map (·.1)) us
  | [], _, .nil => .nil
  | _ :: _, _, .cons r t => .cons r (rel_each t)
theorem cb_sorted (hu : X.A.units + 64 < cLine) : CallR X (.builtin "sorted") (rB (b1D .sorted)) := by
  intro pins s σ H xs us Q I r h
  obtain ⟨c, x, d, z, rfl, w1, ez, q⟩ := h
  have ez : (itemsD d).bind (fun xs => (srtD xs).map .list) = some z := ez
  cases e0 : itemsD d with
  | none => rw [e0] at ez; cases ez
  | some ds =>
    rw [e0] at ez
    obtain ⟨es, e1, rfl⟩ := map_some (show (srtD ds).map PyData.list = some z from ez)
    have S := srtD_srt e1
    obtain ⟨a, vs, rfl, l, k⟩ := w1.x.items e0
    obtain ⟨u, rfl, ru⟩ := vals1 r
    cases ru
    obtain ⟨z1, z2, z3⟩ := isL_zip l
    have finS : ∀ (its : List Value), Vals vs its → its.length ≤ sizeLine → ∀ out : List Value, out.length = (vs.zip ds).length → PySem.W.EachIs (fun u (p : V × D) => RelV p.1 u) out ((vs.zip ds).mergeSort (PySem.W.dataLe false fun p => p.2)) →
        EP X pins σ Q (.ref (s.heap.objs.size + 1)) { s with heap := sortedAll s.heap its (List.toArray out) } := fun its rv hz out ho ho2 => by
      obtain ⟨ep, he'⟩ := PyProof.Rows.sortedAll_at s.heap its out.toArray
      have hv := rel_each ho2
      have hlen : (((vs.zip ds).mergeSort (PySem.W.dataLe false fun p => p.2)).map (·.1)).length ≤ sizeLine := by
        rw [List.length_map, List.length_mergeSort]
        have := congrArg List.length z2
        rw [List.length_map] at this
        rw [this, rv.length]; exact hz
      have hn := I.hok.fresh (Nat.le_succ s.heap.objs.size)
      refine ⟨.ref _, upd H (s.heap.objs.size + 1) (.lst _), I.laid (t' := s.toks) (fun _ _ => PyProof.Rows.sortedAll_old) (Nat.le_succ _) ⟨hlen, out, ep, hv, he'⟩, rfl, w1.new q ?_ _ hn⟩
      have l2 : IsL c.O c.ast H (((vs.zip ds).mergeSort (PySem.W.dataLe false fun p => p.2)).map (·.1)) (((vs.zip ds).mergeSort (PySem.W.dataLe false fun p => p.2)).map (·.2)) :=
        isL_of_pairs _ fun p hp => z1 p ((List.mergeSort_perm _ _).mem_iff.mp hp)
      have e4 : ((vs.zip ds).mergeSort (PySem.W.dataLe false fun p => p.2)).map (·.2) = es := by
        rw [← S.eq]
        have := List.map_mergeSort (f := fun p : V × D => p.2) (l := vs.zip ds) (r := PySem.W.dataLe false fun p => p.2) (s := PySem.W.dataLe false id) fun a _ b _ => rfl
        rw [this, z3]
      rw [e4] at l2
      exact l2
    have hb : ∀ b, b ∈ vs.zip ds → X.A.units + 2 + (b.2).depth < cLine := fun b hb => by
      have : b.2 ∈ ds := by rw [← z3]; exact List.mem_map.mpr ⟨b, hb, rfl⟩
      have := S.dp _ this
      omega
    rcases k with ⟨_, _, hx⟩ | ⟨_, hx⟩
    · obtain ⟨its, rv, pl, hz⟩ := I.list (SqL.of hx)
      obtain ⟨as, hr⟩ := Dp.readsAll I _ _ its (l.dp (K := X.K) S.lay) rv
      have hz' : its.length ≤ sizeLine := by rw [← rv.length]; exact hz
      have hlen : (vs.zip ds).length ≤ sizeLine := by
        have := congrArg List.length z2
        rw [List.length_map] at this
        rw [this]; exact hz
      refine PySem.W.sorted_data (bs := vs.zip ds) (enc := fun p => p.2) (R := fun u p => RelV p.1 u) pl.isList (each_rel (by rw [z2]; exact rv)) ?_ ?_ ?_ hlen hb (finS its rv hz')
      · exact PySem.W.readsAll_each (fun p : V × D => p.2) (by rw [z3]; exact hr)
      · rw [z3]; exact S.al
      · rw [z3]; exact S.so
    · obtain ⟨its, rv, pl, hz⟩ := I.tuple (SqT.of hx)
      obtain ⟨as, hr⟩ := Dp.readsAll I _ _ its (l.dp (K := X.K) S.lay) rv
      have hz' : its.length ≤ sizeLine := by rw [← rv.length]; exact hz
      have hlen : (vs.zip ds).length ≤ sizeLine := by
        have := congrArg List.length z2
        rw [List.length_map] at this
        rw [this]; exact hz
      refine sortedT_data (bs := vs.zip ds) (enc := fun p => p.2) (R := fun u p => RelV p.1 u) pl (each_rel (by rw [z2]; exact rv)) ?_ ?_ ?_ hlen hb (finS its rv hz')
      · exact PySem.W.readsAll_each (fun p : V × D => p.2) (by rw [z3]; exact hr)
      · rw [z3]; exact S.al
      · rw [z3]; exact S.so
end
end PT
namespace PT
open PySem PySem.Spec PyProof.Rows L2
abbrev newS (w : World) : Obj := { cls := .type "set", dict := none, data := .set #[] 0 (.fresh 0 0 (!w.params.followText "set-order")) }
section
variable {P : Program} {w : World} {A : Around} {E : Value → Shared → Prop} {s : Shared}
set_option maxHeartbeats 3200000 in
theorem callSetL {l : Addr} {items : Array Value} (ns : List Int) {Q : Value → Shared → Prop} (hh : A.handled = none) (hl : s.heap.IsList l items) (hit : IntsAre items.toList ns) (hb : ns.length + 1 < scanBound)
    (h : ∀ (h' : Heap) (tk c : Nat), SetR w h' s.heap.objs.size (fun j => decide (j ∈ ns)) c → c ≤ ns.length → (∀ b o, s.heap.get? b = some o → h'.get? b = some o) → Q (.ref s.heap.objs.size) { s with heap := h', toks := tk }) :
    wpAny (model P w) A (call (.type "set") [.ref l]) Q E s := by
  have hisz : items.size = ns.length := by
    have q := IntsAre.length hit
    rw [Array.length_toList] at q
    exact q
  obtain ⟨c, tl, hmro⟩ := F.called_set.mro
  have hmade := F.called_set.made
  have hsub := F.called_set.sub
  refine wpAny_call (codeAny_of_tree ?_)
  show wpAny _ _ (callAny (.type "set") _) _ _ _
  refine wpAny_pure ⟨Code.quiet_builtin _ (by decide +kernel), codeAny_builtin F.entry_type_call ?_⟩
  rw [Around.under_plain (weight_type_call_type "set" [.ref l] []) rfl]
  have h1 := F.called_set.notType
  have h2 := F.called_set.canCreate
  have hct := F.typeCall_set_1 (.ref l)
  repeat (any_goals (first | assumption | wp_step))

  refine codeAny_mono (code_set_led1 (.ref l) (E := E) (Q₁ := fun obj s₁ => obj = .ref s.heap.objs.size ∧ s₁ = { s with heap := s.heap.push (newS w) }) ⟨rfl, rfl⟩) fun r s₁ hr => ?_
  cases r with
  | error e => exact hr
  | ok fl =>
    cases fl with
    | ret obj =>
      obtain ⟨rfl, rfl⟩ := hr
      have hS : (s.heap.push (newS w)).get? s.heap.objs.size = some (newS w) := Heap.get?_push_size _ rfl
      have hT : Shared.TypeIs { s with heap := s.heap.push (newS w) } (.ref s.heap.objs.size) "set" := ⟨_, hS, rfl⟩
      have hli := F.called_set.init.lookup
      have hbi := F.called_set.init.bind (.ref s.heap.objs.size)
      repeat (any_goals (first | assumption | wp_step))

      refine codeAny_mono (codeAny_call_builtin (R := wants (fun r s₂ => r = .none ∧ ∃ h' tk c, s₂ = { s with heap := h', toks := tk } ∧ SetR w h' s.heap.objs.size (fun j => decide (j ∈ ns)) c ∧ c ≤ ns.length ∧
          (∀ b o, s.heap.get? b = some o → h'.get? b = some o)) E) F.called_set.init.plain F.entry_set_init (check_set_init_1 hT ?_)) fun r₂ s₂ hr₂ => ?_
      · obtain ⟨ol, hol, hcl, nl, hdl⟩ := hl
        obtain ⟨ocls, odict, odata, oslots⟩ := ol
        simp only at hcl hdl
        subst hcl; subst hdl
        have hol' : (s.heap.push (newS w)).get? l = some { cls := .type "list", dict := odict, data := .seq items nl, slots := oslots } := Heap.get?_push_of_some _ hol
        have hsls := F.sub_list_set
        have hslf := F.sub_list_frozenset
        have hne : (Value.type "list" == Value.type "dict") = false := by decide
        have hl1 : (s.heap.push (newS w)).IsList l items := ⟨_, hol', rfl, nl, rfl⟩
        unfold Builtin.«set.__init__» noKeywords Builtin.Frozenset.updateFrom
        generalize hPI : pyIter = PI
        wp_walk
        subst hPI

        refine wpAny_pyIter_list hl1 ?_
        refine wpAny_bind (wpAny_runValue ?_)
        have hlS : l < s.heap.objs.size := Heap.lt_size hol
        have hh3 : A.in1.in1.in1.handled = none := by simp [hh]
        have hz1 : (s.heap.push (newS w)).objs.size = s.heap.objs.size + 1 := Heap.size_push ..
        have hneI : l ≠ (s.heap.push (newS w)).objs.size := by
          rw [Heap.size_push]; exact Nat.ne_of_lt (Nat.lt_succ_of_lt hlS)
        have hSf : s.heap.objs.size ∉ [(s.heap.push (newS w)).objs.size, l] := by
          rw [Heap.size_push]; simp only [List.mem_cons, List.mem_singleton, List.not_mem_nil, or_false, not_or]
          exact ⟨Nat.ne_of_lt (Nat.lt_succ_self _), Nat.ne_of_gt hlS⟩
        have hval : ∀ (i : Nat) (v : Value), items[i]? = some v → ∃ k t, ns[i]? = some k ∧ v = .int k t := fun i v hv => by
          have hi : i < ns.length := by rw [← hisz]; exact (Array.getElem?_eq_some_iff.mp hv).1
          obtain ⟨t, e⟩ := PyProof.Rows.IntsAre.int_at hit i v (by rw [Array.getElem?_toList]; exact hv)
          refine ⟨ns[i], t, List.getElem?_eq_getElem hi, ?_⟩
          rw [e, List.getD_eq_getElem?_getD, List.getElem?_eq_getElem hi] <;> rfl
        refine set_update_ints ((Walks.list hh3 _ l hneI items).toS) s.heap.objs.size
          hSf ns hisz hb hval (items.size - 0) 0 _ (by omega) (Nat.zero_le _)
          ⟨⟨_, Heap.get?_push_size _ rfl, rfl, rfl⟩, (hl1.push _)⟩ ?hS0 ?hR
        case hS0 =>
          have hget : ((s.heap.push (newS w)).push { cls := .type "list_iterator", data := .fields #[.ref l, .int 0 0] }).get? s.heap.objs.size
              = some (newS w) := Heap.get?_push_of_some _ hS
          exact ⟨0, Nat.le_refl 0, setR_new_at hget⟩
        case hR =>
          intro s' c' hm hc' hS'
          obtain ⟨h', g2, d', tk', os'⟩ := s'
          have eg : g2 = s.gens := hm.gens
          have ed : d' = s.drawn := hm.drawn
          have eo : os' = s.os := hm.os
          subst eg; subst ed; subst eo
          show wpAny _ _ _ _ _ _
          refine wpAny_pure ?_
          show wpAny _ _ (ret Value.none) _ _ _
          rw [hisz] at hc'
          refine wpAny_pure ⟨rfl, h', tk', c', rfl, hS', hc', fun b o e => ?_⟩
          have hb0 : b < s.heap.objs.size := Heap.lt_size e
          have hb1 : b ≠ s.heap.objs.size := Nat.ne_of_lt hb0
          have hb2 : b ≠ (s.heap.push (newS w)).objs.size := by
            rw [Heap.size_push]; exact Nat.ne_of_lt (Nat.lt_succ_of_lt hb0)
          exact hm.heap b o (by simp only [List.mem_cons, List.mem_singleton, List.not_mem_nil, or_false, not_or]; exact ⟨hb1, hb2⟩) (Heap.get?_push_of_some _ (Heap.get?_push_of_some _ e))

      · cases r₂ with
        | error e => exact hr₂
        | ok fl₂ =>
          cases fl₂ with
          | ret r =>
            obtain ⟨rfl, h', tk, c', rfl, hS', hc', hk'⟩ := hr₂
            repeat (any_goals (first | assumption | wp_step))
            exact h _ _ _ hS' hc' hk'
          | _ => exact hr₂.elim
    | _ => exact hr.elim
end
end PT
namespace PT
open PySem PySem.Spec PyProof.Rows L2

theorem dedI_nodup : ∀ (n : Nat) (ns : List Int), ns.length ≤ n → (dedI ns).Nodup
  | _, [], _ => by simp [dedI]
  | n + 1, x :: xs, h => by
    unfold dedI
    rw [List.eraseDups_cons, List.nodup_cons]
    refine ⟨fun hm => ?_, dedI_nodup n _ (Nat.le_trans (List.length_filter_le _ _) (Nat.le_of_succ_le_succ h))⟩
    rw [List.mem_eraseDups, List.mem_filter] at hm
    simp at hm
theorem dedI_mem {ns : List Int} {k : Int} : k ∈ dedI ns ↔ k ∈ ns := List.mem_eraseDups
theorem lt_eq : ∀ {a b : List Int}, a.Pairwise (· < ·) → b.Pairwise (· < ·) → (∀ k, k ∈ a ↔ k ∈ b) → a = b := fun {a b} ha hb h => by
  have na : a.Nodup := ha.imp fun h => Int.ne_of_lt h
  have nb : b.Nodup := hb.imp fun h => Int.ne_of_lt h
  have p := (List.perm_ext_iff_of_nodup na nb).mpr fun k => h k
  exact List.Perm.eq_of_pairwise (le := fun x y : Int => x ≤ y) (fun x y _ _ h1 h2 => Int.le_antisymm h1 h2) (ha.imp fun h => Int.le_of_lt h) (hb.imp fun h => Int.le_of_lt h) p
theorem sortI_pw (ns : List Int) : (ns.mergeSort leI).Pairwise (· ≤ ·) := by
  have := List.pairwise_mergeSort (le := leI) (fun a b c h1 h2 => by simp only [leI, decide_eq_true_eq] at *; omega) (fun a b => by simp only [leI, Bool.or_eq_true, decide_eq_true_eq]; omega) ns
  exact this.imp fun h => by simpa [leI] using h
theorem sortI_lt {ns : List Int} (h : ns.Nodup) : (ns.mergeSort leI).Pairwise (· < ·) :=
  lt_of_le_nodup _ (sortI_pw ns) ((List.mergeSort_perm ns leI).nodup_iff.mpr h)
theorem sset_eq {ns a : List Int} (ha : a.Pairwise (· < ·)) (h : ∀ k, k ∈ a ↔ k ∈ ns) : a = (dedI ns).mergeSort leI :=
  lt_eq ha (sortI_lt (dedI_nodup _ ns (Nat.le_refl _))) fun k => by rw [h, (List.mergeSort_perm _ _).mem_iff, dedI_mem]
theorem setR_count {w : World} {h : Heap} {a : Addr} {ns : List Int} {n : Nat} (R : SetR w h a (fun j => decide (j ∈ ns)) n) : n = (dedI ns).length := by
  obtain ⟨o, es, ep, t, ho, hex, hd, g, nd, hm, hb, hf, hn, hr, hl⟩ := R
  have p := (List.perm_ext_iff_of_nodup nd (dedI_nodup _ ns (Nat.le_refl _))).mpr fun k => by rw [dedI_mem, ← hm k, decide_eq_true_eq]
  rw [← hn, ← p.length_eq, List.length_map, Array.length_toList]
theorem dedI_le (ns : List Int) : ∀ n, ns.length ≤ n → (dedI ns).length ≤ ns.length := by
  intro n
  induction n generalizing ns with
  | zero => intro h; cases ns with
    | nil => exact Nat.le_refl _
    | cons x xs => cases h
  | succ n ih => intro h; cases ns with
    | nil => exact Nat.le_refl _
    | cons x xs =>
      unfold dedI
      rw [List.eraseDups_cons, List.length_cons, List.length_cons]
      have h1 := List.length_filter_le (fun b => !b == x) xs
      have h2 := ih (xs.filter fun b => !b == x) (Nat.le_trans h1 (Nat.le_of_succ_le_succ h))
      unfold dedI at h2
      omega

section
variable {X : Cx}
/-- set(x): x ints, few -/
def rSetI (w : World) : List V → Hp → VK → Prop := fun vs H Q => ∃ c x d ns, vs = [x] ∧ V1 c H x d ∧ (itemsD d).bind intsD = some ns ∧ ns.length < 64 ∧
  ∀ p, H p = none → Q (.ref p) (upd H p (SetO w p (fun j => decide (j ∈ ns)) (dedI ns).length))
theorem cr_setI (hc : X.calm = true) : CallR X (.type "set") (rSetI X.w) := by
  intro pins s σ H xs us Q I r h
  obtain ⟨c, x, d, ns, rfl, w1, ez, h64, q⟩ := h
  cases e0 : itemsD d with
  | none => rw [e0] at ez; cases ez
  | some ds =>
    rw [e0] at ez
    obtain ⟨a, vs, rfl, l, k⟩ := w1.x.items e0
    obtain ⟨rfl, ed⟩ := l.ints (show intsD ds = some ns from ez)
    obtain ⟨u, rfl, ru⟩ := vals1 r
    cases ru
    have hn : H s.heap.objs.size = none := I.hok.fresh (Nat.le_refl _)
    have fin2 : ∀ (h' : Heap) (tk c : Nat), SetR X.w h' s.heap.objs.size (fun j => decide (j ∈ ns)) c → c ≤ ns.length → (∀ b o, s.heap.get? b = some o → h'.get? b = some o) →
        EP X pins σ Q (.ref s.heap.objs.size) { s with heap := h', toks := tk } := fun h' tk c R _ hk => by
      have ec := setR_count R
      subst ec
      exact ⟨.ref _, _, I.laid (t' := tk) hk (Nat.le_refl _) (setO_new R), rfl, q _ hn⟩
    have hb : ns.length + 1 < scanBound := by unfold scanBound; omega
    rcases k with ⟨_, _, hx⟩ | ⟨_, hx⟩
    · obtain ⟨its, rv, pl, hz⟩ := I.list (SqL.of hx)
      exact callSetL ns (I.ok.hd hc) pl.isList (by simpa using rv.ints) hb fin2
    · obtain ⟨its, rv, pl, hz⟩ := I.tuple (SqT.of hx)
      exact call_set_tupI ns (I.ok.hd hc) (show s.heap.IsTuple a its.toArray from pl) (by simpa using rv.ints) hb fin2
def rLenSet (w : World) : List V → Hp → VK → Prop := fun vs H Q => ∃ (a : Addr) (S : Int → Bool) (n : Nat), vs = [V.ref a] ∧ H a = some (SetO w a S n) ∧ Q (.int n) H
theorem cr_lenSet : CallR X (.builtin "len") (rLenSet X.w) := by
  intro pins s σ H vs us Q I r h
  obtain ⟨a, S, n, rfl, ha, q⟩ := h
  have R := setO_get I ha
  rw [Vals.ref1 r]
  obtain ⟨o, es, ep, t, ho, hex, hd, g, nd, hm, hb, hf, hn, hr, hl⟩ := R
  refine call_len_set ho hex hd hf (by unfold scanBound at hb; omega) ⟨.int n, H, I.tok _, ⟨_, by rw [hn]⟩, q⟩
/-- sums -/
theorem cb_sum (hc : X.calm = true) : CallR X (.builtin "sum") (rB (b1D .sum)) := by
  intro pins s σ H xs us Q I r h
  obtain ⟨c, x, d, z, rfl, w1, ez, q⟩ := h
  have ez : (itemsD d).bind (fun xs => (intsD xs).map fun ns => .int ns.sum) = some z := ez
  cases e0 : itemsD d with
  | none => rw [e0] at ez; cases ez
  | some ds =>
    rw [e0] at ez
    obtain ⟨ns, e1, rfl⟩ := map_some (show (intsD ds).map (fun ns => PyData.int ns.sum) = some z from ez)
    obtain ⟨a, vs, rfl, l, k⟩ := w1.x.items e0
    obtain ⟨rfl, _⟩ := l.ints e1
    have qq := w1.fin q (.int ns.sum) (fun _ e => nomatch e)
    rcases k with ⟨_, _, hx⟩ | ⟨_, hx⟩
    · exact cr_sum hc pins s σ H _ us Q I r ⟨a, ns, rfl, SqL.of hx, qq⟩
    · obtain ⟨its, rv, pl, hz⟩ := I.tuple (SqT.of hx)
      rw [Vals.ref1 r]
      have hi := rv.ints
      obtain ⟨xs, e⟩ := hi.allInts.items
      have hn : numsOf (intItems xs).toList = ns := by rw [← e]; exact hi.numsOf
      rw [nums_intItems] at hn
      rw [e] at pl
      refine PySem.W.ktm_sumG (I.ok.hd hc) pl fun h' tk t' hk => ⟨.int ns.sum, H, I.kept hk, ⟨t', ?_⟩, qq⟩
      rw [preSum_eq, List.take_of_length_le (by simp), hn]
def rB2 (f : D → D → Option D) : List V → Hp → VK → Prop := fun vs H Q => ∃ c x y d e z, vs = [x, y] ∧ V2 c H x y d e ∧ f d e = some z ∧ KF c H z Q
theorem cb_max2 (hc : X.calm = true) : CallR X (.builtin "max") (rB2 (b2D .max2)) := by
  intro pins s σ H xs us Q I r h
  obtain ⟨c, x, y, d, e, z, rfl, w2, ez, q⟩ := h
  cases d with
  | int i => cases e with
    | int j =>
      obtain rfl := w2.x.int; obtain rfl := w2.y.int
      cases ez
      exact call_max2 hc pins s σ H _ us Q I r ⟨i, j, rfl, w2.fin q (.int _) (fun _ e => nomatch e)⟩
    | _ => cases ez
  | _ => cases e <;> cases ez
theorem cb_min2 (hc : X.calm = true) : CallR X (.builtin "min") (rB2 (b2D .min2)) := by
  intro pins s σ H xs us Q I r h
  obtain ⟨c, x, y, d, e, z, rfl, w2, ez, q⟩ := h
  cases d with
  | int i => cases e with
    | int j =>
      obtain rfl := w2.x.int; obtain rfl := w2.y.int
      cases ez
      exact call_min2 hc pins s σ H _ us Q I r ⟨i, j, rfl, w2.fin q (.int _) (fun _ e => nomatch e)⟩
    | _ => cases ez
  | _ => cases e <;> cases ez
def rM (f : D → D → Option D) : V → List V → Hp → VK → Prop := fun x ys H Q => ∃ c y d e z, ys = [y] ∧ V2 c H x y d e ∧ f d e = some z ∧ KF c H z Q
theorem idx_is {O : List Addr} {ast : Sa} {H : Hp} {y : V} {e : D} (hy : Is O ast H y e) (fe : flatD e = true) : ∀ {vs : List V} {ds : List D} {j : Nat}, IsL O ast H vs ds → ds.all flatD = true → (ds.findIdx? fun z => PyData.eqv z e) = some j →
    ∃ z, vs[j]? = some z ∧ eqV z y = true ∧ ∀ (m : Nat) (z' : V), m < j → vs[m]? = some z' → eqV z' y = false
  | _, _, j, .nil, _, h => by cases h
  | _, _, j, .cons k l, f, h => by
    rw [List.all_cons, Bool.and_eq_true] at f
    rw [List.findIdx?_cons] at h
    rw [← eqV_is k hy f.1 fe] at h
    cases q : eqV _ y with
    | true =>
      rw [q, if_pos rfl] at h
      cases h
      exact ⟨_, rfl, q, fun m z' hm => absurd hm (Nat.not_lt_zero _)⟩
    | false =>
      rw [q, if_neg Bool.false_ne_true] at h
      obtain ⟨j', e1, rfl⟩ := map_some h
      obtain ⟨z, h1, h2, h3⟩ := idx_is hy fe l f.2 e1
      refine ⟨z, h1, h2, fun m z' hm hz => ?_⟩
      cases m with
      | zero => cases hz; exact q
      | succ m => exact h3 m z' (Nat.lt_of_succ_lt_succ hm) hz
theorem mt_idx : MtR X "list.index" (rM (m1D .index)) := by
  intro pins s σ H x xs v us Q I rx rxs h
  obtain ⟨c, y, d, e, z, rfl, w2, ez, q⟩ := h
  cases d with
  | list ds =>
    obtain ⟨a, vs, rfl, _, hx, l⟩ := w2.x.lst
    have ez : (if flatD e = true ∧ ds.all flatD = true then (ds.findIdx? fun z => PyData.eqv z e).map fun j => PyData.int (j : Nat) else none) = some z := ez
    have ⟨f1, f2⟩ : flatD e = true ∧ ds.all flatD = true := by
      by_cases hh : flatD e = true ∧ ds.all flatD = true
      · exact hh
      · rw [if_neg hh] at ez; cases ez
    rw [if_pos ⟨f1, f2⟩] at ez
    obtain ⟨j, ej, rfl⟩ := map_some ez
    have hy : Is c.O c.ast H y e := by
      rcases w2.y with ⟨_, _, _, _, rfl, _⟩ | ⟨_, h⟩
      · cases f1
      · exact h
    obtain ⟨z0, h1, h2, h3⟩ := idx_is hy f1 l f2 ej
    exact mt_index pins s σ H _ _ v us Q I rx rxs ⟨a, vs, y, j, z0, rfl, rfl, SqL.of hx, flat_is hy f1, flat_isL l f2, h1, h2, h3, w2.fin q (.int _) (fun _ e => nomatch e)⟩
  | _ => cases e <;> cases ez
theorem mt_cnt : MtR X "list.count" (rM (m1D .count)) := by
  intro pins s σ H x xs v us Q I rx rxs h
  obtain ⟨c, y, d, e, z, rfl, w2, ez, q⟩ := h
  cases d with
  | list ds =>
    cases e with
    | int k =>
      obtain ⟨a, vs, rfl, _, hx, l⟩ := w2.x.lst
      obtain rfl := w2.y.int
      obtain ⟨ns, e1, rfl⟩ := map_some (show (intsD ds).map (fun ns => PyData.int (ns.count k : Nat)) = some z from ez)
      obtain ⟨rfl, _⟩ := l.ints e1
      exact mt_lcount pins s σ H _ _ v us Q I rx rxs ⟨a, ns, k, rfl, rfl, SqL.of hx, w2.fin q (.int _) (fun _ e => nomatch e)⟩
    | _ => cases ez
  | _ => cases e <;> cases ez
/-- "".join(t) -/
theorem mapStr_eq : ∀ {ds : List D} {ss : List Str}, ds.mapM strOf = some ss → ds = ss.map PyData.str
  | [], ss, h => by
    have : ss = [] := by simpa using h.symm
    subst this; rfl
  | d :: ds, ss, h => by
    rw [List.mapM_cons] at h
    cases d with
    | str x =>
      cases q : ds.mapM strOf with
      | none => rw [q] at h; cases h
      | some ms =>
        rw [q] at h
        have e2 : x :: ms = ss := Option.some.inj h
        subst e2
        rw [mapStr_eq q]; rfl
    | _ => cases h
theorem isL_strs {O : List Addr} {ast : Sa} {H : Hp} : ∀ {ss : List Str} {vs : List V}, IsL O ast H vs (ss.map PyData.str) → vs = ss.map V.str
  | [], vs, l => by cases l; rfl
  | s :: ss, vs, l => by
    cases l with
    | cons h l => cases h; rw [isL_strs l]; rfl
def rJoin : V → List V → Hp → VK → Prop := fun x ys H Q => ∃ c y d z, x = .str "" ∧ ys = [y] ∧ V1 c H y d ∧ joinD d = some z ∧ KF c H z Q
theorem mt_join : MtR X "str.join" rJoin := by
  intro pins s σ H x xs v us Q I rx rxs h
  obtain ⟨c, y, d, z, rfl, rfl, w1, ez, q⟩ := h
  cases d with
  | tuple ds =>
    have ez : (ds.mapM strOf).bind (fun ss => if (ss.map (·.length)).sum ≤ 1000000 then some (PyData.str (Txt.join ("" : Str) ss)) else none) = some z := ez
    cases e1 : ds.mapM strOf with
    | none => rw [e1] at ez; cases ez
    | some ss =>
      rw [e1] at ez
      have ez : (if (ss.map (·.length)).sum ≤ 1000000 then some (PyData.str (Txt.join ("" : Str) ss)) else none) = some z := ez
      obtain ⟨hs, rfl⟩ := ite_some ez
      obtain rfl := mapStr_eq e1
      obtain ⟨a, vs, rfl, hx, l⟩ := w1.x.tup
      obtain rfl := isL_strs l
      obtain ⟨its, rv, pl, hz⟩ := I.tuple (SqT.of hx)
      obtain ⟨t, rfl⟩ := rx
      rw [Vals.ref1 rxs]
      refine join_tuple pl rv.strs ?_ fun t' k => ⟨.str _, H, I.tok _, ⟨_, rfl⟩, w1.fin q (.str _) (fun _ e => nomatch e)⟩
      have e0 : (("" : Str)).length = 0 := rfl
      rw [e0, Nat.mul_zero, Nat.add_zero]
      omega
  | _ => cases ez
end
end PT
namespace PT
open PySem PySem.Spec PyProof.Rows L2

def tyD : D → String
  | .none => "NoneType" | .bool _ => "bool" | .int _ => "int" | .str _ => "str" | .list _ => "list" | .tuple _ => "tuple" | .dict _ => "dict"
def kdT : Kd → String
  | .int => "int" | .bool => "bool" | .str => "str" | .tuple => "tuple" | .list => "list" | .intTuple => "int"
theorem tyx_of {K : PySem.W.Frag} {O : List Addr} {ast : Sa} {H : Hp} {x : V} {d : D} {k : Kd} {b : Bool} (h : IsT O ast H x d) (e : isiD k d = some b) :
    ∃ T, TyX K H x (.type T) ∧ T = tyD d := by
  cases d with
  | none => obtain rfl := h.none; exact ⟨_, .base .non, rfl⟩
  | bool k => obtain rfl := h.bool; exact ⟨_, .base (.bl _), rfl⟩
  | int k => obtain rfl := h.int; exact ⟨_, .base (.int _), rfl⟩
  | str k => obtain rfl := h.str; exact ⟨_, .base (.str _), rfl⟩
  | list ds => obtain ⟨a, xs, rfl, _, h, _⟩ := h.lst; exact ⟨_, .base (.lst h), rfl⟩
  | tuple ds => obtain ⟨a, xs, rfl, h, _⟩ := h.tup; exact ⟨_, .base (.tup h), rfl⟩
  | dict kvs =>
    cases kvs with
    | nil =>
      rcases h with ⟨_, _, _, _, e, _⟩ | ⟨_, h⟩
      · cases e
      · cases h with
        | dct h n => exact ⟨_, .base (.dK h), rfl⟩
    | cons p l => cases k <;> cases e
theorem kit_tab {K : PySem.W.Frag} {k : Kd} {d : D} {b : Bool} {T : String} (hk : k ≠ .intTuple) (e : isiD k d = some b)
    (hT : T = tyD d) : PySem.W.kitOne K (.type T) (.type (kdT k)) = some b := by
  cases d with
  | dict kvs => cases kvs with
    | nil => (simp only [tyD] at hT); subst hT; cases k <;> first | exact absurd rfl hk | (cases e; exact kit_ty (by decide +kernel))
    | cons p l => cases k <;> cases e
  | _ => (simp only [tyD] at hT); subst hT; cases k <;> first | exact absurd rfl hk | (cases e; exact kit_ty (by decide +kernel))
theorem kit_tab2 {K : PySem.W.Frag} {d : D} {b : Bool} {T : String} (e : isiD .intTuple d = some b)
    (hT : T = tyD d) : PySem.W.kitAny K (.type T) [.type "int", .type "tuple"] = some b := by
  have go : ∀ (c1 c2 : Bool), PySem.W.kitOne K (.type T) (.type "int") = some c1 → PySem.W.kitOne K (.type T) (.type "tuple") = some c2 → PySem.W.kitAny K (.type T) [.type "int", .type "tuple"] = some (c1 || c2) := fun c1 c2 h1 h2 => by
    unfold PySem.W.kitAny
    rw [h1]
    cases c1
    · unfold PySem.W.kitAny
      rw [h2]
      cases c2 <;> rfl
    · rfl
  cases d with
  | dict kvs => cases kvs with
    | nil => (simp only [tyD] at hT); subst hT; cases e; exact go false false (kit_ty (by decide +kernel)) (kit_ty (by decide +kernel))
    | cons p l => cases e
  | none => (simp only [tyD] at hT); subst hT; cases e; exact go false false (kit_ty (by decide +kernel)) (kit_ty (by decide +kernel))
  | bool _ => (simp only [tyD] at hT); subst hT; cases e; exact go true false (kit_ty (by decide +kernel)) (kit_ty (by decide +kernel))
  | int _ => (simp only [tyD] at hT); subst hT; cases e; exact go true false (kit_ty (by decide +kernel)) (kit_ty (by decide +kernel))
  | str _ => (simp only [tyD] at hT); subst hT; cases e; exact go false false (kit_ty (by decide +kernel)) (kit_ty (by decide +kernel))
  | list _ => (simp only [tyD] at hT); subst hT; cases e; exact go false false (kit_ty (by decide +kernel)) (kit_ty (by decide +kernel))
  | tuple _ => (simp only [tyD] at hT); subst hT; cases e; exact go false true (kit_ty (by decide +kernel)) (kit_ty (by decide +kernel))
theorem isN_is {O : List Addr} {ast : Sa} {H : Hp} {x : V} {d : D} (h : IsT O ast H x d) : decide (x = .non) = noneD d := by
  rcases h with ⟨a, xs, ds, rfl, rfl, _⟩ | ⟨_, h⟩
  · rfl
  · cases h <;> rfl

theorem meets_enumB {v : Value} {o : Obj} {Hh : Heap → Prop} (B : Begins v o Hh) :
    Meets (Builtin.«enumerate.__new__» ⟨[.type "enumerate", v], []⟩) (fun _ R s => Hh s.heap ∧
      R (.ok (.ret (.ref (s.heap.push o).objs.size))) { s with heap := (s.heap.push o).push { cls := .type "enumerate", data := .fields #[.none, .bool false, .ref s.heap.objs.size, rawInt 0, .none, .none] } }) :=
  .of_wp fun prog w A R s h => by
    obtain ⟨hp, g, d, tk, os⟩ := s; obtain ⟨h1, h⟩ := h
    have hsub := sub_enumerate
    have q1 : ∀ {A' : Around} {E : Value → Shared → Prop} {Q : Value → Shared → Prop}, Q (.ref hp.objs.size) ⟨hp.push o, g, d, tk, os⟩ → wpAny (model prog w) A' (pyIter v) Q E ⟨hp, g, d, tk, os⟩ :=
      fun q => B.iter prog w _ _ ⟨hp, g, d, tk, os⟩ _ h1 q
    wp_walk using q1
    refine wpAny_stack_any fun st => wpAny_pure ?_
    split
    · rename_i c _ _ _ _ _
      cases (c == Value.type "enumerate") <;> (wp_walk using q1; exact ⟨_, rfl, h⟩)
    · wp_walk using q1
      exact ⟨_, rfl, h⟩
theorem call_enumT {prog : Program} {w : World} {A : Around} {E : Value → Shared → Prop} {s : Shared} {l : Addr} {items : Array Value} {Q : Value → Shared → Prop} (hL : s.heap.IsTuple l items)
    (h : ∀ h', IsEnum h' (s.heap.objs.size + 1) s.heap.objs.size 0 .none → h'.IsTupleIter s.heap.objs.size l 0 → h'.objs.size = s.heap.objs.size + 2 →
      (∀ b o, s.heap.get? b = some o → h'.get? b = some o) → Q (.ref (s.heap.objs.size + 1)) { s with heap := h' }) :
    wpAny (model prog w) A (call (.type "enumerate") [.ref l]) Q E s := by
  refine callType_new F.called_enumerate (by decide) (F.typeCall_enumerate_1 _) (F.newCall_enumerate_1 _) (fun obj => F.args_object_init_2 obj _) F.entry_enumerate_new
    (meets_enumB (begins_tuple l items)) ⟨hL, ?_⟩
  have hz : (s.heap.push { cls := .type "tuple_iterator", data := .fields #[.ref l, .int 0 0] }).objs.size = s.heap.objs.size + 1 := Heap.size_push ..
  show _ ∧ _
  rw [hz]
  have he : IsEnum ((s.heap.push { cls := .type "tuple_iterator", data := .fields #[.ref l, .int 0 0] }).push
      { cls := .type "enumerate", data := .fields #[.none, .bool false, .ref s.heap.objs.size, rawInt 0, .none, .none] }) (s.heap.objs.size + 1) s.heap.objs.size 0 .none := by
    have := Heap.get?_push_size (s.heap.push { cls := .type "tuple_iterator", data := .fields #[.ref l, .int 0 0] })
      (o := { cls := .type "enumerate", data := .fields #[.none, .bool false, .ref s.heap.objs.size, rawInt 0, .none, .none] }) rfl
    rw [hz] at this; exact this
  exact ⟨⟨_, he, rfl⟩, h _ he ⟨_, Heap.get?_push_of_some _ (Heap.get?_push_size _ rfl), rfl, rfl⟩ (by rw [Heap.size_push, hz]) fun b o x => Heap.get?_push_of_some _ (Heap.get?_push_of_some _ x)⟩
/-- as Ite, of the tuple at a -/
def IteT (K : PySem.W.Frag) (a : Addr) : L2.It :=
  ⟨fun i H => ∃ (xs : List V) (x : V), SqT K H a xs ∧ xs[i]? = some x, fun i H v H' => ∃ T x, v = .ref T ∧ H T = none ∧ H' = upd H T (.tup [.int (i : Nat), x]) ∧ ∀ xs, SqT K H a xs → xs[i]? = some x, fun i H => ∃ xs : List V, SqT K H a xs ∧ xs.length ≤ i⟩
theorem turn_enumT {P : Program} {w : World} {K : PySem.W.Frag} {elts : List Expr} {kk : Nat} {tpos : Pos} (a e it : Addr) (hea : e ≠ a) (hia : a ≠ it) :
    Turn P w K (.Tuple elts kk tpos) (IteT K a) [e, it] e (fun i h => (∃ old, IsEnum h e it ((i : Nat) : Int) old) ∧ h.IsTupleIter it a i ∧ e ≠ it) where
  mem := by simp
  obj := fun i h st b hb => by
    obtain ⟨⟨old, he⟩, ⟨o, ho, hc, hd⟩, _⟩ := st
    have e' : b = e ∨ b = it := by simpa using hb
    rcases e' with z | z
    · rw [z]; exact ⟨_, he, fun v q => nomatch q⟩
    · rw [z]; exact ⟨o, ho, fun v q => by rw [hd] at q; cases q⟩
  keep := fun i h h' st k => let ⟨⟨old, he⟩, hi, hne⟩ := st; ⟨⟨old, k e (by simp) _ he⟩, hi.at fun o q => k it (by simp) o q, hne⟩
  item := by
    intro X hP hw hK hc i pins s σ H E I hf st hg
    subst hP hw hK
    obtain ⟨⟨old, he⟩, hit, hne⟩ := st
    obtain ⟨xs, x, hq, hx⟩ := hg
    obtain ⟨its, rv, p, hz⟩ := I.tuple hq
    obtain ⟨u, hu, ru⟩ := rv.get hx
    have hel : e < s.heap.objs.size := Heap.lt_size he
    have hil : it < s.heap.objs.size := by obtain ⟨_, q, _⟩ := hit; exact Heap.lt_size q
    have hiu : i < its.toArray.size := by
      have := (List.getElem?_eq_some_iff.mp hu).1
      simpa using this
    have Dr := Draws.tuple (prog := X.prog) (w := X.w) (A := X.A.in1) (by show X.A.handled = none; exact I.ok.hd hc) it a hia its.toArray
    refine wpAny_pyNext_enum_itemD Dr he ⟨hit, (show s.heap.IsTuple a its.toArray from p)⟩ hiu hne (by simp [hne, hea]) fun x' h' tk hPx ho hit' hT hsz hk => ?_
    have ex : x' = u := by
      have h1 : its.toArray[i]? = some u := by simpa using hu
      rw [h1] at hPx; cases hPx; rfl
    subst ex
    refine ⟨_, rfl, wpAny_letOwnedTupleGo_enum (s := { s with heap := h', toks := tk + 1 }) ho fun h'' he' sb => ?_⟩
    have hT2 : h''.get? s.heap.objs.size = some { cls := .type "tuple", data := .seq #[.int i tk, x'] } := (sb.2 _ (Nat.ne_of_gt hel)).trans hT
    have new : ObjOk X.prog X.w (upd H s.heap.objs.size (.tup [.int (i : Nat), x])) h'' s.heap.objs.size (.tup [.int (i : Nat), x]) :=
      ⟨by show 2 ≤ sizeLine; decide, [.int i tk, x'], .cons ⟨_, rfl⟩ (.cons ru .nil), ⟨_, hT2, rfl, _, rfl⟩⟩
    have I1 : Inv X pins σ (upd H s.heap.objs.size (.tup [.int (i : Nat), x])) { s with heap := h'', toks := tk + 1 } :=
      I.turnedNew (ch := [e, it]) (fun b ob hb q => (sb.2 b (fun z => hb (by simp [z]))).trans (hk b ob (fun z => hb (by simp [z])) (fun z => hb (by simp [z])) q)) hf (Nat.le_refl _) new
    refine ⟨.ref s.heap.objs.size, _, I1, rfl, ⟨_, x, rfl, I.hok.fresh (Nat.le_refl _), rfl, fun ys hy => by rw [I.tuple_inj hy hq]; exact hx⟩, ⟨⟨x', ?_⟩, hit'.1.at fun o q => (sb.2 it (Ne.symm hne)).trans q, hne⟩, fun b hb => ?_⟩
    · have e1 : ((i + 1 : Nat) : Int) = (i : Int) + 1 := by omega
      rw [e1]; exact he'
    · have hb' : b < s.heap.objs.size := by
        have e' : b = e ∨ b = it := by simpa using hb
        rcases e' with z | z
        · rw [z]; exact hel
        · rw [z]; exact hil
      rw [upd_ne (Nat.ne_of_lt hb')]
      exact (hf b hb).1
  done := by
    intro X hP hw hK hc i pins s σ H E I hf st hg
    subst hP hw hK
    obtain ⟨⟨old, he⟩, hit, hne⟩ := st
    obtain ⟨xs, hq, hx⟩ := hg
    obtain ⟨its, rv, p, hz⟩ := I.tuple hq
    obtain ⟨f0, f1, f2, f3, f4, f5⟩ := hf it (by simp)
    have hl := rv.length
    have hx0 : its.toArray[i]? = none := by simp; omega
    have Dd : Draws X.prog X.w X.A.in1 it [it, a] i (fun _ _ => False) (fun j h => j = i ∧ h.IsTupleIter it a i ∧ h.IsTuple a its.toArray) := {
      live := fun _ _ st => let ⟨o, ho, _⟩ := st.2.1; ⟨o, ho⟩
      frame := fun _ _ _ st k => ⟨st.1, st.2.1.at fun o e => k it (by simp) o e, st.2.2.at fun o e => k a (by simp) o e⟩
      item := fun j s Q E hj st _ => absurd st.1 (Nat.ne_of_lt hj)
      done := fun s Q E st hE => wpAny_nextOf_tuple_end (show X.A.in1.handled = none from I.ok.hd hc) st.2.1 st.2.2 hx0 hE }
    exact wpAny_pyNext_enum_endD Dd he ⟨rfl, hit, (show s.heap.IsTuple a its.toArray from p)⟩ fun h' eb => ⟨rfl, I.turned (t' := s.toks) (fun b o hb q => eb b o hb q) f0 f1 f3 f4 f5⟩
  self := fun A i s Q E st h => let ⟨⟨_, he⟩, _⟩ := st; wpAny_pyIter_enum he h
def iEnumA (K : PySem.W.Frag) (ta : TA) : TI := fun σ H R => ta σ H fun vs H1 => ∃ a xs, vs = [.ref a] ∧ ((SqL K H1 a xs ∧ R (Ite K a) H1) ∨ (SqT K H1 a xs ∧ R (IteT K a) H1))
theorem pi_enumA {X : Cx} {e : Expr} {ta : TA} {p pos tpos : Pos} {elts : List Expr} {kk : Nat} (hg : Gl X "enumerate") (hm : X.mg "enumerate" = none) (ha : PA X [e] ta) (hs : starEach [e] X.env = [(false, eval e X.env)] := by rfl) :
    PI X (.Tuple elts kk tpos) (.Call (.Name "enumerate" p) [e] [] pos) (iEnumA X.K ta) := by
  refine ⟨fun pins s σ H R I h => ?_⟩
  refine Call_ (ld_blt I hg hm boot_enumerate (PyProof.Rows.callWith_type1 (thn (ha.run pos pins s σ H _ I h) fun us s1 ⟨vs, H1, I1, r1, q1⟩ => ?_) hs rfl))
  obtain ⟨a, xs, ex, q⟩ := q1
  subst ex
  cases r1 with
  | cons r rr =>
    cases rr
    cases r
    have hfp : ∀ b ∈ [s1.heap.objs.size + 1, s1.heap.objs.size], FpOk X pins H1 b := fun b hb => by
      have e' : b = s1.heap.objs.size + 1 ∨ b = s1.heap.objs.size := by simpa using hb
      have hle : s1.heap.objs.size ≤ b := by
        rcases e' with z | z
        · rw [z]; exact Nat.le_add_right _ _
        · rw [z]; exact Nat.le_refl _
      exact I1.fpOk hle (I1.hok.fresh hle)
    rcases q with ⟨hq, q⟩ | ⟨hq, q⟩
    · obtain ⟨its, rv, p', hz⟩ := I1.list hq
      refine call_enumerate_list p'.isList fun h' he hit hsz hk => wpAny_pyIter_enum he ?_
      exact ⟨s1.heap.objs.size + 1, [s1.heap.objs.size + 1, s1.heap.objs.size], _, _, H1, rfl, I1.kept (t' := s1.toks) hk, turn_enum a (s1.heap.objs.size + 1) s1.heap.objs.size, ⟨⟨.none, he⟩, hit, Nat.succ_ne_self _⟩, hfp, q⟩
    · obtain ⟨its, rv, p', hz⟩ := I1.tuple hq
      obtain ⟨o1, ho1, _⟩ := id p'
      have hlt := Heap.lt_size ho1
      refine call_enumT (show s1.heap.IsTuple a its.toArray from p') fun h' he hit hsz hk => wpAny_pyIter_enum he ?_
      exact ⟨s1.heap.objs.size + 1, [s1.heap.objs.size + 1, s1.heap.objs.size], _, _, H1, rfl, I1.kept (t' := s1.toks) hk, turn_enumT a (s1.heap.objs.size + 1) s1.heap.objs.size (Nat.ne_of_gt (Nat.lt_succ_of_lt hlt)) (Nat.ne_of_lt hlt), ⟨⟨.none, he⟩, hit, Nat.succ_ne_self _⟩, hfp, q⟩
end PT
namespace PT
open PySem PySem.Spec PyProof.Rows L2

structure FnG (P : Program) (w : World) (K : PySem.W.Frag) (mg : Str → Option Value) (base : Heap) (k : Nat) (f : Addr) (fd : FuncData) (ps : List Str) (sp : Sp) : Prop where
  len : ∀ vs H Q E, sp vs H Q E → vs.length = ps.length
  run : ∀ (A : Around) (outer : List PySem.Env) (s : Shared) (H : Hp) (args : Args) (us : List Value) (vs : List V) (Q : VK) (E : XK), A.guards = some [] → Room k A → Env0 P w K mg base A outer s H → BindsTo s fd args (ps.zip us) → Vals vs us → sp vs H Q E →
    codeAny (model P w) A (.call (.ref f) args) (CR (L2.CX P w) outer P w H s Q E) s
section
variable {P : Program} {w : World} {K : PySem.W.Frag} {mg : Str → Option Value} {base : Heap} {k : Nat} {f : Addr} {fd : FuncData} {ps : List Str} {sp : Sp}
theorem FnG.ofBody {x qual : Str} {params : Arguments} {body : List Stmt} {scope : Scope} {dvs : List V} {kws : List (Str × V)} {N : List Str} (F : FunD K x qual params body scope dvs kws f fd) (S : FnScope N ps scope) (len : ∀ vs H Q E, sp vs H Q E → vs.length = ps.length)
    (hbody : ∀ (cdv : Value) (A : Around) (outer : List PySem.Env) (s : Shared) (H : Hp) (vs : List V) (Q : VK) (E : XK), A.guards = some [] → Room k (A.deeper (envOfC qual scope s.heap.objs.size f cdv)) → sp vs H Q E →
      ∃ t, PSs (cxOf (L2.CX P w) P w K mg base N qual scope f cdv A outer s H E) body t ∧ t { nx := fun _ H' => Q .non H', rt := Q } (L2.start N vs) H) : FnG P w K mg base (k + 1) f fd ps sp := by
  obtain ⟨oc, od, dV, kV, doc, pm, an, cdv, ct, osl, rfl, lk, hcd, _, _⟩ := F.ex
  refine ⟨len, fun A outer s H args us vs Q E hgd hr e0 hb r hsp => ?_⟩
  have hl := len _ _ _ _ hsp
  have KX : K.In s.heap := e0.mod.kin.keeps fun b o e => (e0.bs b o e).1
  have lim : s.heap.NoLimit := e0.mod.nolimit.keeps fun b o e => (e0.bs b o e).1
  have hkind : ∀ y ∈ ps.zip us, scope.names.lookup y.1 = some .local ∨ (scope.names.lookup y.1 = some .cell ∧ ((cellsFrom (s.heap.objs.size + 1) scope.names []).lookup y.1).isSome = true) := fun ⟨n, v⟩ hy => by
    rcases S.par n (List.of_mem_zip hy).1 with q | q
    · exact .inl q
    · exact .inr ⟨q, PySem.W.cellsFrom_some _ _ _ (.inl q)⟩
  refine codeAny_call_function hr.depth (KX _ _ lk) rfl S.co S.gen rfl (PySem.W.codeRec_of KX hcd) (hb _ _ _ _ ?_)
  refine wpAny_newFunctionEnv_cells S.kind hkind fun env he s1 x => ?_
  subst he
  refine ⟨lim.keeps x.toInCall.keep, codeAny_func ?_⟩
  obtain ⟨t, ht, hq⟩ := hbody cdv A outer s H vs Q E hgd (hr.deeper _) hsp
  have I : Inv (cxOf (L2.CX P w) P w K mg base N qual scope f cdv A outer s H E) [] (L2.start N vs) H s1 := inv_start S hr.hd e0 hl r x
  refine wpAny_mono (ht.run [] s1 (L2.start N vs) H _ I hq) (fun fl s' hs => ?_) fun e s' hs => hs
  have finE : ∀ {σ' : L2.St} {H' : Hp} {v : V} {u : Value}, Inv (cxOf (L2.CX P w) P w K mg base N qual scope f cdv A outer s H E) [] σ' H' s' → RelV v u → Q v H' → CE outer P w H s Q u s' :=
    fun {σ' H' v u} J rv q => ⟨v, H', J.os, J.bare, J.base, J.hok, rv, q⟩
  cases fl with
  | ret u =>
    obtain ⟨v, σ', H', J, rv, q⟩ := hs
    exact finE J rv q
  | next =>
    obtain ⟨σ', H', J, q⟩ := hs
    exact finE (v := V.non) (u := Value.none) J rfl q
  | brk =>
    obtain ⟨_, _, _, q⟩ := hs
    exact False.elim q
  | cont =>
    obtain ⟨_, _, _, q⟩ := hs
    exact False.elim q
end
section
variable {X : Cx} {k : Nat} {f : Addr} {fd : FuncData} {ps : List Str} {sp : Sp} {E : L2.St → XK} {x : Str} {p pos : Pos} {e : Expr} {es : List Expr} {t : TA}
theorem run_fnG {pins : List (Addr × Obj)} {σ : L2.St} {H : Hp} {s : Shared} {Q : VK} {us : List Value} {vs : List V} (F : FnG X.prog X.w X.K X.mg X.base k f fd ps sp) (hgd : X.A.guards = some []) (hr : Room k X.A) (hb : Binds X.K fd ps []) (hx : PassesAt (L2.CX X.prog X.w) X σ (E σ))
    (I : Inv X pins σ H s) (r : Vals vs us) (h : sp vs H Q (E σ)) : wpAny (model X.prog X.w) X.A (call (.ref f) us) (EP X pins σ Q) X.xe s := by
  have hl : us.length = ps.length := by rw [← r.length]; exact F.len _ _ _ _ h
  have b := hb s us I.kIn (by rw [List.append_nil]; exact hl)
  rw [List.append_nil] at b
  refine wpAny_call (codeAny_mono (F.run X.A X.stack s H ⟨us, []⟩ us vs Q (E σ) hgd hr I.env0 b r h) fun r s' hq => ?_)
  cases r with
  | error e => exact hx pins H s e s' I hq
  | ok fl =>
    cases fl with
    | ret u => exact I.after hq
    | next => exact False.elim hq
    | brk => exact False.elim hq
    | cont => exact False.elim hq
theorem pe_callG (F : FnG X.prog X.w X.K X.mg X.base k f fd ps sp) (hgd : X.A.guards = some []) (hr : Room k X.A) (hg : Gl X x) (hm : X.mg x = some (.ref f)) (hk : PySem.W.keepIn X.K (.ref f) = true) (hb : Binds X.K fd ps []) (hx : ∀ σ, PassesAt (L2.CX X.prog X.w) X σ (E σ))
    (ha : PA X (e :: es) t) (hdb : (x == ("__debug__" : Str)) = false) (he : starEach (e :: es) X.env = (false, eval e X.env) :: starEach es X.env) (hpl : (backTo pos (starEach es X.env)).any (·.1) = false) :
    PE X (.Call (.Name x p) (e :: es) [] pos) (tCallS sp E t) := by
  refine ⟨fun pins s σ H Q I h => ?_⟩
  refine wpAny_Call_Name_kw (ld_glob I hg hm ?_ hdb)
  refine PySem.W.callWith_K (h₀ := X.base) I.ok.mod.kin hk (thn (ha.run pos pins s σ H _ I h) fun us s1 ⟨vs, H1, I1, r, q⟩ => ⟨I1.kIn, ?_⟩) he hpl
  exact run_fnG F hgd hr hb (hx σ) I1 r q
end
theorem law_callG {P : Program} {w : World} {K : PySem.W.Frag} {mg mb : Str → Option Value} {k : Nat} {fa a : Addr} {fd : FuncData} {x : Str} {sp : Sp} {s₁ : Shared} {vs : List Value} {ns : List Int}
    (KX : K.In s₁.heap) (hns : s₁.heap.Ns mainGlobals mg) (hb : s₁.heap.Ns builtinsNs mb) (hbb : ∀ x : Str, x ≠ "__name__" → mb x = bootBuiltins x) (hlim : s₁.heap.NoLimit) (hg : s₁.gens = #[])
    (ha : s₁.heap.get? a = some { cls := .type "list", data := .seq vs.toArray }) (hi : IntsAre vs ns) (hl : ns.length ≤ sizeLine) (hr : Room k callerA)
    (F : ∀ base : Heap, K.In base → base.Ns mainGlobals mg → FnG P w K mg base k fa fd [x] sp) (hbind : ∀ (s : Shared) (u : Value), BindsTo s fd ⟨[u], []⟩ [(x, u)])
    (hsp : ∀ H : Hp, Only H → SqL K H a (ns.map V.int) → sp [.ref a] H (fun v _ => v = .bl true) fun _ _ _ => False)
    (hCX : ∀ H e s', L2.CX P w [] H s₁ (fun _ _ _ => False) e s' → False) :
    codeAny (model P w) callerA (.call (.ref fa) ⟨[.ref a], []⟩) (fun r s' => r = .ok (.ret (.bool true)) ∧ OldK s₁.heap s'.heap ∧ s'.os = s₁.os ∧ AllBare s'.gens) s₁ := by
  have rv := vals_ints hi
  have lenV := hi.length
  have core : ∀ H : Hp, Only H → SqL K H a (ns.map V.int) → HOk P w H s₁.heap → (∀ b, H b ≠ none → b = a) → (H a ≠ none → K.lookup a = none) →
      codeAny (model P w) callerA (.call (.ref fa) ⟨[.ref a], []⟩) (fun r s' => r = .ok (.ret (.bool true)) ∧ OldK s₁.heap s'.heap ∧ s'.os = s₁.os ∧ AllBare s'.gens) s₁ := by
    intro H hO hS hok hA hK
    have base_of : ∀ {b : Addr} {o : Obj}, s₁.heap.get? b = some o → H b = none → (hidT s₁.heap H).get? b = some o := fun e n => hidT_get e n
    have noA : ∀ {b : Addr} {o : Obj} {es : Array DictEntry} {ep : Nat}, s₁.heap.get? b = some o → o.data = .dict es ep → H b = none := fun {b o es ep} e d => by
      cases q : H b with
      | none => rfl
      | some u =>
        have e' : b = a := hA b (by rw [q]; simp)
        subst e'
        rw [ha] at e; cases e
        have d' : Data.seq vs.toArray _ = Data.dict es ep := d
        cases d'
    have nsK : ∀ {b : Addr} {m : Str → Option Value}, s₁.heap.Ns b m → (hidT s₁.heap H).Ns b m := fun {b m} ⟨o, es, ep, e, d, r⟩ => ⟨o, es, ep, base_of e (noA e d), d, r⟩
    have hKb : K.In (hidT s₁.heap H) := fun b o e => base_of (KX b o e) (by
      cases q : H b with
      | none => rfl
      | some u =>
        have e' : b = a := hA b (by rw [q]; simp)
        subst e'
        rw [hK (by rw [q]; simp)] at e; cases e)
    have hM : Mod K mg (hidT s₁.heap H) := ⟨hKb, nsK hns, ⟨mb, nsK hb, hbb⟩, let ⟨mc, h1, h2⟩ := hlim; ⟨mc, nsK h1, h2⟩⟩
    have e0 : Env0 P w K mg (hidT s₁.heap H) callerA [] s₁ H := ⟨rfl, hM, fun b o e => of_hidT e, Nat.le_of_eq (hidT_size _ _), trivial, fun b hb => absurd (show b ∈ ([] : List Addr) from hb) (by simp), hok, .of_eq hg⟩
    refine codeAny_mono ((F _ hKb (nsK hns)).run callerA [] s₁ H ⟨[.ref a], []⟩ [.ref a] [.ref a] _ _ rfl hr e0 (hbind s₁ (.ref a)) (.cons rfl .nil) (hsp H hO hS)) fun r s' h => ?_
    cases r with
    | error e => exact (hCX H e s' h).elim
    | ok fl =>
      cases fl with
      | next => exact False.elim h
      | brk => exact False.elim h
      | cont => exact False.elim h
      | ret u =>
        obtain ⟨v, H', os, bare, un, hok', r', q⟩ := h
        have q' : v = .bl true := q
        subst q'
        obtain rfl : u = Value.bool true := r'
        refine ⟨rfl, OldK.of_keep fun b o e => ?_, os, bare⟩
        cases q : H b with
        | none => exact un.keep b o e q (by intro z; exact absurd (show b ∈ ([] : List Addr) from z) (by simp)) (by simp)
        | some u =>
          rcases hO b with z | ⟨ob, xs, z⟩
          · rw [q] at z; cases z
          · have z2 := un.frzs b ob _ z
            obtain ⟨e1, _⟩ := hok b _ z
            obtain ⟨e2, _⟩ := hok' b _ z2
            rw [e] at e1; cases e1
            exact e2
  cases hk : K.lookup a with
  | some o =>
    have e := KX a o hk
    rw [ha] at e
    cases e
    refine core (fun _ => none) (fun _ => .inl rfl) (.inr ⟨_, vs.toArray, _, hk, rfl, rfl, rfl, by rw [List.size_toArray, lenV]; exact hl, by simpa using rv⟩) (fun b u z => by have z' : (none : Option HO) = some u := z; cases z') (fun b z => absurd rfl z) fun z => absurd rfl z
  | none =>
    refine core (fun b => if b = a then some (.frz { cls := .type "list", data := .seq vs.toArray } (.lst (ns.map V.int))) else none) (fun b => ?_) (.inl (.inr ⟨{ cls := .type "list", data := .seq vs.toArray }, if_pos rfl⟩)) (fun b u z => ?_) (fun b z => ?_) fun _ => hk
    · by_cases hb : b = a
      · exact .inr ⟨_, _, if_pos hb⟩
      · exact .inl (if_neg hb)
    · by_cases hb : b = a
      · have z' := (if_pos hb).symm.trans z
        cases z'
        subst hb
        exact ⟨ha, by rw [List.length_map]; exact hl, vs, _, rv, ha⟩
      · have z' := (if_neg hb).symm.trans z
        cases z'
    · by_cases hb : b = a
      · exact hb
      · exact absurd (if_neg hb) z
theorem walk_G {l : PySem.W.OpenLaw} {n k : Nat} {q : Program} {loose : List Str} {XP : (Str → Option Value) → Heap → Prop} {YP : World → Heap → Prop} {d : DefRec} {x : Str}
    (hn : l.most = some n) (hn2 : n ≤ sizeLine) (hdf : d.params.defaults = []) (hr : Room k callerA)
    (F : ∀ (w : World) (mg : Str → Option Value) (fa : Addr) (h : Heap), YP w h → h.Ns mainGlobals mg → mg d.name = some (.ref fa) →
      ∃ (K : PySem.W.Frag) (fd : FuncData) (sp : Sp), K.In h ∧ (∀ (s : Shared) (u : Value), BindsTo s fd ⟨[u], []⟩ [(x, u)]) ∧
        (∀ (H : Hp) (a : Addr) (ns : List Int), ns.length ≤ n → Only H → SqL K H a (ns.map V.int) → sp [.ref a] H (fun v _ => v = .bl true) fun _ _ _ => False) ∧
        ∀ base : Heap, K.In base → base.Ns mainGlobals mg → FnG l.prog w K mg base k fa fd [x] sp) :
    PySem.W.WalkO q loose XP YP l.row.toRowW d [] (fun f vs => PySem.call f vs) := by
  refine Att.attach_call hn hdf fun w s₀ s₁ mg mb fa o pm cd doc a vs ns G Y ho hd hcd hmg hobj hints hlen hg => ?_
  obtain ⟨K, fd, sp, KX, hb, hsp, hF⟩ := F w mg fa _ Y G.T.g hmg
  exact law_callG KX G.T.g G.T.b G.T.builtins G.T.nolimit hg hobj hints (Nat.le_trans hlen hn2) hr hF hb (fun H hO hS => hsp H a ns hlen hO hS) fun H e s' c => by
    obtain ⟨_, _, _, _, _, _, _, _, _, _, _, _, h⟩ := c
    exact h
end PT
namespace PT
open PySem PySem.Spec PyProof.Rows L2

theorem PE.mono {X : Cx} {e : Expr} {t t' : TE} (h : PE X e t) (k : ∀ σ H Q, t' σ H Q → t σ H Q) : PE X e t' := ⟨fun pins s σ H Q I q => h.run pins s σ H Q I (k σ H Q q)⟩
theorem PT'.mono {X : Cx} {e : Expr} {t t' : TT} (h : L2.PT X e t) (k : ∀ σ H Q, t' σ H Q → t σ H Q) : L2.PT X e t' := ⟨fun pins s σ H Q I q => h.run pins s σ H Q I (k σ H Q q)⟩
theorem PA.mono {X : Cx} {e : List Expr} {t t' : TA} (h : PA X e t) (k : ∀ σ H Q, t' σ H Q → t σ H Q) : PA X e t' := ⟨fun pos pins s σ H Q I q => h.run pos pins s σ H Q I (k σ H Q q)⟩
theorem PI.mono {X : Cx} {tg e : Expr} {t t' : TI} (h : PI X tg e t) (k : ∀ σ H R, t' σ H R → t σ H R) : PI X tg e t' := ⟨fun pins s σ H Q I q => h.run pins s σ H Q I (k σ H Q q)⟩

section
variable (cE : Exc → Addr) (W : WX) (mu : List Nat) (Φ : Fn)
def tE (md : Md) (t : T) : TE := fun σ H Q => ∃ c, Rel mu c σ H ∧ pX cE W c σ H (kE md c H Q) (evE Φ t c.ρ c.g)
def tA (ts : List T) : TA := fun σ H Q => ∃ c, Rel mu c σ H ∧ pX cE W c σ H (fun ds g => ∀ vs H', Fr c.ast H H' → StIs c.O c.ast H' g → IsL c.O c.ast H' vs ds → Q vs H') (evL Φ ts c.ρ c.g)
def tP (t : T) : TT := fun σ H Q => ∃ c, Rel mu c σ H ∧ pX cE W c σ H (fun b g => ∀ H', Fr c.ast H H' → StIs c.O c.ast H' g → Q b H') ((evE Φ t c.ρ c.g).bind fun x g => .ofO (truD x) g)
end
section
variable {cE : Exc → Addr} {W : WX} {mu : List Nat} {Φ : Fn} {X : Cx} {c : Cf} {σ : L2.St} {H H1 : Hp} {g : G} {md m : Md} {Q : VK} {d : D} {v : V}
theorem Al.st (al : Al c.O H) (h : c.ast.a ∈ c.O) : H c.ast ≠ none := al _ h
theorem IsF.back {O : List Addr} {ast : Sa} {H H1 H2 : Hp} (hs : H1 ast ≠ none) (f : Fr ast H H1) (h : IsF O ast H1 H2 v d) : IsF O ast H H2 v d := by
  rcases h with ⟨a, xs, ds, rfl, rfl, h1, h2, l⟩ | h
  · exact .inl ⟨a, xs, ds, rfl, rfl, f.none (fun e => hs (e ▸ h1)) h1, h2, l⟩
  · exact .inr h
theorem IsF.r {O : List Addr} {ast : Sa} {H H' : Hp} (h : IsF O ast H H' v d) (al : Al O H) (ha : ast.a ∈ O) : IsR m O ast H H' v d := by
  cases m with
  | tr => exact (h.is al).t ha
  | cl => exact h.is al
  | fr => exact h
theorem IsR.back {O : List Addr} {ast : Sa} {H H1 H2 : Hp} (hs : H1 ast ≠ none) (f : Fr ast H H1) (h : IsR m O ast H1 H2 v d) : IsR m O ast H H2 v d := by
  cases m with
  | tr => exact h
  | cl => exact h
  | fr => exact IsF.back hs f h
/-- a value on its way -/
theorem pX.go {α : Type} {r : Res α} {K : α → G → Prop} (h : pX cE W c σ H K r) (f : Fr c.ast H H1) (g : G) : pX cE W { c with g := g } σ H1 K r := h.fr f (fun _ _ _ k => k) g
/-- an end by a new value -/
theorem kE.fin {z : D} {g2 : G} {c2 : Cf} (k : kE md c H Q z g) (R : Rel mu c σ H) (f : Fr c.ast H H1) (hs : StIs c.O c.ast H1 g2) (h0 : c2.O = c.O) (h1 : c2.ast = c.ast) (h2 : c2.g = g) : KF c2 H1 z Q := fun v H2 f2 st i => by
  rw [h0, h1] at i
  rw [h1] at f2
  rw [h0, h1, h2] at st
  exact k v H2 (f.trans f2) st ((i.back hs.lt f).r R.al R.ast)
theorem Rel.v2 (R : Rel mu c σ H) {x y : V} {d e : D} {H1 H2 : Hp} {g1 g2 : G} (f1 : Fr c.ast H H1) (s1 : StIs c.O c.ast H1 g1) (i1 : IsT c.O c.ast H1 x d) (f2 : Fr c.ast H1 H2) (s2 : StIs c.O c.ast H2 g2) (i2 : IsT c.O c.ast H2 y e) : V2 { c with g := g2 } H2 x y d e where
  ast := R.ast
  al := R.al.fr (f1.trans f2) s2.lt
  st := s2
  x := i1.fr R.ast f2 s1.nt
  y := i2

theorem gv_some {ρ : Env} {i : Nat} {d : D} : gv ρ i = some d → ρ[i]? = some (some d) := by
  induction ρ generalizing i with
  | nil => intro h; cases h
  | cons x r ih =>
    cases i with
    | zero => intro h; simpa [gv] using h
    | succ i => intro h; simpa using ih (i := i) h
theorem se_var {i : Nat} {x : Str} {pos : Pos} (hN : X.N[i]? = some x) (hv : Vis X.env.scope x) (hd : (x == ("__debug__" : Str)) = false) (hcd : (x == ("__classdict__" : Str)) = false) (hm : i ∉ mu) (hmd : md ≠ .fr) : PE X (.Name x pos) (tE cE W mu Φ md (.var i)) := by
  refine PE.mono (pe_var hN hv hd hcd) fun σ H Q ⟨c, R, h⟩ => ?_
  simp only [evE] at h
  rw [pX_ofO] at h
  obtain ⟨d, hd, k⟩ := h
  obtain ⟨v, h1, h2⟩ := R.val i d hd hm
  refine ⟨v, h1, k v H Fr.refl R.st ?_⟩
  cases md with
  | tr => exact h2.t R.ast
  | cl => exact h2
  | fr => exact absurd rfl hmd
theorem se_own {i : Nat} {x : Str} {pos : Pos} (hN : X.N[i]? = some x) (hv : Vis X.env.scope x) (hd : (x == ("__debug__" : Str)) = false) (hcd : (x == ("__classdict__" : Str)) = false) (hm : i ∈ mu) : PE X (.Name x pos) (tE cE W mu Φ .tr (.own i)) := by
  refine PE.mono (pe_var hN hv hd hcd) fun σ H Q ⟨c, R, h⟩ => ?_
  simp only [evE] at h
  rw [pX_ofO] at h
  obtain ⟨d, hd, k⟩ := h
  obtain ⟨a, xs, ds, h1, rfl, h3, h4, h5, h6, h7⟩ := R.own i d hd hm
  exact ⟨_, h1, k _ H Fr.refl R.st (.inl ⟨a, xs, ds, rfl, rfl, h4, h6, h7⟩)⟩
theorem se_c {e : Expr} {t : T} {v : V} {d : D} (h : PE X e (tC v)) (he : ∀ ρ g, evE Φ t ρ g = .ok d g) (hi : ∀ (O : List Addr) (ast : Sa) (H : Hp), Is O ast H v d) (n : ∀ ds, d ≠ .list ds) : PE X e (tE cE W mu Φ md t) := by
  refine PE.mono h fun σ H Q ⟨c, R, h⟩ => ?_
  rw [he] at h
  exact h v H Fr.refl R.st (IsR.sc (hi _ _ _) n)

theorem se_bin {o : BOp} {a b : T} {ea eb : Expr} {pos : Pos} (ha : PE X ea (tE cE W mu Φ .tr a)) (hb : PE X eb (tE cE W mu Φ .tr b)) : PE X (.BinOp ea (opM o) eb pos) (tE cE W mu Φ md (.bin o a b)) := by
  refine PE.mono (pe_op (opr_bin o) ha hb) fun σ H Q ⟨c, R, h⟩ => ?_
  simp only [evE, pX_bind, pX_ofO] at h
  refine ⟨c, R, h.mono fun x g1 _ h v H1 f1 s1 i1 => ?_⟩
  refine ⟨_, R.step f1 s1, (h.go f1 g1).mono fun y g2 _ h w H2 f2 s2 i2 => ?_⟩
  obtain ⟨z, ez, k⟩ := h
  exact ⟨_, x, y, z, R.v2 f1 s1 i1 f2 s2 i2, ez, k.fin R (f1.trans f2) s2 rfl rfl rfl⟩
end
end PT
namespace PT
open PySem PySem.Spec PyProof.Rows L2

def nst : Expr → Bool
  | .Starred _ _ => false
  | _ => true
theorem star_cons {e : Expr} {es : List Expr} {env : PySem.Env} (h : nst e = true) : starEach (e :: es) env = (false, eval e env) :: starEach es env := by
  cases e <;> first | rfl | cases h
theorem star_none {pos : Pos} {env : PySem.Env} : ∀ {es : List Expr}, es.all nst = true → (backTo pos (starEach es env)).any (·.1) = false
  | [], _ => rfl
  | e :: es, h => by
    rw [List.all_cons, Bool.and_eq_true] at h
    rw [star_cons h.1]
    show (false || (backTo pos (starEach es env)).any (·.1)) = false
    rw [star_none h.2]; rfl
theorem star_all {pos : Pos} {env : PySem.Env} : ∀ {es : List Expr}, es.all nst = true → (backTo pos (starEach es env)).all (fun x => !x.1) = true
  | [], _ => rfl
  | e :: es, h => by
    rw [List.all_cons, Bool.and_eq_true] at h
    rw [star_cons h.1]
    show (true && (backTo pos (starEach es env)).all _) = true
    rw [star_all h.2]; rfl
theorem Res.bind_id {α : Type} (r : Res α) : (r.bind fun x g => .ok x g) = r := by cases r <;> rfl

section
variable {cE : Exc → Addr} {W : WX} {mu : List Nat} {Φ : Fn} {X : Cx} {c : Cf} {σ : L2.St} {H H1 : Hp} {g : G} {md m : Md} {Q : VK} {d : D} {v : V} {pos p : Pos}
theorem Rel.v1 (R : Rel mu c σ H) {x : V} {d : D} {m : Md} {H1 : Hp} {g1 : G} (f1 : Fr c.ast H H1) (s1 : StIs c.O c.ast H1 g1) (i1 : IsR m c.O c.ast H H1 x d) : V1 { c with g := g1 } H1 x d where
  ast := R.ast
  al := R.al.fr f1 s1.lt
  st := s1
  x := IsR.t i1 R.al R.ast
/-- a scalar at the end -/
theorem kE.sc {z : D} {g2 : G} (k : kE md c H Q z g) (f : Fr c.ast H H1) (hs : StIs c.O c.ast H1 g) (hv : Is c.O c.ast H1 v z) (n : ∀ ds, z ≠ .list ds) : Q v H1 := k v H1 f hs (IsR.sc hv n)
theorem se_neg {a : T} {ea : Expr} (ha : PE X ea (tE cE W mu Φ .tr a)) : PE X (.UnaryOp .USub ea pos) (tE cE W mu Φ md (.neg a)) := by
  refine PE.mono (pe_un un_neg ha) fun σ H Q ⟨c, R, h⟩ => ?_
  simp only [evE, pX_bind, pX_ofO] at h
  refine ⟨c, R, h.mono fun x g1 _ h v H1 f1 s1 i1 => ?_⟩
  obtain ⟨z, ez, k⟩ := h
  cases x with
  | int i =>
    cases ez
    obtain rfl := (IsR.t i1 R.al R.ast).int
    exact ⟨i, rfl, k _ H1 f1 s1 (IsR.sc (.int _) fun _ e => nomatch e)⟩
  | _ => cases ez
theorem se_not {a : T} {ea : Expr} (ha : PE X ea (tE cE W mu Φ .tr a)) : PE X (.UnaryOp .Not ea pos) (tE cE W mu Φ md (.not a)) := by
  refine PE.mono (pe_notT ha) fun σ H Q ⟨c, R, h⟩ => ?_
  simp only [evE, pX_bind, pX_ofO] at h
  refine ⟨c, R, h.mono fun x g1 _ h v H1 f1 s1 i1 => ?_⟩
  obtain ⟨z, ez, k⟩ := h
  obtain ⟨b, eb, rfl⟩ := map_some ez
  exact ⟨b, tru_is (IsR.t i1 R.al R.ast) eb, k _ H1 f1 s1 (IsR.sc (.bl _) fun _ e => nomatch e)⟩
theorem se_cmp (hu : X.A.units + 64 < cLine) {o : COp} {a b : T} {ea eb : Expr} (ha : PE X ea (tE cE W mu Φ .tr a)) (hb : PE X eb (tE cE W mu Φ .tr b)) (hm : behindInMarks (copM o) eb = false) : PE X (.Compare ea [copM o] [eb] pos) (tE cE W mu Φ md (.cmp o a b)) := by
  refine PE.mono (pe_cmpR (opr_cmp hu o) ha hb hm) fun σ H Q ⟨c, R, h⟩ => ?_
  simp only [evE, pX_bind, pX_ofO] at h
  refine ⟨c, R, h.mono fun x g1 _ h v H1 f1 s1 i1 => ?_⟩
  refine ⟨_, R.step f1 s1, (h.go f1 g1).mono fun y g2 _ h w H2 f2 s2 i2 => ?_⟩
  obtain ⟨z, ez, k⟩ := h
  exact ⟨_, x, y, z, R.v2 f1 s1 i1 f2 s2 i2, ez, k.fin R (f1.trans f2) s2 rfl rfl rfl⟩
theorem se_ch2 (hu : X.A.units + 64 < cLine) {o o' : COp} {a b t : T} {ea eb et : Expr} (ha : PE X ea (tE cE W mu Φ .tr a)) (hb : PE X eb (tE cE W mu Φ .tr b)) (ht : PE X et (tE cE W mu Φ .tr t)) (hm : lastMarks [copM o, copM o'] [eb, et] = false) :
    PE X (.Compare ea [copM o, copM o'] [eb, et] pos) (tE cE W mu Φ md (.ch2 o o' a b t)) := by
  refine PE.mono (pe_chain (opr_cmp hu o) (opr_cmp hu o') ha hb ht hm) fun σ H Q ⟨c, R, h⟩ => ?_
  simp only [evE, pX_bind, pX_ofO] at h
  refine ⟨c, R, h.mono fun x g1 _ h v H1 f1 s1 i1 => ?_⟩
  refine ⟨_, R.step f1 s1, (h.go f1 g1).mono fun y g2 _ h w H2 f2 s2 i2 => ?_⟩
  obtain ⟨r, er, h⟩ := h
  refine ⟨{ c with g := g2 }, x, y, .bool r, R.v2 f1 s1 i1 f2 s2 i2, by unfold cmpV; rw [er]; rfl, fun z H3 f3 s3 i3 => ?_⟩
  have e3 : z = .bl r := by
    rcases i3 with ⟨_, _, _, _, e, _⟩ | ⟨_, i⟩
    · cases e
    · cases i; rfl
  subst e3
  refine ⟨r, rfl, ?_⟩
  have f13 := (f1.trans f2).trans f3
  cases r with
  | false =>
    have h : kE md c H Q (.bool false) g2 := h
    exact h _ H3 f13 s3 (IsR.sc (.bl _) fun _ e => nomatch e)
  | true =>
    rw [if_pos rfl] at h ⊢
    rw [pX_bind] at h
    refine ⟨{ c with g := g2 }, R.step f13 s3, (h.go f13 g2).mono fun z g4 _ h u H4 f4 s4 i4 => ?_⟩
    rw [pX_ofO] at h
    obtain ⟨q, eq, k⟩ := h
    refine ⟨_, y, z, q, R.v2 (f1.trans f2) s2 i2 (f3.trans f4) s4 i4, eq, k.fin R (f13.trans f4) s4 rfl rfl rfl⟩
end
end PT
namespace PT
open PySem PySem.Spec PyProof.Rows L2

section
variable {cE : Exc → Addr} {W : WX} {mu : List Nat} {Φ : Fn} {X : Cx} {c : Cf} {σ : L2.St} {H H1 : Hp} {g : G} {md m : Md} {Q : VK} {d : D} {v : V} {pos p : Pos}
theorem se_isN {a : T} {ea : Expr} {j : Nat} {p2 : Pos} (ha : PE X ea (tE cE W mu Φ .tr a)) : PE X (.Compare ea [.Is] [.Constant .none j p2] pos) (tE cE W mu Φ md (.isN a)) := by
  refine PE.mono (pe_cmpR op_isN ha pe_non rfl) fun σ H Q ⟨c, R, h⟩ => ?_
  simp only [evE, pX_bind] at h
  refine ⟨c, R, h.mono fun x g1 _ h v H1 f1 s1 i1 => ⟨rfl, ?_⟩⟩
  rw [isN_is (O := c.O) (ast := c.ast) (H := H1) i1]
  exact h _ H1 f1 s1 (IsR.sc (.bl _) fun _ e => nomatch e)
theorem se_isNN {a : T} {ea : Expr} {j : Nat} {p2 : Pos} (ha : PE X ea (tE cE W mu Φ .tr a)) : PE X (.Compare ea [.IsNot] [.Constant .none j p2] pos) (tE cE W mu Φ md (.isNN a)) := by
  refine PE.mono (pe_cmpR op_notN ha pe_non rfl) fun σ H Q ⟨c, R, h⟩ => ?_
  simp only [evE, pX_bind] at h
  refine ⟨c, R, h.mono fun x g1 _ h v H1 f1 s1 i1 => ⟨rfl, ?_⟩⟩
  rw [isN_is (O := c.O) (ast := c.ast) (H := H1) i1]
  exact h _ H1 f1 s1 (IsR.sc (.bl _) fun _ e => nomatch e)
theorem se_isNT {a : T} {ea : Expr} {j : Nat} {p2 : Pos} (ha : PE X ea (tE cE W mu Φ .tr a)) : PE X (.Compare ea [.IsNot] [.Constant (.bool true) j p2] pos) (tE cE W mu Φ md (.isNT a)) := by
  refine PE.mono (pe_cmpR op_notBl ha pe_bl rfl) fun σ H Q ⟨c, R, h⟩ => ?_
  simp only [evE, pX_bind] at h
  refine ⟨c, R, h.mono fun x g1 _ h v H1 f1 s1 i1 => ?_⟩
  cases x with
  | bool b =>
    obtain rfl := (show IsT c.O c.ast H1 v (.bool b) from i1).bool
    refine ⟨b, true, rfl, rfl, ?_⟩
    have e : (!decide (b = true)) = !b := by cases b <;> rfl
    rw [e]
    exact h _ H1 f1 s1 (IsR.sc (.bl _) fun _ e => nomatch e)
  | _ => exact (show False from h).elim
theorem sa_nil : PA X [] (tA cE W mu Φ []) := by
  refine PA.mono pa_nil fun σ H Q ⟨c, R, h⟩ => ?_
  simp only [evL] at h
  exact h [] H Fr.refl R.st .nil
theorem sa_cons {a : T} {ts : List T} {e : Expr} {es : List Expr} (he : nst e = true) (ha : PE X e (tE cE W mu Φ .cl a)) (hr : PA X es (tA cE W mu Φ ts)) : PA X (e :: es) (tA cE W mu Φ (a :: ts)) := by
  refine PA.mono (pa_cons ha hr (star_cons he)) fun σ H Q ⟨c, R, h⟩ => ?_
  simp only [evL, pX_bind] at h
  refine ⟨c, R, h.mono fun x g1 _ h v H1 f1 s1 i1 => ?_⟩
  refine ⟨_, R.step f1 s1, (h.go f1 g1).mono fun ds g2 _ h vs H2 f2 s2 i2 => ?_⟩
  exact h (v :: vs) H2 (f1.trans f2) s2 (.cons ((show Is c.O c.ast H1 v x from i1).fr R.ast f2 s1.nt) i2)
theorem sz_len {ds : List D} {vs : List V} {O : List Addr} {ast : Sa} (l : IsL O ast H vs ds) {n : Nat} (e : ds.length = n) (h : n ≤ 1000) : vs.length ≤ sizeLine := by
  rw [l.length, e, sizeLine_eq]; omega
theorem evL_len : ∀ {ts : List T} {ρ : Env} {g g' : G} {ds : List D}, evL Φ ts ρ g = .ok ds g' → ds.length = ts.length
  | [], ρ, g, g', ds, h => by simp only [evL] at h; cases h; rfl
  | t :: ts, ρ, g, g', ds, h => by
    simp only [evL] at h
    cases q : evE Φ t ρ g with
    | ok x g1 =>
      rw [q, Res.bind_ok] at h
      cases q2 : evL Φ ts ρ g1 with
      | ok xs g2 =>
        rw [q2, Res.bind_ok] at h
        cases h
        rw [List.length_cons, List.length_cons, evL_len q2]
      | exc x g => rw [q2] at h; cases h
      | bad => rw [q2] at h; cases h
    | exc x g => rw [q] at h; cases h
    | bad => rw [q] at h; cases h
theorem se_tup {ts : List T} {es : List Expr} {k : Nat} (hl : ts.length ≤ 1000) (ha : PA X es (tA cE W mu Φ ts)) : PE X (.Tuple es k pos) (tE cE W mu Φ md (.tup ts)) := by
  refine PE.mono (pe_tup ha) fun σ H Q ⟨c, R, h⟩ => ?_
  simp only [evE, pX_bind] at h
  refine ⟨c, R, h.mono fun ds g1 e1 h vs H1 f1 s1 l => ⟨sz_len l (evL_len e1) hl, fun p hp => ?_⟩⟩
  exact h _ _ (f1.trans (Fr.upd hp)) (s1.upd R.ast hp) ((isF_tup R.ast s1 hp l).back s1.lt f1 |>.r R.al R.ast)
theorem se_lst {ts : List T} {es : List Expr} (hl : ts.length ≤ 1000) (ha : PA X es (tA cE W mu Φ ts)) : PE X (.List es pos) (tE cE W mu Φ md (.lst ts)) := by
  refine PE.mono (pe_lst ha) fun σ H Q ⟨c, R, h⟩ => ?_
  simp only [evE, pX_bind] at h
  refine ⟨c, R, h.mono fun ds g1 e1 h vs H1 f1 s1 l => ⟨sz_len l (evL_len e1) hl, fun p hp => ?_⟩⟩
  exact h _ _ (f1.trans (Fr.upd hp)) (s1.upd R.ast hp) ((isF_new R.ast s1 hp l).back s1.lt f1 |>.r R.al R.ast)
theorem se_dct : PE X (.Dict [] [] pos) (tE cE W mu Φ md .dct0) := by
  refine PE.mono pe_dnewK fun σ H Q ⟨c, R, h⟩ => ?_
  simp only [evE] at h
  intro p hp
  have hF : IsF c.O c.ast H (upd H p (.dK [])) (.ref p) (.dict []) := .inr ⟨fun _ e => (nomatch e), .dct upd_same fun z => R.al p z hp⟩
  exact h _ _ (Fr.upd hp) (R.st.upd R.ast hp) (hF.r R.al R.ast)
theorem se_ix {a i : T} {ea ei : Expr} (hmd : md ≠ .fr) (hs : PlainIx ei) (ha : PE X ea (tE cE W mu Φ .tr a)) (hb : PE X ei (tE cE W mu Φ .tr i)) : PE X (.Subscript ea ei pos) (tE cE W mu Φ md (.ix a i)) := by
  refine PE.mono (pe_ix ixr ha hb hs) fun σ H Q ⟨c, R, h⟩ => ?_
  simp only [evE, pX_bind, pX_ofO] at h
  refine ⟨c, R, h.mono fun x g1 _ h v H1 f1 s1 i1 => ?_⟩
  refine ⟨_, R.step f1 s1, (h.go f1 g1).mono fun y g2 _ h w H2 f2 s2 i2 => ?_⟩
  obtain ⟨z, ez, k⟩ := h
  refine ⟨_, x, y, z, R.v2 f1 s1 i1 f2 s2 i2, ez, fun u iu => k u H2 (f1.trans f2) s2 ?_⟩
  cases md with
  | tr => exact Is.t iu R.ast
  | cl => exact iu
  | fr => exact absurd rfl hmd
/-- a part of a slice -/
def tO (cE : Exc → Addr) (W : WX) (mu : List Nat) (Φ : Fn) (o : Op) : L2.TO := fun σ H Q => ∃ c, Rel mu c σ H ∧ pX cE W c σ H (fun d g => ∀ H', Fr c.ast H H' → StIs c.O c.ast H' g → Q d H') (evP Φ o c.ρ c.g)
theorem PO.mono {X : Cx} {e : Option Expr} {t t' : L2.TO} (h : PO X e t) (k : ∀ σ H Q, t' σ H Q → t σ H Q) : PO X e t' := ⟨fun pins s σ H Q I q => h.run pins s σ H Q I (k σ H Q q)⟩
theorem so_no : PO X none (tO cE W mu Φ .no) := by
  refine PO.mono po_none fun σ H Q ⟨c, R, h⟩ => ?_
  simp only [evP] at h
  exact h H Fr.refl R.st
theorem so_yes {a : T} {ea : Expr} (ha : PE X ea (tE cE W mu Φ .tr a)) : PO X (some ea) (tO cE W mu Φ (.yes a)) := by
  refine PO.mono (po_some ha) fun σ H Q ⟨c, R, h⟩ => ?_
  simp only [evP, pX_bind, pX_ofO] at h
  refine ⟨c, R, h.mono fun x g1 _ h v H1 f1 s1 i1 => ?_⟩
  obtain ⟨i, ei, h⟩ := h
  cases x with
  | int j =>
    cases ei
    obtain rfl := (show IsT c.O c.ast H1 v (.int _) from i1).int
    exact ⟨_, rfl, h H1 f1 s1⟩
  | _ => cases ei
theorem se_sl {a : T} {lo hi : Op} {ea : Expr} {el eh : Option Expr} {p2 : Pos} (ha : PE X ea (tE cE W mu Φ .tr a)) (hl : PO X el (tO cE W mu Φ lo)) (hh : PO X eh (tO cE W mu Φ hi)) : PE X (.Subscript ea (.Slice el eh none p2) pos) (tE cE W mu Φ md (.sl a lo hi)) := by
  refine PE.mono (pe_slice slr ha hl hh) fun σ H Q ⟨c, R, h⟩ => ?_
  simp only [evE, pX_bind, pX_ofO] at h
  refine ⟨c, R, h.mono fun x g1 _ h v H1 f1 s1 i1 => ?_⟩
  refine ⟨_, R.step f1 s1, (h.go f1 g1).mono fun l g2 _ h H2 f2 s2 => ?_⟩
  refine ⟨_, R.step (f1.trans f2) s2, (h.go (f1.trans f2) g2).mono fun u g3 _ h H3 f3 s3 => ?_⟩
  obtain ⟨z, ez, k⟩ := h
  have i3 : IsT c.O c.ast H3 v x := (show IsT c.O c.ast H1 v x from i1).fr R.ast (f2.trans f3) s1.nt
  exact ⟨_, x, z, R.v1 (m := .tr) ((f1.trans f2).trans f3) s3 i3, ez, k.fin R ((f1.trans f2).trans f3) s3 rfl rfl rfl⟩
theorem se_rev {a : T} {ea : Expr} {k : Nat} {p1 p2 p3 : Pos} (ha : PE X ea (tE cE W mu Φ .tr a)) : PE X (.Subscript ea (.Slice none none (some (.UnaryOp .USub (.Constant (.int 1) k p1) p2)) p3) pos) (tE cE W mu Φ md (.rev a)) := by
  refine PE.mono (pe_revD ha) fun σ H Q ⟨c, R, h⟩ => ?_
  simp only [evE, pX_bind, pX_ofO] at h
  refine ⟨c, R, h.mono fun x g1 _ h v H1 f1 s1 i1 => ?_⟩
  obtain ⟨z, ez, k⟩ := h
  exact ⟨_, x, z, R.v1 (m := .tr) f1 s1 i1, ez, k.fin R f1 s1 rfl rfl rfl⟩
theorem one_h {f : D → Option D} {a : T} {t : T} {c : Cf} {σ : L2.St} {H : Hp} (R : Rel mu c σ H) (h : pX cE W c σ H (fun x g => ∃ z, f x = some z ∧ kE md c H Q z g) (evE Φ a c.ρ c.g)) : tCons (tE cE W mu Φ .tr a) tNil σ H fun vs H1 => rB f vs H1 Q :=
  ⟨c, R, h.mono fun x g1 _ ⟨z, ez, k⟩ v H1 f1 s1 i1 => ⟨_, v, x, z, rfl, R.v1 (m := .tr) f1 s1 i1, ez, k.fin R f1 s1 rfl rfl rfl⟩⟩
theorem se_b1 {f : D → Option D} {a t : T} {e : Expr} (he : ∀ ρ g, evE Φ t ρ g = (evE Φ a ρ g).bind fun x g => .ofO (f x) g) (hp : PE X e (tCB (rB f) (tCons (tE cE W mu Φ .tr a) tNil))) : PE X e (tE cE W mu Φ md t) := by
  refine PE.mono hp fun σ H Q ⟨c, R, h⟩ => ?_
  rw [he] at h
  simp only [pX_bind, pX_ofO] at h
  exact one_h (t := t) R h
theorem pa_one {e : Expr} {te : TE} (h : nst e = true) (he : PE X e te) : PA X [e] (tCons te tNil) := pa_cons he pa_nil (star_cons h)
theorem se_b2 {f : D → D → Option D} {a b t : T} {e : Expr} (he : ∀ ρ g, evE Φ t ρ g = (evE Φ a ρ g).bind fun x g => (evE Φ b ρ g).bind fun y g => .ofO (f x y) g) (hp : PE X e (tCB (rB2 f) (tCons (tE cE W mu Φ .tr a) (tCons (tE cE W mu Φ .tr b) tNil)))) : PE X e (tE cE W mu Φ md t) := by
  refine PE.mono hp fun σ H Q ⟨c, R, h⟩ => ?_
  rw [he] at h
  simp only [pX_bind, pX_ofO] at h
  refine ⟨c, R, h.mono fun x g1 _ h v H1 f1 s1 i1 => ?_⟩
  refine ⟨_, R.step f1 s1, (h.go f1 g1).mono fun y g2 _ h w H2 f2 s2 i2 => ?_⟩
  obtain ⟨z, ez, k⟩ := h
  exact ⟨_, v, w, x, y, z, rfl, R.v2 f1 s1 i1 f2 s2 i2, ez, k.fin R (f1.trans f2) s2 rfl rfl rfl⟩
/-- methods of lists -/
theorem se_m1 {o : M1} {a b : T} {ea eb : Expr} {name : Str} {id : String} {apos cpos : Pos}
    (slot : Slot "list" name id) (hty : typeOf (.builtin id) = pure (.type "method_descriptor")) (hm : MtR X id (rM (m1D o))) (ha : PE X ea (tE cE W mu Φ .tr a)) (hb : PE X eb (tE cE W mu Φ .tr b)) (hn : nst eb = true)
    (hbase : attributeBase ea name X.env (eval ea X.env) = eval ea X.env) (hline : (apos.endLine == cpos.line) = true) : PE X (.Call (.Attribute ea name apos) [eb] [] cpos) (tE cE W mu Φ md (.m1 o a b)) := by
  refine PE.mono (pe_bm PySem.F.plainAttrs_list slot hty hm ha (pa_one hn hb) hbase (by rw [star_cons hn]; rfl) hline (star_cons hn) rfl) fun σ H Q ⟨c, R, h⟩ => ?_
  simp only [evE, pX_bind] at h
  refine ⟨c, R, h.mono fun x g1 e1 h v H1 f1 s1 i1 => ?_⟩
  cases x with
  | list ds =>
    have i1 : IsT c.O c.ast H1 v (.list ds) := i1
    obtain ⟨a, xs, rfl, _, hx, _⟩ := i1.lst
    have h : pX cE W c σ H (fun y g => pX cE W c σ H (kE md c H Q) (Res.ofO (m1D o (.list ds) y) g)) (evE Φ b c.ρ g1) := by rw [← pX_bind]; exact h
    simp only [pX_ofO] at h
    refine ⟨.inl ⟨rfl, xs, SqL.of hx⟩, _, R.step f1 s1, (h.go f1 g1).mono fun y g2 _ h w H2 f2 s2 i2 => ?_⟩
    obtain ⟨z, ez, k⟩ := h
    exact ⟨_, w, _, y, z, rfl, R.v2 f1 s1 i1 f2 s2 i2, ez, k.fin R (f1.trans f2) s2 rfl rfl rfl⟩
  | _ => exact (show False from h).elim
end
end PT
namespace PT
open PySem PySem.Spec PyProof.Rows L2

/-- the promise of the def k, at n levels -/
def spF (cE : Exc → Addr) (P : List Def) (n k : Nat) : Sp := fun vs H Q E => ∃ (d : Def) (O : List Addr) (ast : Sa) (g : G) (ds : List D), P[k]? = some d ∧ vs.length = d.ps ∧ ast.a ∈ O ∧ Al O H ∧ StIs O ast H g ∧ IsL O ast H vs ds ∧ (match runF P n k ds g with
  | .ok z g' => ∀ v H', Fr ast H H' → StIs O ast H' g' → IsR (if d.fr = true then .fr else .cl) O ast H H' v z → Q v H'
  | .exc x g' => ∀ H', Fr ast H H' → StIs O ast H' g' → E (.ref (cE x)) none H'
  | .bad => False)
section
variable {cE : Exc → Addr} {W : WX} {mu : List Nat} {Φ : Fn} {X : Cx} {c : Cf} {σ : L2.St} {H H1 : Hp} {g : G} {md m : Md} {Q : VK} {d : D} {v : V} {pos p : Pos}
theorem runF_len {P : List Def} {n k : Nat} {ds : List D} {g : G} {d : Def} (h : P[k]? = some d) (hb : runF P n k ds g ≠ .bad) : ds.length = d.ps := by
  cases n with
  | zero => exact absurd rfl hb
  | succ n =>
    simp only [runF, h] at hb
    by_cases e : ds.length = d.ps
    · exact e
    · rw [if_neg e] at hb; exact absurd rfl hb
theorem se_call {P : List Def} {n k : Nat} {df : Def} {f : Addr} {fd : FuncData} {x : Str} {ts : List T} {e : Expr} {es : List Expr} (tk : Takes X W) (hP : P[k]? = some df) (hmd : md = .fr → df.fr = true) (F : FnG X.prog X.w X.K X.mg X.base n f fd (df.ns.take df.ps) (spF cE P n k)) (hgd : X.A.guards = some []) (hr : Room n X.A) (hg : Gl X x) (hm : X.mg x = some (.ref f)) (hk : PySem.W.keepIn X.K (.ref f) = true) (hb : Binds X.K fd (df.ns.take df.ps) [])
    (ha : PA X (e :: es) (tA cE W mu (runF P n) ts)) (hs : (e :: es).all nst = true) (hdb : (x == ("__debug__" : Str)) = false) : PE X (.Call (.Name x p) (e :: es) [] pos) (tE cE W mu (runF P n) md (.call k ts)) := by
  have hs' := hs
  rw [List.all_cons, Bool.and_eq_true] at hs'
  refine PE.mono (pe_callG F hgd hr hg hm hk hb (E := WE W) (fun σ => passAt tk σ) ha hdb (star_cons hs'.1) (star_none hs'.2)) fun σ H Q ⟨c, R, h⟩ => ?_
  simp only [evE, pX_bind] at h
  refine ⟨c, R, h.mono fun ds g1 e1 h vs H1 f1 s1 l => ?_⟩
  have hnb : runF P n k ds g1 ≠ .bad := fun e => by rw [e] at h; exact h
  refine ⟨df, c.O, c.ast, g1, ds, hP, by rw [l.length]; exact runF_len hP hnb, R.ast, R.al.fr f1 s1.lt, s1, l, ?_⟩
  cases q : runF P n k ds g1 with
  | ok z g2 =>
    rw [q] at h
    refine fun v H2 f2 s2 i2 => h v H2 (f1.trans f2) s2 ?_
    cases hf : df.fr with
    | true =>
      rw [hf] at i2
      exact ((show IsF c.O c.ast H1 H2 v z from i2).back s1.lt f1).r R.al R.ast
    | false =>
      rw [hf] at i2
      have i2 : Is c.O c.ast H2 v z := i2
      cases md with
      | tr => exact i2.t R.ast
      | cl => exact i2
      | fr => rw [hmd rfl] at hf; cases hf
  | exc y g2 =>
    rw [q] at h
    exact fun H2 f2 s2 => h H2 (f1.trans f2) s2
  | bad => exact absurd q hnb
theorem se_ife {a b t : T} {ea eb et : Expr} (ht : L2.PT X et (tP cE W mu Φ t)) (ha : PE X ea (tE cE W mu Φ md a)) (hb : PE X eb (tE cE W mu Φ md b)) : PE X (.IfExp et ea eb pos) (tE cE W mu Φ md (.ife t a b)) := by
  refine PE.mono (pe_ifExp ht ha hb) fun σ H Q ⟨c, R, h⟩ => ?_
  simp only [evE] at h
  rw [show ((evE Φ t c.ρ c.g).bind fun x g => (Res.ofO (truD x) g).bind fun t g => if t = true then evE Φ a c.ρ g else evE Φ b c.ρ g) = ((evE Φ t c.ρ c.g).bind fun x g => Res.ofO (truD x) g).bind fun t g => if t = true then evE Φ a c.ρ g else evE Φ b c.ρ g from by
    cases evE Φ t c.ρ c.g <;> rfl] at h
  rw [pX_bind] at h
  refine ⟨c, R, h.mono fun k g1 _ h H1 f1 s1 => ?_⟩
  cases k with
  | true => exact ⟨_, R.step f1 s1, h.fr f1 (fun z g2 _ k v H2 f2 s2 i2 => k v H2 (f1.trans f2) s2 (i2.back s1.lt f1)) g1⟩
  | false => exact ⟨_, R.step f1 s1, h.fr f1 (fun z g2 _ k v H2 f2 s2 i2 => k v H2 (f1.trans f2) s2 (i2.back s1.lt f1)) g1⟩
def tAn (cE : Exc → Addr) (W : WX) (mu : List Nat) (Φ : Fn) (md : Md) (bs : List T) : TE := fun σ H Q => ∃ c, Rel mu c σ H ∧ pX cE W c σ H (kE md c H Q) (evA Φ bs .none c.ρ c.g)
def tOr' (cE : Exc → Addr) (W : WX) (mu : List Nat) (Φ : Fn) (md : Md) (bs : List T) : TE := fun σ H Q => ∃ c, Rel mu c σ H ∧ pX cE W c σ H (kE md c H Q) (evO Φ bs .none c.ρ c.g)
theorem evA_cons {a b : T} {bs : List T} {x : D} {ρ : Env} {g : G} : evA Φ (a :: b :: bs) x ρ g = (evE Φ a ρ g).bind fun x g => (Res.ofO (truD x) g).bind fun k g => if k = true then evA Φ (b :: bs) .none ρ g else .ok x g := by
  rw [evA]; rfl
theorem evO_cons {a b : T} {bs : List T} {x : D} {ρ : Env} {g : G} : evO Φ (a :: b :: bs) x ρ g = (evE Φ a ρ g).bind fun x g => (Res.ofO (truD x) g).bind fun k g => if k = true then .ok x g else evO Φ (b :: bs) .none ρ g := by
  rw [evO]; rfl
theorem se_an1 {a : T} {ea : Expr} (ha : PE X ea (tE cE W mu Φ md a)) : PE X (.BoolOp .And [ea] pos) (tAn cE W mu Φ md [a]) := by
  refine PE.mono (pe_one ha) fun σ H Q ⟨c, R, h⟩ => ?_
  rw [evA] at h
  rw [show ((evE Φ a c.ρ c.g).bind fun x g => Res.ok x g) = evE Φ a c.ρ c.g from Res.bind_id _] at h
  exact ⟨c, R, h⟩
theorem se_or1 {a : T} {ea : Expr} (ha : PE X ea (tE cE W mu Φ md a)) : PE X (.BoolOp .Or [ea] pos) (tOr' cE W mu Φ md [a]) := by
  refine PE.mono (pe_one ha) fun σ H Q ⟨c, R, h⟩ => ?_
  rw [evO] at h
  rw [show ((evE Φ a c.ρ c.g).bind fun x g => Res.ok x g) = evE Φ a c.ρ c.g from Res.bind_id _] at h
  exact ⟨c, R, h⟩
theorem se_an {a b : T} {bs : List T} {ea eb : Expr} {rest : List Expr} (ha : PE X ea (tE cE W mu Φ md a)) (hb : PE X (.BoolOp .And (eb :: rest) pos) (tAn cE W mu Φ md (b :: bs))) : PE X (.BoolOp .And (ea :: eb :: rest) pos) (tAn cE W mu Φ md (a :: b :: bs)) := by
  refine PE.mono (pe_andT ha hb) fun σ H Q ⟨c, R, h⟩ => ?_
  rw [evA_cons] at h
  simp only [pX_bind, pX_ofO] at h
  refine ⟨c, R, h.mono fun x g1 _ h v H1 f1 s1 i1 => ?_⟩
  obtain ⟨k, ek, h⟩ := h
  refine ⟨k, tru_is (i1.t R.al R.ast) ek, ?_⟩
  cases k with
  | true => exact ⟨_, R.step f1 s1, h.fr f1 (fun z g2 _ k v H2 f2 s2 i2 => k v H2 (f1.trans f2) s2 (i2.back s1.lt f1)) g1⟩
  | false => exact (show kE md c H Q x g1 from h) v H1 f1 s1 i1
theorem se_or {a b : T} {bs : List T} {ea eb : Expr} {rest : List Expr} (ha : PE X ea (tE cE W mu Φ md a)) (hb : PE X (.BoolOp .Or (eb :: rest) pos) (tOr' cE W mu Φ md (b :: bs))) : PE X (.BoolOp .Or (ea :: eb :: rest) pos) (tOr' cE W mu Φ md (a :: b :: bs)) := by
  refine PE.mono (pe_orT ha hb) fun σ H Q ⟨c, R, h⟩ => ?_
  rw [evO_cons] at h
  simp only [pX_bind, pX_ofO] at h
  refine ⟨c, R, h.mono fun x g1 _ h v H1 f1 s1 i1 => ?_⟩
  obtain ⟨k, ek, h⟩ := h
  refine ⟨k, tru_is (i1.t R.al R.ast) ek, ?_⟩
  cases k with
  | false => exact ⟨_, R.step f1 s1, h.fr f1 (fun z g2 _ k v H2 f2 s2 i2 => k v H2 (f1.trans f2) s2 (i2.back s1.lt f1)) g1⟩
  | true => exact (show kE md c H Q x g1 from h) v H1 f1 s1 i1
theorem se_and {a b : T} {bs : List T} {e : Expr} (h : PE X e (tAn cE W mu Φ md (a :: b :: bs))) : PE X e (tE cE W mu Φ md (.and a (b :: bs))) := by
  refine PE.mono h fun σ H Q ⟨c, R, h⟩ => ⟨c, R, ?_⟩
  rw [evA_cons]
  rw [evE] at h
  exact h
theorem se_orr {a b : T} {bs : List T} {e : Expr} (h : PE X e (tOr' cE W mu Φ md (a :: b :: bs))) : PE X e (tE cE W mu Φ md (.or a (b :: bs))) := by
  refine PE.mono h fun σ H Q ⟨c, R, h⟩ => ⟨c, R, ?_⟩
  rw [evO_cons]
  rw [evE] at h
  exact h
theorem st_val {a : T} {ea : Expr} (ha : PE X ea (tE cE W mu Φ .tr a)) (he : ∀ whole, isTrue ea X.env whole = (do let v ← whole; standAt ea.pos; holding [v] (truthy v))) : L2.PT X ea (tP cE W mu Φ a) := by
  refine PT'.mono (pt_truth ha he) fun σ H Q ⟨c, R, h⟩ => ?_
  simp only [pX_bind, pX_ofO] at h
  refine ⟨c, R, h.mono fun x g1 _ h v H1 f1 s1 i1 => ?_⟩
  obtain ⟨k, ek, h⟩ := h
  exact ⟨k, tru_is (IsR.t i1 R.al R.ast) ek, h H1 f1 s1⟩
/-- a test whose value is a bool -/
theorem st_cmp {a : T} {ea eb : Expr} {op : CmpOp} (hb : ∀ ρ g x g', evE Φ a ρ g = .ok x g' → ∃ k, x = .bool k) (ha : L2.PT X ea (tTest (tE cE W mu Φ .tr a))) : L2.PT X ea (tP cE W mu Φ a) := by
  refine PT'.mono ha fun σ H Q ⟨c, R, h⟩ => ?_
  simp only [pX_bind, pX_ofO] at h
  refine ⟨c, R, h.mono fun x g1 e1 h v H1 f1 s1 i1 => ?_⟩
  obtain ⟨k, rfl⟩ := hb _ _ _ _ e1
  obtain ⟨k', ek, h⟩ := h
  cases ek
  obtain rfl := (show IsT c.O c.ast H1 v (.bool _) from i1).bool
  exact ⟨_, rfl, h H1 f1 s1⟩
theorem st_not {a : T} {ea : Expr} (ha : L2.PT X ea (tP cE W mu Φ a)) : L2.PT X (.UnaryOp .Not ea pos) (tP cE W mu Φ (.not a)) := by
  refine PT'.mono (pt_not ha) fun σ H Q ⟨c, R, h⟩ => ?_
  simp only [evE, pX_bind, pX_ofO] at h
  refine ⟨c, R, ?_⟩
  simp only [pX_bind, pX_ofO]
  refine h.mono fun x g1 e1 h => ?_
  obtain ⟨z, ez, k, ek, h⟩ := h
  obtain ⟨b, eb, rfl⟩ := map_some ez
  cases ek
  exact ⟨b, eb, h⟩
def tPa (cE : Exc → Addr) (W : WX) (mu : List Nat) (Φ : Fn) (bs : List T) : TT := fun σ H Q => ∃ c, Rel mu c σ H ∧ pX cE W c σ H (fun b g => ∀ H', Fr c.ast H H' → StIs c.O c.ast H' g → Q b H') ((evA Φ bs .none c.ρ c.g).bind fun x g => .ofO (truD x) g)
def tPo (cE : Exc → Addr) (W : WX) (mu : List Nat) (Φ : Fn) (bs : List T) : TT := fun σ H Q => ∃ c, Rel mu c σ H ∧ pX cE W c σ H (fun b g => ∀ H', Fr c.ast H H' → StIs c.O c.ast H' g → Q b H') ((evO Φ bs .none c.ρ c.g).bind fun x g => .ofO (truD x) g)
theorem PW.mono {X : Cx} {e : Expr} {t t' : TT} (h : PW X e t) (k : ∀ σ H Q, t' σ H Q → t σ H Q) : PW X e t' := ⟨fun w pins s σ H Q I q => h.run w pins s σ H Q I (k σ H Q q)⟩
theorem st_an1 {a : T} {ea : Expr} (ha : L2.PT X ea (tP cE W mu Φ a)) : PW X (.BoolOp .And [ea] pos) (tPa cE W mu Φ [a]) := by
  refine PW.mono (pw_and1 ha) fun σ H Q ⟨c, R, h⟩ => ⟨c, R, ?_⟩
  rw [evA] at h
  rw [show ((evE Φ a c.ρ c.g).bind fun x g => Res.ok x g) = evE Φ a c.ρ c.g from Res.bind_id _] at h
  exact h
theorem st_or1 {a : T} {ea : Expr} (ha : L2.PT X ea (tP cE W mu Φ a)) : PW X (.BoolOp .Or [ea] pos) (tPo cE W mu Φ [a]) := by
  refine PW.mono (pw_or1 ha) fun σ H Q ⟨c, R, h⟩ => ⟨c, R, ?_⟩
  rw [evO] at h
  rw [show ((evE Φ a c.ρ c.g).bind fun x g => Res.ok x g) = evE Φ a c.ρ c.g from Res.bind_id _] at h
  exact h
theorem st_an {a b : T} {bs : List T} {ea eb : Expr} {rest : List Expr} (ha : L2.PT X ea (tP cE W mu Φ a)) (hb : PW X (.BoolOp .And (eb :: rest) pos) (tPa cE W mu Φ (b :: bs))) : PW X (.BoolOp .And (ea :: eb :: rest) pos) (tPa cE W mu Φ (a :: b :: bs)) := by
  refine PW.mono (pw_and ha hb) fun σ H Q ⟨c, R, h⟩ => ?_
  rw [evA_cons] at h
  simp only [pX_bind, pX_ofO] at h
  refine ⟨c, R, ?_⟩
  simp only [pX_bind, pX_ofO]
  refine h.mono fun x g1 _ h => ?_
  obtain ⟨k, ek, h⟩ := h
  refine ⟨k, ek, fun H1 f1 s1 => ?_⟩
  cases k with
  | true =>
    refine ⟨_, R.step f1 s1, ?_⟩
    simp only [pX_bind, pX_ofO]
    exact h.fr f1 (fun z g2 _ k => let ⟨b, eb, k⟩ := k; ⟨b, eb, fun H2 f2 s2 => k H2 (f1.trans f2) s2⟩) g1
  | false =>
    obtain ⟨b, eb, h⟩ := (show ∃ b, truD x = some b ∧ _ from h)
    rw [ek] at eb
    cases eb
    exact h H1 f1 s1
theorem st_or {a b : T} {bs : List T} {ea eb : Expr} {rest : List Expr} (ha : L2.PT X ea (tP cE W mu Φ a)) (hb : PW X (.BoolOp .Or (eb :: rest) pos) (tPo cE W mu Φ (b :: bs))) : PW X (.BoolOp .Or (ea :: eb :: rest) pos) (tPo cE W mu Φ (a :: b :: bs)) := by
  refine PW.mono (pw_or ha hb) fun σ H Q ⟨c, R, h⟩ => ?_
  rw [evO_cons] at h
  simp only [pX_bind, pX_ofO] at h
  refine ⟨c, R, ?_⟩
  simp only [pX_bind, pX_ofO]
  refine h.mono fun x g1 _ h => ?_
  obtain ⟨k, ek, h⟩ := h
  refine ⟨k, ek, fun H1 f1 s1 => ?_⟩
  cases k with
  | false =>
    refine ⟨_, R.step f1 s1, ?_⟩
    simp only [pX_bind, pX_ofO]
    exact h.fr f1 (fun z g2 _ k => let ⟨b, eb, k⟩ := k; ⟨b, eb, fun H2 f2 s2 => k H2 (f1.trans f2) s2⟩) g1
  | true =>
    obtain ⟨b, eb, h⟩ := (show ∃ b, truD x = some b ∧ _ from h)
    rw [ek] at eb
    cases eb
    exact h H1 f1 s1
theorem st_and {a b : T} {bs : List T} {e : Expr} (h : PW X e (tPa cE W mu Φ (a :: b :: bs))) : L2.PT X e (tP cE W mu Φ (.and a (b :: bs))) := by
  refine PT'.mono h.pt fun σ H Q ⟨c, R, h⟩ => ⟨c, R, ?_⟩
  rw [evA_cons]
  rw [evE] at h
  exact h
theorem st_orr {a b : T} {bs : List T} {e : Expr} (h : PW X e (tPo cE W mu Φ (a :: b :: bs))) : L2.PT X e (tP cE W mu Φ (.or a (b :: bs))) := by
  refine PT'.mono h.pt fun σ H Q ⟨c, R, h⟩ => ⟨c, R, ?_⟩
  rw [evO_cons]
  rw [evE] at h
  exact h
end
end PT
namespace PT
open PySem PySem.Spec PyProof.Rows L2

section
variable {cE : Exc → Addr} {W : WX} {mu : List Nat} {Φ : Fn} {X : Cx} {c : Cf} {σ : L2.St} {H H1 : Hp} {g : G} {md m : Md} {Q : VK} {d : D} {v : V} {pos p : Pos}
theorem ty_boot (k : Kd) : bootBuiltins (Str.ofString (kdT k)) = some (.type (kdT k)) := by cases k <;> decide +kernel
theorem pe_ty {x : Str} {n : String} (hg : Gl X x) (hm : X.mg x = none) (hv : bootBuiltins x = some (.type n)) (hn : x ≠ "__name__") (hd : (x == ("__debug__" : Str)) = false) : PE X (.Name x pos) (tC (.ty n)) :=
  pe_bltn hg hm hv (show RelV (.ty n) (.type n) from rfl) hn hd
theorem nst_name {x : Str} : nst (.Name x pos) = true := rfl
theorem se_isi {k : Kd} {a : T} {ea : Expr} {x y : Str} {p1 p2 : Pos} (hk : k ≠ .intTuple) (hx : x = "isinstance") (hy : y = Str.ofString (kdT k)) (hg : Gl X x) (hm : X.mg x = none) (hg2 : Gl X y) (hm2 : X.mg y = none) (hn : nst ea = true) (ha : PE X ea (tE cE W mu Φ .tr a)) :
    PE X (.Call (.Name x p1) [ea, .Name y p2] [] pos) (tE cE W mu Φ md (.isi k a)) := by
  subst hx hy
  have hy1 : Str.ofString (kdT k) ≠ "__name__" := by cases k <;> decide
  have hy2 : (Str.ofString (kdT k) == ("__debug__" : Str)) = false := by cases k <;> decide
  refine PE.mono (pe_callB call_isi hg hm (by decide +kernel) (pa_cons ha (pa_one nst_name (pe_ty hg2 hm2 (ty_boot k) hy1 hy2)) (star_cons hn)) (he := star_cons hn)) fun σ H Q ⟨c, R, h⟩ => ?_
  simp only [evE, pX_bind, pX_ofO] at h
  refine ⟨c, R, h.mono fun x g1 _ h v H1 f1 s1 i1 => ?_⟩
  obtain ⟨z, ez, k'⟩ := h
  obtain ⟨b, eb, rfl⟩ := map_some ez
  obtain ⟨Tn, ht, htt⟩ := tyx_of (K := X.K) (show IsT c.O c.ast H1 v x from i1) eb
  exact ⟨v, _, _, _, b, rfl, ClsV.ty _, ht, kit_tab hk eb htt, k' _ H1 f1 s1 (IsR.sc (.bl _) fun _ e => nomatch e)⟩
theorem se_isi2 {a : T} {ea : Expr} {x y1 y2 : Str} {k : Nat} {p1 p2 p3 p4 : Pos} (hx : x = "isinstance") (h1 : y1 = "int") (h2 : y2 = "tuple") (hg : Gl X x) (hm : X.mg x = none) (hg1 : Gl X y1) (hm1 : X.mg y1 = none) (hg2 : Gl X y2) (hm2 : X.mg y2 = none) (hn : nst ea = true) (ha : PE X ea (tE cE W mu Φ .tr a)) :
    PE X (.Call (.Name x p1) [ea, .Tuple [.Name y1 p2, .Name y2 p3] k p4] [] pos) (tE cE W mu Φ md (.isi .intTuple a)) := by
  subst hx h1 h2
  refine PE.mono (pe_callB call_isiT hg hm (by decide +kernel) (pa_cons ha (pa_one rfl (pe_tup (pa_cons (pe_ty (n := "int") hg1 hm1 (by decide +kernel) (by decide) (by decide)) (pa_one nst_name (pe_ty (n := "tuple") hg2 hm2 (by decide +kernel) (by decide) (by decide)))))) (star_cons hn)) (he := star_cons hn)) fun σ H Q ⟨c, R, h⟩ => ?_
  simp only [evE, pX_bind, pX_ofO] at h
  refine ⟨c, R, h.mono fun x g1 _ h v H1 f1 s1 i1 => ?_⟩
  obtain ⟨z, ez, k'⟩ := h
  obtain ⟨b, eb, rfl⟩ := map_some ez
  refine ⟨by show 2 ≤ sizeLine; rw [sizeLine_eq]; decide, fun q hq => ?_⟩
  have i2 : IsT c.O c.ast (upd H1 q (.tup [.ty "int", .ty "tuple"])) v x := (show IsT c.O c.ast H1 v x from i1).fr R.ast (Fr.upd hq) s1.nt
  obtain ⟨Tn, ht, htt⟩ := tyx_of (K := X.K) i2 eb
  exact ⟨v, q, _, _, _, b, rfl, upd_same, .cons (ClsV.ty _) (.cons (ClsV.ty _) .nil), ht, kit_tab2 eb htt, k' _ _ (f1.trans (Fr.upd hq)) (s1.upd R.ast hq) (IsR.sc (.bl _) fun _ e => nomatch e)⟩
theorem se_join {a : T} {ea : Expr} {nm z : Str} {j : Nat} {apos p1 : Pos} (hz : z = "") (hnm : nm = "join") (hn : nst ea = true) (hline : (apos.endLine == pos.line) = true) (ha : PE X ea (tE cE W mu Φ .tr a)) :
    PE X (.Call (.Attribute (.Constant (.str z) j p1) nm apos) [ea] [] pos) (tE cE W mu Φ md (.join a)) := by
  subst hz hnm
  refine PE.mono (pe_m1 PySem.F.slot_str_join PySem.F.type_str_join mt_join pe_str ha (hs := star_cons hn) (hline := hline)) fun σ H Q ⟨c, R, h⟩ => ?_
  simp only [evE, pX_bind, pX_ofO] at h
  refine ⟨⟨_, rfl⟩, c, R, h.mono fun x g1 _ h v H1 f1 s1 i1 => ?_⟩
  obtain ⟨z, ez, k⟩ := h
  exact ⟨_, v, x, z, rfl, rfl, R.v1 (m := .tr) f1 s1 i1, ez, k.fin R f1 s1 rfl rfl rfl⟩
theorem isL_nums {O : List Addr} {ast : Sa} (H : Hp) (ns : List Int) : IsL O ast H (ns.map V.int) (ns.map PyData.int) := IsL.ofInts ns
theorem se_set {op : String} {t a : T} {ea : Expr} {x y : Str} {p1 p2 q : Pos} (hc : X.calm = true) (hx : x = "sorted" ∨ x = "len") (hy : y = "set") (ht : t = .b1 (if x = "sorted" then .sset else .lset) a) (hg : Gl X x) (hm : X.mg x = none) (hg2 : Gl X y) (hm2 : X.mg y = none) (hn : nst ea = true) (ha : PE X ea (tE cE W mu Φ .tr a)) :
    PE X (.Call (.Name x p1) [.Call (.Name y p2) [ea] [] q] [] pos) (tE cE W mu Φ md t) := by
  subst hy
  have hs := pe_callTy (p := p2) (pos := q) (cr_setI hc) hg2 hm2 (by decide +kernel) (pa_one hn ha) (he := star_cons hn)
  rcases hx with rfl | rfl
  · rw [if_pos rfl] at ht
    subst ht
    refine PE.mono (pe_callB (cr_sortedSet hc) hg hm (by decide +kernel) (pa_one rfl hs)) fun σ H Q ⟨c, R, h⟩ => ?_
    simp only [evE, pX_bind, pX_ofO] at h
    refine ⟨c, R, h.mono fun x g1 _ h v H1 f1 s1 i1 => ?_⟩
    obtain ⟨z, ez, k⟩ := h
    have ez : (itemsD x).bind (fun xs => (intsD xs).bind fun ns => if ns.length < 64 then some (mkL ((dedI ns).mergeSort leI)) else none) = some z := ez
    cases e0 : itemsD x with
    | none => rw [e0] at ez; cases ez
    | some xs =>
      rw [e0] at ez
      cases e1 : intsD xs with
      | none => rw [Option.bind_some, e1] at ez; cases ez
      | some ns =>
        rw [Option.bind_some, e1] at ez
        obtain ⟨h64, rfl⟩ := ite_some (show (if ns.length < 64 then some (mkL ((dedI ns).mergeSort leI)) else none) = some z from ez)
        refine ⟨_, v, x, ns, rfl, R.v1 (m := .tr) f1 s1 i1, by rw [e0]; exact e1, h64, fun p hp => ?_⟩
        refine ⟨p, _, _, rfl, upd_same, Nat.lt_of_le_of_lt (dedI_le ns _ (Nat.le_refl _)) h64, fun ns' q' hlt hmem hlen hq => ?_⟩
        have en : ns' = (dedI ns).mergeSort leI := sset_eq hlt fun k => by rw [hmem, decide_eq_true_eq]
        subst en
        have hqn : H1 q' = none := by
          by_cases e : q' = p
          · rw [e, upd_same] at hq; cases hq
          · rw [upd_ne e] at hq; exact hq
        have f2 : Fr c.ast H1 (upd H1 p (SetO X.w p (fun j => decide (j ∈ ns)) (dedI ns).length)) := Fr.upd hp
        have s2 := s1.upd R.ast hp (o := SetO X.w p (fun j => decide (j ∈ ns)) (dedI ns).length)
        have i3 := isF_new R.ast s2 hq (isL_nums (O := c.O) (ast := c.ast) _ ((dedI ns).mergeSort leI))
        exact k _ _ ((f1.trans f2).trans (Fr.upd hq)) (s2.upd R.ast hq) ((i3.back s2.lt (f1.trans f2)).r R.al R.ast)
  · rw [if_neg (by decide)] at ht
    subst ht
    refine PE.mono (pe_callB cr_lenSet hg hm (by decide +kernel) (pa_one rfl hs)) fun σ H Q ⟨c, R, h⟩ => ?_
    simp only [evE, pX_bind, pX_ofO] at h
    refine ⟨c, R, h.mono fun x g1 _ h v H1 f1 s1 i1 => ?_⟩
    obtain ⟨z, ez, k⟩ := h
    have ez : (itemsD x).bind (fun xs => (intsD xs).bind fun ns => if ns.length < 64 then some (PyData.int (dedI ns).length) else none) = some z := ez
    cases e0 : itemsD x with
    | none => rw [e0] at ez; cases ez
    | some xs =>
      rw [e0] at ez
      cases e1 : intsD xs with
      | none => rw [Option.bind_some, e1] at ez; cases ez
      | some ns =>
        rw [Option.bind_some, e1] at ez
        obtain ⟨h64, rfl⟩ := ite_some (show (if ns.length < 64 then some (PyData.int (dedI ns).length) else none) = some z from ez)
        refine ⟨_, v, x, ns, rfl, R.v1 (m := .tr) f1 s1 i1, by rw [e0]; exact e1, h64, fun p hp => ?_⟩
        exact ⟨p, _, _, rfl, upd_same, k _ _ (f1.trans (Fr.upd hp)) (s1.upd R.ast hp) (IsR.sc (.int _) fun _ e => nomatch e)⟩
def Kp (O2 : List Addr) (H H' : Hp) : Prop := (∀ a o, a ∉ O2 → H a = some o → H' a = some o) ∧ ∀ a xs, H a = some (.tup xs) → H' a = some (.tup xs)
theorem Kp.refl {O2 : List Addr} {H : Hp} : Kp O2 H H := ⟨fun _ _ _ h => h, fun _ _ h => h⟩
theorem Kp.of_fr {ast : Sa} {H H' : Hp} (f : Fr ast H H') (nt : NT ast H) : Kp [ast.a] H H' := ⟨fun a o n h => f a o (fun e => n (by rw [e]; exact List.mem_cons_self)) h, f.tups nt⟩
theorem Kp.trans {O2 : List Addr} {H H1 H2 : Hp} (a : Kp O2 H H1) (b : Kp O2 H1 H2) : Kp O2 H H2 := ⟨fun c o n h => b.1 c o n (a.1 c o n h), fun c xs h => b.2 c xs (a.2 c xs h)⟩
theorem Kp.is {O O2 : List Addr} {ast : Sa} {H H' : Hp} {v : V} {d : D} (k : Kp O2 H H') (s : ∀ a, a ∈ O2 → a ∈ O) (h : Is O ast H v d) : Is O ast H' v d := h.keep (fun a o e n => k.1 a o (fun z => n (s a z)) e) k.2
theorem Kp.isL {O O2 : List Addr} {ast : Sa} {H H' : Hp} {v : List V} {d : List D} (k : Kp O2 H H') (s : ∀ a, a ∈ O2 → a ∈ O) (h : IsL O ast H v d) : IsL O ast H' v d := h.keep (fun a o e n => k.1 a o (fun z => n (s a z)) e) k.2
/-- more is not to be reached: what is new -/
def Mo (O O' : List Addr) (H : Hp) : Prop := (∀ a, a ∈ O → a ∈ O') ∧ ∀ a, a ∈ O' → a ∈ O ∨ H a = none
theorem Mo.refl {O : List Addr} {H : Hp} : Mo O O H := ⟨fun _ h => h, fun _ h => .inl h⟩
section
variable {O O' : List Addr} {ast : Sa}
theorem Mo.not (m : Mo O O' H) {a : Addr} {o : HO} (h : H a = some o) (n : a ∉ O) : a ∉ O' := fun z => by
  rcases m.2 a z with q | q
  · exact n q
  · rw [h] at q; cases q
mutual
theorem Is.mo (m : Mo O O' H) : ∀ {v : V} {d : D}, Is O ast H v d → Is O' ast H v d
  | _, _, .non => .non
  | _, _, .bl b => .bl b
  | _, _, .int i => .int i
  | _, _, .str x => .str x
  | _, _, .tup h l => .tup h (IsL.mo m l)
  | _, _, .lst h n l => .lst h (m.not h n) (IsL.mo m l)
  | _, _, .dct h n => .dct h (m.not h n)
  | _, _, .st => .st
theorem IsL.mo (m : Mo O O' H) : ∀ {vs : List V} {ds : List D}, IsL O ast H vs ds → IsL O' ast H vs ds
  | _, _, .nil => .nil
  | _, _, .cons h l => .cons (Is.mo m h) (IsL.mo m l)
end
end
/-- J walks ds, as long as what is not in O2 is kept -/
def Wk (O2 : List Addr) (J : L2.It) (O : List Addr) (ast : Sa) (H : Hp) (ds : List D) : Prop := ∀ i H', Kp O2 H H' →
  (∀ d, ds[i]? = some d → J.go i H' ∧ ∀ x H'', J.yld i H' x H'' → (∀ a o, H' a = some o → H'' a = some o) ∧ ∀ O', Mo O O' H → Is O' ast H'' x d) ∧ (ds.length ≤ i → J.stop i H')
section
variable {O O2 : List Addr} {ast : Sa} {K : PySem.W.Frag} {a : Addr} {xs : List V} {ds : List D}
theorem Wk.lst (s : ∀ a, a ∈ O2 → a ∈ O) (ha : a ∉ O2) (h : H a = some (.lst xs)) (l : IsL O ast H xs ds) : Wk O2 (Itl K a) O ast H ds := fun i H' k => by
  have q : SqL K H' a xs := SqL.of (k.1 a _ ha h)
  refine ⟨fun d hd => ?_, fun hi => ⟨xs, q, by rw [l.length]; exact hi⟩⟩
  obtain ⟨v, hv, iv⟩ := l.get hd
  refine ⟨⟨xs, v, q, hv⟩, fun x H'' y => ?_⟩
  obtain ⟨rfl, y⟩ := y
  have := y xs q
  rw [hv] at this
  cases this
  exact ⟨fun _ _ h => h, fun O' m => k.is (fun a h => m.1 a (s a h)) (iv.mo m)⟩
theorem Wk.tup (s : ∀ a, a ∈ O2 → a ∈ O) (h : H a = some (.tup xs)) (l : IsL O ast H xs ds) : Wk O2 (Itt K a) O ast H ds := fun i H' k => by
  have q : SqT K H' a xs := SqT.of (k.2 a _ h)
  refine ⟨fun d hd => ?_, fun hi => ⟨xs, q, by rw [l.length]; exact hi⟩⟩
  obtain ⟨v, hv, iv⟩ := l.get hd
  refine ⟨⟨xs, v, q, hv⟩, fun x H'' y => ?_⟩
  obtain ⟨rfl, y⟩ := y
  have := y xs q
  rw [hv] at this
  cases this
  exact ⟨fun _ _ h => h, fun O' m => k.is (fun a h => m.1 a (s a h)) (iv.mo m)⟩
theorem upd_keeps {H : Hp} {p : Addr} {o : HO} (h : H p = none) : ∀ a u, H a = some u → upd H p o a = some u := fun a u e => by rw [upd_ne (ne_of_none e h)]; exact e
theorem enuL_get : ∀ {ds : List D} {n i : Nat} {d : D}, (enuL n ds)[i]? = some d → ∃ x, ds[i]? = some x ∧ d = .tuple [.int (n + i : Nat), x]
  | [], n, i, d, h => by simp [enuL] at h
  | x :: ds, n, 0, d, h => by
    simp only [enuL, List.getElem?_cons_zero] at h
    cases h
    exact ⟨x, rfl, rfl⟩
  | x :: ds, n, i + 1, d, h => by
    simp only [enuL, List.getElem?_cons_succ] at h
    obtain ⟨y, h1, h2⟩ := enuL_get h
    refine ⟨y, by simpa using h1, ?_⟩
    rw [h2]
    have e : n + 1 + i = n + (i + 1) := by omega
    rw [e]
theorem enuL_len : ∀ {ds : List D} {n : Nat}, (enuL n ds).length = ds.length
  | [], _ => rfl
  | _ :: ds, n => by simp only [enuL, List.length_cons, enuL_len (ds := ds)]
theorem Wk.pair {x y : V} {d e : D} {T : Addr} {H' : Hp} (hT : H' T = none) (hx : Is O ast H' x d) (hy : Is O ast H' y e) : Is O ast (upd H' T (.tup [x, y])) (.ref T) (.tuple [d, e]) := by
  have kp : ∀ a o, H' a = some o → a ∉ O → upd H' T (.tup [x, y]) a = some o := fun a o h _ => upd_keeps hT a o h
  have kt : ∀ a ws, H' a = some (.tup ws) → upd H' T (.tup [x, y]) a = some (.tup ws) := fun a o h => upd_keeps hT a _ h
  exact .tup upd_same (.cons (hx.keep kp kt) (.cons (hy.keep kp kt) .nil))
theorem Wk.enu (s : ∀ a, a ∈ O2 → a ∈ O) (ha : a ∉ O2) (h : H a = some (.lst xs)) (l : IsL O ast H xs ds) : Wk O2 (Ite K a) O ast H (enuL 0 ds) := fun i H' k => by
  have q : SqL K H' a xs := SqL.of (k.1 a _ ha h)
  refine ⟨fun d hd => ?_, fun hi => ⟨xs, q, by rw [l.length]; rw [enuL_len] at hi; exact hi⟩⟩
  obtain ⟨x0, hx0, rfl⟩ := enuL_get hd
  obtain ⟨v, hv, iv⟩ := l.get hx0
  refine ⟨⟨xs, v, q, hv⟩, fun x H'' y => ?_⟩
  obtain ⟨T, x', rfl, hT, rfl, y⟩ := y
  have := y xs q
  rw [hv] at this
  cases this
  rw [Nat.zero_add]
  exact ⟨upd_keeps hT, fun O' m => Wk.pair hT (.int _) (k.is (fun a h => m.1 a (s a h)) (iv.mo m))⟩
theorem Wk.enuT (s : ∀ a, a ∈ O2 → a ∈ O) (h : H a = some (.tup xs)) (l : IsL O ast H xs ds) : Wk O2 (IteT K a) O ast H (enuL 0 ds) := fun i H' k => by
  have q : SqT K H' a xs := SqT.of (k.2 a _ h)
  refine ⟨fun d hd => ?_, fun hi => ⟨xs, q, by rw [l.length]; rw [enuL_len] at hi; exact hi⟩⟩
  obtain ⟨x0, hx0, rfl⟩ := enuL_get hd
  obtain ⟨v, hv, iv⟩ := l.get hx0
  refine ⟨⟨xs, v, q, hv⟩, fun x H'' y => ?_⟩
  obtain ⟨T, x', rfl, hT, rfl, y⟩ := y
  have := y xs q
  rw [hv] at this
  cases this
  rw [Nat.zero_add]
  exact ⟨upd_keeps hT, fun O' m => Wk.pair hT (.int _) (k.is (fun a h => m.1 a (s a h)) (iv.mo m))⟩
theorem zip2L_get : ∀ {ds es : List D} {i : Nat} {d : D}, (zip2L ds es)[i]? = some d → ∃ x y, ds[i]? = some x ∧ es[i]? = some y ∧ d = .tuple [x, y]
  | [], es, i, d, h => by simp [zip2L] at h
  | x :: ds, [], i, d, h => by simp [zip2L] at h
  | x :: ds, y :: es, 0, d, h => by
    simp only [zip2L, List.getElem?_cons_zero] at h
    cases h
    exact ⟨x, y, rfl, rfl, rfl⟩
  | x :: ds, y :: es, i + 1, d, h => by
    simp only [zip2L, List.getElem?_cons_succ] at h
    obtain ⟨u, w, h1, h2, h3⟩ := zip2L_get h
    exact ⟨u, w, by simpa using h1, by simpa using h2, h3⟩
theorem zip2L_len : ∀ {ds es : List D} {i : Nat}, (zip2L ds es).length ≤ i → ds.length ≤ i ∨ es.length ≤ i
  | [], es, i, h => .inl (Nat.zero_le _)
  | x :: ds, [], i, h => .inr (Nat.zero_le _)
  | x :: ds, y :: es, 0, h => by simp [zip2L] at h
  | x :: ds, y :: es, i + 1, h => by
    simp only [zip2L, List.length_cons] at h
    rcases zip2L_len (Nat.le_of_succ_le_succ h) with h | h
    · exact .inl (Nat.succ_le_succ h)
    · exact .inr (Nat.succ_le_succ h)
theorem Wk.zip {b : Addr} {ys : List V} {es : List D} (s : ∀ a, a ∈ O2 → a ∈ O) (ha : a ∉ O2) (hb : b ∉ O2) (h : H a = some (.lst xs)) (l : IsL O ast H xs ds) (h' : H b = some (.lst ys)) (l' : IsL O ast H ys es) : Wk O2 (Itz K a b) O ast H (zip2L ds es) := fun i H' k => by
  have q : SqL K H' a xs := SqL.of (k.1 a _ ha h)
  have q' : SqL K H' b ys := SqL.of (k.1 b _ hb h')
  refine ⟨fun d hd => ?_, fun hi => ⟨xs, ys, q, q', by rw [l.length, l'.length]; exact zip2L_len hi⟩⟩
  obtain ⟨x0, y0, hx0, hy0, rfl⟩ := zip2L_get hd
  obtain ⟨v, hv, iv⟩ := l.get hx0
  obtain ⟨w, hw, iw⟩ := l'.get hy0
  refine ⟨⟨xs, ys, v, w, q, q', hv, hw⟩, fun x H'' y => ?_⟩
  obtain ⟨T, x', y', rfl, hT, rfl, y, z⟩ := y
  have e1 := y xs q
  have e2 := z ys q'
  rw [hv] at e1
  rw [hw] at e2
  cases e1
  cases e2
  exact ⟨upd_keeps hT, fun O' m => Wk.pair hT (k.is (fun a h => m.1 a (s a h)) (iv.mo m)) (k.is (fun a h => m.1 a (s a h)) (iw.mo m))⟩
theorem Wk.zipT {b : Addr} {ys : List V} {es : List D} (s : ∀ a, a ∈ O2 → a ∈ O) (h : H a = some (.tup xs)) (l : IsL O ast H xs ds) (h' : H b = some (.tup ys)) (l' : IsL O ast H ys es) : Wk O2 (RZ.ItzT K a b) O ast H (zip2L ds es) := fun i H' k => by
  have q : SqT K H' a xs := SqT.of (k.2 a _ h)
  have q' : SqT K H' b ys := SqT.of (k.2 b _ h')
  refine ⟨fun d hd => ?_, fun hi => ⟨xs, ys, q, q', by rw [l.length, l'.length]; exact zip2L_len hi⟩⟩
  obtain ⟨x0, y0, hx0, hy0, rfl⟩ := zip2L_get hd
  obtain ⟨v, hv, iv⟩ := l.get hx0
  obtain ⟨w, hw, iw⟩ := l'.get hy0
  refine ⟨⟨xs, ys, v, w, q, q', hv, hw⟩, fun x H'' y => ?_⟩
  obtain ⟨T, x', y', rfl, hT, rfl, y, z⟩ := y
  have e1 := y xs q
  have e2 := z ys q'
  rw [hv] at e1
  rw [hw] at e2
  cases e1
  cases e2
  exact ⟨upd_keeps hT, fun O' m => Wk.pair hT (k.is (fun a h => m.1 a (s a h)) (iv.mo m)) (k.is (fun a h => m.1 a (s a h)) (iw.mo m))⟩
theorem Wk.rng {lo : Int} {n : Nat} : Wk O2 (Itr lo n) O ast H (rgL lo n 1) := fun i H' k => by
  unfold rgL
  refine ⟨fun d hd => ?_, fun hi => by have := hi; simp at this; exact this⟩
  rw [List.getElem?_map] at hd
  obtain ⟨j, hj, rfl⟩ := map_some hd
  obtain ⟨hi, rfl⟩ := List.getElem?_eq_some_iff.mp hj
  rw [List.length_range] at hi
  refine ⟨hi, fun x H'' y => ?_⟩
  obtain ⟨rfl, rfl⟩ := y
  rw [List.getElem_range, Int.mul_one]
  exact ⟨fun _ _ h => h, fun _ _ => .int _⟩
theorem Wk.rngC {lo cc : Int} {n : Nat} : Wk O2 (Itc lo cc n) O ast H (rgL lo n cc) := fun i H' k => by
  unfold rgL
  refine ⟨fun d hd => ?_, fun hi => by have := hi; simp at this; exact this⟩
  rw [List.getElem?_map] at hd
  obtain ⟨j, hj, rfl⟩ := map_some hd
  obtain ⟨hi, rfl⟩ := List.getElem?_eq_some_iff.mp hj
  rw [List.length_range] at hi
  refine ⟨hi, fun x H'' y => ?_⟩
  obtain ⟨rfl, rfl⟩ := y
  rw [List.getElem_range]
  exact ⟨fun _ _ h => h, fun _ _ => .int _⟩
end
end
end PT
namespace PT
open PySem PySem.Spec PyProof.Rows L2

def iSeq (K : PySem.W.Frag) (tl : TE) : TI := fun σ H R => tl σ H fun x H1 => ∃ a, x = .ref a ∧ (((∃ xs, SqL K H1 a xs) ∧ R (Itl K a) H1) ∨ ((∃ xs, SqT K H1 a xs) ∧ R (Itt K a) H1))
theorem pi_seq {X : Cx} {tg l : Expr} {tl : TE} (hl : PE X l tl) : PI X tg l (iSeq X.K tl) := by
  refine ⟨fun pins s σ H R I h => ?_⟩
  refine thn (hl.run pins s σ H _ I h) fun v s1 ⟨x, H1, I1, r1, q1⟩ => ?_
  obtain ⟨a, e, q1⟩ := q1
  subst e
  cases r1
  have hfp : ∀ b ∈ [s1.heap.objs.size], FpOk X pins H1 b := fun b hb => by
    have e : b = s1.heap.objs.size := by simpa using hb
    subst e
    exact I1.fpOk (Nat.le_refl _) (I1.hok.fresh (Nat.le_refl _))
  rcases q1 with ⟨⟨xs, hq⟩, q⟩ | ⟨⟨xs, hq⟩, q⟩
  · obtain ⟨its, rv, p, hz⟩ := I1.list hq
    refine wpAny_pyIter_list p.isList ?_
    exact ⟨s1.heap.objs.size, [s1.heap.objs.size], _, _, H1, rfl, I1.kept (t' := s1.toks) fun b o e => Heap.get?_push_of_some _ e, turn_list a _, ⟨_, Heap.get?_push_size _ rfl, rfl, rfl⟩, hfp, q⟩
  · obtain ⟨its, rv, p, hz⟩ := I1.tuple hq
    refine wpAny_pyIter_tuple (show s1.heap.IsTuple a its.toArray from p) ?_
    exact ⟨s1.heap.objs.size, [s1.heap.objs.size], _, _, H1, rfl, I1.kept (t' := s1.toks) fun b o e => Heap.get?_push_of_some _ e, turn_tuple a _, ⟨_, Heap.get?_push_size _ rfl, rfl, rfl⟩, hfp, q⟩

section
variable (cE : Exc → Addr) (W : WX) (mu : List Nat) (Φ : Fn)
/-- cl: the walk stands while the def's own lists change -/
def tI (cl : Bool) (it : It) : TI := fun σ H R => ∃ c, Rel mu c σ H ∧ pX cE W c σ H (fun ds g => ∀ J H', Fr c.ast H H' → StIs c.O c.ast H' g → Wk (if cl = true then c.O else [c.ast.a]) J c.O c.ast H' ds → R J H') (evI Φ it c.ρ c.g)
/-- how its parts are read -/
def mdI (cl : Bool) : Md := if cl = true then .cl else .tr
end
section
variable {cE : Exc → Addr} {W : WX} {mu : List Nat} {Φ : Fn} {X : Cx} {c : Cf} {σ : L2.St} {H H1 : Hp} {g : G} {md m : Md} {Q : VK} {d : D} {v : V} {pos p : Pos} {cl : Bool} {tg : Expr}
theorem Rel.sub (R : Rel mu c σ H) : ∀ a, a ∈ (if cl = true then c.O else [c.ast.a]) → a ∈ c.O := fun a h => by
  cases cl with
  | true => exact h
  | false =>
    have e : a = c.ast.a := by simpa using h
    rw [e]; exact R.ast
/-- a list that stands through the walk -/
theorem isr_list {O : List Addr} {ast : Sa} {H H1 : Hp} {v : V} {ds : List D} (ha : ast.a ∈ O) (h : IsR (mdI cl) O ast H H1 v (.list ds)) : ∃ a xs, v = .ref a ∧ H1 a = some (.lst xs) ∧ IsL O ast H1 xs ds ∧ a ∉ (if cl = true then O else [ast.a]) := by
  cases cl with
  | true =>
    have h0 : Is O ast H1 v (.list ds) := h
    clear h
    cases h0 with
    | lst h n l => exact ⟨_, _, rfl, h, l, n⟩
  | false =>
    obtain ⟨a, xs, rfl, n, h, l⟩ := (show IsT O ast H1 v (.list ds) from h).lst
    exact ⟨a, xs, rfl, h, l, fun z => n (by simpa using z)⟩
theorem isr_t {O : List Addr} {ast : Sa} {H H1 : Hp} {v : V} {d : D} (ha : ast.a ∈ O) (h : IsR (mdI cl) O ast H H1 v d) : IsT O ast H1 v d := by
  cases cl with
  | true => exact Is.t h ha
  | false => exact h
theorem si_seq {a : T} {ea : Expr} (ha : PE X ea (tE cE W mu Φ (mdI cl) a)) : PI X tg ea (tI cE W mu Φ cl (.seq a)) := by
  refine PI.mono (pi_seq ha) fun σ H R' ⟨c, R, h⟩ => ?_
  simp only [evI, pX_bind, pX_ofO] at h
  refine ⟨c, R, h.mono fun x g1 _ h v H1 f1 s1 i1 => ?_⟩
  obtain ⟨ds, ed, h⟩ := h
  cases x with
  | list es =>
    cases ed
    obtain ⟨a, xs, rfl, hx, l, n⟩ := isr_list (cl := cl) R.ast i1
    exact ⟨a, rfl, .inl ⟨⟨xs, SqL.of hx⟩, h _ H1 f1 s1 (Wk.lst R.sub n hx l)⟩⟩
  | tuple es =>
    cases ed
    obtain ⟨a, xs, rfl, hx, l⟩ := (isr_t (cl := cl) R.ast i1).tup
    exact ⟨a, rfl, .inr ⟨⟨xs, SqT.of hx⟩, h _ H1 f1 s1 (Wk.tup R.sub hx l)⟩⟩
  | _ => cases ed
theorem rgB_ok {i : Int} (h : rgB i = true) : -(2 ^ 62) ≤ i ∧ i < 2 ^ 62 := by
  unfold rgB at h
  rw [Bool.and_eq_true, decide_eq_true_eq, decide_eq_true_eq] at h
  omega
theorem int_of {O : List Addr} {ast : Sa} {H H1 : Hp} {v : V} {x : D} {i : Int} (e : intOf x = some i) (h : IsR .tr O ast H H1 v x) : v = .int i := by
  cases x with
  | int j => cases e; exact IsT.int h
  | _ => cases e
theorem si_rg1 {a : T} {ea : Expr} {x : Str} (hx : x = "range") (hg : Gl X x) (hm : X.mg x = none) (hn : nst ea = true) (ha : PE X ea (tE cE W mu Φ .tr a)) : PI X tg (.Call (.Name x p) [ea] [] pos) (tI cE W mu Φ cl (.rg1 a)) := by
  subst hx
  refine PI.mono (pi_range1 hg hm (pa_one hn ha) (hs := star_cons hn)) fun σ H R' ⟨c, R, h⟩ => ?_
  simp only [evI, pX_bind, pX_ofO] at h
  refine ⟨c, R, h.mono fun x g1 _ h v H1 f1 s1 i1 => ?_⟩
  obtain ⟨j, ej, h⟩ := h
  obtain rfl := int_of ej i1
  by_cases hr : rgB j = true
  · rw [if_pos hr] at h
    exact ⟨j, rfl, (rgB_ok hr).1, (rgB_ok hr).2, h _ H1 f1 s1 Wk.rng⟩
  · rw [if_neg hr] at h; exact (show False from h).elim
theorem si_rg2 {a b : T} {ea eb : Expr} {x : Str} (hx : x = "range") (hg : Gl X x) (hm : X.mg x = none) (hn : nst ea = true) (hn2 : nst eb = true) (ha : PE X ea (tE cE W mu Φ .tr a)) (hb : PE X eb (tE cE W mu Φ .tr b)) : PI X tg (.Call (.Name x p) [ea, eb] [] pos) (tI cE W mu Φ cl (.rg2 a b)) := by
  subst hx
  refine PI.mono (pi_range2 hg hm (pa_cons ha (pa_one hn2 hb) (star_cons hn)) (hs := by rw [star_cons hn, star_cons hn2]; rfl) (hs2 := star_cons hn2)) fun σ H R' ⟨c, R, h⟩ => ?_
  simp only [evI, pX_bind, pX_ofO] at h
  refine ⟨c, R, h.mono fun x g1 _ h v H1 f1 s1 i1 => ?_⟩
  refine ⟨_, R.step f1 s1, (h.go f1 g1).mono fun y g2 _ h w H2 f2 s2 i2 => ?_⟩
  obtain ⟨i, ei, j, ej, h⟩ := h
  obtain rfl := int_of ei i1
  obtain rfl := int_of ej i2
  by_cases hr : rgB i = true ∧ rgB j = true
  · rw [if_pos hr] at h
    exact ⟨i, j, rfl, ⟨(rgB_ok hr.1).1, (rgB_ok hr.1).2, (rgB_ok hr.2).1, (rgB_ok hr.2).2⟩, h _ H2 (f1.trans f2) s2 Wk.rng⟩
  · rw [if_neg hr] at h; exact (show False from h).elim
theorem si_rg3 {a b t : T} {ea eb et : Expr} {x : Str} (hx : x = "range") (hg : Gl X x) (hm : X.mg x = none) (hn : nst ea = true) (hn2 : nst eb = true) (hn3 : nst et = true) (ha : PE X ea (tE cE W mu Φ .tr a)) (hb : PE X eb (tE cE W mu Φ .tr b)) (ht : PE X et (tE cE W mu Φ .tr t)) : PI X tg (.Call (.Name x p) [ea, eb, et] [] pos) (tI cE W mu Φ cl (.rg3 a b t)) := by
  subst hx
  refine PI.mono (pi_range3 hg hm (pa_cons ha (pa_cons hb (pa_one hn3 ht) (star_cons hn2)) (star_cons hn)) (hs := by rw [star_cons hn]) (hpl := star_none (by simp [hn2, hn3]))) fun σ H R' ⟨c, R, h⟩ => ?_
  simp only [evI, pX_bind, pX_ofO] at h
  refine ⟨c, R, h.mono fun x g1 _ h v H1 f1 s1 i1 => ?_⟩
  refine ⟨_, R.step f1 s1, (h.go f1 g1).mono fun y g2 _ h w H2 f2 s2 i2 => ?_⟩
  refine ⟨_, R.step (f1.trans f2) s2, (h.go (f1.trans f2) g2).mono fun z g3 _ h u H3 f3 s3 i3 => ?_⟩
  obtain ⟨i, ei, j, ej, k, ek, h⟩ := h
  obtain rfl := int_of ei i1
  obtain rfl := int_of ej i2
  obtain rfl := int_of ek i3
  by_cases hr : rgB i = true ∧ rgB j = true ∧ k = -1
  · rw [if_pos hr] at h
    obtain ⟨h1, h2, rfl⟩ := hr
    exact ⟨i, j, -1, _, rfl, RgC.neg (rgB_ok h1).1 (rgB_ok h1).2 (rgB_ok h2).1 (rgB_ok h2).2, h _ H3 ((f1.trans f2).trans f3) s3 Wk.rngC⟩
  · rw [if_neg hr] at h; exact (show False from h).elim
theorem si_enu {a : T} {ea : Expr} {x : Str} {elts : List Expr} {kk : Nat} {tpos : Pos} (hx : x = "enumerate") (hg : Gl X x) (hm : X.mg x = none) (hn : nst ea = true) (ha : PE X ea (tE cE W mu Φ (mdI cl) a)) : PI X (.Tuple elts kk tpos) (.Call (.Name x p) [ea] [] pos) (tI cE W mu Φ cl (.enu a)) := by
  subst hx
  refine PI.mono (pi_enumA hg hm (pa_one hn ha) (hs := star_cons hn)) fun σ H R' ⟨c, R, h⟩ => ?_
  simp only [evI, pX_bind, pX_ofO] at h
  refine ⟨c, R, h.mono fun x g1 _ h v H1 f1 s1 i1 => ?_⟩
  obtain ⟨ds, ed, h⟩ := h
  cases x with
  | list es =>
    cases ed
    obtain ⟨a, xs, rfl, hx, l, n⟩ := isr_list (cl := cl) R.ast i1
    exact ⟨a, xs, rfl, .inl ⟨SqL.of hx, h _ H1 f1 s1 (Wk.enu R.sub n hx l)⟩⟩
  | tuple es =>
    cases ed
    obtain ⟨a, xs, rfl, hx, l⟩ := (isr_t (cl := cl) R.ast i1).tup
    exact ⟨a, xs, rfl, .inr ⟨SqT.of hx, h _ H1 f1 s1 (Wk.enuT R.sub hx l)⟩⟩
  | _ => cases ed
theorem si_zip {a b : T} {ea eb : Expr} {x : Str} {elts : List Expr} {kk : Nat} {tpos : Pos} (hx : x = "zip") (hg : Gl X x) (hm : X.mg x = none) (hn : nst ea = true) (hn2 : nst eb = true) (ha : PE X ea (tE cE W mu Φ (mdI cl) a)) (hb : PE X eb (tE cE W mu Φ (mdI cl) b)) : PI X (.Tuple elts kk tpos) (.Call (.Name x p) [ea, eb] [] pos) (tI cE W mu Φ cl (.zip2 a b)) := by
  subst hx
  refine PI.mono (RZ.pi_zipA hg hm (pa_cons ha (pa_one hn2 hb) (star_cons hn)) (hs := star_cons hn) (hpl := star_none (by simp [hn2]))) fun σ H R' ⟨c, R, h⟩ => ?_
  simp only [evI, pX_bind, pX_ofO] at h
  refine ⟨c, R, h.mono fun x g1 _ h v H1 f1 s1 i1 => ?_⟩
  refine ⟨_, R.step f1 s1, (h.go f1 g1).mono fun y g2 _ h w H2 f2 s2 i2 => ?_⟩
  obtain ⟨zs, ez, h⟩ := h
  cases x with
  | list xs =>
    cases y with
    | list ys =>
      cases ez
      obtain ⟨a, vs, rfl, hx, l, n⟩ := isr_list (cl := cl) R.ast i1
      obtain ⟨b, ws, rfl, hy, l', n'⟩ := isr_list (cl := cl) R.ast i2
      have na : a ≠ c.ast.a := fun e => by
        cases cl with
        | true => exact n (show a ∈ c.O from e ▸ R.ast)
        | false => exact n (by simp [e])
      have hx2 := f2 a _ na hx
      exact ⟨a, b, vs, ws, rfl, .inl ⟨SqL.of hx2, SqL.of hy, h _ H2 (f1.trans f2) s2 (Wk.zip R.sub n n' hx2 (l.fr R.ast f2 s1.nt) hy l')⟩⟩
    | _ => cases ez
  | tuple xs =>
    cases y with
    | tuple ys =>
      cases ez
      obtain ⟨a, vs, rfl, hx, l⟩ := (isr_t (cl := cl) R.ast i1).tup
      obtain ⟨b, ws, rfl, hy, l'⟩ := (isr_t (cl := cl) R.ast i2).tup
      have hx2 := f2.tups s1.nt a _ hx
      exact ⟨a, b, vs, ws, rfl, .inr ⟨SqT.of hx2, SqT.of hy, h _ H2 (f1.trans f2) s2 (Wk.zipT R.sub hx2 (l.fr R.ast f2 s1.nt) hy l')⟩⟩
    | _ => cases ez
  | _ => cases y <;> cases ez
theorem rgV_is {O : List Addr} {ast : Sa} {H : Hp} (a b : Int) : IsL O ast H (rgV a b) (rgL a (b - a).toNat 1) := by
  unfold rgV rgL
  have e1 : (List.range (b - a).toNat).map (fun k => PyData.int (a + (k : Nat) * 1)) = ((List.range (b - a).toNat).map fun k => a + (k : Nat)).map PyData.int := by
    rw [List.map_map]; apply List.map_congr_left; intro k _; simp
  have e2 : (List.range (b - a).toNat).map (fun k => V.int (a + (k : Nat))) = ((List.range (b - a).toNat).map fun k => a + (k : Nat)).map V.int := by rw [List.map_map]; rfl
  rw [e1, e2]
  exact IsL.ofInts _
theorem se_lrg1 {a : T} {ea : Expr} {x y : Str} {p2 q : Pos} (hc : X.calm = true) (hx : x = "list") (hy : y = "range") (hg : Gl X x) (hm : X.mg x = none) (hg2 : Gl X y) (hm2 : X.mg y = none) (hn : nst ea = true) (ha : PE X ea (tE cE W mu Φ .tr a)) :
    PE X (.Call (.Name x p) [.Call (.Name y p2) [ea] [] q] [] pos) (tE cE W mu Φ md (.lrg (.rg1 a))) := by
  subst hx hy
  refine PE.mono (pe_listRg hc hg hm (prg_1 hg2 hm2 ha (star_cons hn))) fun σ H Q ⟨c, R, h⟩ => ?_
  simp only [evE, evI, pX_bind, pX_ofO] at h
  refine ⟨c, R, h.mono fun x g1 _ h v H1 f1 s1 i1 => ?_⟩
  obtain ⟨j, ej, h⟩ := h
  obtain rfl := int_of ej i1
  by_cases hr : rgB j = true
  · rw [if_pos hr] at h
    by_cases hz : (rgL 0 j.toNat 1).length ≤ sizeLine
    · have h : kE md c H Q (.list (rgL 0 j.toNat 1)) g1 := by
        have h : pX cE W c σ H (kE md c H Q) (if (rgL 0 j.toNat 1).length ≤ sizeLine then .ok (.list (rgL 0 j.toNat 1)) g1 else .bad) := h
        rw [if_pos hz] at h; exact h
      refine ⟨j, rfl, ⟨by omega, by omega, (rgB_ok hr).1, (rgB_ok hr).2, ?_⟩, fun q hq => ?_⟩
      · rw [sizeLine_eq] at hz; unfold rgL at hz; rw [List.length_map, List.length_range] at hz; rw [Int.sub_zero]; omega
      · have := rgV_is (O := c.O) (ast := c.ast) (H := H1) 0 j
        rw [Int.sub_zero] at this
        exact h _ _ (f1.trans (Fr.upd hq)) (s1.upd R.ast hq) ((isF_new R.ast s1 hq this).back s1.lt f1 |>.r R.al R.ast)
    · have h : pX cE W c σ H (kE md c H Q) (if (rgL 0 j.toNat 1).length ≤ sizeLine then .ok (.list (rgL 0 j.toNat 1)) g1 else .bad) := h
      rw [if_neg hz] at h; exact (show False from h).elim
  · rw [if_neg hr] at h; exact (show False from h).elim
theorem se_lrg2 {a b : T} {ea eb : Expr} {x y : Str} {p2 q : Pos} (hc : X.calm = true) (hx : x = "list") (hy : y = "range") (hg : Gl X x) (hm : X.mg x = none) (hg2 : Gl X y) (hm2 : X.mg y = none) (hn : nst ea = true) (hn2 : nst eb = true) (ha : PE X ea (tE cE W mu Φ .tr a)) (hb : PE X eb (tE cE W mu Φ .tr b)) :
    PE X (.Call (.Name x p) [.Call (.Name y p2) [ea, eb] [] q] [] pos) (tE cE W mu Φ md (.lrg (.rg2 a b))) := by
  subst hx hy
  refine PE.mono (pe_listRg hc hg hm (prg_2 hg2 hm2 ha hb (star_cons hn) (star_cons hn2) (star_none (by simp [hn2])))) fun σ H Q ⟨c, R, h⟩ => ?_
  simp only [evE, evI, pX_bind, pX_ofO] at h
  refine ⟨c, R, h.mono fun x g1 _ h v H1 f1 s1 i1 => ?_⟩
  refine ⟨_, R.step f1 s1, (h.go f1 g1).mono fun y g2 _ h w H2 f2 s2 i2 => ?_⟩
  obtain ⟨i, ei, j, ej, h⟩ := h
  obtain rfl := int_of ei i1
  obtain rfl := int_of ej i2
  by_cases hr : rgB i = true ∧ rgB j = true
  · rw [if_pos hr] at h
    have h : pX cE W c σ H (kE md c H Q) (if (rgL i (j - i).toNat 1).length ≤ sizeLine then .ok (.list (rgL i (j - i).toNat 1)) g2 else .bad) := h
    by_cases hz : (rgL i (j - i).toNat 1).length ≤ sizeLine
    · rw [if_pos hz] at h
      refine ⟨i, j, rfl, rfl, ⟨(rgB_ok hr.1).1, (rgB_ok hr.1).2, (rgB_ok hr.2).1, (rgB_ok hr.2).2, ?_⟩, fun q hq => ?_⟩
      · rw [sizeLine_eq] at hz; unfold rgL at hz; rw [List.length_map, List.length_range] at hz; omega
      · exact (show kE md c H Q _ g2 from h) _ _ ((f1.trans f2).trans (Fr.upd hq)) (s2.upd R.ast hq) ((isF_new R.ast s2 hq (rgV_is i j)).back s2.lt (f1.trans f2) |>.r R.al R.ast)
    · rw [if_neg hz] at h; exact (show False from h).elim
  · rw [if_neg hr] at h; exact (show False from h).elim
end
end PT
namespace PT
open PySem PySem.Spec PyProof.Rows L2

theorem sv_len : ∀ (ρ : Env) (i : Nat) (x : Option D), (sv ρ i x).length = ρ.length
  | [], _, _ => rfl
  | _ :: _, 0, _ => rfl
  | _ :: r, i + 1, x => by simp only [sv, List.length_cons, sv_len r]
theorem gv_sv : ∀ (ρ : Env) (i j : Nat) (x : Option D), gv (sv ρ i x) j = if i = j ∧ i < ρ.length then x else gv ρ j
  | [], i, j, x => by simp [sv, gv]
  | y :: r, 0, 0, x => by simp [sv, gv]
  | y :: r, 0, j + 1, x => by simp [sv, gv]
  | y :: r, i + 1, 0, x => by simp [sv, gv]
  | y :: r, i + 1, j + 1, x => by
    simp only [sv, gv, gv_sv r i j x, List.length_cons, Nat.add_lt_add_iff_right, Nat.add_right_cancel_iff]
theorem set_get {σ : L2.St} {i j : Nat} {x : Option V} : (σ.set i x)[j]? = if i = j ∧ i < σ.length then some x else σ[j]? := by
  by_cases e : i = j
  · subst e
    by_cases h : i < σ.length
    · rw [List.getElem?_set_self h, if_pos ⟨rfl, h⟩]
    · rw [if_neg (fun z => h z.2), List.getElem?_eq_none (by simpa using h), List.getElem?_eq_none (by simpa using h)]
  · rw [List.getElem?_set_ne e, if_neg (fun z => e z.1)]
theorem wipe_get {σ : L2.St} {j : Nat} : ∀ {vs : List Nat}, (wipe σ vs)[j]? = if j ∈ vs ∧ j < σ.length then some none else σ[j]?
  | [] => by simp [wipe]
  | v :: vs => by
    unfold wipe
    rw [set_get, wipe_length, wipe_get (vs := vs)]
    by_cases e : v = j
    · subst e
      by_cases h : v < σ.length <;> simp [h]
    · rw [if_neg (fun z => e z.1)]
      have : j ≠ v := fun z => e z.symm
      simp [this]
theorem wipeE_len (ρ : Env) : ∀ vs : List Nat, (wipeE ρ vs).length = ρ.length
  | [] => rfl
  | v :: vs => by rw [wipeE, sv_len, wipeE_len ρ vs]
theorem gv_none {ρ : Env} {j : Nat} (h : ρ.length ≤ j) : gv ρ j = none := by
  cases q : gv ρ j with
  | none => rfl
  | some d =>
    have := gv_some q
    rw [List.getElem?_eq_none h] at this
    cases this
theorem gv_wipeE {ρ : Env} {j : Nat} : ∀ {vs : List Nat}, gv (wipeE ρ vs) j = if j ∈ vs then none else gv ρ j
  | [] => by simp [wipeE]
  | v :: vs => by
    rw [wipeE, gv_sv, wipeE_len, gv_wipeE (vs := vs)]
    by_cases e : v = j
    · subst e
      by_cases h : v < ρ.length
      · simp [h]
      · simp [h, gv_none (Nat.le_of_not_lt h)]
    · rw [if_neg (fun z => e z.1)]
      have : j ≠ v := fun z => e z.symm
      simp [this]
section
variable {cE : Exc → Addr} {W : WX} {mu : List Nat} {Φ : Fn} {X : Cx} {c : Cf} {σ : L2.St} {H H1 : Hp} {g : G} {md m : Md} {Q : VK} {d : D} {v : V} {pos p : Pos}
theorem Rel.setv (R : Rel mu c σ H) {i : Nat} (hi : i ∉ mu) (h : Is c.O c.ast H v d) : Rel mu { c with ρ := sv c.ρ i (some d) } (σ.set i (some v)) H where
  ast := R.ast
  al := R.al
  len := by rw [List.length_set]; show σ.length = (sv c.ρ i (some d)).length; rw [sv_len]; exact R.len
  st := R.st
  fr0 := R.fr0
  val := fun j e hj hm => by
    have hj : gv (sv c.ρ i (some d)) j = some e := hj
    rw [gv_sv] at hj
    rw [set_get]
    by_cases q : i = j ∧ i < c.ρ.length
    · rw [if_pos q] at hj
      cases hj
      rw [R.len, if_pos q]
      exact ⟨v, rfl, h⟩
    · rw [if_neg q] at hj
      rw [R.len, if_neg q]
      exact R.val j e hj hm
  own := fun j e hj hm => by
    have hj : gv (sv c.ρ i (some d)) j = some e := hj
    have ne : i ≠ j := fun z => hi (z ▸ hm)
    rw [gv_sv, if_neg (fun z => ne z.1)] at hj
    obtain ⟨a, xs, ds, h1, r⟩ := R.own j e hj hm
    exact ⟨a, xs, ds, by rw [set_get, if_neg (fun z => ne z.1)]; exact h1, r⟩
  inj := fun j k a hj hk e1 e2 e3 e4 => by
    have ne : i ≠ j := fun z => hi (z ▸ hj)
    have ne2 : i ≠ k := fun z => hi (z ▸ hk)
    have e1 : gv (sv c.ρ i (some d)) j ≠ none := e1
    have e2 : gv (sv c.ρ i (some d)) k ≠ none := e2
    rw [gv_sv, if_neg (fun z => ne z.1)] at e1
    rw [gv_sv, if_neg (fun z => ne2 z.1)] at e2
    rw [set_get, if_neg (fun z => ne z.1)] at e3
    rw [set_get, if_neg (fun z => ne2 z.1)] at e4
    exact R.inj j k a hj hk e1 e2 e3 e4
theorem Rel.wipe (R : Rel mu c σ H) (vs : List Nat) : Rel mu { c with ρ := wipeE c.ρ vs } (L2.wipe σ vs) H where
  ast := R.ast
  al := R.al
  len := by rw [wipe_length]; show σ.length = (wipeE c.ρ vs).length; rw [wipeE_len]; exact R.len
  st := R.st
  fr0 := R.fr0
  val := fun j e hj hm => by
    have hj : gv (wipeE c.ρ vs) j = some e := hj
    rw [gv_wipeE] at hj
    by_cases q : j ∈ vs
    · rw [if_pos q] at hj; cases hj
    · rw [if_neg q] at hj
      rw [wipe_get, if_neg (fun z => q z.1)]
      exact R.val j e hj hm
  own := fun j e hj hm => by
    have hj : gv (wipeE c.ρ vs) j = some e := hj
    rw [gv_wipeE] at hj
    by_cases q : j ∈ vs
    · rw [if_pos q] at hj; cases hj
    · rw [if_neg q] at hj
      rw [wipe_get, if_neg (fun z => q z.1)]
      exact R.own j e hj hm
  inj := fun j k a hj hk e1 e2 e3 e4 => by
    have e1 : gv (wipeE c.ρ vs) j ≠ none := e1
    have e2 : gv (wipeE c.ρ vs) k ≠ none := e2
    rw [gv_wipeE] at e1 e2
    by_cases q : j ∈ vs
    · rw [if_pos q] at e1; exact absurd rfl e1
    · by_cases q2 : k ∈ vs
      · rw [if_pos q2] at e2; exact absurd rfl e2
      · rw [if_neg q] at e1
        rw [if_neg q2] at e2
        rw [wipe_get, if_neg (fun z => q z.1)] at e3
        rw [wipe_get, if_neg (fun z => q2 z.1)] at e4
        exact R.inj j k a hj hk e1 e2 e3 e4
/-- into a heap with one list more, that only we write -/
theorem Rel.over (R : Rel mu c σ H) {p : Addr} {o : HO} {g' : G} (hp : H p = none) (f : Fr c.ast H H1) (hp1 : H1 p = some o) (s : StIs (p :: c.O) c.ast H1 g') : Rel mu { c with O := p :: c.O, g := g' } σ H1 where
  ast := List.mem_cons_of_mem _ R.ast
  al := fun a ha => by
    rcases List.mem_cons.mp ha with e | e
    · rw [e, hp1]; exact fun z => nomatch z
    · exact (R.al.fr f s.lt) a e
  len := R.len
  st := s
  fr0 := R.fr0.trans f
  val := fun i d e n => by
    obtain ⟨v, h1, h2⟩ := R.val i d e n
    exact ⟨v, h1, (h2.more hp).keep (fun b o e n => f b o (fun z => n (z ▸ List.mem_cons_of_mem _ R.ast)) e) (f.tups R.st.nt)⟩
  own := fun i d e n => by
    obtain ⟨a, xs, ds, h1, h2, h3, h4, h5, h6, h7⟩ := R.own i d e n
    exact ⟨a, xs, ds, h1, h2, List.mem_cons_of_mem _ h3, h4, h5, f _ _ h4 h6, (h7.more hp).keep (fun b o e n => f b o (fun z => n (z ▸ List.mem_cons_of_mem _ R.ast)) e) (f.tups R.st.nt)⟩
  inj := R.inj
end
mutual
def slT : Tg → List Nat
  | .n i => [i]
  | .tup ts => slTs ts
def slTs : List Tg → List Nat
  | [] => []
  | t :: ts => slT t ++ slTs ts
end
mutual
def gT (K : PySem.W.Frag) : Tg → TG
  | .n i => gName i
  | .tup ts => gTup K ts.length (gTs K ts)
def gTs (K : PySem.W.Frag) : List Tg → TGs
  | [] => gNil
  | t :: ts => gCons (gT K t) (gTs K ts)
end
theorem bindTs_len : ∀ {ts : List Tg} {ds : List D} {ρ ρ' : Env}, bindTs ts ds ρ = some ρ' → ds.length = ts.length
  | [], [], _, _, _ => rfl
  | [], _ :: _, _, _, h => by simp [bindTs] at h
  | _ :: _, [], _, _, h => by simp [bindTs] at h
  | t :: ts, d :: ds, ρ, ρ', h => by
    simp only [bindTs] at h
    cases q : bindT t d ρ with
    | none => rw [q] at h; cases h
    | some ρ1 =>
      rw [q] at h
      rw [List.length_cons, List.length_cons, bindTs_len (show bindTs ts ds ρ1 = some ρ' from h)]
mutual
theorem bindT_len : ∀ {t : Tg} {d : D} {ρ ρ' : Env}, bindT t d ρ = some ρ' → ρ'.length = ρ.length
  | .n i, d, ρ, ρ', h => by simp only [bindT] at h; cases h; exact sv_len _ _ _
  | .tup ts, d, ρ, ρ', h => by
    cases d with
    | tuple ds => simp only [bindT] at h; exact bindTs_len2 h
    | _ => simp [bindT] at h
theorem bindTs_len2 : ∀ {ts : List Tg} {ds : List D} {ρ ρ' : Env}, bindTs ts ds ρ = some ρ' → ρ'.length = ρ.length
  | [], [], ρ, ρ', h => by simp only [bindTs] at h; cases h; rfl
  | [], _ :: _, _, _, h => by simp [bindTs] at h
  | _ :: _, [], _, _, h => by simp [bindTs] at h
  | t :: ts, d :: ds, ρ, ρ', h => by
    simp only [bindTs] at h
    cases q : bindT t d ρ with
    | none => rw [q] at h; cases h
    | some ρ1 =>
      rw [q] at h
      rw [bindTs_len2 (show bindTs ts ds ρ1 = some ρ' from h), bindT_len q]
end
section
variable {mu : List Nat} {K : PySem.W.Frag}
mutual
theorem gT_ok {H : Hp} : ∀ {t : Tg} {d : D} {v : V} {c : Cf} {σ : L2.St} {ρ' : Env} {R : L2.St → Hp → Prop}, bindT t d c.ρ = some ρ' → Is c.O c.ast H v d → Rel mu c σ H → (∀ i ∈ slT t, i ∉ mu) → (∀ σ', Rel mu { c with ρ := ρ' } σ' H → (∀ j, j ∉ slT t → σ'[j]? = σ[j]?) → R σ' H) → gT K t v σ H R
  | .n i, d, v, c, σ, ρ', R, hb, iv, rel, hm, k => by
    simp only [bindT] at hb
    cases hb
    simp only [gT]
    exact k _ (rel.setv (hm i (by simp [slT])) iv) fun j hj => by rw [set_get, if_neg (fun z => hj (by simp [slT, z.1]))]
  | .tup ts, d, v, c, σ, ρ', R, hb, iv, rel, hm, k => by
    cases d with
    | tuple ds =>
      simp only [bindT] at hb
      cases iv with
      | tup h l =>
        simp only [gT]
        exact ⟨_, _, rfl, SqT.of h, by rw [l.length]; exact bindTs_len hb, gTs_ok hb l rel (fun i hi => hm i (by simpa [slT] using hi)) fun σ' r a => k σ' r fun j hj => a j (by simpa [slT] using hj)⟩
    | _ => simp [bindT] at hb
theorem gTs_ok {H : Hp} : ∀ {ts : List Tg} {ds : List D} {vs : List V} {c : Cf} {σ : L2.St} {ρ' : Env} {R : L2.St → Hp → Prop}, bindTs ts ds c.ρ = some ρ' → IsL c.O c.ast H vs ds → Rel mu c σ H → (∀ i ∈ slTs ts, i ∉ mu) → (∀ σ', Rel mu { c with ρ := ρ' } σ' H → (∀ j, j ∉ slTs ts → σ'[j]? = σ[j]?) → R σ' H) → gTs K ts vs σ H R
  | [], [], vs, c, σ, ρ', R, hb, l, rel, hm, k => by
    simp only [bindTs] at hb
    cases hb
    cases l
    simp only [gTs]
    exact ⟨rfl, k σ rel fun _ _ => rfl⟩
  | [], _ :: _, _, _, _, _, _, hb, _, _, _, _ => by simp [bindTs] at hb
  | _ :: _, [], _, _, _, _, _, hb, _, _, _, _ => by simp [bindTs] at hb
  | t :: ts, d :: ds, vs, c, σ, ρ', R, hb, l, rel, hm, k => by
    simp only [bindTs] at hb
    cases q : bindT t d c.ρ with
    | none => rw [q] at hb; cases hb
    | some ρ1 =>
      rw [q] at hb
      cases l with
      | cons h l =>
        simp only [gTs]
        refine ⟨_, _, rfl, gT_ok q h rel (fun i hi => hm i (by simp [slTs, hi])) fun σ1 r1 a1 => ?_⟩
        exact gTs_ok (c := { c with ρ := ρ1 }) (show bindTs ts ds ρ1 = some ρ' from hb) l r1 (fun i hi => hm i (by simp [slTs, hi])) fun σ2 r2 a2 => k σ2 r2 fun j hj => by
          simp only [slTs, List.mem_append, not_or] at hj
          rw [a2 j hj.2, a1 j hj.1]
end
end
theorem wipe_same {σ σ2 : L2.St} {vs : List Nat} (hl : σ2.length = σ.length) (h : ∀ j, j ∉ vs → σ2[j]? = σ[j]?) : L2.wipe σ2 vs = L2.wipe σ vs := by
  apply List.ext_getElem?
  intro j
  rw [wipe_get, wipe_get, hl]
  by_cases q : j ∈ vs
  · by_cases q2 : j < σ.length
    · rw [if_pos ⟨q, q2⟩, if_pos ⟨q, q2⟩]
    · rw [if_neg (fun z => q2 z.2), if_neg (fun z => q2 z.2), List.getElem?_eq_none (by omega), List.getElem?_eq_none (by omega)]
  · rw [if_neg (fun z => q z.1), if_neg (fun z => q z.1), h j q]
theorem wipe_wipe {σ : L2.St} {vs : List Nat} : L2.wipe (L2.wipe σ vs) vs = L2.wipe σ vs := by
  apply List.ext_getElem?
  intro j
  rw [wipe_get, wipe_length, wipe_get]
  by_cases q : j ∈ vs ∧ j < σ.length <;> simp [q]
def nW : WX := fun _ _ _ _ => False
section
variable {cE : Exc → Addr} {W : WX} {mu : List Nat} {Φ : Fn} {X : Cx} {c : Cf} {σ : L2.St} {H H1 : Hp} {g : G} {md m : Md} {Q : VK} {d : D} {v : V} {pos p : Pos}
theorem lcEnd_ok {K : D → G → Prop} {r : Res (List D)} (h : pX cE W c σ H K (lcEnd r)) : ∃ ys g', r = .ok ys g' ∧ ys.length ≤ sizeLine ∧ K (.list ys) g' := by
  cases r with
  | ok ys g' =>
    unfold lcEnd at h
    rw [Res.nox_ok, Res.bind_ok] at h
    by_cases hz : ys.length ≤ sizeLine
    · rw [if_pos hz] at h; exact ⟨ys, g', rfl, hz, h⟩
    · rw [if_neg hz] at h; exact (show False from h).elim
  | exc x g => exact (show False from h).elim
  | bad => exact (show False from h).elim
theorem lcGo_len {F : D → G → Res (List D)} : ∀ {xs acc ys : List D} {g g' : G}, lcGo F xs acc g = .ok ys g' → acc.length ≤ ys.length
  | [], acc, ys, g, g', h => by simp only [lcGo] at h; cases h; exact Nat.le_refl _
  | x :: xs, acc, ys, g, g', h => by
    simp only [lcGo] at h
    cases q : F x g with
    | ok zs g1 =>
      rw [q, Res.bind_ok] at h
      have := lcGo_len h
      rw [List.length_append] at this
      omega
    | exc x g => rw [q] at h; cases h
    | bad => rw [q] at h; cases h
def tC' (cE : Exc → Addr) (W : WX) (mu : List Nat) (Φ : Fn) (o : Op) : TT := fun σ H Q => ∃ c, Rel mu c σ H ∧ pX cE W c σ H (fun b g => ∀ H', Fr c.ast H H' → StIs c.O c.ast H' g → Q b H') (evC Φ o c.ρ c.g)
theorem PTs.mono {X : Cx} {e : List Expr} {t t' : TT} (h : PTs X e t) (k : ∀ σ H Q, t' σ H Q → t σ H Q) : PTs X e t' := ⟨fun pins s σ H Q I q => h.run pins s σ H Q I (k σ H Q q)⟩
theorem sc_no : PTs X [] (tC' cE W mu Φ .no) := PTs.mono pts_nil fun σ H Q ⟨c, R, h⟩ => by
  simp only [evC] at h
  exact h H Fr.refl R.st
theorem sc_yes {a : T} {ea : Expr} (ha : L2.PT X ea (tP cE W mu Φ a)) : PTs X [ea] (tC' cE W mu Φ (.yes a)) := PTs.mono (pts_one ha) fun σ H Q ⟨c, R, h⟩ => by
  rw [evC] at h
  exact ⟨c, R, h⟩
theorem bind_okE {α β : Type} {r : Res α} {f : α → G → Res β} {y : β} {g' : G} (h : r.bind f = .ok y g') : ∃ x g1, r = .ok x g1 ∧ f x g1 = .ok y g' := by
  cases r with
  | ok x g1 => exact ⟨x, g1, rfl, h⟩
  | exc x g => cases h
  | bad => cases h
theorem ne_in {a p : Addr} {O : List Addr} (hO : p ∈ O) (n : a ∉ O) : a ≠ p := fun z => n (by rw [z]; exact hO)
/-- the new list takes one more -/
theorem StIs.push {p : Addr} {O : List Addr} {ast : Sa} {H : Hp} {g : G} {ys : List V} (s : StIs O ast H g) (hO : p ∈ O) (ne : p ≠ ast.a) : StIs O ast (L2.upd H p (.lst ys)) g :=
  s.at (upd_ne fun z => ne z.symm) (upd_ne fun z => s.nO (by rw [z]; exact hO))
theorem StIs.cons {p : Addr} {O : List Addr} {ast : Sa} {H H0 : Hp} {g g0 : G} (s : StIs O ast H g) (s0 : StIs O ast H0 g0) (h : H0 p = none) : StIs (p :: O) ast H g := s.oo fun z => by
  rcases List.mem_cons.mp z with e | e
  · exact s0.qne (by rw [e]; exact h)
  · exact s.nO e
theorem StIs.all {O : List Addr} {ast : Sa} {H H' : Hp} {g : G} (s : StIs O ast H g) (f : ∀ a o, H a = some o → H' a = some o) : StIs O ast H' g := by
  obtain ⟨ns, ms, e, q1, q2⟩ := s.ex
  exact ⟨s.nO, s.ne, ns, ms, e, f _ _ q1, f _ _ q2⟩
theorem IsL.push {p : Addr} {O : List Addr} {ast : Sa} {H : Hp} {xs ys vs : List V} {ds : List D} (l : IsL O ast H vs ds) (hO : p ∈ O) (hp : H p = some (.lst xs)) : IsL O ast (upd H p (.lst ys)) vs ds :=
  l.keep (fun a o e n => by rw [upd_ne (ne_in hO n)]; exact e) (fun a ws e => by
    by_cases z : a = p
    · rw [z, hp] at e; cases e
    · rw [upd_ne z]; exact e)
theorem Is.push {p : Addr} {O : List Addr} {ast : Sa} {H : Hp} {xs ys : List V} {v : V} {d : D} (l : Is O ast H v d) (hO : p ∈ O) (hp : H p = some (.lst xs)) : Is O ast (upd H p (.lst ys)) v d :=
  l.keep (fun a o e n => by rw [upd_ne (ne_in hO n)]; exact e) (fun a ws e => by
    by_cases z : a = p
    · rw [z, hp] at e; cases e
    · rw [upd_ne z]; exact e)
theorem drop_cons {α : Type} {xs : List α} {i : Nat} {x : α} (h : xs[i]? = some x) : xs.drop i = x :: xs.drop (i + 1) := by
  obtain ⟨hi, rfl⟩ := List.getElem?_eq_some_iff.mp h
  exact List.drop_eq_getElem_cons hi
/-- the body of a comprehension -/
def lcF (Φ : Fn) (own : List Nat) (tg : Tg) (ifs : Op) (elt : T) (ρ : Env) : D → G → Res (List D) := fun x g => match bindT tg x (wipeE ρ own) with
  | some ρ' => (evC Φ ifs ρ' g).bind fun b g => if b = true then (evE Φ elt ρ' g).bind fun y g => .ok [y] g else .ok [] g
  | none => .bad
theorem evE_lc {own : List Nat} {tg : Tg} {it : It} {ifs : Op} {elt : T} {ρ : Env} {g : G} : evE Φ (.lc own tg it ifs elt) ρ g = (evI Φ it ρ g).bind fun xs g => lcEnd (lcGo (lcF Φ own tg ifs elt ρ) xs [] g) := by
  rw [evE]; rfl
theorem lc_main {own : List Nat} {tg : Tg} {it : It} {opt : Op} {el : T} {K : PySem.W.Frag} (hsl : ∀ i ∈ slT tg, i ∈ own) (hmu : ∀ i ∈ slT tg, i ∉ mu) {σ : L2.St} {H : Hp} {Q : VK}
    (h : tE cE W mu Φ md (.lc own tg it opt el) σ H Q) : tLc (tI cE W mu Φ false it) (gT K tg) (tC' cE nW mu Φ opt) (tE cE nW mu Φ .cl el) own σ H Q := by
  obtain ⟨c, R, h⟩ := h
  rw [evE_lc, pX_bind] at h
  refine ⟨c, R, h.mono fun xs g1 _ h J H1 f1 s1 wk => ?_⟩
  obtain ⟨ys, g', eg, hz, k⟩ := lcEnd_ok h
  intro Dn hD
  have hDa : Dn ≠ c.ast.a := fun e => s1.lt (by rw [← e]; exact hD)
  have mo : Mo c.O (Dn :: c.O) H1 := ⟨fun a h => List.mem_cons_of_mem _ h, fun a h => by
    rcases List.mem_cons.mp h with e | e
    · rw [e]; exact .inr hD
    · exact .inl e⟩
  have R1 := R.step f1 s1
  refine ⟨fun i m H2 => m = xs.length - i ∧ i ≤ xs.length ∧ ∃ g2 acc vacc, Fr c.ast H1 H2 ∧ StIs (Dn :: c.O) c.ast H2 g2 ∧ H2 Dn = some (.lst vacc) ∧ IsL (Dn :: c.O) c.ast H2 vacc acc ∧ lcGo (lcF Φ own tg opt el c.ρ) (xs.drop i) acc g2 = .ok ys g',
    ⟨xs.length, rfl, Nat.zero_le _, g1, [], [], Fr.upd hD, ?_, upd_same, .nil, eg⟩, ?_⟩
  · exact (s1.cons s1 hD).all (upd_keeps hD)
  rintro i m H2 ⟨rfl, hi, g2, acc, vacc, f2, s2, hDn, lacc, eg⟩
  have kp : Kp [c.ast.a] H1 H2 := Kp.of_fr f2 s1.nt
  have w := wk i H2 kp
  by_cases hlt : i < xs.length
  · have hx : xs[i]? = some xs[i] := List.getElem?_eq_getElem hlt
    rw [drop_cons hx, lcGo] at eg
    obtain ⟨zs, g3, ez, eg⟩ := bind_okE eg
    obtain ⟨wg, wy⟩ := w.1 _ hx
    refine .inr ⟨wg, fun H' => i + 1 ≤ xs.length ∧ ∃ g2 acc vacc, Fr c.ast H1 H' ∧ StIs (Dn :: c.O) c.ast H' g2 ∧ H' Dn = some (.lst vacc) ∧ IsL (Dn :: c.O) c.ast H' vacc acc ∧ lcGo (lcF Φ own tg opt el c.ρ) (xs.drop (i + 1)) acc g2 = .ok ys g', fun H' inv => ⟨xs.length - (i + 1), by omega, rfl, inv⟩, fun v H3 y => ?_⟩
    obtain ⟨f3, iv⟩ := wy v H3 y
    have f3' : Fr c.ast H2 H3 := fun a o _ e => f3 a o e
    have s3 : StIs (Dn :: c.O) c.ast H3 g2 := s2.all f3
    have hDn3 := f3 _ _ hDn
    have R3 : Rel mu { c with O := Dn :: c.O, g := g2 } σ H3 := R1.over (c := { c with g := g1 }) hD (f2.trans f3') hDn3 s3
    have R4 := R3.wipe own
    unfold lcF at ez
    cases eb : bindT tg xs[i] (wipeE c.ρ own) with
    | none => rw [eb] at ez; cases ez
    | some ρ' =>
      rw [eb] at ez
      obtain ⟨b, g4, ec, ez⟩ := bind_okE ez
      have Rt : ∀ {R : L2.St → Hp → Prop}, (∀ σ', Rel mu { c with O := Dn :: c.O, g := g2, ρ := ρ' } σ' H3 → (∀ j, j ∉ slT tg → σ'[j]? = (L2.wipe σ own)[j]?) → R σ' H3) → gT K tg v (L2.wipe σ own) H3 R := fun hR => gT_ok (c := { c with O := Dn :: c.O, g := g2, ρ := wipeE c.ρ own }) eb (iv _ mo) R4 hmu hR
      refine Rt fun σ5 R5 ag => ⟨?_, ?_⟩
      · rw [wipe_same (R5.len.trans ((bindT_len eb).trans R4.len.symm)) (fun j hj => ag j fun z => hj (hsl j z)), wipe_wipe]
      refine ⟨_, R5, ?_⟩
      show pX cE nW _ σ5 H3 _ (evC Φ opt ρ' g2)
      rw [ec]
      intro H4 f4 s4
      cases b with
      | false =>
        cases ez
        rw [List.append_nil] at eg
        exact ⟨hlt, g3, acc, vacc, (f2.trans f3').trans f4, s4, f4 _ _ hDa hDn3, (lacc.keep (fun a o e n => f3 a o e) (fun a ws e => f3 a _ e)).fr (List.mem_cons_of_mem _ R.ast) f4 s3.nt, eg⟩
      | true =>
        obtain ⟨y, g5, ey, ez⟩ := bind_okE (show ((evE Φ el ρ' g4).bind fun y g => Res.ok [y] g) = .ok zs g3 from ez)
        cases ez
        refine ⟨_, R5.step f4 s4, ?_⟩
        show pX cE nW _ σ5 H4 _ (evE Φ el ρ' g4)
        rw [ey]
        intro u H5 f5 s5 iu
        have hDn5 := f5 _ _ hDa (f4 _ _ hDa hDn3)
        have lacc3 : IsL (Dn :: c.O) c.ast H3 vacc acc := lacc.keep (fun a o e n => f3 a o e) (fun a ws e => f3 a _ e)
        have lacc5 := (lacc3.fr (List.mem_cons_of_mem _ R.ast) f4 s3.nt).fr (List.mem_cons_of_mem _ R.ast) f5 s4.nt
        have hlen := lcGo_len eg
        rw [List.length_append] at hlen
        have mD : Dn ∈ Dn :: c.O := List.mem_cons_self
        have f15 := ((f2.trans f3').trans f4).trans f5
        refine ⟨vacc, hDn5, by rw [lacc5.length]; exact Nat.lt_of_lt_of_le hlen hz, hlt, g3, acc ++ [y], vacc ++ [u], ?_, s5.push mD hDa, upd_same, ?_, eg⟩
        · intro a o na e
          have : a ≠ Dn := fun z => by rw [z, hD] at e; cases e
          rw [upd_ne this]
          exact f15 a o na e
        · exact (lacc5.push mD hDn5).append (.cons (Is.push (show Is (Dn :: c.O) c.ast H5 u y from iu) mD hDn5) .nil)
  · have e : i = xs.length := by omega
    subst e
    rw [List.drop_length, lcGo] at eg
    cases eg
    have hn : H Dn = none := f1.none hDa hD
    refine .inl ⟨w.2 (Nat.le_refl _), k _ H2 (f1.trans f2) ?_ (IsF.r (H := H) ?_ R.al R.ast)⟩
    · exact s2.anti fun a h => List.mem_cons_of_mem _ h
    · exact .inl ⟨Dn, vacc, _, rfl, rfl, hn, hDn, lacc⟩
end
end PT
namespace PT
open PySem PySem.Spec PyProof.Rows L2

section
variable {cE : Exc → Addr} {W : WX} {mu : List Nat} {Φ : Fn} {X : Cx} {c : Cf} {σ : L2.St} {H H1 : Hp} {g : G} {md m : Md} {Q : VK} {d : D} {v : V} {pos p : Pos}
def lcF1 (Φ : Fn) (own1 : List Nat) (tg1 : Tg) (elt : T) (ρ' : Env) : D → G → Res (List D) := fun y g => match bindT tg1 y (wipeE ρ' own1) with
  | some ρ'' => (evE Φ elt ρ'' g).bind fun z g => .ok [z] g
  | none => .bad
def lcF2 (Φ : Fn) (own own1 : List Nat) (tg : Tg) (tg1 : Tg) (it1 : It) (elt : T) (ρ : Env) : D → G → Res (List D) := fun x g => match bindT tg x (wipeE ρ own) with
  | some ρ' => (evI Φ it1 ρ' g).bind fun ys g => lcGo (lcF1 Φ own1 tg1 elt ρ') ys [] g
  | none => .bad
theorem evE_lc2 {own own1 : List Nat} {tg tg1 : Tg} {it it1 : It} {elt : T} {ρ : Env} {g : G} : evE Φ (.lc2 own own1 tg it tg1 it1 elt) ρ g = (evI Φ it ρ g).bind fun xs g => lcEnd (lcGo (lcF2 Φ own own1 tg tg1 it1 elt ρ) xs [] g) := by
  rw [evE]; rfl
/-- what stands in the loops -/
def LInv (O : List Addr) (ast : Sa) (H1 : Hp) (Dn : Addr) (acc : List D) (g2 : G) (H2 : Hp) : Prop := ∃ vacc, Fr ast H1 H2 ∧ StIs (Dn :: O) ast H2 g2 ∧ H2 Dn = some (.lst vacc) ∧ IsL (Dn :: O) ast H2 vacc acc
theorem LInv.fr {O : List Addr} {ast : Sa} {Dn : Addr} {H1 H2 H3 : Hp} {acc : List D} {g2 g3 : G} (ha : ast.a ∈ O) (hDa : Dn ≠ ast.a) (l : LInv O ast H1 Dn acc g2 H2) (f : Fr ast H2 H3) (s : StIs (Dn :: O) ast H3 g3) : LInv O ast H1 Dn acc g3 H3 := by
  obtain ⟨vacc, f2, s2, hD, la⟩ := l
  exact ⟨vacc, f2.trans f, s, f _ _ hDa hD, la.fr (List.mem_cons_of_mem _ ha) f s2.nt⟩
theorem LInv.push {O : List Addr} {ast : Sa} {Dn : Addr} {H1 H2 : Hp} {acc : List D} {g2 : G} {u : V} {y : D} (hD1 : H1 Dn = none) (hDa : Dn ≠ ast.a) (l : LInv O ast H1 Dn acc g2 H2) (iu : Is (Dn :: O) ast H2 u y) : ∃ vacc, H2 Dn = some (.lst vacc) ∧ vacc.length = acc.length ∧ LInv O ast H1 Dn (acc ++ [y]) g2 (L2.upd H2 Dn (.lst (vacc ++ [u]))) := by
  obtain ⟨vacc, f2, s2, hD, la⟩ := l
  have mD : Dn ∈ Dn :: O := List.mem_cons_self
  refine ⟨vacc, hD, la.length, vacc ++ [u], ?_, s2.push mD hDa, upd_same, (la.push mD hD).append (.cons (iu.push mD hD) .nil)⟩
  intro a o na e
  have : a ≠ Dn := fun z => by rw [z, hD1] at e; cases e
  rw [upd_ne this]
  exact f2 a o na e
mutual
theorem bindT_gv : ∀ {t : Tg} {d : D} {ρ ρ' : Env} {j : Nat}, bindT t d ρ = some ρ' → j ∉ slT t → gv ρ' j = gv ρ j
  | .n i, d, ρ, ρ', j, h, hj => by simp only [bindT] at h; cases h; rw [gv_sv, if_neg (fun z => hj (by simp [slT, z.1]))]
  | .tup ts, d, ρ, ρ', j, h, hj => by
    cases d with
    | tuple ds => simp only [bindT] at h; exact bindTs_gv h (by simpa [slT] using hj)
    | _ => simp [bindT] at h
theorem bindTs_gv : ∀ {ts : List Tg} {ds : List D} {ρ ρ' : Env} {j : Nat}, bindTs ts ds ρ = some ρ' → j ∉ slTs ts → gv ρ' j = gv ρ j
  | [], [], ρ, ρ', j, h, _ => by simp only [bindTs] at h; cases h; rfl
  | [], _ :: _, _, _, _, h, _ => by simp [bindTs] at h
  | _ :: _, [], _, _, _, h, _ => by simp [bindTs] at h
  | t :: ts, d :: ds, ρ, ρ', j, h, hj => by
    simp only [bindTs] at h
    simp only [slTs, List.mem_append, not_or] at hj
    cases q : bindT t d ρ with
    | none => rw [q] at h; cases h
    | some ρ1 =>
      rw [q] at h
      rw [bindTs_gv (show bindTs ts ds ρ1 = some ρ' from h) hj.2, bindT_gv q hj.1]
end
/-- all but the state and p -/
def FrD (ast : Sa) (p : Addr) (H H' : Hp) : Prop := ∀ (a : Addr) (o : HO), a ≠ ast.a → a ≠ p → H a = some o → H' a = some o
theorem FrD.trans {ast : Sa} {p : Addr} {H H1 H2 : Hp} (a : FrD ast p H H1) (b : FrD ast p H1 H2) : FrD ast p H H2 := fun c o n m h => b c o n m (a c o n m h)
theorem Fr.D {ast : Sa} {p : Addr} {H H1 : Hp} (a : Fr ast H H1) : FrD ast p H H1 := fun c o n _ h => a c o n h
theorem FrD.kp {ast : Sa} {p : Addr} {O : List Addr} {H H' : Hp} {xs : List V} (f : FrD ast p H H') (ha : ast.a ∈ O) (hp : p ∈ O) (nt : NT ast H) (hl : H p = some (.lst xs)) : Kp O H H' :=
  ⟨fun a o n h => f a o (fun z => n (z ▸ ha)) (fun z => n (z ▸ hp)) h, fun a ws h => f a _ (fun z => nt ws (z ▸ h)) (fun z => by rw [z, hl] at h; cases h) h⟩
theorem Rel.stepD (R : Rel mu c σ H) {p : Addr} {xs : List V} {g' : G} (hO : p ∈ c.O) (hl : H p = some (.lst xs)) (f : FrD c.ast p H H1) (hp : H1 p ≠ none) (s : StIs c.O c.ast H1 g') (f0 : Fr c.ast c.H0 H1)
    (no : ∀ i a, i ∈ mu → gv c.ρ i ≠ none → σ[i]? = some (some (V.ref a)) → a ≠ p) : Rel mu { c with g := g' } σ H1 where
  ast := R.ast
  al := fun a ha => by
    by_cases e : a = c.ast.a
    · rw [e]; exact s.lt
    · by_cases e2 : a = p
      · rw [e2]; exact hp
      · cases q : H a with
        | none => exact absurd q (R.al a ha)
        | some o => rw [f a o e e2 q]; exact fun z => nomatch z
  len := R.len
  st := s
  fr0 := f0
  val := fun i d e n => by
    obtain ⟨v, h1, h2⟩ := R.val i d e n
    exact ⟨v, h1, (f.kp R.ast hO R.st.nt hl).is (fun _ h => h) h2⟩
  own := fun i d e n => by
    obtain ⟨a, xs, ds, h1, h2, h3, h4, h5, h6, h7⟩ := R.own i d e n
    have e' : gv c.ρ i = some d := e
    have ne := no i a n (by rw [e']; exact fun z => nomatch z) h1
    exact ⟨a, xs, ds, h1, h2, h3, h4, h5, f _ _ h4 ne h6, (f.kp R.ast hO R.st.nt hl).isL (fun _ h => h) h7⟩
  inj := R.inj
theorem ite_tt {p q : Prop} (h : p) : if true = true then p else q := by rw [if_pos rfl]; exact h
theorem lc2_main {own own1 : List Nat} {tg tg1 : Tg} {it it1 : It} {el : T} {K : PySem.W.Frag} (hsl : ∀ i ∈ slT tg, i ∈ own) (hmu : ∀ i ∈ slT tg, i ∉ mu) (hsl1 : ∀ i ∈ slT tg1, i ∈ own1) (hmu1 : ∀ i ∈ slT tg1, i ∉ mu) {σ : L2.St} {H : Hp} {Q : VK}
    (h : tE cE W mu Φ md (.lc2 own own1 tg it tg1 it1 el) σ H Q) : tLc2 (tI cE W mu Φ false it) (gT K tg) tYes (tI cE nW mu Φ true it1) (gT K tg1) tYes (tE cE nW mu Φ .cl el) own own1 σ H Q := by
  obtain ⟨c, R, h⟩ := h
  rw [evE_lc2, pX_bind] at h
  refine ⟨c, R, h.mono fun xs g1 _ h J H1 f1 s1 wk => ?_⟩
  obtain ⟨ys, g', eg, hz, k⟩ := lcEnd_ok h
  intro Dn hD
  have hDa : Dn ≠ c.ast.a := fun e => s1.lt (by rw [← e]; exact hD)
  have mo : Mo c.O (Dn :: c.O) H1 := ⟨fun a h => List.mem_cons_of_mem _ h, fun a h => by
    rcases List.mem_cons.mp h with e | e
    · rw [e]; exact .inr hD
    · exact .inl e⟩
  have R1 := R.step f1 s1
  refine ⟨fun i m H2 => m = xs.length - i ∧ i ≤ xs.length ∧ ∃ g2 acc, LInv c.O c.ast H1 Dn acc g2 H2 ∧ lcGo (lcF2 Φ own own1 tg tg1 it1 el c.ρ) (xs.drop i) acc g2 = .ok ys g',
    ⟨xs.length, rfl, Nat.zero_le _, g1, [], ⟨[], Fr.upd hD, ?_, upd_same, .nil⟩, eg⟩, ?_⟩
  · exact (s1.cons s1 hD).all (upd_keeps hD)
  rintro i m H2 ⟨rfl, hi, g2, acc, li, eg⟩
  have f2 : Fr c.ast H1 H2 := li.choose_spec.1
  have w := wk i H2 (Kp.of_fr f2 s1.nt)
  by_cases hlt : i < xs.length
  · have hx : xs[i]? = some xs[i] := List.getElem?_eq_getElem hlt
    rw [drop_cons hx, lcGo] at eg
    obtain ⟨zs, g3, ez, eg⟩ := bind_okE eg
    obtain ⟨wg, wy⟩ := w.1 _ hx
    refine .inr ⟨wg, fun H' => i + 1 ≤ xs.length ∧ ∃ g2 acc, LInv c.O c.ast H1 Dn acc g2 H' ∧ lcGo (lcF2 Φ own own1 tg tg1 it1 el c.ρ) (xs.drop (i + 1)) acc g2 = .ok ys g', fun H' inv => ⟨xs.length - (i + 1), by omega, rfl, inv⟩, fun v H3 y => ?_⟩
    obtain ⟨f3, iv⟩ := wy v H3 y
    have f3' : Fr c.ast H2 H3 := fun a o _ e => f3 a o e
    obtain ⟨vacc, _, s2, hDn, _⟩ := id li
    have s3 : StIs (Dn :: c.O) c.ast H3 g2 := s2.all f3
    have li3 := li.fr R.ast hDa f3' s3
    have R3 : Rel mu { c with O := Dn :: c.O, g := g2 } σ H3 := R1.over (c := { c with g := g1 }) hD (f2.trans f3') (f3 _ _ hDn) s3
    have R4 := R3.wipe own
    unfold lcF2 at ez
    cases eb : bindT tg xs[i] (wipeE c.ρ own) with
    | none => rw [eb] at ez; cases ez
    | some ρ' =>
      rw [eb] at ez
      obtain ⟨zs1, g4, ei, ez⟩ := bind_okE ez
      refine gT_ok (c := { c with O := Dn :: c.O, g := g2, ρ := wipeE c.ρ own }) eb (iv _ mo) R4 hmu fun σ5 R5 ag => ⟨?_, ?_⟩
      · rw [wipe_same (R5.len.trans ((bindT_len eb).trans R4.len.symm)) (fun j hj => ag j fun z => hj (hsl j z)), wipe_wipe]
      simp only [tYes, eq_self, if_true]
      refine ⟨_, R5, ?_⟩
      show pX cE nW _ σ5 H3 _ (evI Φ it1 ρ' g2)
      rw [ei]
      intro J1 H4 f4 s4 wk1
      have li4 := li3.fr R.ast hDa f4 s4
      obtain ⟨vacc4, f14, _, hDn4, _⟩ := id li4
      have R6 := R5.step f4 s4
      have mD : Dn ∈ Dn :: c.O := List.mem_cons_self
      have mA : c.ast.a ∈ Dn :: c.O := List.mem_cons_of_mem _ R.ast
      have no : ∀ i a, i ∈ mu → gv ρ' i ≠ none → σ5[i]? = some (some (V.ref a)) → a ≠ Dn := fun i a hi hn hs hz => by
        have h1 : i ∉ slT tg := fun z => hmu i z hi
        rw [bindT_gv eb h1, gv_wipeE] at hn
        rw [ag i h1, wipe_get] at hs
        by_cases z : i ∈ own
        · rw [if_pos z] at hn; exact hn rfl
        · rw [if_neg z] at hn
          rw [if_neg (fun q => z q.1)] at hs
          obtain ⟨d, hd⟩ := Option.ne_none_iff_exists'.mp hn
          obtain ⟨a', _, _, q1, _, _, _, _, q2, _⟩ := R1.own i d hd hi
          rw [hs] at q1
          cases q1
          rw [hz, hD] at q2
          cases q2
      refine ⟨fun j k H5 => k = zs1.length - j ∧ j ≤ zs1.length ∧ ∃ g5 accin, FrD c.ast Dn H4 H5 ∧ LInv c.O c.ast H1 Dn (acc ++ accin) g5 H5 ∧ lcGo (lcF1 Φ own1 tg1 el ρ') (zs1.drop j) accin g5 = .ok zs g3,
        ⟨zs1.length, rfl, Nat.zero_le _, g4, [], Fr.refl.D, by rw [List.append_nil]; exact li4, ez⟩, ?_⟩
      rintro j k H5 ⟨rfl, hj, g5, accin, f5, li5, ez⟩
      have w1 := wk1 j H5 (f5.kp mA mD s4.nt hDn4)
      by_cases hlt1 : j < zs1.length
      · have hx1 : zs1[j]? = some zs1[j] := List.getElem?_eq_getElem hlt1
        rw [drop_cons hx1, lcGo] at ez
        obtain ⟨us, g6, eu, ez⟩ := bind_okE ez
        obtain ⟨wg1, wy1⟩ := w1.1 _ hx1
        refine .inr ⟨wg1, fun H' => j + 1 ≤ zs1.length ∧ ∃ g5 accin, FrD c.ast Dn H4 H' ∧ LInv c.O c.ast H1 Dn (acc ++ accin) g5 H' ∧ lcGo (lcF1 Φ own1 tg1 el ρ') (zs1.drop (j + 1)) accin g5 = .ok zs g3, fun H' inv => ⟨zs1.length - (j + 1), by omega, rfl, inv⟩, fun v1 H6 y1 => ?_⟩
        obtain ⟨f6, iv1⟩ := wy1 v1 H6 y1
        have f6' : Fr c.ast H5 H6 := fun a o _ e => f6 a o e
        obtain ⟨vacc5, f15, s5, hDn5, _⟩ := id li5
        have s6 : StIs (Dn :: c.O) c.ast H6 g5 := s5.all f6
        have li6 := li5.fr R.ast hDa f6' s6
        have R7 : Rel mu { c with O := Dn :: c.O, g := g5, ρ := ρ' } σ5 H6 := R6.stepD mD hDn4 (f5.trans f6'.D) (by rw [f6 _ _ hDn5]; exact fun z => nomatch z) s6 (R1.fr0.trans (f15.trans f6')) no
        have R8 := R7.wipe own1
        unfold lcF1 at eu
        cases eb1 : bindT tg1 zs1[j] (wipeE ρ' own1) with
        | none => rw [eb1] at eu; cases eu
        | some ρ'' =>
          rw [eb1] at eu
          obtain ⟨y, g7, ey, eu⟩ := bind_okE eu
          cases eu
          refine gT_ok (c := { c with O := Dn :: c.O, g := g5, ρ := wipeE ρ' own1 }) eb1 (iv1 _ Mo.refl) R8 hmu1 fun σ9 R9 ag => ⟨?_, ?_⟩
          · rw [wipe_same (R9.len.trans ((bindT_len eb1).trans R8.len.symm)) (fun j hj => ag j fun z => hj (hsl1 j z)), wipe_wipe]
          simp only [tYes, eq_self, if_true]
          refine ⟨_, R9, ?_⟩
          show pX cE nW _ σ9 H6 _ (evE Φ el ρ'' g5)
          rw [ey]
          intro u H7 f7 s7 iu
          have li7 := li6.fr R.ast hDa f7 s7
          obtain ⟨vacc7, hD7, hl7, lip⟩ := li7.push hD hDa (show Is (Dn :: c.O) c.ast H7 u y from iu)
          have hlen1 := lcGo_len ez
          have hlen := lcGo_len eg
          rw [List.length_append] at hlen hlen1
          rw [List.length_append] at hl7
          refine ⟨vacc7, hD7, by rw [hl7]; exact Nat.lt_of_lt_of_le (by simp at hlen1; omega) hz, hlt1, _, accin ++ [y], ?_, by rw [← List.append_assoc]; exact lip, ez⟩
          intro a o na nz e
          rw [upd_ne nz]; exact ((f5.trans f6'.D).trans f7.D) a o na nz e
      · have e : j = zs1.length := by omega
        subst e
        rw [List.drop_length, lcGo] at ez
        cases ez
        exact .inl ⟨w1.2 (Nat.le_refl _), hlt, _, _, li5, eg⟩
  · have e : i = xs.length := by omega
    subst e
    rw [List.drop_length, lcGo] at eg
    cases eg
    have hn : H Dn = none := f1.none hDa hD
    obtain ⟨vacc, _, s2, hDn, lacc⟩ := li
    refine .inl ⟨w.2 (Nat.le_refl _), k _ H2 (f1.trans f2) ?_ (IsF.r (H := H) ?_ R.al R.ast)⟩
    · exact s2.anti fun a h => List.mem_cons_of_mem _ h
    · exact .inl ⟨Dn, vacc, _, rfl, rfl, hn, hDn, lacc⟩
end
end PT
namespace PT
open PySem PySem.Spec PyProof.Rows L2

/-- the def's entry -/
structure At where
  H0 : Hp
  ast : Sa
  O0 : List Addr
structure In (A : At) (mu : List Nat) (c : Cf) (σ : L2.St) (H : Hp) : Prop where
  rel : Rel mu c σ H
  h0 : c.H0 = A.H0
  ha : c.ast = A.ast
  mo : Mo A.O0 c.O A.H0
/-- from c, H on to c', H' -/
structure On (c : Cf) (H : Hp) (c' : Cf) (H' : Hp) : Prop where
  mo : Mo c.O c'.O H
  kp : Kp c.O H H'
theorem On.refl {c : Cf} {H : Hp} : On c H c H := ⟨Mo.refl, Kp.refl⟩
theorem On.trans {c c1 c2 : Cf} {H H1 H2 : Hp} (a : On c H c1 H1) (b : On c1 H1 c2 H2) : On c H c2 H2 where
  mo := ⟨fun x h => b.mo.1 x (a.mo.1 x h), fun x h => by
    rcases b.mo.2 x h with q | q
    · exact a.mo.2 x q
    · by_cases z : x ∈ c.O
      · exact .inl z
      · cases e : H x with
        | none => exact .inr rfl
        | some o => rw [a.kp.1 x o z e] at q; cases q⟩
  kp := ⟨fun x o n h => b.kp.1 x o (fun z => by
    rcases a.mo.2 x z with q | q
    · exact n q
    · rw [h] at q; cases q) (a.kp.1 x o n h), fun x xs h => b.kp.2 x xs (a.kp.2 x xs h)⟩
theorem On.of_fr {mu : List Nat} {c : Cf} {σ : L2.St} {H H' : Hp} (R : Rel mu c σ H) (f : Fr c.ast H H') {c' : Cf} (e : c'.O = c.O) : On c H c' H' :=
  ⟨by rw [e]; exact Mo.refl, ⟨fun a o n h => f a o (fun z => n (z ▸ R.ast)) h, f.tups R.st.nt⟩⟩
def zX (cE : Exc → Addr) (A : At) (E : XK) (x : Exc) (g : G) : Prop := ∀ H', Fr A.ast A.H0 H' → StIs A.O0 A.ast H' g → E (.ref (cE x)) none H'
def wE (E : XK) : WX := fun cls d _ H => E cls d H
def pS {α : Type} (Z : Exc → G → Prop) (K : α → G → Prop) : Res α → Prop
  | .ok a g => K a g
  | .exc x g => Z x g
  | .bad => False
section
variable {cE : Exc → Addr} {A : At} {E : XK} {mu : List Nat} {Φ : Fn} {X : Cx} {c : Cf} {σ : L2.St} {H H1 : Hp} {g : G} {d : D} {v : V} {pos p : Pos} {α β : Type} {Z : Exc → G → Prop}
theorem pS_bind {r : Res α} {f : α → G → Res β} {K : β → G → Prop} : pS Z K (r.bind f) ↔ pS Z (fun a g => pS Z K (f a g)) r := by
  cases r <;> exact Iff.rfl
theorem pS_ofO {o : Option α} {g : G} {K : α → G → Prop} : pS Z K (Res.ofO o g) ↔ ∃ a, o = some a ∧ K a g := by
  cases o with
  | none => exact ⟨False.elim, fun ⟨a, e, _⟩ => nomatch e⟩
  | some a => exact ⟨fun h => ⟨a, rfl, h⟩, fun ⟨b, e, h⟩ => by cases e; exact h⟩
theorem pS.mono {r : Res α} {K K' : α → G → Prop} (h : pS Z K r) (k : ∀ a g, r = .ok a g → K a g → K' a g) : pS Z K' r := by
  cases r with
  | ok a g => exact k a g rfl h
  | exc x g => exact h
  | bad => exact h
theorem In.st0 (i : In A mu c σ H) {H1 : Hp} {g : G} (s : StIs c.O c.ast H1 g) : StIs A.O0 A.ast H1 g := by
  rw [i.ha] at s
  exact s.anti i.mo.1
theorem In.fr0 (i : In A mu c σ H) {H1 : Hp} (f : Fr c.ast H H1) : Fr A.ast A.H0 H1 := by
  have := i.rel.fr0.trans f
  rw [i.h0, i.ha] at this
  exact this
/-- as an expression's end -/
theorem In.pX (i : In A mu c σ H) {r : Res α} {K : α → G → Prop} (h : pS (zX cE A E) K r) : pX cE (wE E) c σ H K r := by
  cases r with
  | ok a g => exact h
  | exc x g => exact fun H' f s => h H' (i.fr0 f) (i.st0 s)
  | bad => exact h
theorem In.step (i : In A mu c σ H) (f : Fr c.ast H H1) (s : StIs c.O c.ast H1 g) : In A mu { c with g := g } σ H1 := ⟨i.rel.step f s, i.h0, i.ha, i.mo⟩
/-- what is wanted behind -/
def kN (A : At) (mu : List Nat) (c : Cf) (H : Hp) (N : L2.St → Hp → Prop) (ρ : Env) (g : G) : Prop := ∀ c' σ' H', In A mu c' σ' H' → c'.ρ = ρ → c'.g = g → On c H c' H' → N σ' H'
def kR (A : At) (fr : Bool) (Q : VK) (d : D) (g : G) : Prop := ∀ v H', Fr A.ast A.H0 H' → StIs A.O0 A.ast H' g → IsR (if fr = true then .fr else .cl) A.O0 A.ast A.H0 H' v d → Q v H'
def kS (A : At) (mu : List Nat) (fr : Bool) (c : Cf) (H : Hp) (D : Ends) : Fl → G → Prop
  | .nx ρ, g => kN A mu c H D.nx ρ g
  | .bk ρ, g => kN A mu c H D.bk ρ g
  | .rt d, g => kR A fr D.rt d g
theorem kN.on {N : L2.St → Hp → Prop} {ρ : Env} {g : G} (k : kN A mu c H N ρ g) {c1 : Cf} (o : On c H c1 H1) : kN A mu c1 H1 N ρ g := fun c' σ' H' i e1 e2 o' => k c' σ' H' i e1 e2 (o.trans o')
theorem kS.on {fr : Bool} {D : Ends} {fl : Fl} {g : G} (k : kS A mu fr c H D fl g) {c1 : Cf} (o : On c H c1 H1) : kS A mu fr c1 H1 D fl g := by
  cases fl with
  | nx ρ => exact kN.on k o
  | bk ρ => exact kN.on k o
  | rt d => exact k
/-- a statement, a suite -/
def tSt (cE : Exc → Addr) (A : At) (E : XK) (mu : List Nat) (Φ : Fn) (fr : Bool) (s : S) : TS := fun D σ H => ∃ c, In A mu c σ H ∧ pS (zX cE A E) (kS A mu fr c H D) (evS Φ s c.ρ c.g)
def tB (cE : Exc → Addr) (A : At) (E : XK) (mu : List Nat) (Φ : Fn) (fr : Bool) (b : List S) : TS := fun D σ H => ∃ c, In A mu c σ H ∧ pS (zX cE A E) (kS A mu fr c H D) (evB Φ b c.ρ c.g)
theorem PS.mono {X : Cx} {e : Stmt} {t t' : TS} (h : PS X e t) (k : ∀ D σ H, t' D σ H → t D σ H) : PS X e t' := ⟨fun pins s σ H D I q => h.run pins s σ H D I (k D σ H q)⟩
theorem PSs.mono {X : Cx} {e : List Stmt} {t t' : TS} (h : PSs X e t) (k : ∀ D σ H, t' D σ H → t D σ H) : PSs X e t' := ⟨fun pins s σ H D I q => h.run pins s σ H D I (k D σ H q)⟩
theorem ss_nil {fr : Bool} : PSs X [] (tB cE A E mu Φ fr []) := PSs.mono pss_nil fun D σ H ⟨c, i, h⟩ => by
  simp only [evB] at h
  exact h c σ H i rfl rfl On.refl
theorem ss_cons {fr : Bool} {s : S} {ss : List S} {st : Stmt} {sts : List Stmt} (h1 : PS X st (tSt cE A E mu Φ fr s)) (h2 : PSs X sts (tB cE A E mu Φ fr ss)) : PSs X (st :: sts) (tB cE A E mu Φ fr (s :: ss)) := by
  refine PSs.mono (pss_cons h1 h2) fun D σ H ⟨c, i, h⟩ => ?_
  simp only [evB, pS_bind] at h
  refine ⟨c, i, h.mono fun fl g1 _ h => ?_⟩
  cases fl with
  | nx ρ =>
    intro c' σ' H' i' e1 e2 o
    subst e1 e2
    exact ⟨c', i', h.mono fun fl g2 _ k => k.on o⟩
  | bk ρ => exact h
  | rt d => exact h
theorem ss_asg {fr : Bool} {i : Nat} {e : T} {st : Stmt} (hi : i ∉ mu) (hp : PS X st (tAsg (tE cE (wE E) mu Φ .cl e) (gName i))) : PS X st (tSt cE A E mu Φ fr (.asg i e)) := by
  refine PS.mono hp fun D σ H ⟨c, n, h⟩ => ?_
  simp only [evS, pS_bind] at h
  refine ⟨c, n.rel, (n.pX h).mono fun x g1 _ h v H1 f1 s1 i1 => ?_⟩
  have n1 := n.step f1 s1
  exact h { c with g := g1, ρ := sv c.ρ i (some x) } _ H1 ⟨n1.rel.setv hi i1, n.h0, n.ha, n.mo⟩ rfl rfl (On.of_fr n.rel f1 rfl)
theorem Rel.setO (R : Rel mu c σ H) {i : Nat} (hi : i ∈ mu) {a : Addr} {xs : List V} {ds : List D} {g' : G} (f : Fr c.ast H H1) (s : StIs c.O c.ast H1 g') (ha : H a = none) (h1 : H1 a = some (.lst xs)) (l : IsL (a :: c.O) c.ast H1 xs ds) (s' : StIs (a :: c.O) c.ast H1 g') : Rel mu { c with O := a :: c.O, g := g', ρ := sv c.ρ i (some (.list ds)) } (σ.set i (some (V.ref a))) H1 := by
  have R1 : Rel mu { c with O := a :: c.O, g := g' } σ H1 := R.over ha f h1 s'
  have hne : a ≠ c.ast.a := fun e => R.st.lt (by rw [← e]; exact ha)
  have h00 : c.H0 a = none := R.fr0.none hne ha
  refine ⟨R1.ast, R1.al, ?_, R1.st, R1.fr0, fun j e hj hm => ?_, fun j e hj hm => ?_, fun j k b hj hk e1 e2 e3 e4 => ?_⟩
  · rw [List.length_set]; show σ.length = (sv c.ρ i _).length; rw [sv_len]; exact R.len
  · have hj : gv (sv c.ρ i (some (.list ds))) j = some e := hj
    have ne : i ≠ j := fun z => hm (z ▸ hi)
    rw [gv_sv, if_neg (fun z => ne z.1)] at hj
    rw [set_get, if_neg (fun z => ne z.1)]
    exact R1.val j e hj hm
  · have hj : gv (sv c.ρ i (some (.list ds))) j = some e := hj
    rw [gv_sv] at hj
    rw [set_get]
    by_cases q : i = j ∧ i < c.ρ.length
    · rw [if_pos q] at hj
      cases hj
      rw [R.len, if_pos q]
      exact ⟨a, xs, ds, rfl, rfl, List.mem_cons_self, hne, h00, h1, l⟩
    · rw [if_neg q] at hj
      rw [R.len, if_neg q]
      exact R1.own j e hj hm
  · have e1 : gv (sv c.ρ i (some (.list ds))) j ≠ none := e1
    have e2 : gv (sv c.ρ i (some (.list ds))) k ≠ none := e2
    have key : ∀ m, gv c.ρ m ≠ none → m ∈ mu → σ[m]? = some (some (V.ref a)) → False := fun m hm hmm hs => by
      obtain ⟨d, hd⟩ := Option.ne_none_iff_exists'.mp hm
      obtain ⟨a', _, _, q1, _, _, _, _, q2, _⟩ := R.own m d hd hmm
      rw [hs] at q1
      cases q1
      rw [ha] at q2
      cases q2
    rw [gv_sv] at e1 e2
    rw [set_get, R.len] at e3 e4
    by_cases q : i = j ∧ i < c.ρ.length
    · by_cases q2 : i = k ∧ i < c.ρ.length
      · exact q.1.symm.trans q2.1
      · rw [if_neg q2] at e2 e4
        rw [if_pos q] at e3
        cases e3
        exact (key k e2 hk e4).elim
    · rw [if_neg q] at e1 e3
      by_cases q2 : i = k ∧ i < c.ρ.length
      · rw [if_pos q2] at e4
        cases e4
        exact (key j e1 hj e3).elim
      · rw [if_neg q2] at e2 e4
        exact R.inj j k b hj hk e1 e2 e3 e4
theorem Mo.cons {O : List Addr} {a : Addr} {H : Hp} (h : H a = none) : Mo O (a :: O) H := ⟨fun x hx => List.mem_cons_of_mem _ hx, fun x hx => by
  rcases List.mem_cons.mp hx with e | e
  · rw [e]; exact .inr h
  · exact .inl e⟩
theorem ss_asgO {fr : Bool} {i : Nat} {e : T} {st : Stmt} (hi : i ∈ mu) (hp : PS X st (tAsg (tE cE (wE E) mu Φ .fr e) (gName i))) : PS X st (tSt cE A E mu Φ fr (.asgO i e)) := by
  refine PS.mono hp fun D σ H ⟨c, n, h⟩ => ?_
  simp only [evS, pS_bind] at h
  refine ⟨c, n.rel, (n.pX h).mono fun x g1 _ h v H1 f1 s1 i1 => ?_⟩
  cases x with
  | list ds =>
    rcases (show IsF c.O c.ast H H1 v (.list ds) from i1) with ⟨a, xs, ds', rfl, e, h0, h1, l⟩ | ⟨ne, _⟩
    · cases e
      have hne : a ≠ c.ast.a := fun e => n.rel.st.lt (by rw [← e]; exact h0)
      have h00 : A.H0 a = none := by have := n.rel.fr0.none hne h0; rw [n.h0] at this; exact this
      have s1' : StIs (a :: c.O) c.ast H1 g1 := s1.cons n.rel.st h0
      exact h { c with O := a :: c.O, g := g1, ρ := sv c.ρ i (some (.list ds)) } _ H1 ⟨n.rel.setO hi f1 s1 h0 h1 l s1', n.h0, n.ha, ⟨fun x hx => List.mem_cons_of_mem _ (n.mo.1 x hx), fun x hx => by
        rcases List.mem_cons.mp hx with e | e
        · rw [e]; exact .inr h00
        · exact n.mo.2 x e⟩⟩ rfl rfl ⟨Mo.cons h0, (On.of_fr n.rel f1 (c' := c) rfl).kp⟩
    · exact absurd rfl (ne ds)
  | _ => exact (show False from h).elim
end
end PT
namespace PT
open PySem PySem.Spec PyProof.Rows L2

section
variable {cE : Exc → Addr} {A : At} {E : XK} {mu : List Nat} {Φ : Fn} {X : Cx} {c : Cf} {σ : L2.St} {H H1 : Hp} {g : G} {d : D} {v : V} {pos p : Pos} {fr : Bool}
theorem In.setv {c : Cf} (n : In A mu c σ H) {ρ' : Env} {σ' : L2.St} (r : Rel mu { c with ρ := ρ' } σ' H) : In A mu { c with ρ := ρ' } σ' H := ⟨r, n.h0, n.ha, n.mo⟩
/-- a, b = e -/
theorem ss_unp {ts : List Tg} {e : T} {st : Stmt} {K : PySem.W.Frag} (hm : ∀ i ∈ slTs ts, i ∉ mu) (hp : PS X st (tAsg (tE cE (wE E) mu Φ .cl e) (gTup K ts.length (gTs K ts)))) : PS X st (tSt cE A E mu Φ fr (.unp ts e)) := by
  refine PS.mono hp fun D σ H ⟨c, n, h⟩ => ?_
  simp only [evS, pS_bind] at h
  refine ⟨c, n.rel, (n.pX h).mono fun x g1 _ h v H1 f1 s1 i1 => ?_⟩
  have n1 := n.step f1 s1
  cases x with
  | tuple ds =>
    obtain ⟨ρ', eb, h⟩ := (pS_ofO (K := fun ρ' g => pS (zX cE A E) (kS A mu fr c H D) (Res.ok (Fl.nx ρ') g))).mp (pS_bind.mp h)
    cases (show Is c.O c.ast H1 v (.tuple ds) from i1) with
    | tup hx l =>
      exact ⟨_, _, rfl, SqT.of hx, by rw [l.length]; exact bindTs_len eb, gTs_ok (c := { c with g := g1 }) eb l n1.rel hm fun σ' r _ =>
        h { c with g := g1, ρ := ρ' } σ' H1 (n1.setv r) rfl rfl (On.of_fr n.rel f1 rfl)⟩
  | _ => exact (show False from h).elim
/-- a, b = x, y -/
theorem ss_par2 {i j : Nat} {b1 b2 : Bool} {es : List T} {st : Stmt} (hi : i ∉ mu) (hj : j ∉ mu) (hp : PS X st (tPar i j (tA cE (wE E) mu Φ es))) : PS X st (tSt cE A E mu Φ fr (.par [(i, b1), (j, b2)] es)) := by
  refine PS.mono hp fun D σ H ⟨c, n, h⟩ => ?_
  simp only [evS, pS_bind, pS_ofO] at h
  refine ⟨c, n.rel, (n.pX h).mono fun ds g1 _ h vs H1 f1 s1 l => ?_⟩
  have n1 := n.step f1 s1
  obtain ⟨ρ', eb, h⟩ := h
  match ds, l, eb with
  | [x, y], .cons hx (.cons hy .nil), eb =>
    simp only [svAll] at eb
    cases eb
    refine ⟨_, _, rfl, ?_⟩
    have r1 := n1.rel.setv hi hx
    have r2 := r1.setv hj hy
    exact h { c with g := g1, ρ := sv (sv c.ρ i (some x)) j (some y) } _ H1 (n1.setv r2) rfl rfl (On.of_fr n.rel f1 rfl)
  | [], _, eb => simp [svAll] at eb
  | [_], _, eb => simp [svAll] at eb
  | _ :: _ :: _ :: _, _, eb => simp [svAll] at eb
theorem ss_par3 {i j k : Nat} {b1 b2 b3 : Bool} {es : List T} {st : Stmt} (hi : i ∉ mu) (hj : j ∉ mu) (hk : k ∉ mu) (hp : PS X st (tPar3 i j k (tA cE (wE E) mu Φ es))) : PS X st (tSt cE A E mu Φ fr (.par [(i, b1), (j, b2), (k, b3)] es)) := by
  refine PS.mono hp fun D σ H ⟨c, n, h⟩ => ?_
  simp only [evS, pS_bind, pS_ofO] at h
  refine ⟨c, n.rel, (n.pX h).mono fun ds g1 _ h vs H1 f1 s1 l => ?_⟩
  have n1 := n.step f1 s1
  obtain ⟨ρ', eb, h⟩ := h
  match ds, l, eb with
  | [x, y, z], .cons hx (.cons hy (.cons hz .nil)), eb =>
    simp only [svAll] at eb
    cases eb
    refine ⟨_, _, _, rfl, ?_⟩
    have r1 := n1.rel.setv hi hx
    have r2 := r1.setv hj hy
    have r3 := r2.setv hk hz
    exact h { c with g := g1, ρ := sv (sv (sv c.ρ i (some x)) j (some y)) k (some z) } _ H1 (n1.setv r3) rfl rfl (On.of_fr n.rel f1 rfl)
  | [], _, eb => simp [svAll] at eb
  | [_], _, eb => simp [svAll] at eb
  | [_, _], _, eb => simp [svAll] at eb
  | _ :: _ :: _ :: _ :: _, _, eb => simp [svAll] at eb
/-- x += e, x -= e -/
theorem int_is {O : List Addr} {ast : Sa} {H : Hp} {v : V} {x : D} {i : Int} (e : intOf x = some i) (h : Is O ast H v x) : v = .int i := by
  cases x with
  | int j => cases e; cases h; rfl
  | _ => cases e
theorem ss_aug {i : Nat} {o : BOp} {f : Int → Int → Int} {e : T} {st : Stmt} (ho : ∀ a b, binD o (.int a) (.int b) = some (.int (f a b))) (hi : i ∉ mu) (hp : PS X st (tAug i (tE cE (wE E) mu Φ .tr e) (ipI f))) : PS X st (tSt cE A E mu Φ fr (.aug i o e)) := by
  refine PS.mono hp fun D σ H ⟨c, n, h⟩ => ?_
  simp only [evS, pS_bind, pS_ofO] at h
  obtain ⟨x, hx, h⟩ := h
  obtain ⟨w, hw, iw⟩ := n.rel.val i x hx hi
  refine ⟨w, hw, c, n.rel, (n.pX h).mono fun y g1 _ h v H1 f1 s1 i1 => ?_⟩
  have n1 := n.step f1 s1
  obtain ⟨a, ea, b, eb, z, ez, h⟩ := h
  rw [ho] at ez
  cases ez
  obtain rfl := int_is ea iw
  obtain rfl := int_of eb i1
  exact ⟨a, b, rfl, rfl, h { c with g := g1, ρ := sv c.ρ i (some (.int (f a b))) } _ H1 (n1.setv (n1.rel.setv hi (.int _))) rfl rfl (On.of_fr n.rel f1 rfl)⟩
/-- if -/
theorem ss_if {t : T} {a b : List S} {et : Expr} {sa sb : List Stmt} (ht : L2.PT X et (tP cE (wE E) mu Φ t)) (ha : PSs X sa (tB cE A E mu Φ fr a)) (hb : PSs X sb (tB cE A E mu Φ fr b)) : PS X (.If et sa sb pos) (tSt cE A E mu Φ fr (.iff t a b)) := by
  refine PS.mono (ps_if ht ha hb) fun D σ H ⟨c, n, h⟩ => ?_
  simp only [evS] at h
  rw [show ((evE Φ t c.ρ c.g).bind fun x g => (Res.ofO (truD x) g).bind fun t g => if t = true then evB Φ a c.ρ g else evB Φ b c.ρ g) = ((evE Φ t c.ρ c.g).bind fun x g => Res.ofO (truD x) g).bind fun t g => if t = true then evB Φ a c.ρ g else evB Φ b c.ρ g from by
    cases evE Φ t c.ρ c.g <;> rfl] at h
  rw [pS_bind] at h
  refine ⟨c, n.rel, (n.pX h).mono fun k g1 _ h H1 f1 s1 => ?_⟩
  cases k with
  | true => exact ⟨_, n.step f1 s1, pS.mono h fun fl g2 _ k => k.on (On.of_fr n.rel f1 rfl)⟩
  | false => exact ⟨_, n.step f1 s1, pS.mono h fun fl g2 _ k => k.on (On.of_fr n.rel f1 rfl)⟩
/-- the value is dropped -/
theorem ss_ex {e : T} {st : Stmt} (hp : PS X st (tDrop (tE cE (wE E) mu Φ .tr e))) : PS X st (tSt cE A E mu Φ fr (.ex e)) := by
  refine PS.mono hp fun D σ H ⟨c, n, h⟩ => ?_
  simp only [evS, pS_bind] at h
  exact ⟨c, n.rel, (n.pX h).mono fun k g1 _ h v H1 f1 s1 _ => h _ _ H1 (n.step f1 s1) rfl rfl (On.of_fr n.rel f1 rfl)⟩
/-- returns -/
theorem kR_of {d : D} {Q : VK} {md : Md} {v : V} {H1 : Hp} {g1 : G} (n : In A mu c σ H) (hmd : md = if fr = true then .fr else .cl) (k : kR A fr Q d g1) (f1 : Fr c.ast H H1) (s1 : StIs c.O c.ast H1 g1) (i1 : IsR md c.O c.ast H H1 v d) : Q v H1 := by
  refine k v H1 (n.fr0 f1) (n.st0 s1) ?_
  have ha := n.ha
  subst hmd
  cases fr with
  | true =>
    rcases (show IsF c.O c.ast H H1 v d from i1) with ⟨a, xs, ds, rfl, rfl, h0, h1, l⟩ | ⟨ne, i⟩
    · rw [← ha]
      have hne : a ≠ c.ast.a := fun e => n.rel.st.lt (by rw [← e]; exact h0)
      have h00 : A.H0 a = none := by have := n.rel.fr0.none hne h0; rw [n.h0] at this; exact this
      refine .inl ⟨a, xs, ds, rfl, rfl, h00, h1, l.anti fun x hx => ?_⟩
      rcases List.mem_cons.mp hx with e | e
      · rw [e]; exact List.mem_cons_self
      · exact List.mem_cons_of_mem _ (n.mo.1 x e)
    · rw [← ha]
      exact .inr ⟨ne, i.anti n.mo.1⟩
  | false =>
    rw [← ha]
    exact Is.anti n.mo.1 (show Is c.O c.ast H1 v d from i1)
theorem ss_ret {e : T} {ee : Expr} (hp : PE X ee (tE cE (wE E) mu Φ (if fr = true then .fr else .cl) e)) : PS X (.Return (some ee) pos) (tSt cE A E mu Φ fr (.ret e)) := by
  refine PS.mono (ps_ret hp) fun D σ H ⟨c, n, h⟩ => ?_
  simp only [evS, pS_bind] at h
  exact ⟨c, n.rel, (n.pX h).mono fun x g1 _ h v H1 f1 s1 i1 => kR_of n rfl h f1 s1 i1⟩
/-- an own list goes out -/
theorem ss_retO {i : Nat} {x : Str} (hal : Al A.O0 A.H0) (hN : X.N[i]? = some x) (hv : Vis X.env.scope x) (hd : (x == ("__debug__" : Str)) = false) (hcd : (x == ("__classdict__" : Str)) = false) (hm : i ∈ mu) : PS X (.Return (some (.Name x p)) pos) (tSt cE A E mu Φ fr (.ret (.own i))) := by
  refine PS.mono (ps_ret (pe_var hN hv hd hcd)) fun D σ H ⟨c, n, h⟩ => ?_
  simp only [evS, evE, pS_bind, pS_ofO] at h
  obtain ⟨d, hd, h⟩ := h
  obtain ⟨a, xs, ds, h1, rfl, h3, h4, h5, h6, h7⟩ := n.rel.own i d hd hm
  refine ⟨_, h1, (show kR A fr D.rt (.list ds) c.g from h) _ H (n.fr0 Fr.refl) (n.st0 n.rel.st) ?_⟩
  have h5' : A.H0 a = none := by rw [← n.h0]; exact h5
  have hO : a ∉ A.O0 := fun z => hal a z h5'
  rw [← n.ha]
  cases fr with
  | true =>
    refine .inl ⟨a, xs, ds, rfl, rfl, h5', h6, h7.anti fun z hz => ?_⟩
    rcases List.mem_cons.mp hz with e | e
    · rw [e]; exact h3
    · exact n.mo.1 z e
  | false => exact .lst h6 hO (h7.anti n.mo.1)
theorem ss_brk : PS X (.Break pos) (tSt cE A E mu Φ fr .brk) := PS.mono ps_break fun D σ H ⟨c, n, h⟩ => by
  simp only [evS] at h
  exact h c σ H n rfl rfl On.refl
/-- raise -/
theorem ss_rai {x : Exc} {m : Str} {ee : Expr} (hc : X.calm = true) (tk : Takes X (wE E)) (hm : PMk X ee (fun _ H Q => Q (.ref (cE x)) none H)) : PS X (.Raise (some ee) none pos) (tSt cE A E mu Φ fr (.rai x m)) :=
  PS.mono (ps_raise hc tk hm) fun D σ H ⟨c, n, h⟩ => by
    simp only [evS] at h
    exact h H (n.fr0 Fr.refl) (n.st0 n.rel.st)
theorem ss_for {tg : Tg} {it : It} {body : List S} {tge ie : Expr} {sb : List Stmt} (hmu : ∀ i ∈ slT tg, i ∉ mu) (hpo : PassesOwn (model X.prog X.w) X.A X.env X.xe) (hc : X.calm = true) (hi : PI X tge ie (tI cE (wE E) mu Φ true it)) (hg : PG X tge (gT X.K tg)) (hb : PSs X sb (tB cE A E mu Φ fr body))
    (hs : ∀ x, foldedSetIterable ie X.env x = pure x) : PS X (.For tge ie sb [] pos) (tSt cE A E mu Φ fr (.fr tg it body)) := by
  refine PS.mono (ps_for hpo hc hi hg hb hs) fun D σ H ⟨c, n, h⟩ => ?_
  simp only [evS, pS_bind] at h
  refine ⟨c, n.rel, (n.pX h).mono fun xs g1 _ h J H1 f1 s1 wk => ?_⟩
  have n1 := n.step f1 s1
  have o1 : On c H { c with g := g1 } H1 := On.of_fr n.rel f1 rfl
  refine ⟨fun i m σ2 H2 => m = xs.length - i ∧ i ≤ xs.length ∧ ∃ c2, In A mu c2 σ2 H2 ∧ On { c with g := g1 } H1 c2 H2 ∧ pS (zX cE A E) (kS A mu fr c2 H2 D) (frGo (fun ρ x g => match bindT tg x ρ with
      | some ρ' => evB Φ body ρ' g
      | none => .bad) (xs.drop i) c2.ρ c2.g), ⟨xs.length, rfl, Nat.zero_le _, _, n1, On.refl, pS.mono h fun fl g _ k => k.on o1⟩, ?_⟩
  rintro i m σ2 H2 ⟨rfl, hi, c2, n2, o2, h⟩
  have w := wk i H2 o2.kp
  by_cases hlt : i < xs.length
  · have hx : xs[i]? = some xs[i] := List.getElem?_eq_getElem hlt
    rw [drop_cons hx, frGo, pS_bind] at h
    obtain ⟨wg, wy⟩ := w.1 _ hx
    refine .inr ⟨wg, fun σ3 H3 => i + 1 ≤ xs.length ∧ ∃ c2, In A mu c2 σ3 H3 ∧ On { c with g := g1 } H1 c2 H3 ∧ pS (zX cE A E) (kS A mu fr c2 H3 D) (frGo (fun ρ x g => match bindT tg x ρ with
      | some ρ' => evB Φ body ρ' g
      | none => .bad) (xs.drop (i + 1)) c2.ρ c2.g), fun σ' H' inv => ⟨xs.length - (i + 1), by omega, rfl, inv⟩, fun v H3 y => ?_⟩
    obtain ⟨f3, iv⟩ := wy v H3 y
    have f3' : Fr c2.ast H2 H3 := fun a o _ e => f3 a o e
    have n3 := n2.step f3' (n2.rel.st.all f3)
    have o3 : On c2 H2 { c2 with g := c2.g } H3 := On.of_fr n2.rel f3' rfl
    cases eb : bindT tg xs[i] c2.ρ with
    | none => rw [eb] at h; exact (show False from h).elim
    | some ρ' =>
      rw [eb] at h
      have ia : Is c2.O c2.ast H3 v xs[i] := by
        have := iv c2.O o2.mo
        rw [n2.ha, ← n.ha]
        exact this
      refine gT_ok eb ia n3.rel hmu fun σ4 r4 _ => ⟨_, n3.setv r4, pS.mono h fun fl g4 _ k => ?_⟩
      cases fl with
      | nx ρ4 =>
        intro c5 σ5 H5 n5 e1 e2 o5
        subst e1 e2
        have o5' : On c2 H2 c5 H5 := o3.trans ⟨o5.mo, o5.kp⟩
        exact ⟨hlt, c5, n5, o2.trans o5', pS.mono k fun fl g6 _ k => k.on o5'⟩
      | bk ρ4 =>
        have k : kN A mu c2 H2 D.nx ρ4 g4 := k
        exact fun c5 σ5 H5 n5 e1 e2 o5 => k c5 σ5 H5 n5 e1 e2 (o3.trans ⟨o5.mo, o5.kp⟩)
      | rt d => exact k
  · have e : i = xs.length := by omega
    subst e
    rw [List.drop_length, frGo] at h
    exact .inl ⟨w.2 (Nat.le_refl _), h c2 σ2 H2 n2 rfl rfl On.refl⟩
theorem ss_wh {k : Nat} {t : T} {body : List S} {te : Expr} {sb : List Stmt} (hpo : PassesOwn (model X.prog X.w) X.A X.env X.xe) (ht : L2.PT X te (tP cE (wE E) mu Φ t)) (hb : PSs X sb (tB cE A E mu Φ fr body)) : PS X (.While te sb [] pos) (tSt cE A E mu Φ fr (.wh k t body)) := by
  refine PS.mono (ps_while hpo ht hb) fun D σ H ⟨c, n, h⟩ => ?_
  simp only [evS] at h
  refine ⟨fun m σ2 H2 => ∃ c2, In A mu c2 σ2 H2 ∧ pS (zX cE A E) (kS A mu fr c2 H2 D) (whGo (fun ρ g => (evE Φ t ρ g).bind fun x g => .ofO (truD x) g) (fun ρ g => evB Φ body ρ g) m c2.ρ c2.g), ⟨k, c, n, h⟩, ?_⟩
  rintro m σ2 H2 ⟨c2, n2, h⟩
  cases m with
  | zero => simp only [whGo] at h; exact (show False from h).elim
  | succ m =>
    rw [whGo, pS_bind] at h
    refine ⟨c2, n2.rel, (n2.pX h).mono fun b g1 _ h H1 f1 s1 => ?_⟩
    have n1 := n2.step f1 s1
    have o1 : On c2 H2 { c2 with g := g1 } H1 := On.of_fr n2.rel f1 rfl
    cases b with
    | false => exact (show kN A mu c2 H2 D.nx c2.ρ g1 from h) _ _ _ n1 rfl rfl o1
    | true =>
      rw [if_pos rfl, pS_bind] at h
      simp only [eq_self, if_true]
      refine ⟨fun σ3 H3 => ∃ c2, In A mu c2 σ3 H3 ∧ pS (zX cE A E) (kS A mu fr c2 H3 D) (whGo (fun ρ g => (evE Φ t ρ g).bind fun x g => .ofO (truD x) g) (fun ρ g => evB Φ body ρ g) m c2.ρ c2.g), fun σ' H' inv => ⟨m, Nat.lt_succ_self m, inv⟩, _, n1, pS.mono h fun fl g4 _ k => ?_⟩
      cases fl with
      | nx ρ4 =>
        intro c5 σ5 H5 n5 e1 e2 o5
        subst e1 e2
        exact ⟨c5, n5, pS.mono k fun fl g6 _ k => k.on (o1.trans o5)⟩
      | bk ρ4 =>
        have k : kN A mu c2 H2 D.nx ρ4 g4 := k
        exact fun c5 σ5 H5 n5 e1 e2 o5 => k c5 σ5 H5 n5 e1 e2 (o1.trans o5)
      | rt d => exact k
end
end PT
namespace PT
open PySem PySem.Spec PyProof.Rows L2

section
variable {cE : Exc → Addr} {A : At} {E : XK} {mu : List Nat} {Φ : Fn} {X : Cx} {c : Cf} {σ : L2.St} {H H1 : Hp} {g : G} {d : D} {v : V} {pos p : Pos} {fr : Bool}
theorem lstG_some {ρ : Env} {i : Nat} {ds : List D} (h : lstG ρ i = some ds) : gv ρ i = some (.list ds) := by
  unfold lstG at h
  split at h
  · cases h; assumption
  · cases h
/-- where the own list of slot j stands -/
structure Ow (c : Cf) (σ : L2.St) (H : Hp) (j : Nat) (ds : List D) (a : Addr) (xs : List V) : Prop where
  s : σ[j]? = some (some (V.ref a))
  o : a ∈ c.O
  ne : a ≠ c.ast.a
  n0 : c.H0 a = none
  h : H a = some (.lst xs)
  l : IsL c.O c.ast H xs ds
theorem Rel.ow (R : Rel mu c σ H) {j : Nat} (hj : j ∈ mu) {ds : List D} (h : lstG c.ρ j = some ds) : ∃ a xs, Ow c σ H j ds a xs := by
  obtain ⟨a, xs, ds', h1, h2, h3, h4, h5, h6, h7⟩ := R.own j _ (lstG_some h) hj
  cases h2
  exact ⟨a, xs, h1, h3, h4, h5, h6, h7⟩
theorem In.wr (n : In A mu c σ H) {j : Nat} (hj : j ∈ mu) {ds ds' : List D} {a : Addr} {xs xs' : List V} (hg : gv c.ρ j ≠ none) (o : Ow c σ H j ds a xs) (l' : IsL c.O c.ast H xs' ds') :
    In A mu { c with ρ := sv c.ρ j (some (.list ds')) } σ (upd H a (.lst xs')) ∧ On c H { c with ρ := sv c.ρ j (some (.list ds')) } (upd H a (.lst xs')) := by
  have kp : Kp c.O H (upd H a (.lst xs')) := ⟨fun b o' nb h => by rw [upd_ne (ne_in o.o nb)]; exact h, fun b ws h => by
    by_cases z : b = a
    · rw [z, o.h] at h; cases h
    · rw [upd_ne z]; exact h⟩
  refine ⟨⟨⟨n.rel.ast, fun b hb => ?_, ?_, n.rel.st.push o.o o.ne, fun b o' nb h => ?_, fun i d hi hm => ?_, fun i d hi hm => ?_, fun i k b hi hk e1 e2 e3 e4 => ?_⟩, n.h0, n.ha, n.mo⟩, ⟨Mo.refl, kp⟩⟩
  · by_cases z : b = a
    · rw [z, upd_same]; exact fun z => nomatch z
    · rw [upd_ne z]; exact n.rel.al b hb
  · show σ.length = (sv c.ρ j _).length
    rw [sv_len]; exact n.rel.len
  · have z : b ≠ a := fun z => by rw [z, o.n0] at h; cases h
    rw [upd_ne z]; exact n.rel.fr0 b o' nb h
  · have hi : gv (sv c.ρ j (some (.list ds'))) i = some d := hi
    have ne : j ≠ i := fun z => hm (z ▸ hj)
    rw [gv_sv, if_neg (fun z => ne z.1)] at hi
    obtain ⟨w, h1, h2⟩ := n.rel.val i d hi hm
    exact ⟨w, h1, h2.push o.o o.h⟩
  · have hi : gv (sv c.ρ j (some (.list ds'))) i = some d := hi
    rw [gv_sv] at hi
    by_cases q : j = i ∧ j < c.ρ.length
    · rw [if_pos q] at hi
      cases hi
      refine ⟨a, xs', ds', by rw [← q.1]; exact o.s, rfl, o.o, o.ne, o.n0, upd_same, l'.push o.o o.h⟩
    · rw [if_neg q] at hi
      obtain ⟨b, ys, es, h1, h2, h3, h4, h5, h6, h7⟩ := n.rel.own i d hi hm
      have nb : b ≠ a := fun z => by
        rw [z] at h1
        have := n.rel.inj i j a hm hj (by rw [hi]; exact fun z => nomatch z) hg h1 o.s
        refine q ⟨this.symm, ?_⟩
        have := (List.getElem?_eq_some_iff.mp o.s).1
        rw [← n.rel.len]; exact this
      exact ⟨b, ys, es, h1, h2, h3, h4, h5, by rw [upd_ne nb]; exact h6, h7.push o.o o.h⟩
  · have f : ∀ m, gv (sv c.ρ j (some (.list ds'))) m ≠ none → gv c.ρ m ≠ none := fun m hm => by
      rw [gv_sv] at hm
      by_cases q : j = m ∧ j < c.ρ.length
      · rw [← q.1]; exact hg
      · rw [if_neg q] at hm; exact hm
    exact n.rel.inj i k b hi hk (f i e1) (f k e2) e3 e4
theorem Ow.mv {i : Nat} {ds : List D} {a : Addr} {xs : List V} (o : Ow c σ H i ds a xs) (R : Rel mu c σ H) (f : Fr c.ast H H1) {g1 : G} : Ow { c with g := g1 } σ H1 i ds a xs := ⟨o.s, o.o, o.ne, o.n0, f _ _ o.ne o.h, o.l.fr R.ast f R.st.nt⟩
theorem Ow.ty {i : Nat} {ds : List D} {a : Addr} {xs : List V} {K : PySem.W.Frag} (o : Ow c σ H i ds a xs) : tyV K "list" (.ref a) H := .inl ⟨rfl, xs, SqL.of o.h⟩
/-- the reading of the list's name -/
theorem own_te {i : Nat} {ds : List D} {a : Addr} {xs : List V} (n : In A mu c σ H) {Q : VK} (hl : lstG c.ρ i = some ds) (o : Ow c σ H i ds a xs) (hi : i ∈ mu) (q : ∀ H', Fr c.ast H H' → StIs c.O c.ast H' c.g → H' = H → Q (.ref a) H') : tVar i σ H Q :=
  ⟨_, o.s, q H Fr.refl n.rel.st rfl⟩
theorem ss_app {i : Nat} {e : T} {st : Stmt} {K : PySem.W.Frag} (hi : i ∈ mu) (hp : PS X st (tDrop (tBM K "list" rAppend (tVar i) (tCons (tE cE (wE E) mu Φ .cl e) tNil)))) : PS X st (tSt cE A E mu Φ fr (.app i e)) := by
  refine PS.mono hp fun D σ H ⟨c, n, h⟩ => ?_
  simp only [evS, pS_bind, pS_ofO] at h
  obtain ⟨ds, hl, h⟩ := h
  obtain ⟨a, xs, o⟩ := n.rel.ow hi hl
  refine ⟨_, o.s, o.ty, c, n.rel, (n.pX h).mono fun x g1 _ h v H1 f1 s1 i1 => ?_⟩
  have n1 := n.step f1 s1
  have o1 := o.mv n.rel f1 (g1 := g1)
  by_cases hz : ds.length < sizeLine
  · rw [if_pos hz] at h
    obtain ⟨n2, on⟩ := n1.wr hi (by show gv c.ρ i ≠ none; rw [lstG_some hl]; exact fun z => nomatch z) o1 (o1.l.append (.cons (show Is c.O c.ast H1 v x from i1) .nil))
    exact ⟨a, xs, v, rfl, rfl, o1.h, by rw [o1.l.length]; exact hz, h _ _ _ n2 rfl rfl ((On.of_fr n.rel f1 (c' := { c with g := g1 }) rfl).trans on)⟩
  · rw [if_neg hz] at h; exact (show False from h).elim
theorem ss_ext {i : Nat} {e : T} {st : Stmt} {K : PySem.W.Frag} (hi : i ∈ mu) (hp : PS X st (tDrop (tBM K "list" rExtend (tVar i) (tCons (tE cE (wE E) mu Φ .cl e) tNil)))) : PS X st (tSt cE A E mu Φ fr (.ext i e)) := by
  refine PS.mono hp fun D σ H ⟨c, n, h⟩ => ?_
  simp only [evS, pS_bind, pS_ofO] at h
  obtain ⟨ds, hl, h⟩ := h
  obtain ⟨a, xs, o⟩ := n.rel.ow hi hl
  refine ⟨_, o.s, o.ty, c, n.rel, (n.pX h).mono fun x g1 _ h v H1 f1 s1 i1 => ?_⟩
  have n1 := n.step f1 s1
  have o1 := o.mv n.rel f1 (g1 := g1)
  obtain ⟨ys, ey, h⟩ := h
  cases x with
  | list es =>
    cases ey
    have i1' : Is c.O c.ast H1 v (.list ys) := i1
    clear i1
    cases i1' with
    | lst hb nb lb =>
      by_cases hz : ds.length + ys.length ≤ sizeLine
      · rw [if_pos hz] at h
        obtain ⟨n2, on⟩ := n1.wr hi (by show gv c.ρ i ≠ none; rw [lstG_some hl]; exact fun z => nomatch z) o1 (o1.l.append lb)
        exact ⟨a, _, xs, _, rfl, rfl, o1.h, hb, by rw [o1.l.length, lb.length]; exact hz, h _ _ _ n2 rfl rfl ((On.of_fr n.rel f1 (c' := { c with g := g1 }) rfl).trans on)⟩
      · rw [if_neg hz] at h; exact (show False from h).elim
  | _ => cases ey
theorem erase_at : ∀ {ns : List Int} {k : Int}, k ∈ ns → ∃ j : Nat, ns[j]? = some k ∧ (∀ m : Nat, m < j → ns[m]? ≠ some k) ∧ ns.erase k = ns.eraseIdx j
  | [], k, h => by cases h
  | n :: ns, k, h => by
    by_cases e : n = k
    · subst e
      exact ⟨0, rfl, fun m hm => absurd hm (Nat.not_lt_zero _), by simp⟩
    · have h' : k ∈ ns := by
        rcases List.mem_cons.mp h with z | z
        · exact absurd z.symm e
        · exact z
      obtain ⟨j, h1, h2, h3⟩ := erase_at h'
      refine ⟨j + 1, by simpa using h1, fun m hm => ?_, ?_⟩
      · cases m with
        | zero => simp [e]
        | succ m => simpa using h2 m (Nat.lt_of_succ_lt_succ hm)
      · rw [List.erase_cons_tail (by simpa using e), h3]; rfl
theorem ss_rem {i : Nat} {e : T} {st : Stmt} {K : PySem.W.Frag} (hi : i ∈ mu) (hp : PS X st (tDrop (tBM K "list" rRemI (tVar i) (tCons (tE cE (wE E) mu Φ .cl e) tNil)))) : PS X st (tSt cE A E mu Φ fr (.rem i e)) := by
  refine PS.mono hp fun D σ H ⟨c, n, h⟩ => ?_
  simp only [evS, pS_bind, pS_ofO] at h
  obtain ⟨ds, hl, h⟩ := h
  obtain ⟨a, xs, o⟩ := n.rel.ow hi hl
  refine ⟨_, o.s, o.ty, c, n.rel, (n.pX h).mono fun x g1 _ h v H1 f1 s1 i1 => ?_⟩
  have n1 := n.step f1 s1
  have o1 := o.mv n.rel f1 (g1 := g1)
  obtain ⟨ns, en, k, ek, h⟩ := h
  obtain rfl := int_is ek i1
  obtain ⟨rfl, _⟩ := o1.l.ints en
  by_cases hz : k ∈ ns
  · rw [if_pos hz] at h
    obtain ⟨j, h1, h2, h3⟩ := erase_at hz
    obtain ⟨n2, on⟩ := n1.wr hi (by show gv c.ρ i ≠ none; rw [lstG_some hl]; exact fun z => nomatch z) o1 (IsL.ofInts (ns.eraseIdx j))
    refine ⟨a, ns, k, j, rfl, rfl, o1.h, h1, h2, ?_⟩
    refine h _ _ _ n2 ?_ rfl ((On.of_fr n.rel f1 (c' := { c with g := g1 }) rfl).trans on)
    show sv c.ρ i (some (.list ((ns.eraseIdx j).map PyData.int))) = sv c.ρ i (some (mkL (ns.erase k)))
    rw [h3]; rfl
  · rw [if_neg hz] at h; exact (show False from h).elim
theorem setL_is {O : List Addr} {ast : Sa} {H : Hp} {xs : List V} {ds es : List D} {w y : V} {k x : D} (l : IsL O ast H xs ds) (iy : IsT O ast H w k) (ix : Is O ast H y x) (e : setL ds k x = some es) : ∃ i j, w = .int i ∧ ixN xs.length i = some j ∧ IsL O ast H (xs.set j y) es := by
  cases k with
  | int i =>
    obtain rfl := iy.int
    obtain ⟨j, ej, rfl⟩ := map_some (show (L2.ixN ds.length i).map (fun j => ds.set j x) = some es from e)
    exact ⟨i, j, rfl, by rw [l.length]; exact ej, l.set j ix⟩
  | _ => cases e
/-- xs[k] = e -/
theorem ss_six {i : Nat} {k e : T} {st : Stmt} (hi : i ∈ mu) (hp : PS X st (tAsg (tE cE (wE E) mu Φ .cl e) (gSub (tVar i) (tE cE (wE E) mu Φ .tr k) rSetL))) : PS X st (tSt cE A E mu Φ fr (.six i k e)) := by
  refine PS.mono hp fun D σ H ⟨c, n, h⟩ => ?_
  simp only [evS, pS_bind, pS_ofO] at h
  refine ⟨c, n.rel, (n.pX h).mono fun x g1 _ h v H1 f1 s1 i1 => ?_⟩
  obtain ⟨ds, hl, h⟩ := h
  obtain ⟨a, xs, o⟩ := n.rel.ow hi hl
  have n1 := n.step f1 s1
  have o1 := o.mv n.rel f1 (g1 := g1)
  refine ⟨_, o.s, _, n1.rel, (n1.pX h).mono fun y g2 _ h w H2 f2 s2 i2 => ?_⟩
  have n2 := n1.step f2 s2
  have o2 := o1.mv n1.rel f2 (g1 := g2)
  obtain ⟨es, ee, h⟩ := h
  have iv : Is c.O c.ast H2 v x := (show Is c.O c.ast H1 v x from i1).fr n.rel.ast f2 s1.nt
  obtain ⟨ii, j, rfl, ej, l'⟩ := setL_is o2.l (show IsT c.O c.ast H2 w y from i2) iv ee
  obtain ⟨n3, on⟩ := n2.wr hi (by show gv c.ρ i ≠ none; rw [lstG_some hl]; exact fun z => nomatch z) o2 l'
  exact ⟨a, xs, ii, j, rfl, rfl, o2.h, ej, h _ _ _ n3 rfl rfl (((On.of_fr n.rel f1 (c' := { c with g := g1 }) rfl).trans (On.of_fr n1.rel f2 (c' := { c with g := g2 }) rfl)).trans on)⟩
/-- xs[k], no negative k -/
def rGetN : V → V → Hp → VK → Prop := fun o i H Q => ∃ p xs k v, o = .ref p ∧ i = .int k ∧ 0 ≤ k ∧ H p = some (.lst xs) ∧ xs[k.toNat]? = some v ∧ Q v H
theorem get_listN : PGet X rGetN := by
  intro pins s σ H o i ov iv Q I ro ri h
  obtain ⟨p, xs, k, v, rfl, rfl, h0, hp, hv, q⟩ := h
  cases ro
  obtain ⟨t, rfl⟩ := ri
  obtain ⟨its, r, pl, hz⟩ := I.list (SqL.of hp)
  obtain ⟨u, hu, ru⟩ := r.get hv
  have hlt := (List.getElem?_eq_some_iff.mp hv).1
  rw [sizeLine_eq] at hz
  exact wpAny_getItem_list pl.isList h0 (by omega) (by simpa using hu) ⟨v, H, I, ru, q⟩
theorem natOf_some {d : D} {j : Nat} (h : natOf d = some j) : d = .int j := by
  cases d with
  | int i =>
    obtain ⟨h0, rfl⟩ := ite_some (show (if 0 ≤ i then some i.toNat else none) = some j from h)
    rw [Int.toNat_of_nonneg h0]
  | _ => cases h
theorem ixN_nat {n j : Nat} (h : j < n) : ixN n (j : Int) = some j := by
  unfold ixN
  rw [if_pos (by omega), if_pos (by omega)]
  simp
theorem IsL.get' {O : List Addr} {ast : Sa} {H : Hp} {xs : List V} {ds : List D} {j : Nat} {d : D} (l : IsL O ast H xs ds) (h : ds[j]? = some d) : ∃ v, xs[j]? = some v ∧ Is O ast H v d := l.get h
/-- xs[k] += e -/
theorem ss_saug {i : Nat} {o : BOp} {f : Int → Int → Int} {k e : T} {st : Stmt} (ho : ∀ a b, binD o (.int a) (.int b) = some (.int (f a b))) (hi : i ∈ mu) (hp : PS X st (tAugS (tVar i) (tE cE (wE E) mu Φ .tr k) (tE cE (wE E) mu Φ .tr e) rGetN (ipI f) rSetL)) : PS X st (tSt cE A E mu Φ fr (.saug i o k e)) := by
  refine PS.mono hp fun D σ H ⟨c, n, h⟩ => ?_
  simp only [evS, pS_bind, pS_ofO] at h
  obtain ⟨ds, hl, h⟩ := h
  obtain ⟨a, xs, o⟩ := n.rel.ow hi hl
  refine ⟨_, o.s, _, n.rel, (n.pX h).mono fun y g1 _ h w H1 f1 s1 i1 => ?_⟩
  have n1 := n.step f1 s1
  have o1 := o.mv n.rel f1 (g1 := g1)
  obtain ⟨j, ej, d, ed, h⟩ := h
  obtain rfl := natOf_some ej
  obtain rfl := (show IsT c.O c.ast H1 w (.int j) from i1).int
  obtain ⟨u, hu, iu⟩ := o1.l.get ed
  refine ⟨a, xs, j, u, rfl, rfl, by omega, o1.h, by simpa using hu, _, n1.rel, (n1.pX h).mono fun z g2 _ h w2 H2 f2 s2 i2 => ?_⟩
  have n2 := n1.step f2 s2
  have o2 := o1.mv n1.rel f2 (g1 := g2)
  obtain ⟨m, em, b, eb, r, er, h⟩ := h
  rw [ho] at er
  cases er
  obtain rfl := int_is em iu
  obtain rfl := int_of eb i2
  have hj : j < xs.length := (List.getElem?_eq_some_iff.mp hu).1
  obtain ⟨n3, on⟩ := n2.wr hi (by show gv c.ρ i ≠ none; rw [lstG_some hl]; exact fun z => nomatch z) o2 (o2.l.set j (.int (f m b)))
  exact ⟨m, b, rfl, rfl, a, xs, j, j, rfl, rfl, o2.h, ixN_nat hj, h _ _ _ n3 rfl rfl (((On.of_fr n.rel f1 (c' := { c with g := g1 }) rfl).trans (On.of_fr n1.rel f2 (c' := { c with g := g2 }) rfl)).trans on)⟩
/-- y = xs.pop(k) -/
theorem ss_pop {i j : Nat} {e : T} {st : Stmt} {K : PySem.W.Frag} (hi : i ∉ mu) (hj : j ∈ mu) (hp : PS X st (tAsg (tBM K "list" rPopAt (tVar j) (tCons (tE cE (wE E) mu Φ .tr e) tNil)) (gName i))) : PS X st (tSt cE A E mu Φ fr (.popS i j e)) := by
  refine PS.mono hp fun D σ H ⟨c, n, h⟩ => ?_
  simp only [evS, pS_bind, pS_ofO] at h
  obtain ⟨ds, hl, h⟩ := h
  obtain ⟨a, xs, o⟩ := n.rel.ow hj hl
  refine ⟨_, o.s, o.ty, c, n.rel, (n.pX h).mono fun x g1 _ h v H1 f1 s1 i1 => ?_⟩
  have n1 := n.step f1 s1
  have o1 := o.mv n.rel f1 (g1 := g1)
  obtain ⟨k, ek, m, em, d, ed, h⟩ := h
  obtain rfl := int_of ek i1
  obtain ⟨hr, em⟩ := (show rgB k = true ∧ L2.ixN ds.length k = some m from by
    by_cases hr : rgB k = true
    · rw [if_pos hr] at em; exact ⟨hr, em⟩
    · rw [if_neg hr] at em; cases em)
  obtain ⟨u, hu, iu⟩ := o1.l.get ed
  obtain ⟨q1, q2, q3, q4⟩ := ixN_seq em
  have hb := rgB_ok hr
  obtain ⟨n2, on⟩ := n1.wr hj (by show gv c.ρ j ≠ none; rw [lstG_some hl]; exact fun z => nomatch z) o1 (o1.l.eraseIdx m)
  refine ⟨a, xs, k, m, u, rfl, rfl, o1.h, by omega, by omega, by rw [o1.l.length]; exact q1, hu, ?_⟩
  have n3 := n2.setv (n2.rel.setv hi (iu.push o1.o o1.h))
  exact h _ _ _ n3 rfl rfl (((On.of_fr n.rel f1 (c' := { c with g := g1 }) rfl).trans on).trans ⟨Mo.refl, Kp.refl⟩)
theorem Rel.stv (R : Rel mu c σ H) {s : Nat} {t : D} (hs : s ∉ mu) (h : gv c.ρ s = some t) (ht : isSt t = true) : σ[s]? = some (some (V.ref c.ast.a)) := by
  obtain ⟨v, h1, h2⟩ := R.val s t h hs
  obtain rfl := isSt_eq ht
  cases h2 with
  | st => exact h1
/-- a number of the state is written -/
theorem In.wst (n : In A mu c σ H) {k : Nat} {i : Int} {g' : G} (e : stSet c.g k (.int i) = some g') : ∃ xs, H c.ast.a = some (.lst xs) ∧ ixN xs.length k = some k ∧
    In A mu { c with g := g' } σ (upd H c.ast.a (.lst (xs.set k (.int i)))) ∧ On c H { c with g := g' } (upd H c.ast.a (.lst (xs.set k (.int i)))) := by
  obtain ⟨⟨hk1, hk2⟩, rfl⟩ := ite_some (show (if 1 ≤ k ∧ k < c.g.length then some (c.g.set k (.int i)) else none) = some g' from e)
  obtain ⟨ns, ms, eg, h1, h2⟩ := n.rel.st.ex
  have hq : c.ast.q ≠ c.ast.a := n.rel.st.ne
  have f : Fr c.ast H (upd H c.ast.a (.lst ((.ref c.ast.q :: ms.map V.int : List V).set k (.int i)))) := fun b o nb h => by rw [upd_ne nb]; exact h
  have hlen : k < ms.length + 1 := by rw [eg] at hk2; simpa using hk2
  have s' : StIs c.O c.ast (upd H c.ast.a (.lst ((.ref c.ast.q :: ms.map V.int : List V).set k (.int i)))) (c.g.set k (.int i)) := by
    refine ⟨n.rel.st.nO, hq, ns, ms.set (k - 1) i, ?_, ?_, by rw [upd_ne hq]; exact h2⟩
    · rw [eg]
      obtain ⟨k', rfl⟩ : ∃ k', k = k' + 1 := ⟨k - 1, by omega⟩
      simp [List.map_set]
    · rw [upd_same]
      obtain ⟨k', rfl⟩ : ∃ k', k = k' + 1 := ⟨k - 1, by omega⟩
      simp [List.map_set]
  refine ⟨_, h1, ixN_nat (by simpa using hlen), n.step f s', On.of_fr n.rel f rfl⟩
theorem ss_stS {s k : Nat} {e : T} {st : Stmt} (hs : s ∉ mu) (hp : PS X st (tAsg (tE cE (wE E) mu Φ .cl e) (gSub (tVar s) (tC (.int k)) rSetL))) : PS X st (tSt cE A E mu Φ fr (.stS s k e)) := by
  refine PS.mono hp fun D σ H ⟨c, n, h⟩ => ?_
  simp only [evS, pS_bind, pS_ofO] at h
  refine ⟨c, n.rel, (n.pX h).mono fun x g1 _ h v H1 f1 s1 i1 => ?_⟩
  obtain ⟨t, et, h⟩ := h
  have n1 := n.step f1 s1
  by_cases ht : isSt t = true
  · rw [if_pos ht] at h
    simp only [pS_bind, pS_ofO] at h
    obtain ⟨g', eg, h⟩ := h
    cases x with
    | int i =>
      obtain rfl : v = .int i := int_is (x := .int i) rfl (show Is c.O c.ast H1 v (.int i) from i1)
      obtain ⟨xs, h1, h2, n2, on⟩ := n1.wst eg
      exact ⟨_, n.rel.stv hs et ht, c.ast.a, xs, k, k, rfl, rfl, h1, h2, h _ _ _ n2 rfl rfl ((On.of_fr n.rel f1 (c' := { c with g := g1 }) rfl).trans on)⟩
    | _ => cases eg
  · rw [if_neg ht] at h; exact (show False from h).elim
theorem ss_stA {s k : Nat} {o : BOp} {f : Int → Int → Int} {e : T} {st : Stmt} (ho : ∀ a b, binD o (.int a) (.int b) = some (.int (f a b))) (hs : s ∉ mu) (hp : PS X st (tAugS (tVar s) (tC (.int k)) (tE cE (wE E) mu Φ .tr e) rGetN (ipI f) rSetL)) : PS X st (tSt cE A E mu Φ fr (.stA s k o e)) := by
  refine PS.mono hp fun D σ H ⟨c, n, h⟩ => ?_
  simp only [evS, pS_bind, pS_ofO] at h
  obtain ⟨d, ed, h⟩ := h
  obtain ⟨t, et, ht, ed⟩ : ∃ t, gv c.ρ s = some t ∧ isSt t = true ∧ c.g[k]? = some d := by
    unfold stOf at ed
    cases q : gv c.ρ s with
    | none => rw [q] at ed; cases ed
    | some t =>
      rw [q] at ed
      by_cases ht : isSt t = true
      · exact ⟨t, rfl, ht, by have ed : (if isSt t = true then c.g[k]? else none) = some d := ed; rw [if_pos ht] at ed; exact ed⟩
      · have ed : (if isSt t = true then c.g[k]? else none) = some d := ed; rw [if_neg ht] at ed; cases ed
  obtain ⟨xs, hx, l⟩ := n.rel.st.isL
  obtain ⟨u, hu, iu⟩ := l.get ed
  refine ⟨_, n.rel.stv hs et ht, c.ast.a, xs, k, u, rfl, rfl, by omega, hx, by simpa using hu, c, n.rel, (n.pX h).mono fun z g1 _ h w H1 f1 s1 i1 => ?_⟩
  have n1 := n.step f1 s1
  obtain ⟨m, em, b, eb, r, er, g', eg, h⟩ := h
  rw [ho] at er
  cases er
  obtain rfl := int_is em iu
  obtain rfl := int_of eb i1
  obtain ⟨xs', h1, h2, n2, on⟩ := n1.wst eg
  exact ⟨m, b, rfl, rfl, c.ast.a, xs', k, k, rfl, rfl, h1, h2, h _ _ _ n2 rfl rfl ((On.of_fr n.rel f1 (c' := { c with g := g1 }) rfl).trans on)⟩
end
end PT
namespace PT
open PySem PySem.Spec PyProof.Rows L2

abbrev Cl := Value × (Addr → Value → Option Addr → TS)
/-- the wishes behind the suites: the name has gone -/
def gone (i : Nat) (D : Ends) : Ends := { nx := fun σ' H' => D.nx (σ'.set i none) H', rt := D.rt, bk := fun σ' H' => D.bk (σ'.set i none) H', ct := fun σ' H' => D.ct (σ'.set i none) H' }
def wAll (K : PySem.W.Frag) (i : Nat) (Wout : WX) (D : Ends) : List Cl → WX
  | [] => Wout
  | (c, ts) :: r => fun cls d σ H => ∃ b, PySem.W.exmOne K cls c = some b ∧ (b = true → ∀ a, H a = none → ts a cls d (gone i D) (σ.set i (some (.ref a))) H) ∧ (b = false → wAll K i Wout D r cls d σ H)
inductive HdAs (X : Cx) (n : Str) : List ExceptHandler → List Cl → Prop
  | nil : HdAs X n [] []
  | cons {x : Str} {c : Value} {ts : Addr → Value → Option Addr → TS} {b₀ : Stmt} {suite : List Stmt} {np pos' : Pos} {hds : List ExceptHandler} {l : List Cl} (hc : Names X x c)
      (hsu : ∀ (a : Addr) (oe : Obj) (cls : Value) (d : Option Addr) (pn : List (Addr × Obj)), Zc cls d oe → (∃ vs, oe.data = .fields vs) → PSs (X.suite a ((a, oe) :: pn)) (b₀ :: suite) (ts a cls d)) (r : HdAs X n hds l) :
      HdAs X n (.ExceptHandler (some (.Name x np)) (some n) (b₀ :: suite) pos' :: hds) ((c, ts) :: l)
section
variable {X : Cx} {n : Str} {i : Nat} {body : List Stmt} {h₀ : ExceptHandler} {hds : List ExceptHandler} {l : List Cl} {pos : Pos} {tb : WX → TS} {Wout : WX}
theorem ps_try_all (hs : X.stack = X.env :: X.outer) (hf : X.env.frame = some X.env.locals) (hN : X.N.Nodup) (hi : X.N[i]? = some n) (hln : X.env.kindOf n = some .local) (tk : Takes X Wout)
    (hb : ∀ (W : WX) (pn : List (Addr × Obj)) (xe : Value → Shared → Prop), Takes (X.tr pn xe) W → PassesOwn (model X.prog X.w) X.A X.env xe → PSs (X.tr pn xe) body (tb W))
    (hh : HdAs X n (h₀ :: hds) l) : PS X (.Try body (h₀ :: hds) [] [] pos) (fun D σ H => tb (wAll X.K i Wout D l) D σ H) := by
  refine ⟨fun pins s σ H D I h => ?_⟩
  have ok := I.ok
  have hfr : X.A.frames = some (X.env :: X.outer) := by rw [ok.frames, hs]
  have hloc : Loc X.env.scope n := .inl hln
  refine wpAny_Try_except ?_
  refine wpAny_mono ((hb (wAll X.K i Wout D l) (X.pn ++ pins) (fun e s₁ => wpAny (model X.prog X.w) X.A (noteFrame e X.env) (fun _ s₂ => wpAny (model X.prog X.w) X.A (setFlight e none) (fun _ s₃ =>
    wpAny (model X.prog X.w) X.A (handleBy e X.env (h₀ :: hds)) (SP X pins D) X.xe s₃) X.xe s₂) X.xe s₁) (fun u s' xx => ?_) PassesOwn.looking).run [] s σ H D (I.toTry _) h) (fun f s1 hsp => ?_) (fun e s1 he => he)
  · obtain ⟨a, B, sI, pins', σ', H', cls, d, rfl, J', nb, up, sky, na, os, ag, w⟩ := xx
    have J : Inv X pins σ' H' sI := J'.ofTry ok
    have sky' : Sky B (X.env :: X.outer) a (Zc cls d) X.env.locals s'.heap := by rw [← hs]; exact sky
    show wpAny (model X.prog X.w) X.A (noteFrame (.ref a) X.env) _ _ _
    refine Sky.land Zc.steady hfr hf sky' fun h3 fl3 up3 => ?_
    have J3 : Inv X pins σ' H' { s' with heap := h3 } := J.landed nb fl3.1 (up.trans up3) os ag
    obtain ⟨oe3, vs3, he3, hz3, hd3⟩ := fl3.there
    have notFr : ∀ {h : Heap} {o : Obj} {vs : Array Value}, h.FunFrames B (X.env :: X.outer) → h.get? a = some o → o.data = .fields vs → a ∉ frs (X.env :: X.outer) := fun {h o vs} ff e dd hm => by
      obtain ⟨_, o', e', hnf⟩ := ff.mem hm
      rw [e] at e'; cases e'
      exact hnf _ dd
    have nfr := notFr fl3.2.2.1 he3 hd3
    have nL : a ≠ X.env.locals := fun z => nfr (List.mem_filterMap.mpr ⟨X.env, List.mem_cons_self, by rw [hf, z]⟩)
    have nF : a ∉ X.fs := fun hm => by
      obtain ⟨e, he, q⟩ := List.mem_filterMap.mp hm
      exact nfr (List.mem_filterMap.mpr ⟨e, List.mem_cons_of_mem _ he, q⟩)
    have S3 := J3.suite he3 hd3 na nL nF
    have go : ∀ {hds' : List ExceptHandler} {l' : List Cl}, HdAs X n hds' l' → wAll X.K i Wout D l' cls d σ' H' →
        wpAny (model X.prog X.w) X.A (handleBy (.ref a) X.env hds') (SP X pins D) X.xe { s' with heap := h3 } := by
      intro hds' l' hk
      induction hk with
      | nil =>
        intro w
        refine wpAny_handleBy_nil ?_
        obtain ⟨k1, k2, k3, oe, vs, T, oT, ts', he, hz, hd, h1, hr⟩ := id fl3
        unfold PySem.passOn
        refine wpAny_bind (wpAny_field he hd h1 ?_)
        rw [if_neg (show ¬ ((Value.ref T == Value.none) = true) from by simp)]
        have finE : wpAny (model X.prog X.w) X.A (setFlight (.ref a) X.env.frame) (fun _ s4 => wpAny (model X.prog X.w) X.A (throw (.ref a) : Sem Flow) (SP X pins D) X.xe s4) X.xe { s' with heap := h3 } := by
          rw [hf]
          refine HandSPX.setFlight_upZ fl3 fun h4 hh4 up4 => wpAny_throw (tk _ _ ?_)
          exact ⟨a, B, sI, pins, σ', H', cls, d, rfl, J, nb, (up.trans up3).trans up4, .inr (.inr (by rw [hs]; exact hh4)), na, os, ag, w⟩
        first
          | exact wpAny_bind (wpAny_pure (wpAny_bind finE))
          | exact wpAny_bind finE
      | @cons x c ts b₀ suite np pos' hds2 l2 hc hsu r ih =>
        intro w
        obtain ⟨b, hb1, hyes, hno⟩ := w
        refine wpAny_handleBy_cons (codeAny_handlers_test ?_) (by intro q; cases q)
        have LT : PySem.W.Looks (model X.prog X.w) h3 (typeOf (.ref a)) cls := fun A Q E s k q => wpAny_typeOf_ref (k _ _ he3) (by rw [hz3.1]; exact q)
        have LM := PySem.W.exm_one (M := model X.prog X.w) (J3.kIn) LT hb1
        have test : ∀ {Q : Value → Shared → Prop} {E : Value → Shared → Prop}, Q c { s' with heap := h3 } → wpAny (model X.prog X.w) (X.A.mark (some (.ref a))) (eval (.Name x np) X.env) Q E { s' with heap := h3 } := fun {Q E} q => by
          obtain ⟨hg, hdbg, hm | ⟨hm, hv, hnn⟩⟩ := hc
          · exact ld_glob (X := X.suite a ((a, oe3) :: (X.pn ++ pins))) S3 hg hm q hdbg
          · exact ld_blt (X := X.suite a ((a, oe3) :: (X.pn ++ pins))) S3 hg hm hv q hnn hdbg
        refine test (LM.here ?_)
        cases b with
        | true =>
          refine codeAny_handlers_suite_as ?_
          refine HandSPX.lands_againZ fl3 fun h4 fl4 up4 => ?_
          have J4 : Inv X pins σ' H' { s' with heap := h4 } := J.landed nb fl4.1 ((up.trans up3).trans up4) os ag
          obtain ⟨oe4, vs4, he4, hz4, hd4⟩ := fl4.there
          have S4 := J4.suite he4 hd4 na nL nF
          refine store_ok (X := X.suite a ((a, oe4) :: (X.pn ++ pins))) (v := .ref a) S4 hN hi hloc rfl (fun s5 S5 => ?_) (.inr hln)
          refine wpAny_mono ((hsu a oe4 cls d (X.pn ++ pins) hz4 ⟨_, hd4⟩).run [] s5 _ H' _ S5 (hyes rfl a na)) (fun f s6 hsp => ?_) (fun _ _ z => False.elim z)
          have end_ : ∀ {σ6 : L2.St} {H6 : Hp} {Q : Shared → Prop}, Inv (X.suite a ((a, oe4) :: (X.pn ++ pins))) [] σ6 H6 s6 → (∀ s7, Inv X pins (σ6.set i none) H6 s7 → Q s7) →
              wpAny (model X.prog X.w) X.A (do bindName X.env n .none; unbindBehindTheSuite X.env n pos') (fun _ s7 => Q s7) X.xe s6 := fun {σ6 H6 Q} S6 hq => gone_ok (S6.unsuite ok) hN hi hln hq
          cases f with
          | next =>
            obtain ⟨σ6, H6, S6, q6⟩ := hsp
            exact end_ S6 fun s7 J7 => ⟨_, _, J7, q6⟩
          | brk =>
            obtain ⟨σ6, H6, S6, q6⟩ := hsp
            exact end_ S6 fun s7 J7 => ⟨_, _, J7, q6⟩
          | cont =>
            obtain ⟨σ6, H6, S6, q6⟩ := hsp
            exact end_ S6 fun s7 J7 => ⟨_, _, J7, q6⟩
          | ret u =>
            obtain ⟨v6, σ6, H6, S6, r6, q6⟩ := hsp
            exact end_ S6 fun s7 J7 => ⟨_, _, _, J7, r6, q6⟩
        | false =>
          show wpAny _ X.A (handleBy (.ref a) X.env hds2) _ _ _
          exact ih (hno rfl)
    exact go hh w
  · cases f with
    | next =>
      obtain ⟨σ', H', J', q⟩ := hsp
      exact wpAny_execs_nil ⟨σ', H', J'.ofTry ok, q⟩
    | brk =>
      obtain ⟨σ', H', J', q⟩ := hsp
      exact ⟨σ', H', J'.ofTry ok, q⟩
    | cont =>
      obtain ⟨σ', H', J', q⟩ := hsp
      exact ⟨σ', H', J'.ofTry ok, q⟩
    | ret u =>
      obtain ⟨v, σ', H', J', r, q⟩ := hsp
      exact ⟨v, σ', H', J'.ofTry ok, r, q⟩
end
end PT
namespace PT
open PySem PySem.Spec PyProof.Rows L2

def exN : Exc → Str
  | .unfit => "UnfitHeap"
  | .wide => "TooWide"
/-- the exception classes -/
structure Ef (K : PySem.W.Frag) (mg : Str → Option Value) (cE : Exc → Addr) : Prop where
  mg : ∀ x, mg (exN x) = some (.ref (cE x))
  ec : ∀ x, ExcC K (cE x)
  iv : ∀ x, PySem.W.kitOne K (.ref (cE x)) (.type "ValueError") = some true
  exm : ∀ x y, PySem.W.exmOne K (.ref (cE x)) (.ref (cE y)) = some (decide (x = y))
  exc : ∀ x, PySem.W.excIn K (cE x) He.veBase "ValueError.__new__" = true
  keep : ∀ x, PySem.W.keepIn K (.ref (cE x)) = true
  sub : ∀ x, PySem.W.subIn K (.ref (cE x)) (.type "BaseException") = some true
  ty : ∀ x, PySem.W.typeIn K (.ref (cE x)) = some (.type "type")
section
variable {cE : Exc → Addr} {A : At} {E : XK} {mu : List Nat} {Φ : Fn} {X : Cx} {c : Cf} {σ : L2.St} {H H1 : Hp} {g : G} {d : D} {v : V} {pos p : Pos} {fr : Bool}
/-- isinstance(error, ValueError) -/
theorem pt_isV (ef : Ef X.K X.mg cE) {x : Exc} {i : Nat} {a : Addr} {oe : Obj} {pn : List (Addr × Obj)} {n y z : Str} {p1 p2 p3 p4 : Pos} (hz : Zc (.ref (cE x)) none oe) (hf : ∃ vs, oe.data = .fields vs) (hN : X.N[i]? = some n) (hv : Vis X.env.scope n) (hy : y = "isinstance") (hzz : z = "ValueError")
    (hg : Gl X y) (hm : X.mg y = none) (hg2 : Gl X z) (hm2 : X.mg z = none) (hd : (n == ("__debug__" : Str)) = false) (hcd : (n == ("__classdict__" : Str)) = false) :
    L2.PT (X.suite a ((a, oe) :: pn)) (.Call (.Name y p1) [.Name n p2, .Name z p3] [] p4) (fun σ H Q => σ[i]? = some (some (V.ref a)) ∧ Q true H) := by
  subst hy hzz
  have hp := pe_callB (X := X.suite a ((a, oe) :: pn)) (p := p1) (pos := p4) (call_isE (ef.ec x) hz hf) (show Gl (X.suite a ((a, oe) :: pn)) "isinstance" from hg) hm (by decide +kernel)
    (pa_cons (pe_var (X := X.suite a ((a, oe) :: pn)) (pos := p2) hN hv hd hcd) (pa_one nst_name (pe_ty (X := X.suite a ((a, oe) :: pn)) (pos := p3) (n := "ValueError") hg2 hm2 (by decide +kernel) (by decide) (by decide))) (star_cons nst_name)) (he := star_cons nst_name)
  refine PT'.mono (pt_val hp) fun σ H Q ⟨h1, h2⟩ => ?_
  refine ⟨_, h1, ?_⟩
  refine ⟨.ty "ValueError", .type "ValueError", true, rfl, fun u r => r, ef.iv x, true, rfl, h2⟩
theorem suiteR (ef : Ef X.K X.mg cE) {x : Exc} {i : Nat} {a : Addr} {oe : Obj} {pn : List (Addr × Obj)} {n y z : Str} {k j : Nat} {p1 p2 p3 p4 p5 p6 p7 p8 : Pos} (hz : Zc (.ref (cE x)) none oe) (hf : ∃ vs, oe.data = .fields vs) (hN : X.N[i]? = some n) (hv : Vis X.env.scope n) (hy : y = "isinstance") (hzz : z = "ValueError")
    (hg : Gl X y) (hm : X.mg y = none) (hg2 : Gl X z) (hm2 : X.mg z = none) (hd : (n == ("__debug__" : Str)) = false) (hcd : (n == ("__classdict__" : Str)) = false) :
    PSs (X.suite a ((a, oe) :: pn)) [.Return (some (.IfExp (.Call (.Name y p1) [.Name n p2, .Name z p3] [] p4) (.Tuple [] k p5) (.Constant .none j p6) p7)) p8] (fun D σ H => σ[i]? = some (some (V.ref a)) ∧ ∀ p, H p = none → D.rt (.ref p) (upd H p (.tup []))) := by
  refine PSs.mono (pss_one (ps_ret (pe_ifExp (pt_isV ef hz hf hN hv hy hzz hg hm hg2 hm2 hd hcd) (pe_tup pa_nil) pe_non))) fun D σ H ⟨h1, h2⟩ => ?_
  exact ⟨h1, by simp only [eq_self, if_true]; exact ⟨Nat.zero_le _, h2⟩⟩
theorem suiteU (ef : Ef X.K X.mg cE) {x : Exc} {i : Nat} {a : Addr} {oe : Obj} {pn : List (Addr × Obj)} {n y z : Str} {j : Nat} {p1 p2 p3 p4 p5 p6 p7 p8 : Pos} (hz : Zc (.ref (cE x)) none oe) (hf : ∃ vs, oe.data = .fields vs) (hN : X.N[i]? = some n) (hv : Vis X.env.scope n) (hy : y = "isinstance") (hzz : z = "ValueError")
    (hg : Gl X y) (hm : X.mg y = none) (hg2 : Gl X z) (hm2 : X.mg z = none) (hd : (n == ("__debug__" : Str)) = false) (hcd : (n == ("__classdict__" : Str)) = false) :
    PSs (X.suite a ((a, oe) :: pn)) [.If (.UnaryOp .Not (.Call (.Name y p1) [.Name n p2, .Name z p3] [] p4) p5) [.Return (some (.Constant (.bool false) j p6)) p7] [] p8] (fun D σ H => σ[i]? = some (some (V.ref a)) ∧ D.nx σ H) := by
  refine PSs.mono (pss_one (ps_if (pt_not (pt_isV ef hz hf hN hv hy hzz hg hm hg2 hm2 hd hcd)) (pss_one (ps_ret pe_bl)) pss_nil)) fun D σ H ⟨h1, h2⟩ => ?_
  exact ⟨h1, h2⟩
/-- as a clause's reading -/
def tsR (cE : Exc → Addr) (i : Nat) : Addr → Value → Option Addr → TS := fun a cls d D σ H => (∃ x, cls = .ref (cE x) ∧ d = none) ∧ σ[i]? = some (some (V.ref a)) ∧ ∀ p, H p = none → D.rt (.ref p) (upd H p (.tup []))
def tsU (cE : Exc → Addr) (i : Nat) : Addr → Value → Option Addr → TS := fun a cls d D σ H => (∃ x, cls = .ref (cE x) ∧ d = none) ∧ σ[i]? = some (some (V.ref a)) ∧ D.nx σ H
theorem pss_if {X : Cx} {b : List Stmt} {t : TS} {P : Prop} (h : P → PSs X b t) : PSs X b (fun D σ H => P ∧ t D σ H) := ⟨fun pins s σ H D I ⟨hp, ht⟩ => (h hp).run pins s σ H D I ht⟩
theorem set_at {σ : L2.St} {i : Nat} {x : Option V} (h : i < σ.length) : (σ.set i x)[i]? = some x := List.getElem?_set_self h
theorem PS.monoL {X : Cx} {e : Stmt} {t t' : TS} (h : PS X e t) (k : ∀ D σ H, σ.length = X.N.length → t' D σ H → t D σ H) : PS X e t' := ⟨fun pins s σ H D I q => h.run pins s σ H D I (k D σ H I.len q)⟩
theorem ss_tryR {e : T} {i : Nat} {ee : Expr} {n x1 x2 y z : Str} {k j k' j' : Nat} {q q1 q2 p1 p2 p3 p4 p5 p6 p7 p8 n1 n2 p1' p2' p3' p4' p5' p6' p7' p8' : Pos} (hs : X.stack = X.env :: X.outer) (hf : X.env.frame = some X.env.locals) (hN : X.N.Nodup) (hi : X.N[i]? = some n) (hln : X.env.kindOf n = some .local) (tk : Takes X (wE E)) (hg0 : X.calm = true)
    (ef : Ef X.K X.mg cE) (hx1 : x1 = exN .unfit) (hx2 : x2 = exN .wide) (hgx1 : Gl X x1) (hgx2 : Gl X x2) (hy : y = "isinstance") (hzz : z = "ValueError") (hg : Gl X y) (hm : X.mg y = none) (hg2 : Gl X z) (hm2 : X.mg z = none) (hd : (n == ("__debug__" : Str)) = false) (hcd : (n == ("__classdict__" : Str)) = false)
    (hv : Vis X.env.scope n) (hp : ∀ (W : WX) (pn : List (Addr × Obj)) (xe : Value → Shared → Prop), Takes (X.tr pn xe) W → PE (X.tr pn xe) ee (tE cE W mu Φ (if fr = true then .fr else .cl) e)) :
    PS X (.Try [.Return (some ee) q] [.ExceptHandler (some (.Name x1 n1)) (some n) [.Return (some (.IfExp (.Call (.Name y p1) [.Name n p2, .Name z p3] [] p4) (.Tuple [] k p5) (.Constant .none j p6) p7)) p8] q1,
      .ExceptHandler (some (.Name x2 n2)) (some n) [.Return (some (.IfExp (.Call (.Name y p1') [.Name n p2', .Name z p3'] [] p4') (.Tuple [] k' p5') (.Constant .none j' p6') p7')) p8'] q2] [] [] pos) (tSt cE A E mu Φ fr (.tryR e i)) := by
  have hsu : ∀ {k j : Nat} {p1 p2 p3 p4 p5 p6 p7 p8 : Pos} (a : Addr) (oe : Obj) (cls : Value) (d : Option Addr) (pn : List (Addr × Obj)), Zc cls d oe → (∃ vs, oe.data = .fields vs) → PSs (X.suite a ((a, oe) :: pn)) [.Return (some (.IfExp (.Call (.Name y p1) [.Name n p2, .Name z p3] [] p4) (.Tuple [] k p5) (.Constant .none j p6) p7)) p8] (tsR cE i a cls d) := fun a oe cls d pn hz hf => by
    refine pss_if fun ⟨x, e1, e2⟩ => ?_
    subst e1 e2
    exact suiteR ef hz hf hi hv hy hzz hg hm hg2 hm2 hd hcd
  refine PS.monoL (ps_try_all (i := i) hs hf hN hi hln tk (tb := fun W => tRet (tE cE W mu Φ (if fr = true then .fr else .cl) e)) (fun W pn xe tk' _ => pss_one (ps_ret (hp W pn xe tk')))
    (.cons (c := .ref (cE .unfit)) (ts := tsR cE i) ⟨hgx1, by rw [hx1]; decide, .inl (by rw [hx1]; exact ef.mg _)⟩ hsu (.cons (c := .ref (cE .wide)) (ts := tsR cE i) ⟨hgx2, by rw [hx2]; decide, .inl (by rw [hx2]; exact ef.mg _)⟩ hsu .nil))) fun D σ H hlen ⟨c, n, h⟩ => ?_
  have hil : i < σ.length := by rw [hlen]; exact (List.getElem?_eq_some_iff.mp hi).1
  refine ⟨c, n.rel, ?_⟩
  simp only [evS] at h
  cases ev : evE Φ e c.ρ c.g with
  | bad => rw [ev] at h; exact (show False from h).elim
  | ok d g1 =>
    rw [ev] at h
    exact fun v H1 f1 s1 i1 => kR_of n rfl h f1 s1 i1
  | exc x g1 =>
    rw [ev] at h
    have h : kR A fr D.rt (.tuple []) g1 := h
    intro H' f' s'
    have fin2 : ∀ a, H' a = none → tsR cE i a (.ref (cE x)) none (gone i D) (σ.set i (some (.ref a))) H' := fun a _ => by
      refine ⟨⟨x, rfl, rfl⟩, set_at hil, fun p hp => ?_⟩
      have f2 := f'.trans (Fr.upd (o := .tup []) hp)
      exact kR_of (md := if fr = true then .fr else .cl) n rfl h f2 (s'.upd n.rel.ast hp) (IsR.sc (.tup upd_same .nil) fun _ e => nomatch e)
    cases x with
    | unfit => exact ⟨true, ef.exm _ _, fun _ => fin2, fun e => nomatch e⟩
    | wide => exact ⟨false, ef.exm _ _, (fun e => nomatch e), fun _ => ⟨true, ef.exm _ _, fun _ => fin2, fun e => nomatch e⟩⟩
theorem Rel.setn (R : Rel mu c σ H) {i : Nat} (hi : i ∉ mu) (y : Option V) : Rel mu { c with ρ := sv c.ρ i none } (σ.set i y) H where
  ast := R.ast
  al := R.al
  len := by rw [List.length_set]; show σ.length = (sv c.ρ i none).length; rw [sv_len]; exact R.len
  st := R.st
  fr0 := R.fr0
  val := fun j e hj hm => by
    have hj : gv (sv c.ρ i none) j = some e := hj
    rw [gv_sv] at hj
    by_cases q : i = j ∧ i < c.ρ.length
    · rw [if_pos q] at hj; cases hj
    · rw [if_neg q] at hj
      rw [set_get, R.len, if_neg q]
      exact R.val j e hj hm
  own := fun j e hj hm => by
    have hj : gv (sv c.ρ i none) j = some e := hj
    have ne : i ≠ j := fun z => hi (z ▸ hm)
    rw [gv_sv, if_neg (fun z => ne z.1)] at hj
    obtain ⟨a, xs, ds, h1, r⟩ := R.own j e hj hm
    exact ⟨a, xs, ds, by rw [set_get, if_neg (fun z => ne z.1)]; exact h1, r⟩
  inj := fun j k a hj hk e1 e2 e3 e4 => by
    have ne : i ≠ j := fun z => hi (z ▸ hj)
    have ne2 : i ≠ k := fun z => hi (z ▸ hk)
    have e1 : gv (sv c.ρ i none) j ≠ none := e1
    have e2 : gv (sv c.ρ i none) k ≠ none := e2
    rw [gv_sv, if_neg (fun z => ne z.1)] at e1
    rw [gv_sv, if_neg (fun z => ne2 z.1)] at e2
    rw [set_get, if_neg (fun z => ne z.1)] at e3
    rw [set_get, if_neg (fun z => ne2 z.1)] at e4
    exact R.inj j k a hj hk e1 e2 e3 e4
theorem ss_tryU {w i : Nat} {f1 f2 : T} {te e1 e2 : Expr} {n x1 y z : Str} {j j' : Nat} {q q0 q1 q2 q3 q4 p1 p2 p3 p4 p5 p6 p7 p8 n1 : Pos} (hs : X.stack = X.env :: X.outer) (hf : X.env.frame = some X.env.locals) (hN : X.N.Nodup) (hi : X.N[i]? = some n) (hln : X.env.kindOf n = some .local) (tk : Takes X (wE E))
    (ef : Ef X.K X.mg cE) (hx1 : x1 = exN .unfit) (hgx1 : Gl X x1) (hy : y = "isinstance") (hzz : z = "ValueError") (hg : Gl X y) (hm : X.mg y = none) (hg2 : Gl X z) (hm2 : X.mg z = none) (hd : (n == ("__debug__" : Str)) = false) (hcd : (n == ("__classdict__" : Str)) = false) (hmu : i ∉ mu)
    (hv : Vis X.env.scope n) (ht : ∀ (W : WX) (pn : List (Addr × Obj)) (xe : Value → Shared → Prop), Takes (X.tr pn xe) W → L2.PT (X.tr pn xe) te (tP cE W mu Φ (.var w)))
    (hp1 : ∀ (W : WX) (pn : List (Addr × Obj)) (xe : Value → Shared → Prop), Takes (X.tr pn xe) W → PS (X.tr pn xe) (.Expr e1 q1) (tDrop (tE cE W mu Φ .tr f1)))
    (hp2 : ∀ (W : WX) (pn : List (Addr × Obj)) (xe : Value → Shared → Prop), Takes (X.tr pn xe) W → PS (X.tr pn xe) (.Expr e2 q2) (tDrop (tE cE W mu Φ .tr f2))) :
    PS X (.Try [.If te [.Expr e1 q1] [.Expr e2 q2] q, .Return (some (.Constant (.bool false) j q3)) q4] [.ExceptHandler (some (.Name x1 n1)) (some n) [.If (.UnaryOp .Not (.Call (.Name y p1) [.Name n p2, .Name z p3] [] p4) p5) [.Return (some (.Constant (.bool false) j' p6)) p7] [] p8] q0] [] [] pos) (tSt cE A E mu Φ fr (.tryU w f1 f2 i)) := by
  have hsu : ∀ (a : Addr) (oe : Obj) (cls : Value) (d : Option Addr) (pn : List (Addr × Obj)), Zc cls d oe → (∃ vs, oe.data = .fields vs) → PSs (X.suite a ((a, oe) :: pn)) [.If (.UnaryOp .Not (.Call (.Name y p1) [.Name n p2, .Name z p3] [] p4) p5) [.Return (some (.Constant (.bool false) j' p6)) p7] [] p8] (tsU cE i a cls d) := fun a oe cls d pn hz hf => by
    refine pss_if fun ⟨x, e1, e2⟩ => ?_
    subst e1 e2
    exact suiteU ef hz hf hi hv hy hzz hg hm hg2 hm2 hd hcd
  refine PS.monoL (ps_try_all (i := i) hs hf hN hi hln tk (tb := fun W => tSeq (tIfS (tP cE W mu Φ (.var w)) (tDrop (tE cE W mu Φ .tr f1)) (tDrop (tE cE W mu Φ .tr f2))) (tRet (tC (.bl false))))
    (fun W pn xe tk' _ => pss_cons (ps_if (ht W pn xe tk') (pss_one (hp1 W pn xe tk')) (pss_one (hp2 W pn xe tk'))) (pss_one (ps_ret pe_bl)))
    (.cons (c := .ref (cE .unfit)) (ts := tsU cE i) ⟨hgx1, by rw [hx1]; decide, .inl (by rw [hx1]; exact ef.mg _)⟩ hsu .nil)) fun D σ H hlen ⟨c, n, h⟩ => ?_
  have hil : i < σ.length := by rw [hlen]; exact (List.getElem?_eq_some_iff.mp hi).1
  simp only [evS, pS_bind, pS_ofO] at h
  obtain ⟨x, hx, b, hb, h⟩ := h
  refine ⟨c, n.rel, ?_⟩
  simp only [evE, pX_bind, pX_ofO]
  refine ⟨x, hx, b, hb, fun H1 f1 s1 => ?_⟩
  -- the body's call
  have key : ∀ (r : Res PT.D), pS (zX cE A E) (kS A mu fr c H D) (match r with
      | .ok _ g => Res.ok (Fl.rt (.bool false)) g
      | .exc .unfit g => Res.ok (Fl.nx (sv c.ρ i none)) g
      | .exc x g => .exc x g
      | .bad => .bad) → pX cE (wAll X.K i (wE E) D [(.ref (cE .unfit), tsU cE i)]) { c with g := c.g } σ H1 (kE .tr { c with g := c.g } H1 fun _ H2 => D.rt (.bl false) H2) r := fun r h => by
    cases r with
    | bad => exact h
    | ok d g1 =>
      have h : kR A fr D.rt (.bool false) g1 := h
      intro v H2 f2 s2 i2
      exact kR_of (md := if fr = true then .fr else .cl) n rfl h (f1.trans f2) s2 (IsR.sc (.bl _) fun _ e => nomatch e)
    | exc x g1 =>
      intro H' f' s'
      have f2 := f1.trans f'
      cases x with
      | unfit =>
        have h : kN A mu c H D.nx (sv c.ρ i none) g1 := h
        refine ⟨true, ef.exm _ _, fun _ a _ => ⟨⟨.unfit, rfl, rfl⟩, set_at hil, ?_⟩, fun e => nomatch e⟩
        show D.nx ((σ.set i (some (.ref a))).set i none) H'
        have n2 := n.step f2 s'
        have r2 := (n2.rel.setn hmu (some (V.ref a))).setn hmu none
        have e2 : sv (sv c.ρ i none) i none = sv c.ρ i none := by
          have : ∀ (ρ : Env) (i : Nat), sv (sv ρ i none) i none = sv ρ i none := by
            intro ρ
            induction ρ with
            | nil => intro i; rfl
            | cons x r ih => intro i; cases i with
              | zero => rfl
              | succ i => simp only [sv, ih]
          exact this _ _
        have r3 : Rel mu { c with g := g1, ρ := sv c.ρ i none } ((σ.set i (some (V.ref a))).set i none) H' := by rw [← e2]; exact r2
        exact h { c with g := g1, ρ := sv c.ρ i none } _ H' ⟨r3, n.h0, n.ha, n.mo⟩ rfl rfl (On.of_fr n.rel f2 rfl)
      | wide =>
        have h : zX cE A E .wide g1 := h
        exact ⟨false, ef.exm _ _, (fun e => nomatch e), fun _ => h H' (n.fr0 f2) (n.st0 s')⟩
  have n1 := n.step f1 s1
  cases b with
  | true => exact ⟨_, n1.rel, key _ h⟩
  | false => exact ⟨_, n1.rel, key _ h⟩
end
end PT
namespace PT
open PySem PySem.Spec PyProof.Rows L2

structure Ck where
  N : List Str
  mu : List Nat
  P : List Def
  cs : List (Str × Int)
  bl : List Str
def eqS (x y : Str) : Bool := decide (x = y)
def visC (sc : Scope) (x : Str) : Bool := match sc.names.lookup x with
  | some .local => true
  | some .cell => true
  | some .free => true
  | _ => false
def glC (sc : Scope) (x : Str) : Bool := match sc.names.lookup x with
  | some .globalImplicit => true
  | _ => false
def okN (x : Str) : Bool := !(x == ("__debug__" : Str)) && !(x == ("__classdict__" : Str)) && !decide (x = ("__name__" : Str))
def blC (k : Ck) (sc : Scope) (x : Str) : Bool := glC sc x && decide (x ∈ k.bl)
def notSl : Expr → Bool
  | .Slice _ _ _ _ => false
  | _ => true
def notCall0 : Expr → Bool
  | .Call (.Name _ _) [] [] _ => false
  | _ => true
def notSet : Expr → Bool
  | .Set _ _ _ => false
  | _ => true
def isTup : Expr → Bool
  | .Tuple _ _ _ => true
  | _ => false
/-- no expression with a test of its own -/
def plainT : Expr → Bool
  | .UnaryOp .Not _ _ => false
  | .BoolOp _ _ _ => false
  | .IfExp _ _ _ _ => false
  | .Compare _ _ _ _ => false
  | _ => true
def b1N : B1 → Str
  | .len => "len" | .int => "int" | .str => "str" | .tuple => "tuple" | .list => "list" | .sorted => "sorted" | .min => "min" | .max => "max" | .sum => "sum" | .repr => "repr" | .sset => "sorted" | .lset => "len"
def b2N : B2 → Str
  | .max2 => "max" | .min2 => "min"
def m1N : M1 → Str
  | .index => "index" | .count => "count"
def ownP (N : List Str) (own : List Nat) : List (Str × Nat) := own.map fun i => (N.getD i "", i)
def sub (a b : List Nat) : Bool := a.all fun i => decide (i ∈ b)
def dis (a b : List Nat) : Bool := a.all fun i => decide (i ∉ b)
/-- a name that is stored to; s0: the block's own scope -/
def locC (sc : Scope) (s0 : Option Scope) (x : Str) : Bool := match sc.names.lookup x with
  | some .local => true
  | some .cell => (match s0 with
    | none => true
    | some s => s.names.lookup x == some .cell)
  | _ => false
mutual
def chkG (k : Ck) (sc : Scope) (s0 : Option Scope) : Tg → Expr → Bool
  | .n i, e => (match e with
    | .Name x _ => decide (k.N[i]? = some x) && locC sc s0 x
    | _ => false)
  | .tup ts, e => (match e with
    | .Tuple es _ _ => chkGs k sc s0 ts es && es.all nst
    | _ => false)
def chkGs (k : Ck) (sc : Scope) (s0 : Option Scope) : List Tg → List Expr → Bool
  | [], es => es.isEmpty
  | t :: ts, es => (match es with
    | e :: er => chkG k sc s0 t e && chkGs k sc s0 ts er
    | [] => false)
end
mutual
def chkE (k : Ck) : T → Bool → Scope → Md → Expr → Bool
  | .var i, _, sc, md, e => (match e with
    | .Name x _ => decide (k.N[i]? = some x) && visC sc x && okN x && decide (i ∉ k.mu) && decide (md ≠ .fr)
    | _ => false)
  | .own i, _, sc, md, e => (match e with
    | .Name x _ => decide (k.N[i]? = some x) && visC sc x && okN x && decide (i ∈ k.mu) && decide (md = .tr)
    | _ => false)
  | .int i, _, _, _, e => (match e with
    | .Constant (.int j) _ _ => decide (i = j)
    | _ => false)
  | .bl b, _, _, _, e => (match e with
    | .Constant (.bool j) _ _ => decide (b = j)
    | _ => false)
  | .non, _, _, _, e => (match e with
    | .Constant .none _ _ => true
    | _ => false)
  | .str x, _, _, _, e => (match e with
    | .Constant (.str y) _ _ => eqS x y
    | _ => false)
  | .glob x i, _, sc, _, e => (match e with
    | .Name y _ => eqS x y && glC sc y && okN y && decide ((x, i) ∈ k.cs)
    | _ => false)
  | .bin o a b, _, sc, _, e => (match e with
    | .BinOp ea p eb _ => decide (p = opM o) && chkE k a false sc .tr ea && chkE k b false sc .tr eb
    | _ => false)
  | .neg a, _, sc, _, e => (match e with
    | .UnaryOp .USub ea _ => chkE k a false sc .tr ea
    | _ => false)
  | .not a, tst, sc, _, e => (match e with
    | .UnaryOp .Not ea _ => chkE k a tst sc .tr ea
    | _ => false)
  | .and a bs, tst, sc, md, e => (match e with
    | .BoolOp .And (ea :: es) _ => chkE k a tst sc md ea && chkM k bs tst sc md es && !bs.isEmpty
    | _ => false)
  | .or a bs, tst, sc, md, e => (match e with
    | .BoolOp .Or (ea :: es) _ => chkE k a tst sc md ea && chkM k bs tst sc md es && !bs.isEmpty
    | _ => false)
  | .cmp o a b, _, sc, _, e => (match e with
    | .Compare ea [p] [eb] _ => decide (p = copM o) && !(behindInMarks p eb) && chkE k a false sc .tr ea && chkE k b false sc .tr eb
    | _ => false)
  | .ch2 o o' a b c, _, sc, _, e => (match e with
    | .Compare ea [p, q] [eb, ec] _ => decide (p = copM o) && decide (q = copM o') && !(lastMarks [p, q] [eb, ec]) && chkE k a false sc .tr ea && chkE k b false sc .tr eb && chkE k c false sc .tr ec
    | _ => false)
  | .ch3 _ _ _ _ _ _ _, _, _, _, _ => false
  | .isN a, _, sc, _, e => (match e with
    | .Compare ea [.Is] [.Constant .none _ _] _ => chkE k a false sc .tr ea
    | _ => false)
  | .isNN a, _, sc, _, e => (match e with
    | .Compare ea [.IsNot] [.Constant .none _ _] _ => chkE k a false sc .tr ea
    | _ => false)
  | .isNT a, _, sc, _, e => (match e with
    | .Compare ea [.IsNot] [.Constant (.bool true) _ _] _ => chkE k a false sc .tr ea
    | _ => false)
  | .ife c a b, tst, sc, md, e => (match e with
    | .IfExp ec ea eb _ => !tst && chkE k c true sc .tr ec && chkE k a false sc md ea && chkE k b false sc md eb
    | _ => false)
  | .tup ts, _, sc, _, e => (match e with
    | .Tuple es _ _ => chkM k ts false sc .cl es && decide (ts.length ≤ 1000) && es.all nst
    | _ => false)
  | .lst ts, _, sc, _, e => (match e with
    | .List es _ => chkM k ts false sc .cl es && decide (ts.length ≤ 1000) && es.all nst
    | _ => false)
  | .dct0, _, _, _, e => (match e with
    | .Dict [] [] _ => true
    | _ => false)
  | .ix a i, _, sc, md, e => (match e with
    | .Subscript ea ei _ => decide (md ≠ .fr) && notSl ei && chkE k a false sc .tr ea && chkE k i false sc .tr ei
    | _ => false)
  | .sl a lo hi, _, sc, _, e => (match e with
    | .Subscript ea (.Slice el eh none _) _ => chkE k a false sc .tr ea && chkO k lo sc el && chkO k hi sc eh
    | _ => false)
  | .rev a, _, sc, _, e => (match e with
    | .Subscript ea (.Slice none none (some (.UnaryOp .USub (.Constant (.int 1) _ _) _)) _) _ => chkE k a false sc .tr ea
    | _ => false)
  | .call f ts, _, sc, md, e => (match e with
    | .Call (.Name x _) (ea :: es) [] _ => (match k.P[f]? with
      | some d => eqS d.name x && (decide (md ≠ .fr) || d.fr)
      | none => false) && glC sc x && okN x && chkM k ts false sc .cl (ea :: es) && (ea :: es).all nst
    | _ => false)
  | .b1 o a, _, sc, _, e => (match o with
    | .sset => (match e with
      | .Call (.Name x _) [.Call (.Name y _) [ea] [] _] [] _ => eqS x "sorted" && eqS y "set" && blC k sc x && blC k sc y && nst ea && chkE k a false sc .tr ea
      | _ => false)
    | .lset => (match e with
      | .Call (.Name x _) [.Call (.Name y _) [ea] [] _] [] _ => eqS x "len" && eqS y "set" && blC k sc x && blC k sc y && nst ea && chkE k a false sc .tr ea
      | _ => false)
    | o => (match e with
      | .Call (.Name x _) [ea] [] _ => eqS x (b1N o) && blC k sc x && nst ea && chkE k a false sc .tr ea
      | _ => false))
  | .b2 o a b, _, sc, _, e => (match e with
    | .Call (.Name x _) [ea, eb] [] _ => eqS x (b2N o) && blC k sc x && nst ea && nst eb && chkE k a false sc .tr ea && chkE k b false sc .tr eb
    | _ => false)
  | .m1 o a b, _, sc, _, e => (match e with
    | .Call (.Attribute ea nm ap) [eb] [] cp => eqS nm (m1N o) && nst eb && notCall0 ea && (ap.endLine == cp.line) && chkE k a false sc .tr ea && chkE k b false sc .tr eb
    | _ => false)
  | .isi kd a, _, sc, _, e => (match e with
    | .Call (.Name x _) [ea, .Name y _] [] _ => decide (kd ≠ .intTuple) && eqS x "isinstance" && eqS y (Str.ofString (kdT kd)) && blC k sc x && blC k sc y && nst ea && chkE k a false sc .tr ea
    | .Call (.Name x _) [ea, .Tuple [.Name y _, .Name z _] _ _] [] _ => decide (kd = .intTuple) && eqS x "isinstance" && eqS y "int" && eqS z "tuple" && blC k sc x && blC k sc y && blC k sc z && nst ea && chkE k a false sc .tr ea
    | _ => false)
  | .join a, _, sc, _, e => (match e with
    | .Call (.Attribute (.Constant (.str z) _ _) nm ap) [ea] [] cp => eqS z "" && eqS nm "join" && nst ea && (ap.endLine == cp.line) && chkE k a false sc .tr ea
    | _ => false)
  | .lrg it, _, sc, _, e => (match it with
    | .rg1 a => (match e with
      | .Call (.Name x _) [.Call (.Name y _) [ea] [] _] [] _ => eqS x "list" && eqS y "range" && blC k sc x && blC k sc y && nst ea && chkE k a false sc .tr ea
      | _ => false)
    | .rg2 a b => (match e with
      | .Call (.Name x _) [.Call (.Name y _) [ea, eb] [] _] [] _ => eqS x "list" && eqS y "range" && blC k sc x && blC k sc y && nst ea && nst eb && chkE k a false sc .tr ea && chkE k b false sc .tr eb
      | _ => false)
    | _ => false)
  | .lc own tg it ifs elt, _, sc, _, e => (match e with
    | .ListComp ee [⟨tge, ie, ifes, 0⟩] scope _ => blkC k.N sc scope (ownP k.N own) && sub (slT tg) own && dis (slT tg) k.mu && notSet ie && chkI k it sc false tge ie && chkG k (relS scope sc) (some scope) tg tge && chkC k ifs (relS scope sc) ifes && chkE k elt false (relS scope sc) .cl ee
    | _ => false)
  | .lc2 own own1 tg it tg1 it1 elt, _, sc, _, e => (match e with
    | .ListComp ee [⟨tge, ie, [], 0⟩, ⟨tge1, ie1, [], 0⟩] scope _ => blkC k.N sc scope (ownP k.N own) && sub own1 own && sub (slT tg) own && dis (slT tg) k.mu && sub (slT tg1) own1 && dis (slT tg1) k.mu && notSet ie && notSet ie1 && chkI k it sc false tge ie && chkG k (relS scope sc) (some scope) tg tge &&
        chkI k it1 (relS scope sc) true tge1 ie1 && chkG k (relS scope sc) (some scope) tg1 tge1 && chkE k elt false (relS scope sc) .cl ee
    | _ => false)
def chkM (k : Ck) : List T → Bool → Scope → Md → List Expr → Bool
  | [], _, _, _, es => es.isEmpty
  | t :: ts, tst, sc, md, es => (match es with
    | e :: er => chkE k t tst sc md e && chkM k ts tst sc md er
    | [] => false)
def chkO (k : Ck) : Op → Scope → Option Expr → Bool
  | .no, _, e => e.isNone
  | .yes t, sc, e => (match e with
    | some e => chkE k t false sc .tr e
    | none => false)
def chkC (k : Ck) : Op → Scope → List Expr → Bool
  | .no, _, es => es.isEmpty
  | .yes t, sc, es => (match es with
    | [e] => chkE k t true sc .tr e
    | _ => false)
def chkI (k : Ck) : It → Scope → Bool → Expr → Expr → Bool
  | .seq a, sc, cl, _, e => chkE k a false sc (mdI cl) e
  | .rg1 a, sc, _, _, e => (match e with
    | .Call (.Name x _) [ea] [] _ => eqS x "range" && blC k sc x && nst ea && chkE k a false sc .tr ea
    | _ => false)
  | .rg2 a b, sc, _, _, e => (match e with
    | .Call (.Name x _) [ea, eb] [] _ => eqS x "range" && blC k sc x && nst ea && nst eb && chkE k a false sc .tr ea && chkE k b false sc .tr eb
    | _ => false)
  | .rg3 a b c, sc, _, _, e => (match e with
    | .Call (.Name x _) [ea, eb, ec] [] _ => eqS x "range" && blC k sc x && nst ea && nst eb && nst ec && chkE k a false sc .tr ea && chkE k b false sc .tr eb && chkE k c false sc .tr ec
    | _ => false)
  | .enu a, sc, cl, tg, e => (match e with
    | .Call (.Name x _) [ea] [] _ => isTup tg && eqS x "enumerate" && blC k sc x && nst ea && chkE k a false sc (mdI cl) ea
    | _ => false)
  | .zip2 a b, sc, cl, tg, e => (match e with
    | .Call (.Name x _) [ea, eb] [] _ => isTup tg && eqS x "zip" && blC k sc x && nst ea && nst eb && chkE k a false sc (mdI cl) ea && chkE k b false sc (mdI cl) eb
    | _ => false)
  | .zip3 _ _ _, _, _, _, _ => false
end
end PT
namespace PT
open PySem PySem.Spec PyProof.Rows L2

theorem visC_ok {X : Cx} {x : Str} (h : visC X.env.scope x = true) : Vis X.env.scope x := by
  unfold visC at h
  split at h
  · exact .inl (by assumption)
  · exact .inr (.inl (by assumption))
  · exact .inr (.inr (by assumption))
  · cases h
theorem glC_ok {X : Cx} {x : Str} (h : glC X.env.scope x = true) : Gl X x := by
  unfold glC at h
  split at h
  · assumption
  · cases h
theorem okN_ok {x : Str} (h : okN x = true) : (x == ("__debug__" : Str)) = false ∧ (x == ("__classdict__" : Str)) = false ∧ x ≠ "__name__" := by
  unfold okN at h
  simp only [Bool.and_eq_true, Bool.not_eq_true', decide_eq_false_iff_not] at h
  exact ⟨h.1.1, h.1.2, h.2⟩
theorem notSl_ok {e : Expr} (h : notSl e = true) : PlainIx e := by
  intro o i
  cases e <;> first | rfl | cases h
theorem notSet_ok {e : Expr} {env : PySem.Env} (h : notSet e = true) : ∀ x, foldedSetIterable e env x = pure x := by
  intro x
  cases e <;> first | rfl | cases h
theorem notCall0_ok {e : Expr} {env : PySem.Env} {a : Str} {w : Sem Value} (h : notCall0 e = true) : attributeBase e a env w = w := by
  unfold attributeBase
  split
  · cases h
  · rfl
theorem plainT_ok {e : Expr} {env : PySem.Env} (h : plainT e = true) : ∀ whole, isTrue e env whole = (do let v ← whole; standAt e.pos; holding [v] (truthy v)) := by
  intro whole
  cases e with
  | UnaryOp op a p => cases op <;> first | rfl | cases h
  | _ => first | rfl | cases h
theorem eqS_ok {x y : Str} (h : eqS x y = true) : x = y := of_decide_eq_true h
/-- what stands around the expressions of a def, at level n -/
structure Fx (k : Ck) (n : Nat) (cE : Exc → Addr) (X : Cx) : Prop where
  calm : X.calm = true
  gu : X.A.guards = some []
  room : Room n X.A
  nd : X.N.Nodup
  hN : X.N = k.N
  fn : ∀ f d, k.P[f]? = some d → ∃ a fd, X.mg d.name = some (.ref a) ∧ PySem.W.keepIn X.K (.ref a) = true ∧ Binds X.K fd (d.ns.take d.ps) [] ∧ FnG X.prog X.w X.K X.mg X.base n a fd (d.ns.take d.ps) (spF cE k.P n f)
  con : ∀ x i, (x, i) ∈ k.cs → ∃ t, X.mg x = some (.int i t)
  fre : ∀ x, x ∈ k.bl → X.mg x = none
  ef : Ef X.K X.mg cE
section
variable {k : Ck} {n : Nat} {cE : Exc → Addr} {X : Cx}
theorem Fx.blk (h : Fx k n cE X) (s : Shared) (H : Hp) (scope : Scope) (cenv : PySem.Env) (fp : List Addr) : Fx k n cE (X.blk s H scope cenv fp) := ⟨h.calm, h.gu, h.room, h.nd, h.hN, h.fn, h.con, h.fre, h.ef⟩
theorem Fx.tr (h : Fx k n cE X) (pn : List (Addr × Obj)) (xe : Value → Shared → Prop) : Fx k n cE (X.tr pn xe) := ⟨h.calm, h.gu, h.room, h.nd, h.hN, h.fn, h.con, h.fre, h.ef⟩
theorem Fx.u64 (h : Fx k n cE X) : X.A.units + 64 < cLine := h.room.units
theorem Fx.u80 (h : Fx k n cE X) : X.A.units + 80 < cLine := by have := h.room.un; omega
theorem blC_ok (h : Fx k n cE X) {x : Str} (b : blC k X.env.scope x = true) : Gl X x ∧ X.mg x = none := by
  unfold blC at b
  rw [Bool.and_eq_true, decide_eq_true_eq] at b
  exact ⟨glC_ok b.1, h.fre x b.2⟩
end
section
variable {cE : Exc → Addr} {W : WX} {mu : List Nat} {Φ : Fn} {X : Cx} {c : Cf} {σ : L2.St} {H H1 : Hp} {g : G} {md m : Md} {Q : VK} {d : D} {v : V} {pos p : Pos}
theorem im_cmp {o : COp} {a b : T} (h : tE cE W mu Φ md (.cmp o a b) σ H Q) : tOp (r2 (cmpV o)) (tE cE W mu Φ .tr a) (tE cE W mu Φ .tr b) σ H Q := by
  obtain ⟨c, R, h⟩ := h
  simp only [evE, pX_bind, pX_ofO] at h
  refine ⟨c, R, h.mono fun x g1 _ h v H1 f1 s1 i1 => ?_⟩
  refine ⟨_, R.step f1 s1, (h.go f1 g1).mono fun y g2 _ h w H2 f2 s2 i2 => ?_⟩
  obtain ⟨z, ez, k⟩ := h
  exact ⟨_, x, y, z, R.v2 f1 s1 i1 f2 s2 i2, ez, k.fin R (f1.trans f2) s2 rfl rfl rfl⟩
theorem im_ch2 {o o' : COp} {a b t : T} (h : tE cE W mu Φ md (.ch2 o o' a b t) σ H Q) : tChain (r2 (cmpV o)) (r2 (cmpV o')) (tE cE W mu Φ .tr a) (tE cE W mu Φ .tr b) (tE cE W mu Φ .tr t) σ H Q := by
  obtain ⟨c, R, h⟩ := h
  simp only [evE, pX_bind, pX_ofO] at h
  refine ⟨c, R, h.mono fun x g1 _ h v H1 f1 s1 i1 => ?_⟩
  refine ⟨_, R.step f1 s1, (h.go f1 g1).mono fun y g2 _ h w H2 f2 s2 i2 => ?_⟩
  obtain ⟨r, er, h⟩ := h
  refine ⟨{ c with g := g2 }, x, y, .bool r, R.v2 f1 s1 i1 f2 s2 i2, by unfold cmpV; rw [er]; rfl, fun z H3 f3 s3 i3 => ?_⟩
  have e3 : z = .bl r := by
    rcases i3 with ⟨_, _, _, _, e, _⟩ | ⟨_, i⟩
    · cases e
    · cases i; rfl
  subst e3
  refine ⟨r, rfl, ?_⟩
  have f13 := (f1.trans f2).trans f3
  cases r with
  | false =>
    have h : kE md c H Q (.bool false) g2 := h
    exact h _ H3 f13 s3 (IsR.sc (.bl _) fun _ e => nomatch e)
  | true =>
    rw [if_pos rfl] at h ⊢
    rw [pX_bind] at h
    refine ⟨{ c with g := g2 }, R.step f13 s3, (h.go f13 g2).mono fun z g4 _ h u H4 f4 s4 i4 => ?_⟩
    rw [pX_ofO] at h
    obtain ⟨q, eq, k⟩ := h
    refine ⟨_, y, z, q, R.v2 (f1.trans f2) s2 i2 (f3.trans f4) s4 i4, eq, k.fin R (f13.trans f4) s4 rfl rfl rfl⟩
theorem im_isN {a : T} {r : R2} (hr : r = fun x y H Q => y = .non ∧ Q (.bl (decide (x = .non))) H) (h : tE cE W mu Φ md (.isN a) σ H Q) : tOp r (tE cE W mu Φ .tr a) (tC .non) σ H Q := by
  subst hr
  obtain ⟨c, R, h⟩ := h
  simp only [evE, pX_bind] at h
  refine ⟨c, R, h.mono fun x g1 _ h v H1 f1 s1 i1 => ⟨rfl, ?_⟩⟩
  rw [isN_is (O := c.O) (ast := c.ast) (H := H1) i1]
  exact h _ H1 f1 s1 (IsR.sc (.bl _) fun _ e => nomatch e)
theorem im_isNN {a : T} {r : R2} (hr : r = fun x y H Q => y = .non ∧ Q (.bl (!decide (x = .non))) H) (h : tE cE W mu Φ md (.isNN a) σ H Q) : tOp r (tE cE W mu Φ .tr a) (tC .non) σ H Q := by
  subst hr
  obtain ⟨c, R, h⟩ := h
  simp only [evE, pX_bind] at h
  refine ⟨c, R, h.mono fun x g1 _ h v H1 f1 s1 i1 => ⟨rfl, ?_⟩⟩
  rw [isN_is (O := c.O) (ast := c.ast) (H := H1) i1]
  exact h _ H1 f1 s1 (IsR.sc (.bl _) fun _ e => nomatch e)
theorem im_isNT {a : T} (h : tE cE W mu Φ md (.isNT a) σ H Q) : tOp rNotB (tE cE W mu Φ .tr a) (tC (.bl true)) σ H Q := by
  obtain ⟨c, R, h⟩ := h
  simp only [evE, pX_bind] at h
  refine ⟨c, R, h.mono fun x g1 _ h v H1 f1 s1 i1 => ?_⟩
  cases x with
  | bool b =>
    obtain rfl := (show IsT c.O c.ast H1 v (.bool b) from i1).bool
    refine ⟨b, true, rfl, rfl, ?_⟩
    have e : (!decide (b = true)) = !b := by cases b <;> rfl
    rw [e]
    exact h _ H1 f1 s1 (IsR.sc (.bl _) fun _ e => nomatch e)
  | _ => exact (show False from h).elim
theorem tt_of {ea : Expr} {a : T} {t : TE} (hp : L2.PT X ea (tTest t)) (im : ∀ σ H Q, tE cE W mu Φ .tr a σ H Q → t σ H Q) (hb : ∀ ρ g x g', evE Φ a ρ g = .ok x g' → ∃ k, x = .bool k) : L2.PT X ea (tP cE W mu Φ a) :=
  st_cmp (op := .Eq) (eb := ea) hb (PT'.mono hp fun σ H Q h => im σ H _ h)
theorem ofO_ok {α : Type} {o : Option α} {g g' : G} {x : α} (h : Res.ofO o g = .ok x g') : o = some x ∧ g = g' := by
  cases o with
  | none => cases h
  | some a => cases h; exact ⟨rfl, rfl⟩
theorem bo_cmp {o : COp} {a b : T} {ρ : Env} {g g' : G} {x : D} (h : evE Φ (.cmp o a b) ρ g = .ok x g') : ∃ k, x = .bool k := by
  simp only [evE] at h
  obtain ⟨_, _, _, h⟩ := bind_okE h
  obtain ⟨_, _, _, h⟩ := bind_okE h
  obtain ⟨h, _⟩ := ofO_ok h
  obtain ⟨b, _, rfl⟩ := map_some h
  exact ⟨b, rfl⟩
theorem bo_ch2 {o o' : COp} {a b t : T} {ρ : Env} {g g' : G} {x : D} (h : evE Φ (.ch2 o o' a b t) ρ g = .ok x g') : ∃ k, x = .bool k := by
  simp only [evE] at h
  obtain ⟨_, _, _, h⟩ := bind_okE h
  obtain ⟨_, _, _, h⟩ := bind_okE h
  obtain ⟨r, _, _, h⟩ := bind_okE h
  cases r with
  | false => cases h; exact ⟨_, rfl⟩
  | true =>
    rw [if_pos rfl] at h
    obtain ⟨_, _, _, h⟩ := bind_okE h
    obtain ⟨h, _⟩ := ofO_ok h
    obtain ⟨b, _, rfl⟩ := map_some h
    exact ⟨b, rfl⟩
theorem bo_isN {a : T} {ρ : Env} {g g' : G} {x : D} (h : evE Φ (.isN a) ρ g = .ok x g') : ∃ k, x = .bool k := by
  simp only [evE] at h
  obtain ⟨_, _, _, h⟩ := bind_okE h
  cases h; exact ⟨_, rfl⟩
theorem bo_isNN {a : T} {ρ : Env} {g g' : G} {x : D} (h : evE Φ (.isNN a) ρ g = .ok x g') : ∃ k, x = .bool k := by
  simp only [evE] at h
  obtain ⟨_, _, _, h⟩ := bind_okE h
  cases h; exact ⟨_, rfl⟩
theorem bo_isNT {a : T} {ρ : Env} {g g' : G} {x : D} (h : evE Φ (.isNT a) ρ g = .ok x g') : ∃ k, x = .bool k := by
  simp only [evE] at h
  obtain ⟨y, _, _, h⟩ := bind_okE h
  cases y with
  | bool b => cases h; exact ⟨_, rfl⟩
  | _ => cases h
theorem locC_ok {sc : Scope} {s0 : Option Scope} {x : Str} (hsc : X.env.scope = sc) (hs0 : match s0 with
    | none => ∀ x, X.fn x = true
    | some s => ∀ x, X.fn x = (s.names.lookup x == some .cell)) (h : locC sc s0 x = true) : Loc X.env.scope x ∧ (X.fn x = true ∨ X.env.scope.names.lookup x = some .local) := by
  subst hsc
  unfold locC at h
  split at h
  · rename_i q; exact ⟨.inl q, .inr q⟩
  · rename_i q
    refine ⟨.inr q, .inl ?_⟩
    cases s0 with
    | none => exact hs0 x
    | some s => rw [hs0 x]; exact h
  · cases h
mutual
theorem okG {k : Ck} {sc : Scope} {s0 : Option Scope} (hc : X.calm = true) (nd : X.N.Nodup) (hN : X.N = k.N) (hsc : X.env.scope = sc) (hs0 : match s0 with
    | none => ∀ x, X.fn x = true
    | some s => ∀ x, X.fn x = (s.names.lookup x == some .cell)) : ∀ {t : Tg} {e : Expr}, chkG k sc s0 t e = true → PG X e (gT X.K t)
  | .n i, e, h => by
    simp only [chkG] at h
    split at h
    · rw [Bool.and_eq_true, decide_eq_true_eq] at h
      obtain ⟨h1, h2⟩ := locC_ok hsc hs0 h.2
      simp only [gT]
      exact pg_name nd (by rw [hN]; exact h.1) h1 h2
    · cases h
  | .tup ts, e, h => by
    simp only [chkG] at h
    split at h
    · rename_i es kk pp
      rw [Bool.and_eq_true] at h
      obtain ⟨h1, h2, h3⟩ := okGs hc nd hN hsc hs0 h.1 h.2
      simp only [gT]
      exact pg_tup hc h1 h2 h3
    · cases h
theorem okGs {k : Ck} {sc : Scope} {s0 : Option Scope} (hc : X.calm = true) (nd : X.N.Nodup) (hN : X.N = k.N) (hsc : X.env.scope = sc) (hs0 : match s0 with
    | none => ∀ x, X.fn x = true
    | some s => ∀ x, X.fn x = (s.names.lookup x == some .cell)) : ∀ {ts : List Tg} {es : List Expr}, chkGs k sc s0 ts es = true → es.all nst = true → PGs X es (gTs X.K ts) ∧ (assignEach es X.env).length = ts.length ∧ (assignEach es X.env).findIdx? (·.1) = none
  | [], es, h, _ => by
    simp only [chkGs] at h
    cases es with
    | nil => simp only [gTs]; exact ⟨pgs_nil, rfl, rfl⟩
    | cons e er => cases h
  | t :: ts, es, h, hs => by
    simp only [chkGs] at h
    cases es with
    | nil => cases h
    | cons e er =>
      rw [Bool.and_eq_true] at h
      rw [List.all_cons, Bool.and_eq_true] at hs
      obtain ⟨h1, h2, h3⟩ := okGs hc nd hN hsc hs0 h.2 hs.2
      have ea : assignEach (e :: er) X.env = (false, assign e X.env) :: assignEach er X.env := by
        have := hs.1
        cases e <;> first | rfl | cases this
      simp only [gTs]
      refine ⟨pgs_cons (okG hc nd hN hsc hs0 h.1) h1 (by rw [ea]; rfl), by rw [ea, List.length_cons, List.length_cons, h2], ?_⟩
      rw [ea, List.findIdx?_cons, if_neg (by simp), h3]; rfl
end
end
end PT
namespace PT
open PySem PySem.Spec PyProof.Rows L2

theorem andB {a b : Bool} (h : (a && b) = true) : a = true ∧ b = true := Bool.and_eq_true_iff.mp h
theorem ownP_snd {N : List Str} : ∀ {own : List Nat}, (ownP N own).map (·.2) = own
  | [] => rfl
  | i :: own => by show i :: (ownP N own).map (·.2) = i :: own; rw [ownP_snd]
theorem sub_ok {a b : List Nat} (h : sub a b = true) : ∀ i ∈ a, i ∈ b := fun i hi => of_decide_eq_true (List.all_eq_true.mp h i hi)
theorem dis_ok {a b : List Nat} (h : dis a b = true) : ∀ i ∈ a, i ∉ b := fun i hi => of_decide_eq_true (List.all_eq_true.mp h i hi)
theorem isTup_ok {e : Expr} (h : isTup e = true) : ∃ es kk p, e = .Tuple es kk p := by
  cases e <;> first | exact ⟨_, _, _, rfl⟩ | cases h
/-- no and, or, not, comparison, if -/
def special : T → Bool
  | .and _ _ | .or _ _ | .not _ | .cmp _ _ _ | .ch2 _ _ _ _ _ | .ch3 _ _ _ _ _ _ _ | .isN _ | .isNN _ | .isNT _ | .ife _ _ _ => true
  | _ => false
theorem flag_eq {k : Ck} {t : T} (h : special t = false) {sc : Scope} {md : Md} {e : Expr} {b b' : Bool} : chkE k t b sc md e = chkE k t b' sc md e := by
  cases t with
  | lrg it => cases it <;> rfl
  | _ => first | (cases h; done) | rfl
theorem plain_of {k : Ck} {t : T} (h : special t = false) {sc : Scope} {md : Md} {e : Expr} {b : Bool} (hc : chkE k t b sc md e = true) : plainT e = true := by
  cases t with
  | lrg it => cases it <;> (simp only [chkE] at hc; first | cases hc | (split at hc <;> first | rfl | cases hc))
  | b1 o a => cases o <;> (simp only [chkE] at hc; split at hc <;> first | rfl | cases hc)
  | _ => first | (cases h; done) | (simp only [chkE] at hc; first | (cases hc; done) | (split at hc <;> first | rfl | cases hc))
end PT
set_option maxHeartbeats 4000000
namespace PT
open PySem PySem.Spec PyProof.Rows L2

section
variable {k : Ck} {n : Nat} {cE : Exc → Addr}
mutual
theorem sdE : ∀ (t : T) {X : Cx} {W : WX} {sc : Scope} {md : Md} {e : Expr}, Fx k n cE X → Takes X W → X.env.scope = sc → chkE k t false sc md e = true → PE X e (tE cE W k.mu (runF k.P n) md t)
  | .var i, X, W, sc, md, e, F, tk, hs, h => by
    subst hs
    simp only [chkE] at h
    split at h
    · simp only [Bool.and_eq_true, decide_eq_true_eq] at h
      obtain ⟨⟨⟨⟨h1, h2⟩, h3⟩, h4⟩, h5⟩ := h
      obtain ⟨o1, o2, o3⟩ := okN_ok h3
      exact se_var (by rw [F.hN]; exact h1) (visC_ok h2) o1 o2 h4 h5
    · cases h
  | .own i, X, W, sc, md, e, F, tk, hs, h => by
    subst hs
    simp only [chkE] at h
    split at h
    · simp only [Bool.and_eq_true, decide_eq_true_eq] at h
      obtain ⟨⟨⟨⟨h1, h2⟩, h3⟩, h4⟩, h5⟩ := h
      obtain ⟨o1, o2, o3⟩ := okN_ok h3
      subst h5
      exact se_own (by rw [F.hN]; exact h1) (visC_ok h2) o1 o2 h4
    · cases h
  | .int i, X, W, sc, md, e, F, tk, hs, h => by
    simp only [chkE] at h
    split at h
    · obtain rfl := of_decide_eq_true h
      exact se_c pe_int (fun ρ g => by simp only [evE]) (fun _ _ _ => .int _) fun _ e => nomatch e
    · cases h
  | .bl i, X, W, sc, md, e, F, tk, hs, h => by
    simp only [chkE] at h
    split at h
    · obtain rfl := of_decide_eq_true h
      exact se_c pe_bl (fun ρ g => by simp only [evE]) (fun _ _ _ => .bl _) fun _ e => nomatch e
    · cases h
  | .non, X, W, sc, md, e, F, tk, hs, h => by
    simp only [chkE] at h
    split at h
    · exact se_c pe_non (fun ρ g => by simp only [evE]) (fun _ _ _ => .non) fun _ e => nomatch e
    · cases h
  | .str x, X, W, sc, md, e, F, tk, hs, h => by
    simp only [chkE] at h
    split at h
    · obtain rfl := eqS_ok h
      exact se_c pe_str (fun ρ g => by simp only [evE]) (fun _ _ _ => .str _) fun _ e => nomatch e
    · cases h
  | .glob x i, X, W, sc, md, e, F, tk, hs, h => by
    subst hs
    simp only [chkE] at h
    split at h
    · simp only [Bool.and_eq_true, decide_eq_true_eq] at h
      obtain ⟨⟨⟨h1, h2⟩, h3⟩, h4⟩ := h
      obtain rfl := eqS_ok h1
      obtain ⟨t, ht⟩ := F.con _ _ h4
      exact se_c (pe_glob (glC_ok h2) ht (show RelV (.int i) (.int i t) from ⟨t, rfl⟩) (okN_ok h3).1) (fun ρ g => by simp only [evE]) (fun _ _ _ => .int _) fun _ e => nomatch e
    · cases h
  | .bin o a b, X, W, sc, md, e, F, tk, hs, h => by
    simp only [chkE] at h
    split at h
    · simp only [Bool.and_eq_true, decide_eq_true_eq] at h
      obtain ⟨⟨rfl, h2⟩, h3⟩ := h
      exact se_bin (sdE a F tk hs h2) (sdE b F tk hs h3)
    · cases h
  | .neg a, X, W, sc, md, e, F, tk, hs, h => by
    simp only [chkE] at h
    split at h
    · exact se_neg (sdE a F tk hs h)
    · cases h
  | .not a, X, W, sc, md, e, F, tk, hs, h => by
    simp only [chkE] at h
    split at h
    · exact se_not (sdE a F tk hs h)
    · cases h
  | .and a [], X, W, sc, md, e, F, tk, hs, h => by
    simp only [chkE] at h
    split at h
    · simp at h
    · cases h
  | .and a (b :: bs), X, W, sc, md, e, F, tk, hs, h => by
    simp only [chkE] at h
    split at h
    · rename_i ea es pp
      obtain ⟨h, _⟩ := andB h
      obtain ⟨h1, h2⟩ := andB h
      cases es with
      | nil => simp [chkM] at h2
      | cons eb er => exact se_and (se_an (sdE a F tk hs h1) (sdAn b bs F tk hs h2))
    · cases h
  | .or a [], X, W, sc, md, e, F, tk, hs, h => by
    simp only [chkE] at h
    split at h
    · simp at h
    · cases h
  | .or a (b :: bs), X, W, sc, md, e, F, tk, hs, h => by
    simp only [chkE] at h
    split at h
    · rename_i ea es pp
      obtain ⟨h, _⟩ := andB h
      obtain ⟨h1, h2⟩ := andB h
      cases es with
      | nil => simp [chkM] at h2
      | cons eb er => exact se_orr (se_or (sdE a F tk hs h1) (sdOr b bs F tk hs h2))
    · cases h
  | .cmp o a b, X, W, sc, md, e, F, tk, hs, h => by
    simp only [chkE] at h
    split at h
    · simp only [Bool.and_eq_true, decide_eq_true_eq, Bool.not_eq_true'] at h
      obtain ⟨⟨⟨rfl, h1⟩, h2⟩, h3⟩ := h
      exact se_cmp F.u64 (sdE a F tk hs h2) (sdE b F tk hs h3) h1
    · cases h
  | .ch2 o o' a b c, X, W, sc, md, e, F, tk, hs, h => by
    simp only [chkE] at h
    split at h
    · simp only [Bool.and_eq_true, decide_eq_true_eq, Bool.not_eq_true'] at h
      obtain ⟨⟨⟨⟨⟨rfl, rfl⟩, h1⟩, h2⟩, h3⟩, h4⟩ := h
      exact se_ch2 F.u64 (sdE a F tk hs h2) (sdE b F tk hs h3) (sdE c F tk hs h4) h1
    · cases h
  | .ch3 _ _ _ _ _ _ _, X, W, sc, md, e, F, tk, hs, h => by simp [chkE] at h
  | .isN a, X, W, sc, md, e, F, tk, hs, h => by
    simp only [chkE] at h
    split at h
    · exact se_isN (sdE a F tk hs h)
    · cases h
  | .isNN a, X, W, sc, md, e, F, tk, hs, h => by
    simp only [chkE] at h
    split at h
    · exact se_isNN (sdE a F tk hs h)
    · cases h
  | .isNT a, X, W, sc, md, e, F, tk, hs, h => by
    simp only [chkE] at h
    split at h
    · exact se_isNT (sdE a F tk hs h)
    · cases h
  | .ife c a b, X, W, sc, md, e, F, tk, hs, h => by
    simp only [chkE] at h
    split at h
    · obtain ⟨h, h3⟩ := andB h
      obtain ⟨h, h2⟩ := andB h
      obtain ⟨_, h1⟩ := andB h
      exact se_ife (sdT c F tk hs h1) (sdE a F tk hs h2) (sdE b F tk hs h3)
    · cases h
  | .tup ts, X, W, sc, md, e, F, tk, hs, h => by
    simp only [chkE] at h
    split at h
    · obtain ⟨h, h3⟩ := andB h
      obtain ⟨h1, h2⟩ := andB h
      exact se_tup (of_decide_eq_true h2) (sdM ts F tk hs h1 h3)
    · cases h
  | .lst ts, X, W, sc, md, e, F, tk, hs, h => by
    simp only [chkE] at h
    split at h
    · obtain ⟨h, h3⟩ := andB h
      obtain ⟨h1, h2⟩ := andB h
      exact se_lst (of_decide_eq_true h2) (sdM ts F tk hs h1 h3)
    · cases h
  | .dct0, X, W, sc, md, e, F, tk, hs, h => by
    simp only [chkE] at h
    split at h
    · exact se_dct
    · cases h
  | .ix a i, X, W, sc, md, e, F, tk, hs, h => by
    simp only [chkE] at h
    split at h
    · obtain ⟨h, h4⟩ := andB h
      obtain ⟨h, h3⟩ := andB h
      obtain ⟨h1, h2⟩ := andB h
      exact se_ix (of_decide_eq_true h1) (notSl_ok h2) (sdE a F tk hs h3) (sdE i F tk hs h4)
    · cases h
  | .sl a lo hi, X, W, sc, md, e, F, tk, hs, h => by
    simp only [chkE] at h
    split at h
    · obtain ⟨h, h3⟩ := andB h
      obtain ⟨h1, h2⟩ := andB h
      exact se_sl (sdE a F tk hs h1) (sdO lo F tk hs h2) (sdO hi F tk hs h3)
    · cases h
  | .rev a, X, W, sc, md, e, F, tk, hs, h => by
    simp only [chkE] at h
    split at h
    · exact se_rev (sdE a F tk hs h)
    · cases h
  | .call f ts, X, W, sc, md, e, F, tk, hs, h => by
    simp only [chkE] at h
    split at h
    · obtain ⟨h, h5⟩ := andB h
      obtain ⟨h, h4⟩ := andB h
      obtain ⟨h, h3⟩ := andB h
      obtain ⟨h1, h2⟩ := andB h
      split at h1
      · rename_i d hd
        obtain ⟨h1, h6⟩ := andB h1
        obtain rfl := eqS_ok h1
        obtain ⟨a, fd, q1, q2, q3, q4⟩ := F.fn f d hd
        subst hs
        refine se_call tk hd (fun e => ?_) q4 F.gu F.room (glC_ok h2) q1 q2 q3 (sdM ts F tk rfl h4 h5) h5 (okN_ok h3).1
        subst e
        simpa using h6
      · cases h1
    · cases h
  | .b1 o a, X, W, sc, md, e, F, tk, hs, h => by
    subst hs
    cases o with
    | sset =>
      simp only [chkE] at h
      split at h
      · simp only [Bool.and_eq_true] at h
        obtain ⟨⟨⟨⟨⟨h1, h2⟩, h3⟩, h4⟩, h5⟩, h6⟩ := h
        obtain rfl := eqS_ok h1
        obtain rfl := eqS_ok h2
        obtain ⟨g1, m1⟩ := blC_ok F h3
        obtain ⟨g2, m2⟩ := blC_ok F h4
        exact se_set (op := "") F.calm (.inl rfl) rfl (by rw [if_pos rfl]) g1 m1 g2 m2 h5 (sdE a F tk rfl h6)
      · cases h
    | lset =>
      simp only [chkE] at h
      split at h
      · simp only [Bool.and_eq_true] at h
        obtain ⟨⟨⟨⟨⟨h1, h2⟩, h3⟩, h4⟩, h5⟩, h6⟩ := h
        obtain rfl := eqS_ok h1
        obtain rfl := eqS_ok h2
        obtain ⟨g1, m1⟩ := blC_ok F h3
        obtain ⟨g2, m2⟩ := blC_ok F h4
        exact se_set (op := "") F.calm (.inr rfl) rfl (by rw [if_neg (by decide)]) g1 m1 g2 m2 h5 (sdE a F tk rfl h6)
      · cases h
    | len =>
      simp only [chkE] at h
      split at h
      · obtain ⟨⟨⟨h1, h2⟩, h3⟩, h4⟩ := (by simpa only [Bool.and_eq_true] using h)
        obtain rfl := eqS_ok h1
        obtain ⟨g1, m1⟩ := blC_ok F h2
        exact se_b1 (f := b1D .len) (a := a) (fun ρ g => by simp only [evE]) (pe_callB cb_len g1 m1 (by decide +kernel) (pa_one h3 (sdE a F tk rfl h4)) (by decide) (by decide) (star_cons h3) rfl)
      · cases h
    | int =>
      simp only [chkE] at h
      split at h
      · obtain ⟨⟨⟨h1, h2⟩, h3⟩, h4⟩ := (by simpa only [Bool.and_eq_true] using h)
        obtain rfl := eqS_ok h1
        obtain ⟨g1, m1⟩ := blC_ok F h2
        exact se_b1 (f := b1D .int) (a := a) (fun ρ g => by simp only [evE]) (pe_callTy cb_int g1 m1 (by decide +kernel) (pa_one h3 (sdE a F tk rfl h4)) (by decide) (by decide) (star_cons h3) rfl)
      · cases h
    | str =>
      simp only [chkE] at h
      split at h
      · obtain ⟨⟨⟨h1, h2⟩, h3⟩, h4⟩ := (by simpa only [Bool.and_eq_true] using h)
        obtain rfl := eqS_ok h1
        obtain ⟨g1, m1⟩ := blC_ok F h2
        exact se_b1 (f := b1D .str) (a := a) (fun ρ g => by simp only [evE]) (pe_callTy cb_str g1 m1 (by decide +kernel) (pa_one h3 (sdE a F tk rfl h4)) (by decide) (by decide) (star_cons h3) rfl)
      · cases h
    | tuple =>
      simp only [chkE] at h
      split at h
      · obtain ⟨⟨⟨h1, h2⟩, h3⟩, h4⟩ := (by simpa only [Bool.and_eq_true] using h)
        obtain rfl := eqS_ok h1
        obtain ⟨g1, m1⟩ := blC_ok F h2
        exact se_b1 (f := b1D .tuple) (a := a) (fun ρ g => by simp only [evE]) (pe_callTy (cb_tuple F.calm) g1 m1 (by decide +kernel) (pa_one h3 (sdE a F tk rfl h4)) (by decide) (by decide) (star_cons h3) rfl)
      · cases h
    | list =>
      simp only [chkE] at h
      split at h
      · obtain ⟨⟨⟨h1, h2⟩, h3⟩, h4⟩ := (by simpa only [Bool.and_eq_true] using h)
        obtain rfl := eqS_ok h1
        obtain ⟨g1, m1⟩ := blC_ok F h2
        exact se_b1 (f := b1D .list) (a := a) (fun ρ g => by simp only [evE]) (pe_callTy cb_list g1 m1 (by decide +kernel) (pa_one h3 (sdE a F tk rfl h4)) (by decide) (by decide) (star_cons h3) rfl)
      · cases h
    | sorted =>
      simp only [chkE] at h
      split at h
      · obtain ⟨⟨⟨h1, h2⟩, h3⟩, h4⟩ := (by simpa only [Bool.and_eq_true] using h)
        obtain rfl := eqS_ok h1
        obtain ⟨g1, m1⟩ := blC_ok F h2
        exact se_b1 (f := b1D .sorted) (a := a) (fun ρ g => by simp only [evE]) (pe_callB (cb_sorted F.u64) g1 m1 (by decide +kernel) (pa_one h3 (sdE a F tk rfl h4)) (by decide) (by decide) (star_cons h3) rfl)
      · cases h
    | min =>
      simp only [chkE] at h
      split at h
      · obtain ⟨⟨⟨h1, h2⟩, h3⟩, h4⟩ := (by simpa only [Bool.and_eq_true] using h)
        obtain rfl := eqS_ok h1
        obtain ⟨g1, m1⟩ := blC_ok F h2
        exact se_b1 (f := b1D .min) (a := a) (fun ρ g => by simp only [evE]) (pe_callB (cb_min F.calm F.u64) g1 m1 (by decide +kernel) (pa_one h3 (sdE a F tk rfl h4)) (by decide) (by decide) (star_cons h3) rfl)
      · cases h
    | max =>
      simp only [chkE] at h
      split at h
      · obtain ⟨⟨⟨h1, h2⟩, h3⟩, h4⟩ := (by simpa only [Bool.and_eq_true] using h)
        obtain rfl := eqS_ok h1
        obtain ⟨g1, m1⟩ := blC_ok F h2
        exact se_b1 (f := b1D .max) (a := a) (fun ρ g => by simp only [evE]) (pe_callB (cb_max F.calm F.u64) g1 m1 (by decide +kernel) (pa_one h3 (sdE a F tk rfl h4)) (by decide) (by decide) (star_cons h3) rfl)
      · cases h
    | sum =>
      simp only [chkE] at h
      split at h
      · obtain ⟨⟨⟨h1, h2⟩, h3⟩, h4⟩ := (by simpa only [Bool.and_eq_true] using h)
        obtain rfl := eqS_ok h1
        obtain ⟨g1, m1⟩ := blC_ok F h2
        exact se_b1 (f := b1D .sum) (a := a) (fun ρ g => by simp only [evE]) (pe_callB (cb_sum F.calm) g1 m1 (by decide +kernel) (pa_one h3 (sdE a F tk rfl h4)) (by decide) (by decide) (star_cons h3) rfl)
      · cases h
    | repr =>
      simp only [chkE] at h
      split at h
      · obtain ⟨⟨⟨h1, h2⟩, h3⟩, h4⟩ := (by simpa only [Bool.and_eq_true] using h)
        obtain rfl := eqS_ok h1
        obtain ⟨g1, m1⟩ := blC_ok F h2
        exact se_b1 (f := b1D .repr) (a := a) (fun ρ g => by simp only [evE]) (pe_callB (cb_repr F.gu F.u80) g1 m1 (by decide +kernel) (pa_one h3 (sdE a F tk rfl h4)) (by decide) (by decide) (star_cons h3) rfl)
      · cases h
  | .b2 o a b, X, W, sc, md, e, F, tk, hs, h => by
    subst hs
    simp only [chkE] at h
    split at h
    · simp only [Bool.and_eq_true] at h
      obtain ⟨⟨⟨⟨⟨h1, h2⟩, h3⟩, h4⟩, h5⟩, h6⟩ := h
      obtain rfl := eqS_ok h1
      obtain ⟨g1, m1⟩ := blC_ok F h2
      have ha := sdE (md := .tr) a F tk rfl h5
      have hb := sdE (md := .tr) b F tk rfl h6
      cases o with
      | max2 => exact se_b2 (f := b2D .max2) (a := a) (b := b) (fun ρ g => by simp only [evE]) (pe_callB (cb_max2 F.calm) g1 m1 (by decide +kernel) (pa_cons ha (pa_one h4 hb) (star_cons h3)) (by decide) (by decide) (star_cons h3) (star_none (by simp [h4])))
      | min2 => exact se_b2 (f := b2D .min2) (a := a) (b := b) (fun ρ g => by simp only [evE]) (pe_callB (cb_min2 F.calm) g1 m1 (by decide +kernel) (pa_cons ha (pa_one h4 hb) (star_cons h3)) (by decide) (by decide) (star_cons h3) (star_none (by simp [h4])))
    · cases h
  | .m1 o a b, X, W, sc, md, e, F, tk, hs, h => by
    simp only [chkE] at h
    split at h
    · simp only [Bool.and_eq_true] at h
      obtain ⟨⟨⟨⟨⟨h1, h2⟩, h3⟩, h4⟩, h5⟩, h6⟩ := h
      obtain rfl := eqS_ok h1
      have ha := sdE (md := .tr) a F tk hs h5
      have hb := sdE (md := .tr) b F tk hs h6
      cases o with
      | index => exact se_m1 PySem.F.slot_list_index PySem.F.type_list_index mt_idx ha hb h2 (notCall0_ok h3) h4
      | count => exact se_m1 PySem.F.slot_list_count PySem.F.type_list_count mt_cnt ha hb h2 (notCall0_ok h3) h4
    · cases h
  | .isi kd a, X, W, sc, md, e, F, tk, hs, h => by
    subst hs
    simp only [chkE] at h
    split at h
    · simp only [Bool.and_eq_true, decide_eq_true_eq] at h
      obtain ⟨⟨⟨⟨⟨⟨h1, h2⟩, h3⟩, h4⟩, h5⟩, h6⟩, h7⟩ := h
      obtain ⟨g1, m1⟩ := blC_ok F h4
      obtain ⟨g2, m2⟩ := blC_ok F h5
      exact se_isi h1 (eqS_ok h2) (eqS_ok h3) g1 m1 g2 m2 h6 (sdE a F tk rfl h7)
    · simp only [Bool.and_eq_true, decide_eq_true_eq] at h
      obtain ⟨⟨⟨⟨⟨⟨⟨⟨h1, h2⟩, h3⟩, h3'⟩, h4⟩, h5⟩, h5'⟩, h6⟩, h7⟩ := h
      obtain ⟨g1, m1⟩ := blC_ok F h4
      obtain ⟨g2, m2⟩ := blC_ok F h5
      obtain ⟨g3, m3⟩ := blC_ok F h5'
      subst h1
      exact se_isi2 (eqS_ok h2) (eqS_ok h3) (eqS_ok h3') g1 m1 g2 m2 g3 m3 h6 (sdE a F tk rfl h7)
    · cases h
  | .join a, X, W, sc, md, e, F, tk, hs, h => by
    simp only [chkE] at h
    split at h
    · simp only [Bool.and_eq_true] at h
      obtain ⟨⟨⟨⟨h1, h2⟩, h3⟩, h4⟩, h5⟩ := h
      exact se_join (eqS_ok h1) (eqS_ok h2) h3 h4 (sdE a F tk hs h5)
    · cases h
  | .lrg (.rg1 a), X, W, sc, md, e, F, tk, hs, h => by
    subst hs
    simp only [chkE] at h
    split at h
    · simp only [Bool.and_eq_true] at h
      obtain ⟨⟨⟨⟨⟨h1, h2⟩, h3⟩, h4⟩, h5⟩, h6⟩ := h
      obtain ⟨g1, m1⟩ := blC_ok F h3
      obtain ⟨g2, m2⟩ := blC_ok F h4
      exact se_lrg1 F.calm (eqS_ok h1) (eqS_ok h2) g1 m1 g2 m2 h5 (sdE a F tk rfl h6)
    · cases h
  | .lrg (.rg2 a b), X, W, sc, md, e, F, tk, hs, h => by
    subst hs
    simp only [chkE] at h
    split at h
    · simp only [Bool.and_eq_true] at h
      obtain ⟨⟨⟨⟨⟨⟨⟨h1, h2⟩, h3⟩, h4⟩, h5⟩, h6⟩, h7⟩, h8⟩ := h
      obtain ⟨g1, m1⟩ := blC_ok F h3
      obtain ⟨g2, m2⟩ := blC_ok F h4
      exact se_lrg2 F.calm (eqS_ok h1) (eqS_ok h2) g1 m1 g2 m2 h5 h6 (sdE a F tk rfl h7) (sdE b F tk rfl h8)
    · cases h
  | .lrg (.seq _), X, W, sc, md, e, F, tk, hs, h => by simp [chkE] at h
  | .lrg (.rg3 _ _ _), X, W, sc, md, e, F, tk, hs, h => by simp [chkE] at h
  | .lrg (.enu _), X, W, sc, md, e, F, tk, hs, h => by simp [chkE] at h
  | .lrg (.zip2 _ _), X, W, sc, md, e, F, tk, hs, h => by simp [chkE] at h
  | .lrg (.zip3 _ _ _), X, W, sc, md, e, F, tk, hs, h => by simp [chkE] at h
  | .lc own tg it ifs elt, X, W, sc, md, e, F, tk, hs, h => by
    subst hs
    simp only [chkE] at h
    split at h
    · rename_i ee tge ie ifes scope pp
      simp only [Bool.and_eq_true] at h
      obtain ⟨⟨⟨⟨⟨⟨⟨h1, h2⟩, h3⟩, h4⟩, h5⟩, h6⟩, h7⟩, h8⟩ := h
      have hp := pe_lc (X := X) (g := gT X.K tg) (elt := ee) (tg := tge) (iter := ie) (ifs := ifes) (pos := pp) F.calm F.nd (sdI (cl := false) it F tk rfl h5) (by rw [F.hN]; exact blkOk_by h1)
        (fun s H C cl fp => okG (X := X.blk s H scope (compEnvC scope cl C X.env) fp) (k := k) (sc := relS scope X.env.scope) (s0 := some scope) F.calm F.nd F.hN rfl (fun x => rfl) h6)
        (fun s H C cl fp => sdC (W := nW) ifs (F.blk s H scope _ fp) takes_none5 rfl h7)
        (fun s H C cl fp => sdE (W := nW) (md := .cl) elt (F.blk s H scope _ fp) takes_none5 rfl h8) (notSet_ok h4)
      refine PE.mono hp fun σ H Q hq => ?_
      rw [ownP_snd]
      exact lc_main (sub_ok h2) (dis_ok h3) hq
    · cases h
  | .lc2 own own1 tg it tg1 it1 elt, X, W, sc, md, e, F, tk, hs, h => by
    subst hs
    simp only [chkE] at h
    split at h
    · rename_i ee tge ie tge1 ie1 scope pp
      simp only [Bool.and_eq_true] at h
      obtain ⟨⟨⟨⟨⟨⟨⟨⟨⟨⟨⟨⟨h1, h1'⟩, h2⟩, h3⟩, h2'⟩, h3'⟩, h4⟩, h4'⟩, h5⟩, h6⟩, h5'⟩, h6'⟩, h8⟩ := h
      have hp := pe_lc2 (X := X) (g := gT X.K tg) (g1 := gT X.K tg1) (elt := ee) (tg := tge) (iter := ie) (ifs := []) (tg1 := tge1) (iter1 := ie1) (ifs1 := []) (vs1 := own1) (pos := pp) F.calm F.nd (sdI (cl := false) it F tk rfl h5) (by rw [F.hN]; exact blkOk_by h1)
        (by rw [ownP_snd]; exact sub_ok h1')
        (fun s H C cl fp => okG (X := X.blk s H scope (compEnvC scope cl C X.env) fp) (k := k) (sc := relS scope X.env.scope) (s0 := some scope) F.calm F.nd F.hN rfl (fun x => rfl) h6)
        (fun s H C cl fp => pts_nil)
        (fun s H C cl fp => sdI (W := nW) (cl := true) it1 (F.blk s H scope _ fp) takes_none5 rfl h5')
        (fun s H C cl fp => okG (X := X.blk s H scope (compEnvC scope cl C X.env) fp) (k := k) (sc := relS scope X.env.scope) (s0 := some scope) F.calm F.nd F.hN rfl (fun x => rfl) h6')
        (fun s H C cl fp => pts_nil)
        (fun s H C cl fp => sdE (W := nW) (md := .cl) elt (F.blk s H scope _ fp) takes_none5 rfl h8) (notSet_ok h4) (fun env => notSet_ok h4')
      refine PE.mono hp fun σ H Q hq => ?_
      rw [ownP_snd]
      exact lc2_main (sub_ok h2) (dis_ok h3) (sub_ok h2') (dis_ok h3') hq
    · cases h
  termination_by t => (sizeOf t, 0)
theorem sdM : ∀ (ts : List T) {X : Cx} {W : WX} {sc : Scope} {es : List Expr}, Fx k n cE X → Takes X W → X.env.scope = sc → chkM k ts false sc .cl es = true → es.all nst = true → PA X es (tA cE W k.mu (runF k.P n) ts)
  | [], X, W, sc, es, F, tk, hs, h, hn => by
    simp only [chkM] at h
    cases es with
    | nil => exact sa_nil
    | cons e er => cases h
  | t :: ts, X, W, sc, es, F, tk, hs, h, hn => by
    simp only [chkM] at h
    cases es with
    | nil => cases h
    | cons e er =>
      obtain ⟨h1, h2⟩ := andB h
      rw [List.all_cons, Bool.and_eq_true] at hn
      exact sa_cons hn.1 (sdE t F tk hs h1) (sdM ts F tk hs h2 hn.2)
  termination_by ts => (sizeOf ts, 0)
theorem sdAn : ∀ (b : T) (bs : List T) {X : Cx} {W : WX} {sc : Scope} {md : Md} {es : List Expr} {pos : Pos}, Fx k n cE X → Takes X W → X.env.scope = sc → chkM k (b :: bs) false sc md es = true → PE X (.BoolOp .And es pos) (tAn cE W k.mu (runF k.P n) md (b :: bs))
  | b, [], X, W, sc, md, es, pos, F, tk, hs, h => by
    simp only [chkM] at h
    cases es with
    | nil => cases h
    | cons e er =>
      obtain ⟨h1, h2⟩ := andB h
      cases er with
      | nil => exact se_an1 (sdE b F tk hs h1)
      | cons _ _ => cases h2
  | b, c :: bs, X, W, sc, md, es, pos, F, tk, hs, h => by
    cases es with
    | nil => cases h
    | cons e er =>
      obtain ⟨h1, h2⟩ := andB (show (chkE k b false sc md e && chkM k (c :: bs) false sc md er) = true from h)
      cases er with
      | nil => cases h2
      | cons e2 er => exact se_an (sdE b F tk hs h1) (sdAn c bs F tk hs h2)
  termination_by b bs => (sizeOf (b :: bs), 0)
theorem sdOr : ∀ (b : T) (bs : List T) {X : Cx} {W : WX} {sc : Scope} {md : Md} {es : List Expr} {pos : Pos}, Fx k n cE X → Takes X W → X.env.scope = sc → chkM k (b :: bs) false sc md es = true → PE X (.BoolOp .Or es pos) (tOr' cE W k.mu (runF k.P n) md (b :: bs))
  | b, [], X, W, sc, md, es, pos, F, tk, hs, h => by
    simp only [chkM] at h
    cases es with
    | nil => cases h
    | cons e er =>
      obtain ⟨h1, h2⟩ := andB h
      cases er with
      | nil => exact se_or1 (sdE b F tk hs h1)
      | cons _ _ => cases h2
  | b, c :: bs, X, W, sc, md, es, pos, F, tk, hs, h => by
    cases es with
    | nil => cases h
    | cons e er =>
      obtain ⟨h1, h2⟩ := andB (show (chkE k b false sc md e && chkM k (c :: bs) false sc md er) = true from h)
      cases er with
      | nil => cases h2
      | cons e2 er => exact se_or (sdE b F tk hs h1) (sdOr c bs F tk hs h2)
  termination_by b bs => (sizeOf (b :: bs), 0)
theorem sdO : ∀ (o : Op) {X : Cx} {W : WX} {sc : Scope} {e : Option Expr}, Fx k n cE X → Takes X W → X.env.scope = sc → chkO k o sc e = true → PO X e (tO cE W k.mu (runF k.P n) o)
  | .no, X, W, sc, e, F, tk, hs, h => by
    simp only [chkO] at h
    cases e with
    | none => exact so_no
    | some e => cases h
  | .yes t, X, W, sc, e, F, tk, hs, h => by
    simp only [chkO] at h
    cases e with
    | none => cases h
    | some e => exact so_yes (sdE t F tk hs h)
  termination_by o => (sizeOf o, 0)
theorem sdC : ∀ (o : Op) {X : Cx} {W : WX} {sc : Scope} {es : List Expr}, Fx k n cE X → Takes X W → X.env.scope = sc → chkC k o sc es = true → PTs X es (tC' cE W k.mu (runF k.P n) o)
  | .no, X, W, sc, es, F, tk, hs, h => by
    simp only [chkC] at h
    cases es with
    | nil => exact sc_no
    | cons e er => cases h
  | .yes t, X, W, sc, es, F, tk, hs, h => by
    simp only [chkC] at h
    split at h
    · exact sc_yes (sdT t F tk hs h)
    · cases h
  termination_by o => (sizeOf o, 0)
theorem sdT : ∀ (t : T) {X : Cx} {W : WX} {sc : Scope} {e : Expr}, Fx k n cE X → Takes X W → X.env.scope = sc → chkE k t true sc .tr e = true → L2.PT X e (tP cE W k.mu (runF k.P n) t)
  | .and a [], X, W, sc, e, F, tk, hs, h => by
    simp only [chkE] at h
    split at h
    · simp at h
    · cases h
  | .and a (b :: bs), X, W, sc, e, F, tk, hs, h => by
    simp only [chkE] at h
    split at h
    · rename_i ea es pp
      obtain ⟨h, _⟩ := andB h
      obtain ⟨h1, h2⟩ := andB h
      cases es with
      | nil => simp [chkM] at h2
      | cons eb er => exact st_and (st_an (sdT a F tk hs h1) (sdTa b bs F tk hs h2))
    · cases h
  | .or a [], X, W, sc, e, F, tk, hs, h => by
    simp only [chkE] at h
    split at h
    · simp at h
    · cases h
  | .or a (b :: bs), X, W, sc, e, F, tk, hs, h => by
    simp only [chkE] at h
    split at h
    · rename_i ea es pp
      obtain ⟨h, _⟩ := andB h
      obtain ⟨h1, h2⟩ := andB h
      cases es with
      | nil => simp [chkM] at h2
      | cons eb er => exact st_orr (st_or (sdT a F tk hs h1) (sdTo b bs F tk hs h2))
    · cases h
  | .not a, X, W, sc, e, F, tk, hs, h => by
    simp only [chkE] at h
    split at h
    · exact st_not (sdT a F tk hs h)
    · cases h
  | .cmp o a b, X, W, sc, e, F, tk, hs, h => by
    simp only [chkE] at h
    split at h
    · simp only [Bool.and_eq_true, decide_eq_true_eq, Bool.not_eq_true'] at h
      obtain ⟨⟨⟨rfl, h1⟩, h2⟩, h3⟩ := h
      exact tt_of (pt_cmpR (opr_cmp F.u64 o) (sdE a F tk hs h2) (sdE b F tk hs h3) h1) (fun _ _ _ h => im_cmp h) fun _ _ _ _ h => bo_cmp h
    · cases h
  | .ch2 o o' a b c, X, W, sc, e, F, tk, hs, h => by
    simp only [chkE] at h
    split at h
    · simp only [Bool.and_eq_true, decide_eq_true_eq, Bool.not_eq_true'] at h
      obtain ⟨⟨⟨⟨⟨rfl, rfl⟩, h1⟩, h2⟩, h3⟩, h4⟩ := h
      exact tt_of (pt_chain (opr_cmp F.u64 o) (opr_cmp F.u64 o') (sdE a F tk hs h2) (sdE b F tk hs h3) (sdE c F tk hs h4) h1) (fun _ _ _ h => im_ch2 h) fun _ _ _ _ h => bo_ch2 h
    · cases h
  | .ch3 _ _ _ _ _ _ _, X, W, sc, e, F, tk, hs, h => by simp [chkE] at h
  | .isN a, X, W, sc, e, F, tk, hs, h => by
    simp only [chkE] at h
    split at h
    · exact tt_of (pt_cmpR op_isN (sdE a F tk hs h) pe_non rfl) (fun _ _ _ h => im_isN rfl h) fun _ _ _ _ h => bo_isN h
    · cases h
  | .isNN a, X, W, sc, e, F, tk, hs, h => by
    simp only [chkE] at h
    split at h
    · exact tt_of (pt_cmpR op_notN (sdE a F tk hs h) pe_non rfl) (fun _ _ _ h => im_isNN rfl h) fun _ _ _ _ h => bo_isNN h
    · cases h
  | .isNT a, X, W, sc, e, F, tk, hs, h => by
    simp only [chkE] at h
    split at h
    · exact tt_of (pt_cmpR op_notBl (sdE a F tk hs h) pe_bl rfl) (fun _ _ _ h => im_isNT h) fun _ _ _ _ h => bo_isNT h
    · cases h
  | .ife c a b, X, W, sc, e, F, tk, hs, h => by
    simp only [chkE] at h
    split at h
    · simp at h
    · cases h
  | .var i, X, W, sc, e, F, tk, hs, h => st_val (sdE (.var i) F tk hs (by rw [flag_eq rfl (b' := true)]; exact h)) (plainT_ok (plain_of rfl h))
  | .own i, X, W, sc, e, F, tk, hs, h => st_val (sdE (.own i) F tk hs (by rw [flag_eq rfl (b' := true)]; exact h)) (plainT_ok (plain_of rfl h))
  | .int i, X, W, sc, e, F, tk, hs, h => st_val (sdE (.int i) F tk hs (by rw [flag_eq rfl (b' := true)]; exact h)) (plainT_ok (plain_of rfl h))
  | .bl i, X, W, sc, e, F, tk, hs, h => st_val (sdE (.bl i) F tk hs (by rw [flag_eq rfl (b' := true)]; exact h)) (plainT_ok (plain_of rfl h))
  | .non, X, W, sc, e, F, tk, hs, h => st_val (sdE (.non) F tk hs (by rw [flag_eq rfl (b' := true)]; exact h)) (plainT_ok (plain_of rfl h))
  | .str x, X, W, sc, e, F, tk, hs, h => st_val (sdE (.str x) F tk hs (by rw [flag_eq rfl (b' := true)]; exact h)) (plainT_ok (plain_of rfl h))
  | .glob x i, X, W, sc, e, F, tk, hs, h => st_val (sdE (.glob x i) F tk hs (by rw [flag_eq rfl (b' := true)]; exact h)) (plainT_ok (plain_of rfl h))
  | .bin o a b, X, W, sc, e, F, tk, hs, h => st_val (sdE (.bin o a b) F tk hs (by rw [flag_eq rfl (b' := true)]; exact h)) (plainT_ok (plain_of rfl h))
  | .neg a, X, W, sc, e, F, tk, hs, h => st_val (sdE (.neg a) F tk hs (by rw [flag_eq rfl (b' := true)]; exact h)) (plainT_ok (plain_of rfl h))
  | .tup ts, X, W, sc, e, F, tk, hs, h => st_val (sdE (.tup ts) F tk hs (by rw [flag_eq rfl (b' := true)]; exact h)) (plainT_ok (plain_of rfl h))
  | .lst ts, X, W, sc, e, F, tk, hs, h => st_val (sdE (.lst ts) F tk hs (by rw [flag_eq rfl (b' := true)]; exact h)) (plainT_ok (plain_of rfl h))
  | .dct0, X, W, sc, e, F, tk, hs, h => st_val (sdE (.dct0) F tk hs (by rw [flag_eq rfl (b' := true)]; exact h)) (plainT_ok (plain_of rfl h))
  | .ix a i, X, W, sc, e, F, tk, hs, h => st_val (sdE (.ix a i) F tk hs (by rw [flag_eq rfl (b' := true)]; exact h)) (plainT_ok (plain_of rfl h))
  | .sl a lo hi, X, W, sc, e, F, tk, hs, h => st_val (sdE (.sl a lo hi) F tk hs (by rw [flag_eq rfl (b' := true)]; exact h)) (plainT_ok (plain_of rfl h))
  | .rev a, X, W, sc, e, F, tk, hs, h => st_val (sdE (.rev a) F tk hs (by rw [flag_eq rfl (b' := true)]; exact h)) (plainT_ok (plain_of rfl h))
  | .call f ts, X, W, sc, e, F, tk, hs, h => st_val (sdE (.call f ts) F tk hs (by rw [flag_eq rfl (b' := true)]; exact h)) (plainT_ok (plain_of rfl h))
  | .b1 o a, X, W, sc, e, F, tk, hs, h => st_val (sdE (.b1 o a) F tk hs (by rw [flag_eq rfl (b' := true)]; exact h)) (plainT_ok (plain_of rfl h))
  | .b2 o a b, X, W, sc, e, F, tk, hs, h => st_val (sdE (.b2 o a b) F tk hs (by rw [flag_eq rfl (b' := true)]; exact h)) (plainT_ok (plain_of rfl h))
  | .m1 o a b, X, W, sc, e, F, tk, hs, h => st_val (sdE (.m1 o a b) F tk hs (by rw [flag_eq rfl (b' := true)]; exact h)) (plainT_ok (plain_of rfl h))
  | .isi kd a, X, W, sc, e, F, tk, hs, h => st_val (sdE (.isi kd a) F tk hs (by rw [flag_eq rfl (b' := true)]; exact h)) (plainT_ok (plain_of rfl h))
  | .join a, X, W, sc, e, F, tk, hs, h => st_val (sdE (.join a) F tk hs (by rw [flag_eq rfl (b' := true)]; exact h)) (plainT_ok (plain_of rfl h))
  | .lrg it, X, W, sc, e, F, tk, hs, h => st_val (sdE (.lrg it) F tk hs (by rw [flag_eq rfl (b' := true)]; exact h)) (plainT_ok (plain_of rfl h))
  | .lc own tg it ifs elt, X, W, sc, e, F, tk, hs, h => st_val (sdE (.lc own tg it ifs elt) F tk hs (by rw [flag_eq rfl (b' := true)]; exact h)) (plainT_ok (plain_of rfl h))
  | .lc2 own own1 tg it tg1 it1 elt, X, W, sc, e, F, tk, hs, h => st_val (sdE (.lc2 own own1 tg it tg1 it1 elt) F tk hs (by rw [flag_eq rfl (b' := true)]; exact h)) (plainT_ok (plain_of rfl h))
  termination_by t => (sizeOf t, 1)
theorem sdTa : ∀ (b : T) (bs : List T) {X : Cx} {W : WX} {sc : Scope} {es : List Expr} {pos : Pos}, Fx k n cE X → Takes X W → X.env.scope = sc → chkM k (b :: bs) true sc .tr es = true → PW X (.BoolOp .And es pos) (tPa cE W k.mu (runF k.P n) (b :: bs))
  | b, [], X, W, sc, es, pos, F, tk, hs, h => by
    simp only [chkM] at h
    cases es with
    | nil => cases h
    | cons e er =>
      obtain ⟨h1, h2⟩ := andB h
      cases er with
      | nil => exact st_an1 (sdT b F tk hs h1)
      | cons _ _ => cases h2
  | b, c :: bs, X, W, sc, es, pos, F, tk, hs, h => by
    cases es with
    | nil => cases h
    | cons e er =>
      obtain ⟨h1, h2⟩ := andB (show (chkE k b true sc .tr e && chkM k (c :: bs) true sc .tr er) = true from h)
      cases er with
      | nil => cases h2
      | cons e2 er => exact st_an (sdT b F tk hs h1) (sdTa c bs F tk hs h2)
  termination_by b bs => (sizeOf (b :: bs), 0)
theorem sdTo : ∀ (b : T) (bs : List T) {X : Cx} {W : WX} {sc : Scope} {es : List Expr} {pos : Pos}, Fx k n cE X → Takes X W → X.env.scope = sc → chkM k (b :: bs) true sc .tr es = true → PW X (.BoolOp .Or es pos) (tPo cE W k.mu (runF k.P n) (b :: bs))
  | b, [], X, W, sc, es, pos, F, tk, hs, h => by
    simp only [chkM] at h
    cases es with
    | nil => cases h
    | cons e er =>
      obtain ⟨h1, h2⟩ := andB h
      cases er with
      | nil => exact st_or1 (sdT b F tk hs h1)
      | cons _ _ => cases h2
  | b, c :: bs, X, W, sc, es, pos, F, tk, hs, h => by
    cases es with
    | nil => cases h
    | cons e er =>
      obtain ⟨h1, h2⟩ := andB (show (chkE k b true sc .tr e && chkM k (c :: bs) true sc .tr er) = true from h)
      cases er with
      | nil => cases h2
      | cons e2 er => exact st_or (sdT b F tk hs h1) (sdTo c bs F tk hs h2)
  termination_by b bs => (sizeOf (b :: bs), 0)
theorem sdI : ∀ (i : It) {X : Cx} {W : WX} {sc : Scope} {cl : Bool} {tg e : Expr}, Fx k n cE X → Takes X W → X.env.scope = sc → chkI k i sc cl tg e = true → PI X tg e (tI cE W k.mu (runF k.P n) cl i)
  | .seq a, X, W, sc, cl, tg, e, F, tk, hs, h => by
    simp only [chkI] at h
    exact si_seq (sdE a F tk hs h)
  | .rg1 a, X, W, sc, cl, tg, e, F, tk, hs, h => by
    subst hs
    simp only [chkI] at h
    split at h
    · simp only [Bool.and_eq_true] at h
      obtain ⟨⟨⟨h1, h2⟩, h3⟩, h4⟩ := h
      obtain ⟨g1, m1⟩ := blC_ok F h2
      exact si_rg1 (eqS_ok h1) g1 m1 h3 (sdE a F tk rfl h4)
    · cases h
  | .rg2 a b, X, W, sc, cl, tg, e, F, tk, hs, h => by
    subst hs
    simp only [chkI] at h
    split at h
    · simp only [Bool.and_eq_true] at h
      obtain ⟨⟨⟨⟨⟨h1, h2⟩, h3⟩, h4⟩, h5⟩, h6⟩ := h
      obtain ⟨g1, m1⟩ := blC_ok F h2
      exact si_rg2 (eqS_ok h1) g1 m1 h3 h4 (sdE a F tk rfl h5) (sdE b F tk rfl h6)
    · cases h
  | .rg3 a b c, X, W, sc, cl, tg, e, F, tk, hs, h => by
    subst hs
    simp only [chkI] at h
    split at h
    · simp only [Bool.and_eq_true] at h
      obtain ⟨⟨⟨⟨⟨⟨⟨h1, h2⟩, h3⟩, h4⟩, h5⟩, h6⟩, h7⟩, h8⟩ := h
      obtain ⟨g1, m1⟩ := blC_ok F h2
      exact si_rg3 (eqS_ok h1) g1 m1 h3 h4 h5 (sdE a F tk rfl h6) (sdE b F tk rfl h7) (sdE c F tk rfl h8)
    · cases h
  | .enu a, X, W, sc, cl, tg, e, F, tk, hs, h => by
    subst hs
    simp only [chkI] at h
    split at h
    · simp only [Bool.and_eq_true] at h
      obtain ⟨⟨⟨⟨h0, h1⟩, h2⟩, h3⟩, h4⟩ := h
      obtain ⟨g1, m1⟩ := blC_ok F h2
      obtain ⟨es, kk, tp, rfl⟩ := isTup_ok h0
      exact si_enu (eqS_ok h1) g1 m1 h3 (sdE a F tk rfl h4)
    · cases h
  | .zip2 a b, X, W, sc, cl, tg, e, F, tk, hs, h => by
    subst hs
    simp only [chkI] at h
    split at h
    · simp only [Bool.and_eq_true] at h
      obtain ⟨⟨⟨⟨⟨⟨h0, h1⟩, h2⟩, h3⟩, h4⟩, h5⟩, h6⟩ := h
      obtain ⟨g1, m1⟩ := blC_ok F h2
      obtain ⟨es, kk, tp, rfl⟩ := isTup_ok h0
      exact si_zip (eqS_ok h1) g1 m1 h3 h4 (sdE a F tk rfl h5) (sdE b F tk rfl h6)
    · cases h
  | .zip3 _ _ _, X, W, sc, cl, tg, e, F, tk, hs, h => by simp [chkI] at h
  termination_by i => (sizeOf i, 0)
end
end
end PT
set_option maxHeartbeats 4000000
namespace PT
open PySem PySem.Spec PyProof.Rows L2

def noComp : Expr → Bool
  | .ListComp _ _ _ _ => false
  | .SetComp _ _ _ _ => false
  | .DictComp _ _ _ _ _ => false
  | _ => true
def notTup : Expr → Bool
  | .Tuple es _ _ => es.all (foldedForSure 8)
  | _ => true
/-- x = [..] on one line -/
def swB (sc : Scope) (x : Str) (px : Pos) : Expr → Bool
  | .ListComp _ _ s p => (sc.kind == .function) && (sc.names.lookup x == some .local) && px.line == p.line && !(s.names.any fun (n, k) => n == x && (k == .local || k == .cell))
  | _ => false
def okX : Expr → Bool
  | .SetComp _ _ _ _ => false
  | .DictComp _ _ _ _ _ => false
  | _ => true
theorem blockKind_of {env : PySem.Env} (h : env.scope.kind = .function) : env.blockKind = .function := by
  unfold PySem.Env.blockKind
  rw [h]; rfl
theorem sw_of {env : PySem.Env} {e : Expr} {x : Str} {px : Pos} {l : Nat} (hk : env.scope.kind = .function) (h : okX e = true) : swapsWith e (some (.Name x px)) l env = pure (swB env.scope x px e) := by
  cases e with
  | ListComp a b s p =>
    show (pure (env.blockKind == .function && env.kindOf x == some .local && px.line == p.line && !(s.names.any fun (n, k) => n == x && (k == .local || k == .cell))) : Sem Bool) = _
    rw [blockKind_of hk]
    unfold swB
    rw [hk]; rfl
  | SetComp _ _ _ _ => cases h
  | DictComp _ _ _ _ _ => cases h
  | _ => rfl
theorem sw_tup {env : PySem.Env} {e : Expr} {es : List Expr} {k : Nat} {p : Pos} {l : Nat} : swapsWith e (some (.Tuple es k p)) l env = pure false := by cases e <;> rfl
theorem sw_sub {env : PySem.Env} {e o i : Expr} {p : Pos} {l : Nat} : swapsWith e (some (.Subscript o i p)) l env = pure false := by cases e <;> rfl
theorem sw_no {env : PySem.Env} {e : Expr} {l : Nat} (h : noComp e = true) : swapsWith e none l env = pure false := by cases e <;> first | rfl | cases h
theorem ss_no {env : PySem.Env} {e : Expr} {es : List Expr} {k : Nat} {p : Pos} (h : notTup e = true) : swappedStores [.Tuple es k p] e env = pure none := by
  cases e with
  | Tuple vs k2 p2 =>
    have h : vs.all (foldedForSure 8) = true := h
    unfold swappedStores
    simp only [h, if_true]
    have pb : ∀ {α β : Type} (x : α) (f : α → Sem β), (Sem.pure x).bind f = f x := fun _ _ => rfl
    simp only [bind, pure, pb]
    repeat' split
    all_goals first | rfl | skip
  | _ => rfl
theorem ss_sub {env : PySem.Env} {e o i : Expr} {p : Pos} : swappedStores [.Subscript o i p] e env = pure none := by cases e <;> rfl
theorem aug_ok {i : Expr} (h : notSl i = true) : ∀ ov iv new, augStore i ov iv new = (do holding [new, ov, iv] (setItem ov iv new); release [new, ov, iv] []; pure .next) := by
  intro ov iv new
  cases i <;> first | rfl | cases h
theorem asg_sub {o i : Expr} {env : PySem.Env} {p : Pos} (h : notSl i = true) : ∀ v, assign (.Subscript o i p) env v = (do
    let ov ← holding [v] (eval o env)
    let iv ← holding [v, ov] (eval i env)
    standAt p
    holding [v, ov, iv] (setItem ov iv v)
    release [v, ov, iv] []) := by
  intro v
  cases i <;> first | rfl | cases h
def locL (sc : Scope) (x : Str) : Bool := sc.names.lookup x == some .local
/-- the right sides are no constants alone -/
def vsC (vs : List Expr) : Bool := vs.all nst && !(vs.all (foldedForSure 8)) && !(vs.all (constantsAlone 8))
theorem any_star {vs : List Expr} (h : vs.all nst = true) : (vs.any fun | .Starred .. => true | _ => false) = false := by
  induction vs with
  | nil => rfl
  | cons e es ih =>
    rw [List.all_cons, Bool.and_eq_true] at h
    rw [List.any_cons, ih h.2]
    have := h.1
    cases e <;> first | rfl | cases this
theorem star_no : ∀ {e : Expr}, nst e = true → (match e with
  | .Starred .. => true
  | _ => false) = false := by
  intro e h
  cases e <;> first | rfl | cases h
theorem ss_two {env : PySem.Env} {x y : Str} {px py pt p2 : Pos} {kt k2 : Nat} {a b : Expr} (hk : env.scope.kind = .function) (hx : env.scope.names.lookup x = some .local) (hy : env.scope.names.lookup y = some .local) (hl : py.line = px.line) (hxy : x ≠ y) (hv : vsC [a, b] = true) :
    swappedStores [.Tuple [.Name x px, .Name y py] kt pt] (.Tuple [a, b] k2 p2) env = pure (some [x, y]) := by
  unfold vsC at hv
  simp only [Bool.and_eq_true, Bool.not_eq_true'] at hv
  obtain ⟨⟨h1, h2⟩, h3⟩ := hv
  have h4 := any_star h1
  have kx : env.kindOf x = some .local := hx
  have ky : env.kindOf y = some .local := hy
  have e1 : (Expr.Name x px).pos.line = px.line := rfl
  unfold swappedStores
  simp [blockKind_of hk, h4, kx, ky, hl, h2, h3, e1, List.eraseDups_cons, Ne.symm hxy, hxy, bind, pure]
  rw [List.all_cons, Bool.and_eq_true, List.all_cons, Bool.and_eq_true] at h1
  exact ⟨star_no h1.1, star_no h1.2.1⟩
theorem ss_three {env : PySem.Env} {x y z : Str} {px py pz pt p2 : Pos} {kt k2 : Nat} {a b c : Expr} (hk : env.scope.kind = .function) (hx : env.scope.names.lookup x = some .local) (hy : env.scope.names.lookup y = some .local) (hz : env.scope.names.lookup z = some .local) (hl : py.line = px.line) (hl2 : pz.line = px.line) (hxy : x ≠ y) (hxz : x ≠ z) (hyz : y ≠ z) (hv : vsC [a, b, c] = true) :
    swappedStores [.Tuple [.Name x px, .Name y py, .Name z pz] kt pt] (.Tuple [a, b, c] k2 p2) env = pure (some [x, y, z]) := by
  unfold vsC at hv
  simp only [Bool.and_eq_true, Bool.not_eq_true'] at hv
  obtain ⟨⟨h1, h2⟩, h3⟩ := hv
  have h4 := any_star h1
  have kx : env.kindOf x = some .local := hx
  have ky : env.kindOf y = some .local := hy
  have kz : env.kindOf z = some .local := hz
  have e1 : (Expr.Name x px).pos.line = px.line := rfl
  unfold swappedStores
  simp [blockKind_of hk, h4, kx, ky, kz, hl, hl2, h2, h3, e1, List.eraseDups_cons, Ne.symm hxy, hxy, Ne.symm hxz, hxz, Ne.symm hyz, hyz, bind, pure]
  rw [List.all_cons, Bool.and_eq_true, List.all_cons, Bool.and_eq_true, List.all_cons, Bool.and_eq_true] at h1
  exact ⟨star_no h1.1, star_no h1.2.1, star_no h1.2.2.1⟩
def opA : BOp → Option Operator
  | .add => some .Add
  | .sub => some .Sub
  | _ => none
def mdR (fr : Bool) : Md := if fr = true then .fr else .cl
/-- x = e, a plain name -/
def chkN (k : Ck) (sc : Scope) (i : Nat) (x : Str) (px : Pos) (e : Expr) : Bool := decide (k.N[i]? = some x) && okX e && (if swB sc x px e = true then locL sc x else locC sc none x)
def ownN (k : Ck) (sc : Scope) (i : Nat) (x : Str) : Bool := decide (k.N[i]? = some x) && visC sc x && okN x && decide (i ∈ k.mu)
def stN (k : Ck) (sc : Scope) (i : Nat) (x : Str) : Bool := decide (k.N[i]? = some x) && visC sc x && okN x && decide (i ∉ k.mu)
/-- return () if isinstance(n, ValueError) else None -/
def suR (k : Ck) (sc : Scope) (n : Str) : List Stmt → Bool
  | [.Return (some (.IfExp (.Call (.Name y _) [.Name n' _, .Name z _] [] _) (.Tuple [] _ _) (.Constant .none _ _) _)) _] => eqS y "isinstance" && eqS n' n && eqS z "ValueError" && blC k sc y && blC k sc z
  | _ => false
def suU (k : Ck) (sc : Scope) (n : Str) : List Stmt → Bool
  | [.If (.UnaryOp .Not (.Call (.Name y _) [.Name n' _, .Name z _] [] _) _) [.Return (some (.Constant (.bool false) _ _)) _] [] _] => eqS y "isinstance" && eqS n' n && eqS z "ValueError" && blC k sc y && blC k sc z
  | _ => false
def errN (k : Ck) (sc : Scope) (i : Nat) (n : Str) : Bool := decide (k.N[i]? = some n) && locL sc n && okN n && decide (i ∉ k.mu)
def isOwn : T → Bool
  | .own _ => true
  | _ => false
mutual
def chkS (k : Ck) (sc : Scope) (fr : Bool) : S → Stmt → Bool
  | .asg i e, st => (match st with
    | .Assign [.Name x px] ee _ => chkN k sc i x px ee && decide (i ∉ k.mu) && chkE k e false sc .cl ee
    | _ => false)
  | .asgO i e, st => (match st with
    | .Assign [.Name x px] ee _ => chkN k sc i x px ee && decide (i ∈ k.mu) && chkE k e false sc .fr ee
    | _ => false)
  | .unp ts e, st => (match st with
    | .Assign [.Tuple es _ _] ee _ => chkGs k sc none ts es && es.all nst && dis (slTs ts) k.mu && notTup ee && chkE k e false sc .cl ee
    | _ => false)
  | .par js es, st => (match js with
    | [(i, _), (j, _)] => (match st with
      | .Assign [.Tuple [.Name x px, .Name y py] _ _] (.Tuple [ea, eb] _ _) _ => decide (k.N[i]? = some x) && decide (k.N[j]? = some y) && locL sc x && locL sc y && decide (py.line = px.line) && decide (x ≠ y) && decide (i ≠ j) && decide (i ∉ k.mu) && decide (j ∉ k.mu) && vsC [ea, eb] && chkM k es false sc .cl [ea, eb]
      | _ => false)
    | [(i, _), (j, _), (l, _)] => (match st with
      | .Assign [.Tuple [.Name x px, .Name y py, .Name z pz] _ _] (.Tuple [ea, eb, ec] _ _) _ => decide (k.N[i]? = some x) && decide (k.N[j]? = some y) && decide (k.N[l]? = some z) && locL sc x && locL sc y && locL sc z && decide (py.line = px.line) && decide (pz.line = px.line) && decide (x ≠ y) && decide (x ≠ z) && decide (y ≠ z) && decide (i ≠ j) && decide (i ≠ l) && decide (j ≠ l) && decide (i ∉ k.mu) && decide (j ∉ k.mu) && decide (l ∉ k.mu) && vsC [ea, eb, ec] && chkM k es false sc .cl [ea, eb, ec]
      | _ => false)
    | _ => false)
  | .aug i o e, st => (match st with
    | .AugAssign (.Name x _) op ee _ => decide (opA o = some op) && decide (k.N[i]? = some x) && locC sc none x && decide (i ∉ k.mu) && chkE k e false sc .tr ee
    | _ => false)
  | .iff c a b, st => (match st with
    | .If ec sa sb _ => chkE k c true sc .tr ec && chkB k sc fr a sa && chkB k sc fr b sb
    | _ => false)
  | .fr tg it body, st => (match st with
    | .For tge ie sb [] _ => dis (slT tg) k.mu && notSet ie && chkG k sc none tg tge && chkI k it sc true tge ie && chkB k sc fr body sb
    | _ => false)
  | .wh _ c body, st => (match st with
    | .While ec sb [] _ => chkE k c true sc .tr ec && chkB k sc fr body sb
    | _ => false)
  | .ret e, st => (match st with
    | .Return (some ee) _ => (match e with
      | .own i => (match ee with
        | .Name x _ => ownN k sc i x
        | _ => false)
      | e => chkE k e false sc (mdR fr) ee)
    | _ => false)
  | .ex e, st => (match st with
    | .Expr ee _ => noComp ee && chkE k e false sc .tr ee
    | _ => false)
  | .rai x m, st => (match st with
    | .Raise (some (.Call (.Name y _) [.Constant (.str z) _ _] [] _)) none _ => eqS y (exN x) && eqS z m && glC sc y
    | _ => false)
  | .app i e, st => (match st with
    | .Expr (.Call (.Attribute (.Name x _) nm ap) [ee] [] cp) _ => eqS nm "append" && ownN k sc i x && nst ee && (ap.endLine == cp.line) && chkE k e false sc .cl ee
    | _ => false)
  | .ext i e, st => (match st with
    | .Expr (.Call (.Attribute (.Name x _) nm ap) [ee] [] cp) _ => eqS nm "extend" && ownN k sc i x && nst ee && (ap.endLine == cp.line) && chkE k e false sc .cl ee
    | _ => false)
  | .rem i e, st => (match st with
    | .Expr (.Call (.Attribute (.Name x _) nm ap) [ee] [] cp) _ => eqS nm "remove" && ownN k sc i x && nst ee && (ap.endLine == cp.line) && chkE k e false sc .cl ee
    | _ => false)
  | .six i j e, st => (match st with
    | .Assign [.Subscript (.Name x _) ej _] ee _ => ownN k sc i x && notSl ej && chkE k j false sc .tr ej && chkE k e false sc .cl ee
    | _ => false)
  | .saug i o j e, st => (match st with
    | .AugAssign (.Subscript (.Name x _) ej _) op ee _ => decide (opA o = some op) && ownN k sc i x && notSl ej && chkE k j false sc .tr ej && chkE k e false sc .tr ee
    | _ => false)
  | .popS i j e, st => (match st with
    | .Assign [.Name x px] (.Call (.Attribute (.Name y _) nm ap) [ee] [] cp) _ => eqS nm "pop" && decide (k.N[i]? = some x) && locC sc none x && decide (i ∉ k.mu) && ownN k sc j y && nst ee && (ap.endLine == cp.line) && chkE k e false sc .tr ee
    | _ => false)
  | .stS s j e, st => (match st with
    | .Assign [.Subscript (.Name x _) (.Constant (.int m) _ _) _] ee _ => stN k sc s x && decide (m = (j : Int)) && chkE k e false sc .cl ee
    | _ => false)
  | .stA s j o e, st => (match st with
    | .AugAssign (.Subscript (.Name x _) (.Constant (.int m) _ _) _) op ee _ => decide (opA o = some op) && stN k sc s x && decide (m = (j : Int)) && chkE k e false sc .tr ee
    | _ => false)
  | .tryR e i, st => (match st with
    | .Try [.Return (some ee) _] [.ExceptHandler (some (.Name x1 _)) (some n1) b1 _, .ExceptHandler (some (.Name x2 _)) (some n2) b2 _] [] [] _ => eqS x1 (exN .unfit) && eqS x2 (exN .wide) && glC sc x1 && glC sc x2 && eqS n1 n2 && errN k sc i n1 && suR k sc n1 b1 && suR k sc n2 b2 && chkE k e false sc (mdR fr) ee
    | _ => false)
  | .tryU w f1 f2 i, st => (match st with
    | .Try [.If te [.Expr e1 _] [.Expr e2 _] _, .Return (some (.Constant (.bool false) _ _)) _] [.ExceptHandler (some (.Name x1 _)) (some n1) b1 _] [] [] _ => eqS x1 (exN .unfit) && glC sc x1 && errN k sc i n1 && suU k sc n1 b1 && noComp e1 && noComp e2 && chkE k (.var w) true sc .tr te && chkE k f1 false sc .tr e1 && chkE k f2 false sc .tr e2
    | _ => false)
  | .brk, st => (match st with
    | .Break _ => true
    | _ => false)
def chkB (k : Ck) (sc : Scope) (fr : Bool) : List S → List Stmt → Bool
  | [], sts => sts.isEmpty
  | s :: ss, sts => (match sts with
    | st :: r => chkS k sc fr s st && chkB k sc fr ss r
    | [] => false)
end
end PT
set_option maxHeartbeats 4000000
namespace PT
open PySem PySem.Spec PyProof.Rows L2

/-- what stands around the statements of a def -/
structure Sx (k : Ck) (n : Nat) (cE : Exc → Addr) (E : XK) (X : Cx) : Prop where
  F : Fx k n cE X
  tk : Takes X (wE E)
  stk : X.stack = X.env :: X.outer
  frm : X.env.frame = some X.env.locals
  pass : PassesOwn (model X.prog X.w) X.A X.env X.xe
  fn : ∀ x, X.fn x = true
  kind : X.env.scope.kind = .function
section
variable {k : Ck} {n : Nat} {cE : Exc → Addr} {E : XK} {A : At} {X : Cx} {fr : Bool}
theorem locC0 (Sx : Sx k n cE E X) {x : Str} (h : locC X.env.scope none x = true) : Loc X.env.scope x ∧ (X.fn x = true ∨ X.env.scope.names.lookup x = some .local) := locC_ok rfl Sx.fn h
theorem locL_ok {sc : Scope} {x : Str} (h : locL sc x = true) : sc.names.lookup x = some .local := by
  unfold locL at h
  simpa using h
theorem ownN_ok (Sx : Sx k n cE E X) {i : Nat} {x : Str} (h : ownN k X.env.scope i x = true) : X.N[i]? = some x ∧ Vis X.env.scope x ∧ (x == ("__debug__" : Str)) = false ∧ (x == ("__classdict__" : Str)) = false ∧ i ∈ k.mu := by
  unfold ownN at h
  simp only [Bool.and_eq_true, decide_eq_true_eq] at h
  obtain ⟨⟨⟨h1, h2⟩, h3⟩, h4⟩ := h
  obtain ⟨o1, o2, _⟩ := okN_ok h3
  exact ⟨by rw [Sx.F.hN]; exact h1, visC_ok h2, o1, o2, h4⟩
theorem stN_ok (Sx : Sx k n cE E X) {i : Nat} {x : Str} (h : stN k X.env.scope i x = true) : X.N[i]? = some x ∧ Vis X.env.scope x ∧ (x == ("__debug__" : Str)) = false ∧ (x == ("__classdict__" : Str)) = false ∧ i ∉ k.mu := by
  unfold stN at h
  simp only [Bool.and_eq_true, decide_eq_true_eq] at h
  obtain ⟨⟨⟨h1, h2⟩, h3⟩, h4⟩ := h
  obtain ⟨o1, o2, _⟩ := okN_ok h3
  exact ⟨by rw [Sx.F.hN]; exact h1, visC_ok h2, o1, o2, h4⟩
theorem errN_ok (Sx : Sx k n cE E X) {i : Nat} {x : Str} (h : errN k X.env.scope i x = true) : X.N[i]? = some x ∧ X.env.kindOf x = some .local ∧ Vis X.env.scope x ∧ (x == ("__debug__" : Str)) = false ∧ (x == ("__classdict__" : Str)) = false ∧ i ∉ k.mu := by
  unfold errN at h
  simp only [Bool.and_eq_true, decide_eq_true_eq] at h
  obtain ⟨⟨⟨h1, h2⟩, h3⟩, h4⟩ := h
  obtain ⟨o1, o2, _⟩ := okN_ok h3
  exact ⟨by rw [Sx.F.hN]; exact h1, locL_ok h2, .inl (locL_ok h2), o1, o2, h4⟩
/-- a plain store -/
theorem store_ps (S0 : Sx k n cE E X) {i : Nat} {x : Str} {px pos : Pos} {e : T} {ee : Expr} {md : Md} (h : chkN k X.env.scope i x px ee = true) (hc : chkE k e false X.env.scope md ee = true) : PS X (.Assign [.Name x px] ee pos) (tAsg (tE cE (wE E) k.mu (runF k.P n) md e) (gName i)) := by
  unfold chkN at h
  simp only [Bool.and_eq_true, decide_eq_true_eq] at h
  obtain ⟨⟨h1, h2⟩, h3⟩ := h
  have hi : X.N[i]? = some x := by rw [S0.F.hN]; exact h1
  have sw := sw_of (l := pos.line) (x := x) (px := px) S0.kind h2
  by_cases hb : swB X.env.scope x px ee = true
  · rw [if_pos hb] at h3
    rw [hb] at sw
    cases ee with
    | ListComp elt gens scope pp =>
      cases e with
      | lc own tg it ifs el =>
        simp only [chkE] at hc
        split at hc
        · rename_i ee tge ie ifes scope pp heq
          cases heq
          simp only [Bool.and_eq_true] at hc
          obtain ⟨⟨⟨⟨⟨⟨⟨c1, c2⟩, c3⟩, c4⟩, c5⟩, c6⟩, c7⟩, c8⟩ := hc
          have hp := ps_setLc (X := X) (i := i) (y := x) (g := gT X.K tg) S0.F.calm S0.F.nd hi (locL_ok h3) sw (sdI (cl := false) it S0.F S0.tk rfl c5) (by rw [S0.F.hN]; exact blkOk_by c1)
            (fun s H C cl fp => okG (X := X.blk s H scope (compEnvC scope cl C X.env) fp) (k := k) (sc := relS scope X.env.scope) (s0 := some scope) S0.F.calm S0.F.nd S0.F.hN rfl (fun x => rfl) c6)
            (fun s H C cl fp => sdC (W := nW) ifs (S0.F.blk s H scope _ fp) takes_none5 rfl c7)
            (fun s H C cl fp => sdE (W := nW) (md := .cl) el (S0.F.blk s H scope _ fp) takes_none5 rfl c8) (notSet_ok c4)
          refine PS.mono hp fun D σ H hq => ?_
          rw [ownP_snd]
          exact lc_main (sub_ok c2) (dis_ok c3) hq
        · cases hc
      | lc2 own own1 tg it tg1 it1 el =>
        simp only [chkE] at hc
        split at hc
        · rename_i ee tge ie tge1 ie1 scope pp heq
          cases heq
          simp only [Bool.and_eq_true] at hc
          obtain ⟨⟨⟨⟨⟨⟨⟨⟨⟨⟨⟨⟨c1, c1'⟩, c2⟩, c3⟩, c2'⟩, c3'⟩, c4⟩, c4'⟩, c5⟩, c6⟩, c5'⟩, c6'⟩, c8⟩ := hc
          have hp := ps_setLc2 (X := X) (i := i) (y := x) (g := gT X.K tg) (g1 := gT X.K tg1) (vs1 := own1) S0.F.calm S0.F.nd hi (locL_ok h3) sw (sdI (cl := false) it S0.F S0.tk rfl c5) (by rw [S0.F.hN]; exact blkOk_by c1)
            (by rw [ownP_snd]; exact sub_ok c1')
            (fun s H C cl fp => okG (X := X.blk s H scope (compEnvC scope cl C X.env) fp) (k := k) (sc := relS scope X.env.scope) (s0 := some scope) S0.F.calm S0.F.nd S0.F.hN rfl (fun x => rfl) c6)
            (fun s H C cl fp => pts_nil)
            (fun s H C cl fp => sdI (W := nW) (cl := true) it1 (S0.F.blk s H scope _ fp) takes_none5 rfl c5')
            (fun s H C cl fp => okG (X := X.blk s H scope (compEnvC scope cl C X.env) fp) (k := k) (sc := relS scope X.env.scope) (s0 := some scope) S0.F.calm S0.F.nd S0.F.hN rfl (fun x => rfl) c6')
            (fun s H C cl fp => pts_nil)
            (fun s H C cl fp => sdE (W := nW) (md := .cl) el (S0.F.blk s H scope _ fp) takes_none5 rfl c8) (notSet_ok c4) (fun env => notSet_ok c4')
          refine PS.mono hp fun D σ H hq => ?_
          rw [ownP_snd]
          exact lc2_main (sub_ok c2) (dis_ok c3) (sub_ok c2') (dis_ok c3') hq
        · cases hc
      | b1 o a => cases o <;> simp [chkE] at hc
      | lrg it => cases it <;> simp [chkE] at hc
      | _ => simp [chkE] at hc
    | _ => cases hb
  · rw [if_neg hb] at h3
    have hb : swB X.env.scope x px ee = false := by simpa using hb
    rw [hb] at sw
    obtain ⟨l1, l2⟩ := locC0 S0 h3
    exact ps_set S0.F.nd hi l1 (sdE e S0.F S0.tk rfl hc) sw l2
theorem opA_f {o : BOp} {op : Operator} (h : opA o = some op) : ∃ f : Int → Int → Int, (∀ a b, binD o (.int a) (.int b) = some (.int (f a b))) ∧ ∀ X : Cx, PIp X op (ipI f) := by
  cases o <;> cases h
  · exact ⟨fun i j => i + j, fun _ _ => rfl, fun X => ip_add⟩
  · exact ⟨fun i j => i - j, fun _ _ => rfl, fun X => ip_sub⟩
theorem pmk_of (F : Fx k n cE X) {x : Exc} {y m : Str} {j : Nat} {p p2 pos : Pos} (hy : y = exN x) (hg : Gl X y) : PMk X (.Call (.Name y p) [.Constant (.str m) j p2] [] pos) (fun _ H Q => Q (.ref (cE x)) none H) := by
  subst hy
  exact pmk_own (X := X) (C := cE x) (bmB := He.veBase) PySem.F.excBase_ValueError (F.ef.exc x) (F.ef.mg x) (F.ef.keep x) (raises_own (F.ef.sub x) (F.ef.ty x)) hg (by cases x <;> decide)
end
end PT
set_option maxHeartbeats 4000000
namespace PT
open PySem PySem.Spec PyProof.Rows L2

section
variable {k : Ck} {n : Nat} {cE : Exc → Addr} {E : XK} {A : At} {X : Cx} {fr : Bool}
theorem swS_tup {env : PySem.Env} {e : Expr} {es : List Expr} {k : Nat} {p : Pos} {l : Nat} : swapsWithSole [.Tuple es k p] e l env = pure false := sw_tup (env := env) (l := l) (es := es) (k := k) (p := p)
theorem swS_sub {env : PySem.Env} {e o i : Expr} {p : Pos} {l : Nat} : swapsWithSole [.Subscript o i p] e l env = pure false := sw_sub (env := env) (l := l) (o := o) (i := i) (p := p)
theorem own_pe (S0 : Sx k n cE E X) {i : Nat} {x : Str} {p : Pos} (h : ownN k X.env.scope i x = true) : PE X (.Name x p) (tVar i) ∧ i ∈ k.mu := by
  obtain ⟨o1, o2, o3, o4, o5⟩ := ownN_ok S0 h
  exact ⟨pe_var o1 o2 o3 o4, o5⟩
theorem few_ok {e : Expr} {env : PySem.Env} {pos : Pos} (h : nst e = true) : ((backTo pos (starEach (e :: []) env)).all (fun x => !x.1) && (backToKw pos (keywordEach [] env)).all (fun x => x.1.isSome)
      && decide ((e :: []).length + ([] : List Keyword).length + (if ([] : List Keyword).isEmpty then 0 else 1) < 30)) = true := by rw [star_cons h]; rfl
/-- x.m(e), its value dropped -/
theorem meth_ps (S0 : Sx k n cE E X) {i : Nat} {x nm : Str} {id : String} {r : V → List V → Hp → VK → Prop} {e : T} {ee : Expr} {p ap cp pos : Pos} (slot : Slot "list" nm id) (hty : typeOf (.builtin id) = pure (.type "method_descriptor")) (hm : MtM X id r)
    (h : ownN k X.env.scope i x = true) (hn : nst ee = true) (hl : (ap.endLine == cp.line) = true) (hc : chkE k e false X.env.scope .cl ee = true) :
    PS X (.Expr (.Call (.Attribute (.Name x p) nm ap) [ee] [] cp) pos) (tDrop (tBM X.K "list" r (tVar i) (tCons (tE cE (wE E) k.mu (runF k.P n) .cl e) tNil))) ∧ i ∈ k.mu := by
  obtain ⟨ho, hi⟩ := own_pe S0 (p := p) h
  exact ⟨ps_expr (pe_bm PySem.F.plainAttrs_list slot hty hm ho (pa_one hn (sdE e S0.F S0.tk rfl hc)) rfl (few_ok hn) hl (star_cons hn) rfl) rfl, hi⟩
theorem suR_ok (F : Fx k n cE X) {n1 : Str} {b : List Stmt} (h : suR k X.env.scope n1 b = true) : ∃ y z kk j p1 p2 p3 p4 p5 p6 p7 p8, b = [.Return (some (.IfExp (.Call (.Name y p1) [.Name n1 p2, .Name z p3] [] p4) (.Tuple [] kk p5) (.Constant .none j p6) p7)) p8] ∧ y = "isinstance" ∧ z = "ValueError" ∧ Gl X y ∧ X.mg y = none ∧ Gl X z ∧ X.mg z = none := by
  unfold suR at h
  split at h
  · simp only [Bool.and_eq_true] at h
    obtain ⟨⟨⟨⟨h1, h2⟩, h3⟩, h4⟩, h5⟩ := h
    obtain rfl := eqS_ok h2
    obtain ⟨g1, m1⟩ := blC_ok F h4
    obtain ⟨g2, m2⟩ := blC_ok F h5
    exact ⟨_, _, _, _, _, _, _, _, _, _, _, _, rfl, eqS_ok h1, eqS_ok h3, g1, m1, g2, m2⟩
  · cases h
theorem suU_ok (F : Fx k n cE X) {n1 : Str} {b : List Stmt} (h : suU k X.env.scope n1 b = true) : ∃ y z j p1 p2 p3 p4 p5 p6 p7 p8, b = [.If (.UnaryOp .Not (.Call (.Name y p1) [.Name n1 p2, .Name z p3] [] p4) p5) [.Return (some (.Constant (.bool false) j p6)) p7] [] p8] ∧ y = "isinstance" ∧ z = "ValueError" ∧ Gl X y ∧ X.mg y = none ∧ Gl X z ∧ X.mg z = none := by
  unfold suU at h
  split at h
  · simp only [Bool.and_eq_true] at h
    obtain ⟨⟨⟨⟨h1, h2⟩, h3⟩, h4⟩, h5⟩ := h
    obtain rfl := eqS_ok h2
    obtain ⟨g1, m1⟩ := blC_ok F h4
    obtain ⟨g2, m2⟩ := blC_ok F h5
    exact ⟨_, _, _, _, _, _, _, _, _, _, _, rfl, eqS_ok h1, eqS_ok h3, g1, m1, g2, m2⟩
  · cases h
mutual
theorem sdS (hal : Al A.O0 A.H0) (S0 : Sx k n cE E X) : ∀ (s : S) {st : Stmt}, chkS k X.env.scope fr s st = true → PS X st (tSt cE A E k.mu (runF k.P n) fr s)
  | .asg i e, st, h => by
    simp only [chkS] at h
    split at h
    · simp only [Bool.and_eq_true, decide_eq_true_eq] at h
      obtain ⟨⟨h1, h2⟩, h3⟩ := h
      exact ss_asg h2 (store_ps S0 h1 h3)
    · cases h
  | .asgO i e, st, h => by
    simp only [chkS] at h
    split at h
    · simp only [Bool.and_eq_true, decide_eq_true_eq] at h
      obtain ⟨⟨h1, h2⟩, h3⟩ := h
      exact ss_asgO h2 (store_ps S0 h1 h3)
    · cases h
  | .unp ts e, st, h => by
    simp only [chkS] at h
    split at h
    · simp only [Bool.and_eq_true] at h
      obtain ⟨⟨⟨⟨h1, h2⟩, h3⟩, h4⟩, h5⟩ := h
      obtain ⟨g1, g2, g3⟩ := okGs S0.F.calm S0.F.nd S0.F.hN rfl S0.fn h1 h2
      exact ss_unp (K := X.K) (dis_ok h3) (ps_asg (sdE e S0.F S0.tk rfl h5) (pg_tup S0.F.calm g1 g2 g3) swS_tup (ss_no h4))
    · cases h
  | .par [(i, b1), (j, b2)] es, st, h => by
    simp only [chkS] at h
    split at h
    · simp only [Bool.and_eq_true, decide_eq_true_eq] at h
      obtain ⟨⟨⟨⟨⟨⟨⟨⟨⟨⟨h1, h2⟩, h3⟩, h4⟩, h5⟩, h6⟩, h7⟩, h8⟩, h9⟩, h10⟩, h11⟩ := h
      have hn := (Bool.and_eq_true_iff.mp (Bool.and_eq_true_iff.mp h10).1).1
      exact ss_par2 h8 h9 (ps_par S0.F.calm S0.F.nd (by rw [S0.F.hN]; exact h1) (by rw [S0.F.hN]; exact h2) h7 (locL_ok h3) (locL_ok h4) (sdM es S0.F S0.tk rfl h11 hn) (ss_two S0.kind (locL_ok h3) (locL_ok h4) h5 h6 h10) swS_tup)
    · cases h
  | .par [(i, b1), (j, b2), (l, b3)] es, st, h => by
    simp only [chkS] at h
    split at h
    · simp only [Bool.and_eq_true, decide_eq_true_eq] at h
      obtain ⟨⟨⟨⟨⟨⟨⟨⟨⟨⟨⟨⟨⟨⟨⟨⟨⟨⟨h1, h2⟩, h3⟩, h4⟩, h5⟩, h6⟩, h7⟩, h8⟩, h9⟩, h10⟩, h11⟩, h12⟩, h13⟩, h14⟩, h15⟩, h16⟩, h17⟩, h18⟩, h19⟩ := h
      have hn := (Bool.and_eq_true_iff.mp (Bool.and_eq_true_iff.mp h18).1).1
      exact ss_par3 h15 h16 h17 (ps_par3 S0.F.calm S0.F.nd (by rw [S0.F.hN]; exact h1) (by rw [S0.F.hN]; exact h2) (by rw [S0.F.hN]; exact h3) h12 h13 h14 (locL_ok h4) (locL_ok h5) (locL_ok h6) (sdM es S0.F S0.tk rfl h19 hn) (ss_three S0.kind (locL_ok h4) (locL_ok h5) (locL_ok h6) h7 h8 h9 h10 h11 h18) swS_tup)
    · cases h
  | .par [] es, st, h => by simp [chkS] at h
  | .par [_] es, st, h => by simp [chkS] at h
  | .par (_ :: _ :: _ :: _ :: _) es, st, h => by simp [chkS] at h
  | .aug i o e, st, h => by
    simp only [chkS] at h
    split at h
    · simp only [Bool.and_eq_true, decide_eq_true_eq] at h
      obtain ⟨⟨⟨⟨h1, h2⟩, h3⟩, h4⟩, h5⟩ := h
      obtain ⟨f, hf, hp⟩ := opA_f h1
      obtain ⟨l1, l2⟩ := locC0 S0 h3
      exact ss_aug hf h4 (ps_aug S0.F.nd (by rw [S0.F.hN]; exact h2) l1 (sdE e S0.F S0.tk rfl h5) (hp X) l2)
    · cases h
  | .iff c a b, st, h => by
    simp only [chkS] at h
    split at h
    · simp only [Bool.and_eq_true] at h
      obtain ⟨⟨h1, h2⟩, h3⟩ := h
      exact ss_if (sdT c S0.F S0.tk rfl h1) (sdB hal S0 a h2) (sdB hal S0 b h3)
    · cases h
  | .fr tg it body, st, h => by
    simp only [chkS] at h
    split at h
    · simp only [Bool.and_eq_true] at h
      obtain ⟨⟨⟨⟨h1, h2⟩, h3⟩, h4⟩, h5⟩ := h
      exact ss_for (dis_ok h1) S0.pass S0.F.calm (sdI it S0.F S0.tk rfl h4) (okG S0.F.calm S0.F.nd S0.F.hN rfl S0.fn h3) (sdB hal S0 body h5) (notSet_ok h2)
    · cases h
  | .wh m c body, st, h => by
    simp only [chkS] at h
    split at h
    · simp only [Bool.and_eq_true] at h
      exact ss_wh S0.pass (sdT c S0.F S0.tk rfl h.1) (sdB hal S0 body h.2)
    · cases h
  | .ret e, st, h => by
    simp only [chkS] at h
    split at h
    · split at h
      · split at h
        · obtain ⟨o1, o2, o3, o4, o5⟩ := ownN_ok S0 h
          exact ss_retO hal o1 o2 o3 o4 o5
        · cases h
      · exact ss_ret (sdE e S0.F S0.tk rfl h)
    · cases h
  | .ex e, st, h => by
    simp only [chkS] at h
    split at h
    · simp only [Bool.and_eq_true] at h
      exact ss_ex (ps_expr (sdE e S0.F S0.tk rfl h.2) (sw_no h.1))
    · cases h
  | .rai x m, st, h => by
    simp only [chkS] at h
    split at h
    · simp only [Bool.and_eq_true] at h
      exact ss_rai S0.F.calm S0.tk (pmk_of S0.F (eqS_ok h.1.1) (glC_ok h.2))
    · cases h
  | .app i e, st, h => by
    simp only [chkS] at h
    split at h
    · simp only [Bool.and_eq_true] at h
      obtain ⟨⟨⟨⟨h1, h2⟩, h3⟩, h4⟩, h5⟩ := h
      obtain rfl := eqS_ok h1
      obtain ⟨hp, hi⟩ := meth_ps S0 PySem.F.slot_list_append PySem.F.type_list_append mt_append h2 h3 h4 h5
      exact ss_app hi hp
    · cases h
  | .ext i e, st, h => by
    simp only [chkS] at h
    split at h
    · simp only [Bool.and_eq_true] at h
      obtain ⟨⟨⟨⟨h1, h2⟩, h3⟩, h4⟩, h5⟩ := h
      obtain rfl := eqS_ok h1
      obtain ⟨hp, hi⟩ := meth_ps S0 PySem.F.slot_list_extend PySem.F.type_list_extend mt_extend h2 h3 h4 h5
      exact ss_ext hi hp
    · cases h
  | .rem i e, st, h => by
    simp only [chkS] at h
    split at h
    · simp only [Bool.and_eq_true] at h
      obtain ⟨⟨⟨⟨h1, h2⟩, h3⟩, h4⟩, h5⟩ := h
      obtain rfl := eqS_ok h1
      obtain ⟨hp, hi⟩ := meth_ps S0 PySem.F.slot_list_remove PySem.F.type_list_remove mt_remove h2 h3 h4 h5
      exact ss_rem hi hp
    · cases h
  | .six i j e, st, h => by
    simp only [chkS] at h
    split at h
    · simp only [Bool.and_eq_true] at h
      obtain ⟨⟨⟨h1, h0⟩, h2⟩, h3⟩ := h
      obtain ⟨ho, hi⟩ := own_pe S0 h1
      exact ss_six hi (ps_asg (sdE e S0.F S0.tk rfl h3) (pg_sub ho (sdE j S0.F S0.tk rfl h2) set_list (asg_sub h0)) swS_sub ss_sub)
    · cases h
  | .saug i o j e, st, h => by
    simp only [chkS] at h
    split at h
    · simp only [Bool.and_eq_true, decide_eq_true_eq] at h
      obtain ⟨⟨⟨⟨h1, h2⟩, h3⟩, h4⟩, h5⟩ := h
      obtain ⟨f, hf, hp⟩ := opA_f h1
      obtain ⟨ho, hi⟩ := own_pe S0 h2
      exact ss_saug hf hi (ps_augS ho (sdE j S0.F S0.tk rfl h4) get_listN (sdE e S0.F S0.tk rfl h5) (hp X) set_list (aug_ok h3))
    · cases h
  | .popS i j e, st, h => by
    simp only [chkS] at h
    split at h
    · simp only [Bool.and_eq_true, decide_eq_true_eq] at h
      obtain ⟨⟨⟨⟨⟨⟨⟨h1, h2⟩, h3⟩, h4⟩, h5⟩, h6⟩, h7⟩, h8⟩ := h
      obtain rfl := eqS_ok h1
      obtain ⟨ho, hj⟩ := own_pe S0 h5
      obtain ⟨l1, l2⟩ := locC0 S0 h3
      exact ss_pop (K := X.K) h4 hj (ps_set S0.F.nd (by rw [S0.F.hN]; exact h2) l1 (pe_bm PySem.F.plainAttrs_list PySem.F.slot_list_pop PySem.F.type_list_pop mt_popAt ho (pa_one h6 (sdE e S0.F S0.tk rfl h8)) rfl (few_ok h6) h7 (star_cons h6) rfl) rfl l2)
    · cases h
  | .stS s j e, st, h => by
    simp only [chkS] at h
    split at h
    · simp only [Bool.and_eq_true, decide_eq_true_eq] at h
      obtain ⟨⟨h1, rfl⟩, h3⟩ := h
      obtain ⟨o1, o2, o3, o4, o5⟩ := stN_ok S0 h1
      exact ss_stS o5 (ps_asg (sdE e S0.F S0.tk rfl h3) (pg_sub (pe_var o1 o2 o3 o4) pe_int set_list) swS_sub ss_sub)
    · cases h
  | .stA s j o e, st, h => by
    simp only [chkS] at h
    split at h
    · simp only [Bool.and_eq_true, decide_eq_true_eq] at h
      obtain ⟨⟨⟨h1, h2⟩, rfl⟩, h3⟩ := h
      obtain ⟨f, hf, hp⟩ := opA_f h1
      obtain ⟨o1, o2, o3, o4, o5⟩ := stN_ok S0 h2
      exact ss_stA hf o5 (ps_augS (pe_var o1 o2 o3 o4) pe_int get_listN (sdE e S0.F S0.tk rfl h3) (hp X) set_list (aug_ok rfl))
    · cases h
  | .tryR e i, st, h => by
    simp only [chkS] at h
    split at h
    · simp only [Bool.and_eq_true] at h
      obtain ⟨⟨⟨⟨⟨⟨⟨⟨h1, h2⟩, h3⟩, h4⟩, h5⟩, h6⟩, h7⟩, h8⟩, h9⟩ := h
      obtain rfl := eqS_ok h5
      obtain ⟨o1, o2, o3, o4, o5, o6⟩ := errN_ok S0 h6
      obtain ⟨y, z, kk, j, p1, p2, p3, p4, p5, p6, p7, p8, rfl, rfl, rfl, g1, m1, g2, m2⟩ := suR_ok S0.F h7
      obtain ⟨y', z', kk', j', p1', p2', p3', p4', p5', p6', p7', p8', rfl, rfl, rfl, _⟩ := suR_ok S0.F h8
      exact ss_tryR S0.stk S0.frm S0.F.nd o1 o2 S0.tk S0.F.calm S0.F.ef (eqS_ok h1) (eqS_ok h2) (glC_ok h3) (glC_ok h4) rfl rfl g1 m1 g2 m2 o4 o5 o3 fun W pn xe tk' => sdE (X := X.tr pn xe) e (S0.F.tr pn xe) tk' rfl h9
    · cases h
  | .tryU w f1 f2 i, st, h => by
    simp only [chkS] at h
    split at h
    · simp only [Bool.and_eq_true] at h
      obtain ⟨⟨⟨⟨⟨⟨⟨⟨h1, h2⟩, h3⟩, h4⟩, h5⟩, h6⟩, h7⟩, h8⟩, h9⟩ := h
      obtain ⟨o1, o2, o3, o4, o5, o6⟩ := errN_ok S0 h3
      obtain ⟨y, z, j, p1, p2, p3, p4, p5, p6, p7, p8, rfl, rfl, rfl, g1, m1, g2, m2⟩ := suU_ok S0.F h4
      exact ss_tryU S0.stk S0.frm S0.F.nd o1 o2 S0.tk S0.F.ef (eqS_ok h1) (glC_ok h2) rfl rfl g1 m1 g2 m2 o4 o5 o6 o3
        (fun W pn xe tk' => sdT (X := X.tr pn xe) (.var w) (S0.F.tr pn xe) tk' rfl h7)
        (fun W pn xe tk' => ps_expr (X := X.tr pn xe) (sdE (X := X.tr pn xe) f1 (S0.F.tr pn xe) tk' rfl h8) (sw_no h5))
        (fun W pn xe tk' => ps_expr (X := X.tr pn xe) (sdE (X := X.tr pn xe) f2 (S0.F.tr pn xe) tk' rfl h9) (sw_no h6))
    · cases h
  | .brk, st, h => by
    simp only [chkS] at h
    split at h
    · exact ss_brk
    · cases h
theorem sdB (hal : Al A.O0 A.H0) (S0 : Sx k n cE E X) : ∀ (b : List S) {sts : List Stmt}, chkB k X.env.scope fr b sts = true → PSs X sts (tB cE A E k.mu (runF k.P n) fr b)
  | [], sts, h => by
    simp only [chkB] at h
    cases sts with
    | nil => exact ss_nil
    | cons _ _ => cases h
  | s :: ss, sts, h => by
    cases sts with
    | nil => cases h
    | cons st r =>
      obtain ⟨h1, h2⟩ := andB (show (chkS k X.env.scope fr s st && chkB k X.env.scope fr ss r) = true from h)
      exact ss_cons (sdS hal S0 s h1) (sdB hal S0 ss h2)
end
end
end PT
namespace PT
open PySem PySem.Spec PyProof.Rows L2

theorem lookup_zip {α : Type} : ∀ {ps : List Str} {us : List α}, us.length = ps.length → ∀ x ∈ ps, ((ps.zip us).lookup x).isSome = true
  | [], _, _, x, h => by cases h
  | p :: ps, [], h, _, _ => by cases h
  | p :: ps, u :: us, h, x, hx => by
    rw [List.zip_cons_cons, List.lookup_cons]
    by_cases e : x = p
    · subst e; simp
    · have : (x == p) = false := by simpa using e
      rw [this]
      rcases List.mem_cons.mp hx with z | z
      · exact absurd z e
      · exact lookup_zip (by simpa using h) x z
theorem filterMap_cg {α β : Type} {f g : α → Option β} : ∀ {l : List α}, (∀ x ∈ l, f x = g x) → l.filterMap f = l.filterMap g
  | [], _ => rfl
  | x :: l, h => by
    rw [List.filterMap_cons, List.filterMap_cons, h x List.mem_cons_self, filterMap_cg fun y hy => h y (List.mem_cons_of_mem _ hy)]
theorem filterMap_zip {α : Type} : ∀ {ps : List Str} {us : List α}, ps.Nodup → us.length = ps.length → (ps.filterMap fun n => ((ps.zip us).lookup n).map fun v => (n, v)) = ps.zip us
  | [], us, _, h => by simp
  | p :: ps, [], _, h => by cases h
  | p :: ps, u :: us, nd, h => by
    obtain ⟨h1, h2⟩ := List.nodup_cons.mp nd
    have ih := filterMap_zip (us := us) h2 (by simpa using h)
    rw [List.zip_cons_cons, List.filterMap_cons, List.lookup_cons]
    simp only [BEq.rfl, Option.map_some]
    rw [filterMap_cg (g := fun n => ((ps.zip us).lookup n).map fun v => (n, v)), ih]
    intro x hx
    have : (x == p) = false := by
      have ne : x ≠ p := fun e => h1 (by rw [← e]; exact hx)
      simpa using ne
    rw [List.lookup_cons, this]
def plainArgs (p : Arguments) (ps : List Str) : Bool := p.posonlyargs.isEmpty && p.vararg.isNone && p.kwonlyargs.isEmpty && p.kwarg.isNone && decide (p.args.map (·.arg) = ps)
theorem bind_plain {fd : FuncData} {ps : List Str} (nd : ps.Nodup) (hp : plainArgs fd.params ps = true) (hd : fd.defaults = .none) {us : List Value} (h : us.length = ps.length) : bindArgs fd ⟨us, []⟩ = pure (ps.zip us) := by
  unfold plainArgs at hp
  simp only [Bool.and_eq_true, List.isEmpty_iff, Option.isNone_iff_eq_none, decide_eq_true_eq] at hp
  obtain ⟨⟨⟨⟨h1, h2⟩, h3⟩, h4⟩, h5⟩ := hp
  have hm : (ps.filter fun n => ((ps.zip us).lookup n).isNone) = [] := by
    apply List.filter_eq_nil_iff.mpr
    intro x hx
    have := lookup_zip h x hx
    cases q : (ps.zip us).lookup x with
    | none => rw [q] at this; cases this
    | some v => simp
  have hsq : seqItems? Value.none = pure none := rfl
  have pb : ∀ {α β : Type} (x : α) (f : α → Sem β), (Sem.pure x).bind f = f x := fun _ _ => rfl
  have pb2 : ∀ {α β : Type} (x : α) (f : α → Sem β), ((pure x : Sem α) >>= f) = f x := fun _ _ => rfl
  simp [bindArgs, h1, h2, h3, h4, h5, hd, hsq, h, hm, filterMap_zip nd h, pb, pb2]
end PT
namespace PT
open PySem PySem.Spec PyProof.Rows L2
def fsC (N ps : List Str) (sc : Scope) : Bool := (match sc.kind with | .function => true | _ => false) && !sc.isCoroutine && !sc.isGenerator && decide N.Nodup && decide (N.take ps.length = ps) && (ps.all fun x => decide (sc.names.lookup x = some .local) || decide (sc.names.lookup x = some .cell)) && (sc.names.all fun y => decide (y.2 ≠ .free))
theorem fsC_ok {N ps : List Str} {sc : Scope} (h : fsC N ps sc = true) : FnScope N ps sc := by
  unfold fsC at h
  simp only [Bool.and_eq_true, Bool.not_eq_true', decide_eq_true_eq, List.all_eq_true, Bool.or_eq_true] at h
  obtain ⟨⟨⟨⟨⟨⟨h1, h2⟩, h3⟩, h4⟩, h5⟩, h6⟩, h7⟩ := h
  refine ⟨?_, h2, h3, h4, h5, h6, h7⟩
  split at h1
  · assumption
  · cases h1
def ckOf (P : List Def) (cs : List (Str × Int)) (bl : List Str) (d : Def) : Ck := ⟨d.ns, d.mu, P, cs, bl⟩
def chkD (P : List Def) (cs : List (Str × Int)) (bl : List Str) (d : Def) (params : Arguments) (scope : Scope) (body : List Stmt) : Bool :=
  fsC d.ns (d.ns.take d.ps) scope && plainArgs params (d.ns.take d.ps) && decide (d.ps ≤ d.ns.length) && (d.mu.all fun i => decide (d.ps ≤ i)) && chkB (ckOf P cs bl d) scope d.fr d.body body
theorem gv_start : ∀ {ds : List D} {m i : Nat} {d : D}, gv (ds.map some ++ List.replicate m none) i = some d → ds[i]? = some d
  | [], m, i, d, h => by
    have := gv_some h
    rw [List.map_nil, List.nil_append, List.getElem?_replicate] at this
    split at this <;> cases this
  | x :: ds, m, 0, d, h => by simpa [gv] using h
  | x :: ds, m, i + 1, d, h => by
    have h : gv (ds.map some ++ List.replicate m none) i = some d := h
    simpa using gv_start h
section
variable {P : List Def} {cs : List (Str × Int)} {bl : List Str} {n : Nat} {prog : Program} {w : World} {K : PySem.W.Frag} {mg : Str → Option Value} {base : Heap} {cE : Exc → Addr}
/-- what the module's top says -/
structure Hd (P : List Def) (cs : List (Str × Int)) (bl : List Str) (K : PySem.W.Frag) (mg : Str → Option Value) (cE : Exc → Addr) : Prop where
  con : ∀ x i, (x, i) ∈ cs → ∃ t, mg x = some (.int i t)
  fre : ∀ x, x ∈ bl → mg x = none
  ef : Ef K mg cE
  fn : ∀ (f : Nat) (d : Def), P[f]? = some d → ∃ a fd params scope body, mg d.name = some (.ref a) ∧ FunD K d.name d.name params body scope [] [] a fd ∧ chkD P cs bl d params scope body = true
abbrev FnsAt (P : List Def) (prog : Program) (w : World) (K : PySem.W.Frag) (mg : Str → Option Value) (base : Heap) (cE : Exc → Addr) (n : Nat) : Prop :=
  ∀ (f : Nat) (d : Def), P[f]? = some d → ∃ a fd, mg d.name = some (.ref a) ∧ PySem.W.keepIn K (.ref a) = true ∧ Binds K fd (d.ns.take d.ps) [] ∧ FnG prog w K mg base n a fd (d.ns.take d.ps) (spF cE P n f)
theorem binds_of {d : Def} {a : Addr} {fd : FuncData} {params : Arguments} {scope : Scope} {body : List Stmt} (F : FunD K d.name d.name params body scope [] [] a fd) (S : FnScope d.ns (d.ns.take d.ps) scope) (h : plainArgs params (d.ns.take d.ps) = true) : Binds K fd (d.ns.take d.ps) [] :=
  F.bindsN fun kV doc pm an cdv ct us hl => bind_plain (List.Nodup.sublist (List.take_sublist _ _) S.nd) h rfl hl
theorem sx_of {k : Ck} {qual : Str} {scope : Scope} {f : Addr} {cdv : Value} {A : Around} {outer : List PySem.Env} {s : Shared} {H : Hp} {E : XK} (hd : Hd k.P k.cs k.bl K mg cE) (S : FnScope k.N ps scope) (hg : A.guards = some []) (hr : Room n (A.deeper (envOfC qual scope s.heap.objs.size f cdv)))
    (HF : FnsAt k.P prog w K mg base cE n) : Sx k n cE E (cxOf (L2.CX prog w) prog w K mg base k.N qual scope f cdv A outer s H E) where
  F := ⟨rfl, hg, hr, S.nd, rfl, HF, hd.con, hd.fre, hd.ef⟩
  tk := takes_of rfl rfl rfl rfl
  stk := rfl
  frm := rfl
  pass := passes_of rfl
  fn := fun _ => rfl
  kind := S.kind
theorem fn_step (hd : Hd P cs bl K mg cE) (HF : FnsAt P prog w K mg base cE n) {f : Nat} {d : Def} (hP : P[f]? = some d) {a : Addr} {fd : FuncData} {params : Arguments} {scope : Scope} {body : List Stmt} (F : FunD K d.name d.name params body scope [] [] a fd) (hc : chkD P cs bl d params scope body = true) :
    FnG prog w K mg base (n + 1) a fd (d.ns.take d.ps) (spF cE P (n + 1) f) := by
  unfold chkD at hc
  simp only [Bool.and_eq_true, decide_eq_true_eq] at hc
  obtain ⟨⟨⟨⟨h1, h2⟩, h3⟩, h4⟩, h5⟩ := hc
  have S := fsC_ok h1
  have hpl : (d.ns.take d.ps).length = d.ps := by rw [List.length_take]; omega
  refine FnG.ofBody F S (fun vs H Q E ⟨d', _, _, _, _, e1, e2, _⟩ => ?_) fun cdv A outer s H vs Q E hg hr hsp => ?_
  · rw [hP] at e1; cases e1; rw [hpl]; exact e2
  obtain ⟨d', O, ast, g, ds, e1, hlen, ha, al, st, l, hq⟩ := hsp
  rw [hP] at e1
  cases e1
  have hlen2 : ds.length = d.ps := by rw [← l.length]; exact hlen
  refine ⟨_, sdB (k := ckOf P cs bl d) (A := ⟨H, ast, O⟩) (fr := d.fr) al (sx_of (k := ckOf P cs bl d) hd S hg hr HF) d.body h5, ?_⟩
  have hρ : (ds.map some ++ List.replicate (d.ns.length - d.ps) (none : Option PT.D)).length = d.ns.length := by simp; omega
  refine ⟨⟨H, ast, O, ds.map some ++ List.replicate (d.ns.length - d.ps) none, g⟩, ⟨⟨ha, al, ?_, st, Fr.refl, fun i x e hm => ?_, fun i x e hm => ?_, fun i j b hi _ e1 _ _ _ => ?_⟩, rfl, rfl, Mo.refl⟩, ?_⟩
  · show (L2.start d.ns vs).length = _
    rw [hρ]
    unfold L2.start
    simp; omega
  · have e' := gv_start (show gv (ds.map some ++ List.replicate (d.ns.length - d.ps) none) i = some x from e)
    obtain ⟨v, h1, h2⟩ := l.get e'
    refine ⟨v, ?_, h2⟩
    show (L2.start d.ns vs)[i]? = _
    unfold L2.start
    have hi : i < vs.length := (List.getElem?_eq_some_iff.mp h1).1
    rw [List.getElem?_append_left (by simpa using hi), List.getElem?_map, h1]
    rfl
  · have e' := gv_start (show gv (ds.map some ++ List.replicate (d.ns.length - d.ps) none) i = some x from e)
    have hi : i < ds.length := (List.getElem?_eq_some_iff.mp e').1
    have := of_decide_eq_true (List.all_eq_true.mp h4 i hm)
    omega
  · obtain ⟨x, e⟩ := Option.ne_none_iff_exists'.mp e1
    have e' := gv_start (show gv (ds.map some ++ List.replicate (d.ns.length - d.ps) none) i = some x from e)
    have hi' : i < ds.length := (List.getElem?_eq_some_iff.mp e').1
    have := of_decide_eq_true (List.all_eq_true.mp h4 i hi)
    omega
  · simp only [runF, hP, hlen2, if_true] at hq
    show pS _ _ (evB (runF P n) d.body (ds.map some ++ List.replicate (d.ns.length - d.ps) none) g)
    cases q : evB (runF P n) d.body (ds.map some ++ List.replicate (d.ns.length - d.ps) none) g with
    | bad => rw [q] at hq; exact hq
    | exc x g' => rw [q] at hq; exact hq
    | ok fl g' =>
      rw [q] at hq
      cases fl with
      | bk ρ => exact (show False from hq).elim
      | rt v => exact hq
      | nx ρ =>
        intro c' σ' H' i' e1 e2 o
        have hq : ∀ v H', Fr ast H H' → StIs O ast H' g' → IsR (if d.fr = true then .fr else .cl) O ast H H' v .none → Q v H' := hq
        subst e2
        exact hq .non H' (i'.fr0 Fr.refl) (i'.st0 i'.rel.st) (IsR.sc .non fun _ e => nomatch e)
theorem fns_all (hd : Hd P cs bl K mg cE) : ∀ n, FnsAt P prog w K mg base cE n
  | 0, f, d, hP => by
    obtain ⟨a, fd, params, scope, body, h1, F, hc⟩ := hd.fn f d hP
    have hc' := hc
    unfold chkD at hc
    simp only [Bool.and_eq_true, decide_eq_true_eq] at hc
    obtain ⟨⟨⟨⟨h2, h3⟩, h4⟩, _⟩, _⟩ := hc
    have hpl : (d.ns.take d.ps).length = d.ps := by rw [List.length_take]; omega
    refine ⟨a, fd, h1, F.kp, binds_of F (fsC_ok h2) h3, ⟨fun vs H Q E ⟨d', _, _, _, _, e1, e2, _⟩ => ?_, fun A outer s H args us vs Q E _ _ _ _ _ ⟨d', _, _, _, _, _, _, _, _, _, _, q⟩ => (show False from q).elim⟩⟩
    rw [hP] at e1; cases e1; rw [hpl]; exact e2
  | n + 1, f, d, hP => by
    obtain ⟨a, fd, params, scope, body, h1, F, hc⟩ := hd.fn f d hP
    have hc' := hc
    unfold chkD at hc
    simp only [Bool.and_eq_true, decide_eq_true_eq] at hc
    obtain ⟨⟨⟨⟨h2, h3⟩, h4⟩, _⟩, _⟩ := hc
    exact ⟨a, fd, h1, F.kp, binds_of F (fsC_ok h2) h3, fn_step hd (fns_all hd n) hP F hc'⟩
end
end PT
namespace PT
open PySem PySem.Spec PyProof.Rows L2

/-- state = [list(script), 0, 0, 1], then the rest -/
def lawHead (k : Ck) (sc : Scope) : Stmt → Bool
  | .Assign [.Name st px] (.List [.Call (.Name ls _) [.Name x _] [] _, .Constant (.int a) _ _, .Constant (.int b) _ _, .Constant (.int c) _ _] _) _ =>
    decide (k.N[0]? = some x) && decide (k.N[1]? = some st) && locC sc none st && visC sc x && okN x && eqS ls "list" && blC k sc ls && decide (a = 0) && decide (b = 0) && decide (c = 1)
  | _ => false
def lawRest : List Stmt → List Stmt
  | [] => []
  | _ :: r => r
def chkLaw (P : List Def) (cs : List (Str × Int)) (bl : List Str) (d : Def) (params : Arguments) (scope : Scope) (body : List Stmt) : Bool :=
  fsC d.ns (d.ns.take 1) scope && plainArgs params (d.ns.take 1) && decide (2 ≤ d.ns.length) && (d.mu.all fun i => decide (2 ≤ i)) && (match body with
    | [] => false
    | st :: _ => lawHead (ckOf P cs bl d) scope st) && chkB (ckOf P cs bl d) scope d.fr d.body (lawRest body)
def rho0 (d : Def) : Env := none :: some stD :: List.replicate (d.ns.length - 2) none
def st0 (ns : List Int) : G := [mkL ns, .int 0, .int 0, .int 1]
/-- the law says yes -/
def LawYes (P : List Def) (n : Nat) (d : Def) : Prop := ∀ ns : List Int, ns.length ≤ 63 → ∃ g, evB (runF P n) d.body (rho0 d) (st0 ns) = .ok (.rt (.bool true)) g
def spLaw (K : PySem.W.Frag) : Sp := fun vs H Q _ => ∃ (a : Addr) (ns : List Int), vs = [.ref a] ∧ SqL K H a (ns.map V.int) ∧ ns.length ≤ 63 ∧ ∀ H', Q (.bl true) H'
section
variable {P : List Def} {cs : List (Str × Int)} {bl : List Str} {n : Nat} {prog : Program} {w : World} {K : PySem.W.Frag} {mg : Str → Option Value} {base : Heap} {cE : Exc → Addr}
theorem law_step (hd : Hd P cs bl K mg cE) {d : Def} {a : Addr} {fd : FuncData} {params : Arguments} {scope : Scope} {body : List Stmt} (F : FunD K d.name d.name params body scope [] [] a fd) (hc : chkLaw P cs bl d params scope body = true) (hy : LawYes P n d) :
    FnG prog w K mg base (n + 1) a fd (d.ns.take 1) (spLaw K) := by
  have HF := fns_all (prog := prog) (w := w) (base := base) hd n
  unfold chkLaw at hc
  simp only [Bool.and_eq_true, decide_eq_true_eq] at hc
  obtain ⟨⟨⟨⟨⟨h1, h2⟩, h3⟩, h4⟩, h5⟩, h6⟩ := hc
  have S := fsC_ok h1
  have hpl : (d.ns.take 1).length = 1 := by rw [List.length_take]; omega
  refine FnG.ofBody F S (fun vs H Q E ⟨_, _, e, _⟩ => by rw [e, hpl]; rfl) fun cdv A outer s H vs Q E hg hr ⟨sa, ns, ev, hS, hlen, hQ⟩ => ?_
  subst ev
  cases body with
  | nil => cases h5
  | cons st rest =>
    have sx := sx_of (ps := d.ns.take 1) (qual := d.name) (f := a) (cdv := cdv) (outer := outer) (s := s) (H := H) (E := E) (k := ckOf P cs bl d) hd S hg hr HF
    have h5 : lawHead (ckOf P cs bl d) scope st = true := h5
    unfold lawHead at h5
    split at h5
    · rename_i stn px ls pl x ppx pc i1 k1 q1 i2 k2 q2 i3 k3 q3 pl2 pp hh
      simp only [Bool.and_eq_true, decide_eq_true_eq] at h5
      obtain ⟨⟨⟨⟨⟨⟨⟨⟨⟨e1, e2⟩, e3⟩, e4⟩, e5⟩, e6⟩, e7⟩, rfl⟩, rfl⟩, rfl⟩ := h5
      obtain rfl := eqS_ok e6
      obtain ⟨o1, o2, o3⟩ := okN_ok e5
      obtain ⟨l1, l2⟩ := locC0 sx (show locC _ none stn = true from e3)
      obtain ⟨g1, m1⟩ := blC_ok sx.F (show blC _ _ ("list" : Str) = true from e7)
      have hp1 := ps_set (i := 1) (pos := pp) (pos' := px) S.nd (show (cxOf (L2.CX prog w) prog w K mg base d.ns d.name scope a cdv A outer s H E).N[1]? = some stn from e2) l1 (pe_lst (pos := pl2)
        (pa_cons (pe_callTy (p := pl) (pos := pc) call_list_of g1 m1 (by decide +kernel) (pa_one nst_name (pe_var (i := 0) (pos := ppx) (show (cxOf (L2.CX prog w) prog w K mg base d.ns d.name scope a cdv A outer s H E).N[0]? = some x from e1) (visC_ok e4) o1 o2)))
          (pa_cons (pe_int (i := 0) (j := k1) (pos := q1)) (pa_cons (pe_int (i := 0) (j := k2) (pos := q2)) (pa_cons (pe_int (i := 1) (j := k3) (pos := q3)) pa_nil))))) rfl l2
      refine ⟨_, pss_cons hp1 (⟨fun pins s' σ' H' D I hq => ?_⟩ : PSs _ rest (fun D σ H => ∃ A : At, Al A.O0 A.H0 ∧ tB cE A E d.mu (runF P n) d.fr d.body D σ H)), ?_⟩
      · obtain ⟨A2, hal, hq⟩ := hq
        exact (sdB (A := A2) (fr := d.fr) hal sx d.body h6).run pins s' σ' H' D I hq
      · obtain ⟨g', hev⟩ := hy ns hlen
        have hst0 : L2.start d.ns [V.ref sa] = some (V.ref sa) :: List.replicate (d.ns.length - 1) none := rfl
        refine ⟨.ref sa, by rw [hst0]; rfl, ?_⟩
        refine ⟨sa, _, rfl, .inl hS, fun q hq => ?_⟩
        refine ⟨by show 4 ≤ sizeLine; rw [sizeLine_eq]; decide, fun p hp => ?_⟩
        have hqp : q ≠ p := fun e => by rw [← e, upd_same] at hp; cases hp
        have hal : Al [p] (upd (upd H q (.lst (ns.map V.int))) p (.lst [.ref q, .int 0, .int 0, .int 1])) := fun b hb => by
          rw [List.mem_singleton.mp hb, upd_same]; exact fun z => nomatch z
        have hst : StIs [p] ⟨p, q⟩ (upd (upd H q (.lst (ns.map V.int))) p (.lst [.ref q, .int 0, .int 0, .int 1])) (st0 ns) :=
          ⟨fun z => hqp (List.mem_singleton.mp z), hqp, ns, [0, 0, 1], rfl, upd_same, by rw [upd_ne hqp, upd_same]⟩
        have hlenS : (L2.start d.ns [V.ref sa]).length = d.ns.length := by rw [hst0]; simp; omega
        have h1lt : 1 < (L2.start d.ns [V.ref sa]).length := by rw [hlenS]; omega
        refine ⟨⟨_, ⟨p, q⟩, [p]⟩, hal, ⟨_, ⟨p, q⟩, [p], rho0 d, st0 ns⟩, ⟨⟨List.mem_singleton.mpr rfl, hal, ?_, hst, Fr.refl, fun i x e hm => ?_, fun i x e hm => ?_, fun i j b hi hj e1 _ _ _ => ?_⟩, rfl, rfl, Mo.refl⟩, ?_⟩
        · rw [List.length_set, hlenS]; unfold rho0; simp; omega
        · have e : gv (rho0 d) i = some x := e
          have e' := gv_some e
          match i, e' with
          | 0, e' => cases e'
          | 1, e' =>
            cases e'
            exact ⟨_, List.getElem?_set_self h1lt, .st⟩
          | i + 2, e' =>
            have e' : (List.replicate (d.ns.length - 2) (none : Option PT.D))[i]? = some (some x) := e'
            rw [List.getElem?_replicate] at e'
            split at e' <;> cases e'
        · have e : gv (rho0 d) i = some x := e
          have e' := gv_some e
          have hi := of_decide_eq_true (List.all_eq_true.mp h4 i hm)
          obtain ⟨i, rfl⟩ : ∃ j, i = j + 2 := ⟨i - 2, by omega⟩
          have e' : (List.replicate (d.ns.length - 2) (none : Option PT.D))[i]? = some (some x) := e'
          rw [List.getElem?_replicate] at e'
          split at e' <;> cases e'
        · obtain ⟨x, e⟩ := Option.ne_none_iff_exists'.mp e1
          have e : gv (rho0 d) i = some x := e
          have e' := gv_some e
          have hi := of_decide_eq_true (List.all_eq_true.mp h4 i hi)
          obtain ⟨i, rfl⟩ : ∃ j, i = j + 2 := ⟨i - 2, by omega⟩
          have e' : (List.replicate (d.ns.length - 2) (none : Option PT.D))[i]? = some (some x) := e'
          rw [List.getElem?_replicate] at e'
          split at e' <;> cases e'
        · show pS _ _ (evB (runF P n) d.body (rho0 d) (st0 ns))
          rw [hev]
          intro v H' f s' i
          have : v = .bl true := by
            cases hf : d.fr with
            | true =>
              rw [hf] at i
              rcases (show IsF _ _ _ H' v (.bool true) from i) with ⟨_, _, _, _, e, _⟩ | ⟨_, i⟩
              · cases e
              · cases i; rfl
            | false =>
              rw [hf] at i
              cases (show Is _ _ H' v (.bool true) from i); rfl
          rw [this]
          exact hQ H'
    · cases h5
end
end PT
namespace PT
open PySem PySem.Spec PyProof.Rows L2

def stP (b : List Stmt) (i : Nat) : Stmt := b.getD i (.Pass ⟨0, 0, 0, 0⟩)
def dfD (b : List Stmt) (p : Str × Nat) : He.DefD := ⟨(p.1, none), p.1, p.1, defArgs (stP b p.2), defBody (stP b p.2), defScope (stP b p.2), [], []⟩
def excB (K : PySem.W.Frag) (D : Addr) : Bool :=
  decide (PySem.W.findIn K (.ref D) "__getattribute__" = some (some (.builtin "BaseException.__getattribute__"))) && (decide (PySem.W.findIn K (.ref D) "__getattr__" = some none) && (decide (PySem.W.subIn K (.ref D) (.type "BaseException") = some true) && (PySem.W.hasDictIn K D &&
    (decide (PySem.W.findIn K (.ref D) "__class__" = some (some (.builtin "object.__class__"))) && (decide (PySem.W.specialIn K (.builtin "object.__class__") "__get__" = some (some (.builtin "getset_descriptor.__get__"))) && (decide (PySem.W.takesIn K (.builtin "object.__class__") = some true) && decide (PySem.W.mroIn K D (.type "object") = some true)))))))
theorem excB_ok {K : PySem.W.Frag} {D : Addr} (h : excB K D = true) : ExcC K D := by
  unfold excB at h
  simp only [Bool.and_eq_true, decide_eq_true_eq] at h
  obtain ⟨h1, h2, h3, h4, h5, h6, h7, h8⟩ := h
  exact ⟨h1, h2, h3, h4, h5, h6, h7, h8⟩
/-- what more is asked of the two classes -/
def exB (K : PySem.W.Frag) : Bool := excB K (He.ga K "UnfitHeap") && (excB K (He.ga K "TooWide") && (decide (PySem.W.kitOne K (.ref (He.ga K "UnfitHeap")) (.type "ValueError") = some true) && decide (PySem.W.kitOne K (.ref (He.ga K "TooWide")) (.type "ValueError") = some true)))
def faX : List He.Fa := [.glo "UnfitHeap", .glo "TooWide", .exc "UnfitHeap", .exc "TooWide", .exm "UnfitHeap" "UnfitHeap" true, .exm "TooWide" "TooWide" true, .exm "TooWide" "UnfitHeap" false, .exm "UnfitHeap" "TooWide" false]
def faOf (names : List (Str × Nat)) (cs : List (Str × Int)) (bl : List Str) : List He.Fa := faX ++ (names.map (fun p => .glo p.1) ++ (cs.map (fun p => .int p.1 p.2) ++ bl.map .free))
def cX (K : PySem.W.Frag) (x : Exc) : Addr := He.ga K (exN x)
/-- a def of the program as the kit's reader sees it, with its term -/
def nmC (names : List (Str × Nat)) (P : List Def) : Bool := decide (P.map (·.name) = names.map (·.1))
section
variable {b : List Stmt} {names : List (Str × Nat)} {cs : List (Str × Int)} {bl : List Str} {P : List Def} {w : World} {h : Heap} {K : PySem.W.Frag} {mg : Str → Option Value}
theorem ef_of (X : K.In h) (G : h.Ns mainGlobals mg) {fn : List He.DefD} (c : He.SaysX (faOf names cs bl) fn [] [] exB w h K) : Ef K mg (cX K) := by
  have f : ∀ {q : He.Fa}, q ∈ faX → q.ok K = true := fun hq => c.t.d.facts (List.mem_append_left _ hq)
  have m := c.more
  unfold exB at m
  simp only [Bool.and_eq_true, decide_eq_true_eq] at m
  obtain ⟨m1, m2, m3, m4⟩ := m
  refine ⟨fun x => ?_, fun x => ?_, fun x => ?_, fun x y => ?_, fun x => ?_, fun x => ?_, fun x => ?_, fun x => ?_⟩
  · cases x
    · exact He.glo_ok X G (f (q := .glo "UnfitHeap") (by simp [faX]))
    · exact He.glo_ok X G (f (q := .glo "TooWide") (by simp [faX]))
  · cases x
    · exact excB_ok m1
    · exact excB_ok m2
  · cases x
    · exact m3
    · exact m4
  · cases x <;> cases y
    · exact He.exm_ok (f (q := .exm "UnfitHeap" "UnfitHeap" true) (by simp [faX]))
    · exact He.exm_ok (f (q := .exm "UnfitHeap" "TooWide" false) (by simp [faX]))
    · exact He.exm_ok (f (q := .exm "TooWide" "UnfitHeap" false) (by simp [faX]))
    · exact He.exm_ok (f (q := .exm "TooWide" "TooWide" true) (by simp [faX]))
  · cases x
    · exact (He.exc_ok (f (q := .exc "UnfitHeap") (by simp [faX]))).1
    · exact (He.exc_ok (f (q := .exc "TooWide") (by simp [faX]))).1
  · cases x
    · exact (He.exc_ok (f (q := .exc "UnfitHeap") (by simp [faX]))).2.1
    · exact (He.exc_ok (f (q := .exc "TooWide") (by simp [faX]))).2.1
  · cases x
    · exact (He.exc_ok (f (q := .exc "UnfitHeap") (by simp [faX]))).2.2.1
    · exact (He.exc_ok (f (q := .exc "TooWide") (by simp [faX]))).2.2.1
  · cases x
    · exact (He.exc_ok (f (q := .exc "UnfitHeap") (by simp [faX]))).2.2.2
    · exact (He.exc_ok (f (q := .exc "TooWide") (by simp [faX]))).2.2.2
/-- every def's term fits its text -/
def chkAll (P : List Def) (cs : List (Str × Int)) (bl : List Str) (b : List Stmt) (names : List (Str × Nat)) : Bool :=
  (P.zip names).all fun q => decide (q.1.name = q.2.1) && chkD P cs bl q.1 (defArgs (stP b q.2.2)) (defScope (stP b q.2.2)) (defBody (stP b q.2.2))
theorem hd_of (X : K.In h) (G : h.Ns mainGlobals mg) {nl : Str × Nat} (c : He.SaysX (faOf (names ++ [nl]) cs bl) ((names ++ [nl]).map (dfD b)) [] [] exB w h K) (hl : P.length = names.length) (hc : chkAll P cs bl b names = true) : Hd P cs bl K mg (cX K) where
  con := fun x i hx => He.int_ok X G (c.t.d.facts (f := .int x i) (List.mem_append_right _ (List.mem_append_right _ (List.mem_append_left _ (List.mem_map.mpr ⟨_, hx, rfl⟩)))))
  fre := fun x hx => He.free_ok X G (c.t.d.facts (f := .free x) (List.mem_append_right _ (List.mem_append_right _ (List.mem_append_right _ (List.mem_map.mpr ⟨_, hx, rfl⟩)))))
  ef := ef_of X G c
  fn := fun f d hd => by
    obtain ⟨hf, e⟩ := List.getElem?_eq_some_iff.mp hd
    have hf2 : f < names.length := hl ▸ hf
    have hz : (d, names[f]) ∈ P.zip names := by
      rw [List.mem_iff_getElem]
      exact ⟨f, by rw [List.length_zip]; omega, by rw [List.getElem_zip, e]⟩
    have h1 := List.all_eq_true.mp hc _ hz
    simp only [Bool.and_eq_true, decide_eq_true_eq] at h1
    obtain ⟨en, h2⟩ := h1
    have hm : names[f] ∈ names ++ [nl] := List.mem_append_left _ (List.getElem_mem hf2)
    obtain ⟨fd, F⟩ := c.t.d.defs (d := dfD b names[f]) (List.mem_map.mpr ⟨_, hm, rfl⟩)
    refine ⟨He.ga K names[f].1, fd, _, _, _, ?_, ?_, h2⟩
    · rw [en]
      exact He.glo_ok X G (c.t.d.facts (f := .glo names[f].1) (List.mem_append_right _ (List.mem_append_left _ (List.mem_map.mpr ⟨_, hm, rfl⟩))))
    · have F' : FunD K names[f].1 names[f].1 (defArgs (stP b names[f].2)) (defBody (stP b names[f].2)) (defScope (stP b names[f].2)) [] [] (He.ga K names[f].1) fd := F
      rw [en]
      exact F'
/-- what walk_G asks -/
theorem law_end {l : PySem.W.OpenLaw} {d : Def} {n : Nat} {x : Str} {fa : Addr} (X : K.In h) (G : h.Ns mainGlobals mg) {i : Nat} (c : He.SaysX (faOf (names ++ [(d.name, i)]) cs bl) ((names ++ [(d.name, i)]).map (dfD b)) [] [] exB w h K) (hl : P.length = names.length) (hc : chkAll P cs bl b names = true)
    (hcl : chkLaw P cs bl d (defArgs (stP b i)) (defScope (stP b i)) (defBody (stP b i)) = true) (hx : d.ns.take 1 = [x]) (hy : LawYes P n d) (hfa : mg d.name = some (.ref fa)) :
    ∃ (K : PySem.W.Frag) (fd : FuncData) (sp : Sp), K.In h ∧ (∀ (s : Shared) (u : Value), BindsTo s fd ⟨[u], []⟩ [(x, u)]) ∧
        (∀ (H : Hp) (a : Addr) (ns : List Int), ns.length ≤ 63 → Only H → SqL K H a (ns.map V.int) → sp [.ref a] H (fun v _ => v = .bl true) fun _ _ _ => False) ∧
        ∀ base : Heap, K.In base → base.Ns mainGlobals mg → FnG l.prog w K mg base (n + 1) fa fd [x] sp := by
  have hd := hd_of X G c hl hc
  have hm : (d.name, i) ∈ names ++ [(d.name, i)] := List.mem_append_right _ (List.mem_singleton.mpr rfl)
  obtain ⟨fd, F⟩ := c.t.d.defs (d := dfD b (d.name, i)) (List.mem_map.mpr ⟨_, hm, rfl⟩)
  have F' : FunD K d.name d.name (defArgs (stP b i)) (defBody (stP b i)) (defScope (stP b i)) [] [] (He.ga K d.name) fd := F
  have hg := He.glo_ok X G (c.t.d.facts (f := .glo d.name) (List.mem_append_right _ (List.mem_append_left _ (List.mem_map.mpr ⟨_, hm, rfl⟩))))
  rw [hfa] at hg
  cases hg
  have hpa : plainArgs (defArgs (stP b i)) [x] = true := by
    unfold chkLaw at hcl
    simp only [Bool.and_eq_true, decide_eq_true_eq] at hcl
    rw [← hx]
    exact hcl.1.1.1.1.2
  have bn := FunD.bindsA (ps := [x]) F' fun kV doc pm an cdv ct us hl => bind_plain (by simp) hpa rfl hl
  refine ⟨K, fd, spLaw K, X, fun s v => bn s [v] rfl, fun H a ns hl _ hS => ⟨a, ns, rfl, hS, hl, fun _ => rfl⟩, fun base _ _ => ?_⟩
  rw [← hx]
  exact law_step hd F' hcl hy
end
end PT
namespace PT
open PySem

/-- a thing that simp leaves as it is -/
structure Tag {α : Type} (a : α) : Type where mk ::
/-- bind; simp runs what comes first, and looks at what follows only then -/
def Res.bw {α β : Type} (r : Res α) (f : α → G → Res β) (_ : Tag f := ⟨⟩) : Res β := r.bind f
@[simp] theorem bw_ok {α β : Type} (a : α) (g : G) (f : α → G → Res β) (w : Tag f) : (Res.ok a g).bw f w = f a g := (rfl)
@[simp] theorem bw_exc {α β : Type} (x : Exc) (g : G) (f : α → G → Res β) (w : Tag f) : (Res.exc (α := α) x g).bw f w = .exc x g := (rfl)
@[simp] theorem bw_bad {α β : Type} (f : α → G → Res β) (w : Tag f) : (Res.bad (α := α)).bw f w = .bad := (rfl)
/-- the run ends with a value so, or an exception so -/
def Rs {α : Type} (r : Res α) (Q : α → G → Prop) (E : Exc → G → Prop) : Prop := match r with
  | .ok a g => Q a g
  | .exc x g => E x g
  | .bad => False
section
variable {α β : Type} {Q Q' : α → G → Prop} {E E' : Exc → G → Prop} {R : β → G → Prop}
@[simp] theorem Rs_ok (a : α) (g : G) : Rs (Res.ok a g) Q E = Q a g := (rfl)
@[simp] theorem Rs_exc (x : Exc) (g : G) : Rs (Res.exc x g : Res α) Q E = E x g := (rfl)
@[simp] theorem Rs_bad : Rs (Res.bad : Res α) Q E = False := (rfl)
theorem Rs_bind (r : Res α) (f : α → G → Res β) : Rs (r.bind f) R E = Rs r (fun a g => Rs (f a g) R E) E := by cases r <;> rfl
theorem Rs_bw (r : Res α) (f : α → G → Res β) (w : Tag f) : Rs (r.bw f w) R E = Rs r (fun a g => Rs (f a g) R E) E := Rs_bind r f
theorem Rs_ofO (o : Option α) (g : G) : Rs (Res.ofO o g) Q E = ∃ a, o = some a ∧ Q a g := by
  cases o with
  | none => exact propext ⟨False.elim, fun ⟨_, h, _⟩ => nomatch h⟩
  | some a => exact propext ⟨fun h => ⟨a, rfl, h⟩, fun ⟨_, h, q⟩ => Option.some.inj h ▸ q⟩
theorem Rs_ofS (a : α) (g : G) : Rs (Res.ofO (some a) g) Q E = Q a g := rfl
theorem Rs.mono {r : Res α} (h : Rs r Q E) (k : ∀ a g, Q a g → Q' a g) (j : ∀ x g, E x g → E' x g) : Rs r Q' E' := by
  cases r with
  | ok a g => exact k _ _ h
  | exc x g => exact j _ _ h
  | bad => exact h
theorem Rs.of {r : Res α} {a : α} {g : G} (e : r = .ok a g) (h : Q a g) : Rs r Q E := by rw [e]; exact h
theorem Rs.ex {r : Res α} (h : Rs r Q fun _ _ => False) : ∃ a g, r = .ok a g ∧ Q a g := by
  cases r with
  | ok a g => exact ⟨a, g, rfl, h⟩
  | exc x g => exact False.elim h
  | bad => exact False.elim h
theorem Rs.eq {r : Res α} {a : α} {g : G} (h : Rs r (fun b g' => b = a ∧ g' = g) fun _ _ => False) : r = .ok a g := by
  obtain ⟨b, g', e, rfl, rfl⟩ := h.ex
  exact e
end
/-- the end of a def -/
def fin : Res Fl → Res D
  | .ok (.rt v) g => .ok v g
  | .ok (.nx _) g => .ok .none g
  | .ok (.bk _) _ => .bad
  | .exc x g => .exc x g
  | .bad => .bad
theorem run_def {P : List Def} {n f : Nat} {d : Def} {ds : List D} {g : G} (h : P[f]? = some d) (hl : ds.length = d.ps) : runF P (n + 1) f ds g = fin (evB (runF P n) d.body (ds.map some ++ List.replicate (d.ns.length - d.ps) none) g) := by
  simp only [runF, h, hl, if_true]
  rfl
theorem Rs_fin {r : Res Fl} {Q : D → G → Prop} {E : Exc → G → Prop} : Rs (fin r) Q E = Rs r (fun fl g => match fl with
    | .rt v => Q v g
    | .nx _ => Q .none g
    | .bk _ => False) E := by
  cases r with
  | ok fl g => cases fl <;> rfl
  | exc x g => rfl
  | bad => rfl
/-- the state is as it should be -/
def GS (g : G) : Prop := ∃ (ns : List Int) (a b c : Int), g = [mkL ns, .int a, .int b, .int c] ∧ 0 ≤ a
theorem gs_st0 (ns : List Int) : GS (st0 ns) := ⟨ns, 0, 0, 1, rfl, Int.le_refl _⟩
def dNext : Def := { name := "_law_next", ps := 2, ns := ["state", "limit", "cell", "value"], mu := [], fr := false, body := [
    .iff (.and (.cmp .eq (.ix (.var 0) (.int 2)) (.int 0)) [.cmp .lt (.ix (.var 0) (.int 1)) (.b1 .len (.ix (.var 0) (.int 0)))]) [.asg 2 (.ix (.ix (.var 0) (.int 0)) (.ix (.var 0) (.int 1))), .stA 0 1 .add (.int 1), .iff (.cmp .ge (.var 2) (.bin .pow (.int 10) (.int 18))) [.stS 0 2 (.var 2)] [.stS 0 3 (.bin .mod (.b1 .int (.bin .add (.bin .add (.bin .mul (.ix (.var 0) (.int 3)) (.int 48271)) (.bin .mod (.b1 .int (.var 2)) (.int 2147483647))) (.int 7))) (.int 2147483647))]] [],
    .iff (.cmp .gt (.ix (.var 0) (.int 2)) (.int 0)) [.asg 3 (.bin .mod (.b1 .int (.ix (.var 0) (.int 2))) (.var 1)), .stS 0 2 (.bin .fdiv (.ix (.var 0) (.int 2)) (.var 1)), .ret (.var 3)] [],
    .stS 0 3 (.bin .mod (.b1 .int (.bin .add (.bin .mul (.ix (.var 0) (.int 3)) (.int 69621)) (.int 12345))) (.int 2147483647)),
    .ret (.bin .mod (.b1 .int (.bin .fdiv (.ix (.var 0) (.int 3)) (.int 7))) (.var 1))] }
theorem isSt_std : isSt stD = true := rfl
theorem ixG_no {a : D} {k : Int} {g : G} (h : isSt a = false) : ixG a (.int k) g = ixD a k := by
  unfold ixG
  simp [h]
theorem shaped_int (i : Int) : okE (.int i) = true := rfl
theorem mul_small (i : Int) {j : Int} (h : -(2 ^ 64) < j ∧ j < 2 ^ 64) : mulOk i j = true := by
  unfold mulOk
  simp only [Bool.or_eq_true, Bool.and_eq_true, decide_eq_true_eq]
  exact .inr h
theorem atI_nat {xs : List D} {k : Nat} (h : k < xs.length) : L2.atI xs (k : Int) = xs[k]? := by
  unfold L2.atI
  have : L2.ixN xs.length (k : Int) = some k := by
    unfold L2.ixN
    rw [if_pos (by omega), if_pos (by omega)]
    rfl
  rw [this]
  rfl
theorem atI_of {xs : List D} {k : Int} {d : D} (h0 : 0 ≤ k) (h : xs[k.toNat]? = some d) : L2.atI xs k = some d := by
  obtain ⟨n, rfl⟩ := Int.eq_ofNat_of_zero_le h0
  have hn : n < xs.length := (List.getElem?_eq_some_iff.mp h).1
  exact (atI_nat hn).trans h
section
variable {Φ : Fn} {ρ : Env} {g : G}
@[simp] theorem eE_var {i : Nat} : evE Φ (.var i) ρ g = .ofO (gv ρ i) g := by simp only [evE]
@[simp] theorem eE_own {i : Nat} : evE Φ (.own i) ρ g = .ofO (gv ρ i) g := by simp only [evE]
@[simp] theorem eE_int {i : Int} : evE Φ (.int i) ρ g = .ok (.int i) g := by simp only [evE]
@[simp] theorem eE_bl {i : Bool} : evE Φ (.bl i) ρ g = .ok (.bool i) g := by simp only [evE]
@[simp] theorem eE_non : evE Φ .non ρ g = .ok .none g := by simp only [evE]
@[simp] theorem eE_str {x : Str} : evE Φ (.str x) ρ g = .ok (.str x) g := by simp only [evE]
@[simp] theorem eE_glob {x : Str} {i : Int} : evE Φ (.glob x i) ρ g = .ok (.int i) g := by simp only [evE]
@[simp] theorem eE_bin {o : BOp} {a b : T} : evE Φ (.bin o a b) ρ g = (evE Φ a ρ g).bw fun x g => (evE Φ b ρ g).bw fun y g => .ofO (binD o x y) g := by simp only [evE] <;> rfl
@[simp] theorem eE_neg {a : T} : evE Φ (.neg a) ρ g = (evE Φ a ρ g).bw fun x g => .ofO ((intOf x).map fun i => .int (-i)) g := by simp only [evE] <;> rfl
@[simp] theorem eE_not {a : T} : evE Φ (.not a) ρ g = (evE Φ a ρ g).bw fun x g => .ofO ((truD x).map fun b => .bool (!b)) g := by simp only [evE] <;> rfl
@[simp] theorem eE_and {a : T} {bs : List T} : evE Φ (.and a bs) ρ g = (evE Φ a ρ g).bw fun x g => (Res.ofO (truD x) g).bw fun b g => if b = true then evA Φ bs x ρ g else .ok x g := by simp only [evE] <;> rfl
@[simp] theorem eE_or {a : T} {bs : List T} : evE Φ (.or a bs) ρ g = (evE Φ a ρ g).bw fun x g => (Res.ofO (truD x) g).bw fun b g => if b = true then .ok x g else evO Φ bs x ρ g := by simp only [evE] <;> rfl
@[simp] theorem eE_cmp {o : COp} {a b : T} : evE Φ (.cmp o a b) ρ g = (evE Φ a ρ g).bw fun x g => (evE Φ b ρ g).bw fun y g => .ofO ((cmpD o x y).map .bool) g := by simp only [evE] <;> rfl
@[simp] theorem eE_ch2 {o p : COp} {a b c : T} : evE Φ (.ch2 o p a b c) ρ g = (evE Φ a ρ g).bw fun x g => (evE Φ b ρ g).bw fun y g => (Res.ofO (cmpD o x y) g).bw fun r g =>
      if r = true then (evE Φ c ρ g).bw fun z g => .ofO ((cmpD p y z).map .bool) g else .ok (.bool false) g := by simp only [evE] <;> rfl
@[simp] theorem eE_isN {a : T} : evE Φ (.isN a) ρ g = (evE Φ a ρ g).bw fun x g => .ok (.bool (noneD x)) g := by simp only [evE] <;> rfl
@[simp] theorem eE_isNN {a : T} : evE Φ (.isNN a) ρ g = (evE Φ a ρ g).bw fun x g => .ok (.bool (!noneD x)) g := by simp only [evE] <;> rfl
@[simp] theorem eE_ife {c a b : T} : evE Φ (.ife c a b) ρ g = (evE Φ c ρ g).bw fun x g => (Res.ofO (truD x) g).bw fun t g => if t = true then evE Φ a ρ g else evE Φ b ρ g := by simp only [evE] <;> rfl
@[simp] theorem eE_tup {ts : List T} : evE Φ (.tup ts) ρ g = (evL Φ ts ρ g).bw fun ds g => .ok (.tuple ds) g := by simp only [evE] <;> rfl
@[simp] theorem eE_lst {ts : List T} : evE Φ (.lst ts) ρ g = (evL Φ ts ρ g).bw fun ds g => .ok (.list ds) g := by simp only [evE] <;> rfl
@[simp] theorem eE_dct0 : evE Φ .dct0 ρ g = .ok (.dict []) g := by simp only [evE]
@[simp] theorem eE_ix {a i : T} : evE Φ (.ix a i) ρ g = (evE Φ a ρ g).bw fun x g => (evE Φ i ρ g).bw fun y g => .ofO (ixG x y g) g := by simp only [evE] <;> rfl
@[simp] theorem eE_sl {a : T} {lo hi : Op} : evE Φ (.sl a lo hi) ρ g = (evE Φ a ρ g).bw fun x g => (evP Φ lo ρ g).bw fun l g => (evP Φ hi ρ g).bw fun h g => .ofO (cutD l h x) g := by simp only [evE] <;> rfl
@[simp] theorem eE_rev {a : T} : evE Φ (.rev a) ρ g = (evE Φ a ρ g).bw fun x g => .ofO (revD x) g := by simp only [evE] <;> rfl
@[simp] theorem eE_call {f : Nat} {ts : List T} : evE Φ (.call f ts) ρ g = (evL Φ ts ρ g).bw fun ds g => Φ f ds g := by simp only [evE] <;> rfl
@[simp] theorem eE_b1 {o : B1} {a : T} : evE Φ (.b1 o a) ρ g = (evE Φ a ρ g).bw fun x g => .ofO (b1D o x) g := by simp only [evE] <;> rfl
@[simp] theorem eE_b2 {o : B2} {a b : T} : evE Φ (.b2 o a b) ρ g = (evE Φ a ρ g).bw fun x g => (evE Φ b ρ g).bw fun y g => .ofO (b2D o x y) g := by simp only [evE] <;> rfl
@[simp] theorem eE_isi {k : Kd} {a : T} : evE Φ (.isi k a) ρ g = (evE Φ a ρ g).bw fun x g => .ofO ((isiD k x).map .bool) g := by simp only [evE] <;> rfl
@[simp] theorem eE_join {a : T} : evE Φ (.join a) ρ g = (evE Φ a ρ g).bw fun x g => .ofO (joinD x) g := by simp only [evE] <;> rfl
@[simp] theorem eL_nil : evL Φ [] ρ g = .ok [] g := by simp only [evL]
@[simp] theorem eL_cons {t : T} {ts : List T} : evL Φ (t :: ts) ρ g = (evE Φ t ρ g).bw fun x g => (evL Φ ts ρ g).bw fun xs g => .ok (x :: xs) g := by simp only [evL] <;> rfl
@[simp] theorem eA_nil {x : D} : evA Φ [] x ρ g = .ok x g := by simp only [evA]
@[simp] theorem eA_one {t : T} {x : D} : evA Φ [t] x ρ g = evE Φ t ρ g := by simp only [evA]; cases evE Φ t ρ g <;> rfl
@[simp] theorem eA_cons {t u : T} {ts : List T} {x : D} : evA Φ (t :: u :: ts) x ρ g = (evE Φ t ρ g).bw fun x g => (Res.ofO (truD x) g).bw fun b g => if b = true then evA Φ (u :: ts) x ρ g else .ok x g := by simp only [evA] <;> rfl
@[simp] theorem eO_nil {x : D} : evO Φ [] x ρ g = .ok x g := by simp only [evO]
@[simp] theorem eO_one {t : T} {x : D} : evO Φ [t] x ρ g = evE Φ t ρ g := by simp only [evO]; cases evE Φ t ρ g <;> rfl
@[simp] theorem eO_cons {t u : T} {ts : List T} {x : D} : evO Φ (t :: u :: ts) x ρ g = (evE Φ t ρ g).bw fun x g => (Res.ofO (truD x) g).bw fun b g => if b = true then .ok x g else evO Φ (u :: ts) x ρ g := by simp only [evO] <;> rfl
@[simp] theorem eP_no : evP Φ .no ρ g = .ok none g := by simp only [evP]
@[simp] theorem eP_yes {t : T} : evP Φ (.yes t) ρ g = (evE Φ t ρ g).bw fun x g => (Res.ofO (intOf x) g).bw fun i g => .ok (some i) g := by simp only [evP] <;> rfl
@[simp] theorem eC_no : evC Φ .no ρ g = .ok true g := by simp only [evC]
@[simp] theorem eC_yes {t : T} : evC Φ (.yes t) ρ g = (evE Φ t ρ g).bw fun x g => .ofO (truD x) g := by simp only [evC] <;> rfl
@[simp] theorem eI_seq {a : T} : evI Φ (.seq a) ρ g = (evE Φ a ρ g).bw fun x g => .ofO (itemsD x) g := by simp only [evI] <;> rfl
@[simp] theorem eB_nil : evB Φ [] ρ g = .ok (.nx ρ) g := by simp only [evB]
@[simp] theorem eB_cons {s : S} {ss : List S} : evB Φ (s :: ss) ρ g = (evS Φ s ρ g).bw fun fl g => match fl with
    | .nx ρ' => evB Φ ss ρ' g
    | .bk ρ' => .ok (.bk ρ') g
    | .rt d => .ok (.rt d) g := by simp only [evB] <;> rfl
@[simp] theorem eS_asg {i : Nat} {e : T} : evS Φ (.asg i e) ρ g = (evE Φ e ρ g).bw fun x g => .ok (.nx (sv ρ i (some x))) g := by simp only [evS] <;> rfl
@[simp] theorem eS_iff {c : T} {a b : List S} : evS Φ (.iff c a b) ρ g = (evE Φ c ρ g).bw fun x g => (Res.ofO (truD x) g).bw fun t g => if t = true then evB Φ a ρ g else evB Φ b ρ g := by simp only [evS] <;> rfl
@[simp] theorem eS_ret {e : T} : evS Φ (.ret e) ρ g = (evE Φ e ρ g).bw fun x g => .ok (.rt x) g := by simp only [evS] <;> rfl
@[simp] theorem eS_ex {e : T} : evS Φ (.ex e) ρ g = (evE Φ e ρ g).bw fun _ g => .ok (.nx ρ) g := by simp only [evS] <;> rfl
@[simp] theorem eS_rai {x : Exc} {m : Str} : evS Φ (.rai x m) ρ g = .exc x g := by simp only [evS]
@[simp] theorem eS_stS {s k : Nat} {e : T} : evS Φ (.stS s k e) ρ g = (evE Φ e ρ g).bw fun x g => (Res.ofO (gv ρ s) g).bw fun t g => if isSt t = true then (Res.ofO (stSet g k x) g).bw fun g' _ => .ok (.nx ρ) g' else .bad := by simp only [evS] <;> rfl
@[simp] theorem eS_stA {s k : Nat} {o : BOp} {e : T} : evS Φ (.stA s k o e) ρ g = (Res.ofO (stOf ρ s g k) g).bw fun v g => (evE Φ e ρ g).bw fun z g => (Res.ofO (intOf v) g).bw fun a g => (Res.ofO (intOf z) g).bw fun b g => (Res.ofO (binD o (.int a) (.int b)) g).bw fun u g => (Res.ofO (stSet g k u) g).bw fun g' _ => .ok (.nx ρ) g' := by simp only [evS] <;> rfl
@[simp] theorem gv_nil {i : Nat} : gv [] i = none := (rfl)
@[simp] theorem gv_z {x : Option D} : gv (x :: ρ) 0 = x := (rfl)
@[simp] theorem gv_s {x : Option D} {i : Nat} : gv (x :: ρ) (i + 1) = gv ρ i := (rfl)
@[simp] theorem sv_z {x y : Option D} : sv (x :: ρ) 0 y = y :: ρ := (rfl)
@[simp] theorem sv_s {x y : Option D} {i : Nat} : sv (x :: ρ) (i + 1) y = x :: sv ρ i y := (rfl)
end
section
variable {i j : Int} {x y : D} {xs ys : List D}
@[simp] theorem bin_add : binD .add (.int i) (.int j) = some (.int (i + j)) := (rfl)
@[simp] theorem bin_sub : binD .sub (.int i) (.int j) = some (.int (i - j)) := (rfl)
theorem bin_mul (h : mulOk i j = true) : binD .mul (.int i) (.int j) = some (.int (i * j)) := by simp [binD, h]
theorem bin_mulR (h : -(2 ^ 64) < j ∧ j < 2 ^ 64) : binD .mul (.int i) (.int j) = some (.int (i * j)) := bin_mul (mul_small i h)
theorem bin_mulL (h : -(2 ^ 64) < i ∧ i < 2 ^ 64) : binD .mul (.int i) (.int j) = some (.int (i * j)) := bin_mul (by unfold mulOk; simp only [Bool.or_eq_true, Bool.and_eq_true, decide_eq_true_eq]; exact .inl h)
theorem bin_div (h : 0 < j ∧ j < 1073741824) : binD .fdiv (.int i) (.int j) = some (.int (i / j)) := by simp [binD, h]
theorem bin_mod (h : 0 < j) : binD .mod (.int i) (.int j) = some (.int (i % j)) := by simp [binD, h]
theorem bin_pow (h : 0 ≤ j ∧ j ≤ 1000000 ∧ i.natAbs < 2 ^ 64) : binD .pow (.int i) (.int j) = some (.int (i ^ j.toNat)) := if_pos h
theorem bin_addT (h : xs.length + ys.length ≤ sizeLine) : binD .add (.tuple xs) (.tuple ys) = some (.tuple (xs ++ ys)) := if_pos h
theorem bin_addL (h : xs.length + ys.length ≤ sizeLine) : binD .add (.list xs) (.list ys) = some (.list (xs ++ ys)) := if_pos h
theorem bin_addS {x y : Str} (h : x.length + y.length ≤ sizeLine) : binD .add (.str x) (.str y) = some (.str (x ++ y)) := if_pos h
theorem cmp_eq (h : okE x = true ∧ okE y = true) : cmpD .eq x y = some (PyData.eqv x y) := if_pos h
theorem cmp_ne (h : okE x = true ∧ okE y = true) : cmpD .ne x y = some (!PyData.eqv x y) := if_pos h
theorem eqv_int : PyData.eqv (.int i) (.int j) = decide (i = j) := by unfold PyData.eqv; by_cases h : i = j <;> simp [h]
@[simp] theorem cmp_eqI : cmpD .eq (.int i) (.int j) = some (decide (i = j)) := (cmp_eq ⟨shaped_int i, shaped_int j⟩).trans (by rw [eqv_int])
@[simp] theorem cmp_neI : cmpD .ne (.int i) (.int j) = some (!decide (i = j)) := (cmp_ne ⟨shaped_int i, shaped_int j⟩).trans (by rw [eqv_int])
@[simp] theorem cmp_lt : cmpD .lt (.int i) (.int j) = some (decide (i < j)) := (rfl)
@[simp] theorem cmp_le : cmpD .le (.int i) (.int j) = some (decide (i ≤ j)) := (rfl)
@[simp] theorem cmp_gt : cmpD .gt (.int i) (.int j) = some (decide (j < i)) := (rfl)
@[simp] theorem cmp_ge : cmpD .ge (.int i) (.int j) = some (decide (j ≤ i)) := (rfl)
@[simp] theorem cmp_in : cmpD .isin x y = inD x y := (rfl)
@[simp] theorem cmp_notin : cmpD .notin x y = (inD x y).map (!·) := (rfl)
@[simp] theorem tru_none : truD .none = some false := (rfl)
@[simp] theorem tru_bool {b : Bool} : truD (.bool b) = some b := (rfl)
@[simp] theorem tru_int : truD (.int i) = some (!decide (i = 0)) := by show some (i != 0) = _; by_cases h : i = 0 <;> simp [h]
@[simp] theorem tru_list : truD (.list xs) = some (!xs.isEmpty) := (rfl)
@[simp] theorem tru_tuple : truD (.tuple xs) = some (!xs.isEmpty) := (rfl)
@[simp] theorem b1_lenL : b1D .len (.list xs) = some (.int xs.length) := (rfl)
@[simp] theorem b1_lenT : b1D .len (.tuple xs) = some (.int xs.length) := (rfl)
@[simp] theorem b1_lenM {r : List Int} : b1D .len (mkL r) = some (.int r.length) := by simp [mkL]
@[simp] theorem b1_lenN {r : List Int} : b1D .len (mkT r) = some (.int r.length) := by simp [mkT]
theorem b1_lenS {x : Str} (h : x.length ≤ sizeLine) : b1D .len (.str x) = some (.int x.length) := if_pos h
@[simp] theorem b1_int : b1D .int (.int i) = some (.int i) := (rfl)
@[simp] theorem b1_intB {b : Bool} : b1D .int (.bool b) = some (.int (b2i b)) := (rfl)
@[simp] theorem b1_tupL : b1D .tuple (.list xs) = some (.tuple xs) := (rfl)
@[simp] theorem b1_tupT : b1D .tuple (.tuple xs) = some (.tuple xs) := (rfl)
@[simp] theorem b1_lstL : b1D .list (.list xs) = some (.list xs) := (rfl)
@[simp] theorem b1_lstT : b1D .list (.tuple xs) = some (.list xs) := (rfl)
@[simp] theorem intOf_int : intOf (.int i) = some i := (rfl)
@[simp] theorem ixG_std {g : G} : ixG stD (.int i) g = L2.atI g i := (rfl)
@[simp] theorem ixG_L {g : G} : ixG (.list xs) (.int i) g = L2.atI xs i := (rfl)
@[simp] theorem ixG_T {g : G} : ixG (.tuple xs) (.int i) g = L2.atI xs i := (rfl)
@[simp] theorem isSt_st : isSt stD = true := (rfl)
end
section
variable {Φ : Fn} {ns : List Int} {a b c : Int}
/-- the second half of a draw -/
def dTail : List S := [
    .iff (.cmp .gt (.ix (.var 0) (.int 2)) (.int 0)) [.asg 3 (.bin .mod (.b1 .int (.ix (.var 0) (.int 2))) (.var 1)), .stS 0 2 (.bin .fdiv (.ix (.var 0) (.int 2)) (.var 1)), .ret (.var 3)] [],
    .stS 0 3 (.bin .mod (.b1 .int (.bin .add (.bin .mul (.ix (.var 0) (.int 3)) (.int 69621)) (.int 12345))) (.int 2147483647)),
    .ret (.bin .mod (.b1 .int (.bin .fdiv (.ix (.var 0) (.int 3)) (.int 7))) (.var 1))]
def okNext (L : Int) : Fl → G → Prop := fun fl g => ∃ k : Int, fl = .rt (.int k) ∧ 0 ≤ k ∧ k < L ∧ GS g
@[simp] theorem at1 : L2.atI [mkL ns, .int a, .int b, .int c] (1 : Int) = some (.int a) := (rfl)
@[simp] theorem at2 : L2.atI [mkL ns, .int a, .int b, .int c] (2 : Int) = some (.int b) := (rfl)
@[simp] theorem at3 : L2.atI [mkL ns, .int a, .int b, .int c] (3 : Int) = some (.int c) := (rfl)
@[simp] theorem at0 : L2.atI [mkL ns, .int a, .int b, .int c] (0 : Int) = some (mkL ns) := (rfl)
@[simp] theorem set2 {x : Int} : stSet [mkL ns, .int a, .int b, .int c] 2 (.int x) = some [mkL ns, .int a, .int x, .int c] := (rfl)
@[simp] theorem set3 {x : Int} : stSet [mkL ns, .int a, .int b, .int c] 3 (.int x) = some [mkL ns, .int a, .int b, .int x] := (rfl)
@[simp] theorem set1 {x : Int} : stSet [mkL ns, .int a, .int b, .int c] 1 (.int x) = some [mkL ns, .int x, .int b, .int c] := (rfl)
theorem tail_ok {L : Int} {x y : Option D} (hL : 0 < L) (hL2 : L < 1073741824) (ha : 0 ≤ a) : Rs (evB Φ dTail [some stD, some (.int L), x, y] [mkL ns, .int a, .int b, .int c]) (okNext L) fun _ _ => False := by
  have h1 := Int.emod_nonneg b (show L ≠ 0 by omega)
  have h2 := Int.emod_lt_of_pos b hL
  have hm := bin_mod (i := b) hL
  have hv := bin_div (i := b) ⟨hL, hL2⟩
  by_cases hb : 0 < b
  · simp [dTail, eB_cons, hb, hm, hv]
    exact ⟨_, rfl, h1, h2, _, _, _, _, rfl, ha⟩
  · simp [dTail, eB_cons, hb, bin_mulR, bin_mod, bin_div, hL]
    exact ⟨_, rfl, Int.emod_nonneg _ (by omega), Int.emod_lt_of_pos _ hL, _, _, _, _, rfl, ha⟩
theorem next_body {L : Int} (hL : 0 < L) (hL2 : L < 1073741824) (g : G) (h : GS g) : Rs (evB Φ dNext.body [some stD, some (.int L), none, none] g) (okNext L) fun _ _ => False := by
  obtain ⟨ns, a, b, c, rfl, ha⟩ := h
  have hd : dNext.body = .iff (.and (.cmp .eq (.ix (.var 0) (.int 2)) (.int 0)) [.cmp .lt (.ix (.var 0) (.int 1)) (.b1 .len (.ix (.var 0) (.int 0)))]) [.asg 2 (.ix (.ix (.var 0) (.int 0)) (.ix (.var 0) (.int 1))), .stA 0 1 .add (.int 1), .iff (.cmp .ge (.var 2) (.bin .pow (.int 10) (.int 18))) [.stS 0 2 (.var 2)] [.stS 0 3 (.bin .mod (.b1 .int (.bin .add (.bin .add (.bin .mul (.ix (.var 0) (.int 3)) (.int 48271)) (.bin .mod (.b1 .int (.var 2)) (.int 2147483647))) (.int 7))) (.int 2147483647))]] [] :: dTail := rfl
  rw [hd, eB_cons]
  by_cases hb : b = 0
  · by_cases hl : a < ns.length
    · obtain ⟨n, rfl⟩ := Int.eq_ofNat_of_zero_le ha
      have hn : n < ns.length := by omega
      have hi : ixG (mkL ns) (.int n) [mkL ns, .int n, .int 0, .int c] = some (.int ns[n]) := by
        rw [ixG_no rfl]
        show L2.atI (ns.map PyData.int) n = _
        rw [atI_nat (by simpa using hn)]
        simp [hn]
      have hp : binD .pow (.int 10) (.int 18) = some (.int 1000000000000000000) := bin_pow (by decide)
      subst hb
      by_cases hc : 1000000000000000000 ≤ ns[n]
      · simp [eB_cons, hl, hi, hp, hc, stOf]
        exact tail_ok hL hL2 (by omega)
      · simp [eB_cons, hl, hi, hp, hc, stOf, bin_mulR (i := c) (j := 48271), bin_mod]
        exact tail_ok hL hL2 (by omega)
    · have hl' : decide (a < (ns.length : Int)) = false := by simpa using hl
      simp [hl', hb]
      exact tail_ok hL hL2 ha
  · have hb' : decide (b = 0) = false := by simpa using hb
    simp [hb']
    exact tail_ok hL hL2 ha
theorem next_ok {P : List Def} {i n : Nat} (hP : P[i]? = some dNext) {L : Int} (hL : 0 < L) (hL2 : L < 1073741824) {g : G} (h : GS g) : Rs (runF P (n + 1) i [stD, .int L] g) (fun v g => ∃ k : Int, v = .int k ∧ 0 ≤ k ∧ k < L ∧ GS g) fun _ _ => False := by
  rw [run_def hP rfl, Rs_fin]
  refine (next_body hL hL2 g h).mono (fun fl g ⟨k, e, h⟩ => ?_) fun _ _ h => h
  subst e
  exact ⟨k, rfl, h⟩
end
end PT
namespace PT
open PySem

mutual
/-- nested tuples of numbers that are not too large, and of texts -/
def tq : D → Bool
  | .none => true
  | .bool _ => true
  | .str _ => true
  | .int i => decide (i.natAbs < 2 ^ 200)
  | .tuple ds => tqL ds
  | .list _ => false
  | .dict _ => false
def tqL : List D → Bool
  | [] => true
  | d :: ds => tq d && tqL ds
end
mutual
def sz : D → Nat
  | .str x => 1 + x.length
  | .tuple ds => 1 + szL ds
  | .list ds => 1 + szL ds
  | .none => 1
  | .bool _ => 1
  | .int _ => 1
  | .dict _ => 1
def szL : List D → Nat
  | [] => 0
  | d :: ds => sz d + szL ds
end
mutual
def oq : D → Bool
  | .none => true
  | .bool _ => true
  | .str _ => true
  | .int i => decide (i.natAbs < 2 ^ 250)
  | .tuple ds => decide (ds.length ≤ 100000) && oqL ds
  | .list ds => decide (ds.length ≤ 100000) && oqL ds
  | .dict _ => false
def oqL : List D → Bool
  | [] => true
  | d :: ds => oq d && oqL ds
end
theorem tqL_iff : ∀ {ds : List D}, tqL ds = true ↔ ∀ d ∈ ds, tq d = true
  | [] => by simp [tqL]
  | d :: ds => by simp [tqL, tqL_iff (ds := ds)]
theorem oqL_iff : ∀ {ds : List D}, oqL ds = true ↔ ∀ d ∈ ds, oq d = true
  | [] => by simp [oqL]
  | d :: ds => by simp [oqL, oqL_iff (ds := ds)]
theorem layL_iff : ∀ {ds : List D}, PyData.canLayAll0 ds = true ↔ ∀ d ∈ ds, PyData.canLay0 d = true
  | [] => by simp [PyData.canLayAll0]
  | d :: ds => by simp [PyData.canLayAll0, layL_iff (ds := ds)]
theorem depL_iff {k : Nat} : ∀ {ds : List D}, PyData.depthAll ds ≤ k ↔ ∀ d ∈ ds, PyData.depth d ≤ k
  | [] => by simp [PyData.depthAll]
  | d :: ds => by simp only [PyData.depthAll, Nat.max_le, depL_iff (ds := ds), List.mem_cons, forall_eq_or_imp]
theorem szL_app : ∀ {xs ys : List D}, szL (xs ++ ys) = szL xs + szL ys
  | [], ys => by simp [szL]
  | x :: xs, ys => by simp only [List.cons_append, szL, szL_app (xs := xs)]; omega
theorem szL_sub : ∀ {xs ys : List D}, xs.Sublist ys → szL xs ≤ szL ys
  | _, _, .slnil => Nat.le_refl _
  | _, _, .cons _ h => by simp only [szL]; have := szL_sub h; omega
  | _, _, .cons_cons _ h => by simp only [szL]; have := szL_sub h; omega
theorem sz_pos (d : D) : 1 ≤ sz d := by cases d <;> simp [sz]
theorem szL_len : ∀ (ds : List D), ds.length ≤ szL ds
  | [] => Nat.le_refl _
  | d :: ds => by simp only [List.length_cons, szL]; have := sz_pos d; have := szL_len ds; omega
theorem szL_mem : ∀ {ds : List D} {d : D}, d ∈ ds → sz d ≤ szL ds
  | x :: ds, d, h => by
    simp only [szL]
    rcases List.mem_cons.mp h with rfl | h
    · omega
    · have := szL_mem h; omega
/-- told: laid, so deep, nested tuples -/
structure Nq (k : Nat) (d : D) : Prop where
  lay : d.canLay0 = true
  dep : d.depth ≤ k
  tq : tq d = true
/-- asked -/
structure Od (k : Nat) (d : D) : Prop where
  lay : d.canLay0 = true
  dep : d.depth ≤ k
  oq : oq d = true
theorem Nq.mono {k j : Nat} {d : D} (h : Nq k d) (l : k ≤ j) : Nq j d := ⟨h.lay, Nat.le_trans h.dep l, h.tq⟩
theorem Od.mono {k j : Nat} {d : D} (h : Od k d) (l : k ≤ j) : Od j d := ⟨h.lay, Nat.le_trans h.dep l, h.oq⟩
theorem Nq.tup {k : Nat} {ds : List D} : Nq (k + 1) (.tuple ds) ↔ ∀ d ∈ ds, Nq k d := by
  constructor
  · intro h d hd
    have h1 := h.lay
    have h2 := h.dep
    have h3 := h.tq
    simp only [PyData.canLay0, PyData.depth, PT.tq, layL_iff, tqL_iff] at h1 h2 h3
    exact ⟨h1 d hd, depL_iff.mp (Nat.le_of_succ_le_succ h2) d hd, h3 d hd⟩
  · intro h
    refine ⟨?_, ?_, ?_⟩
    · simp only [PyData.canLay0, layL_iff]; exact fun d hd => (h d hd).lay
    · simp only [PyData.depth]; exact Nat.succ_le_succ (depL_iff.mpr fun d hd => (h d hd).dep)
    · simp only [PT.tq, tqL_iff]; exact fun d hd => (h d hd).tq
theorem Nq.tup0 {ds : List D} (h : Nq 0 (.tuple ds)) : False := by
  have h2 := h.dep
  simp only [PyData.depth] at h2
  omega
theorem Od.tup {k : Nat} {ds : List D} : Od (k + 1) (.tuple ds) ↔ ds.length ≤ 100000 ∧ ∀ d ∈ ds, Od k d := by
  constructor
  · intro h
    have h1 := h.lay
    have h2 := h.dep
    have h3 := h.oq
    simp only [PyData.canLay0, PyData.depth, PT.oq, layL_iff, oqL_iff, Bool.and_eq_true, decide_eq_true_eq] at h1 h2 h3
    exact ⟨h3.1, fun d hd => ⟨h1 d hd, depL_iff.mp (Nat.le_of_succ_le_succ h2) d hd, h3.2 d hd⟩⟩
  · intro ⟨hl, h⟩
    refine ⟨?_, ?_, ?_⟩
    · simp only [PyData.canLay0, layL_iff]; exact fun d hd => (h d hd).lay
    · simp only [PyData.depth]; exact Nat.succ_le_succ (depL_iff.mpr fun d hd => (h d hd).dep)
    · simp only [PT.oq, oqL_iff, Bool.and_eq_true, decide_eq_true_eq]; exact ⟨hl, fun d hd => (h d hd).oq⟩
theorem Od.lst {k : Nat} {ds : List D} : Od (k + 1) (.list ds) ↔ ds.length ≤ 100000 ∧ ∀ d ∈ ds, Od k d := by
  constructor
  · intro h
    have h1 := h.lay
    have h2 := h.dep
    have h3 := h.oq
    simp only [PyData.canLay0, PyData.depth, PT.oq, layL_iff, oqL_iff, Bool.and_eq_true, decide_eq_true_eq] at h1 h2 h3
    exact ⟨h3.1, fun d hd => ⟨h1 d hd, depL_iff.mp (Nat.le_of_succ_le_succ h2) d hd, h3.2 d hd⟩⟩
  · intro ⟨hl, h⟩
    refine ⟨?_, ?_, ?_⟩
    · simp only [PyData.canLay0, layL_iff]; exact fun d hd => (h d hd).lay
    · simp only [PyData.depth]; exact Nat.succ_le_succ (depL_iff.mpr fun d hd => (h d hd).dep)
    · simp only [PT.oq, oqL_iff, Bool.and_eq_true, decide_eq_true_eq]; exact ⟨hl, fun d hd => (h d hd).oq⟩
theorem Od.tup0 {ds : List D} (h : Od 0 (.tuple ds)) : False := by
  have h2 := h.dep
  simp only [PyData.depth] at h2
  omega
theorem Od.lst0 {ds : List D} (h : Od 0 (.list ds)) : False := by
  have h2 := h.dep
  simp only [PyData.depth] at h2
  omega
theorem two_lt : (2 : Nat) ^ 200 < 2 ^ 250 := Nat.pow_lt_pow_right (by decide) (by decide)
/-- what is told may be asked -/
theorem Nq.od : ∀ {k : Nat} {d : D}, Nq k d → sz d ≤ 100000 → Od k d
  | k, .none, h, _ => ⟨h.lay, h.dep, rfl⟩
  | k, .bool _, h, _ => ⟨h.lay, h.dep, rfl⟩
  | k, .str _, h, _ => ⟨h.lay, h.dep, rfl⟩
  | k, .int i, h, _ => ⟨h.lay, h.dep, by
      have := h.tq
      simp only [PT.tq, PT.oq, decide_eq_true_eq] at this ⊢
      exact Nat.lt_trans this two_lt⟩
  | 0, .tuple ds, h, _ => h.tup0.elim
  | k + 1, .tuple ds, h, hs => by
    simp only [sz] at hs
    have hl := szL_len ds
    refine Od.tup.mpr ⟨by omega, fun d hd => ?_⟩
    have := szL_mem hd
    exact Nq.od (Nq.tup.mp h d hd) (by omega)
  | k, .list _, h, _ => by have := h.tq; simp [PT.tq] at this
  | k, .dict _, h, _ => by have := h.tq; simp [PT.tq] at this
theorem Od.none {k : Nat} : Od k .none := ⟨rfl, Nat.zero_le _, rfl⟩
theorem Od.bool {k : Nat} {b : Bool} : Od k (.bool b) := ⟨rfl, Nat.zero_le _, rfl⟩
theorem Od.int {k : Nat} {i : Int} (h : i.natAbs < 2 ^ 250) : Od k (.int i) := ⟨rfl, Nat.zero_le _, by simpa [PT.oq] using h⟩
theorem Od.str {k : Nat} {x : Str} (h : PyData.canLay0 (.str x) = true) : Od k (.str x) := ⟨h, Nat.zero_le _, rfl⟩
theorem Od.okE {k : Nat} {d : D} (h : Od k d) (hk : k ≤ 64) : okE d = true := by
  unfold PT.okE SeqAt.shaped
  simp only [Bool.and_eq_true, decide_eq_true_eq]
  exact ⟨h.lay, Nat.le_trans h.dep hk⟩
theorem Nq.okE {k : Nat} {d : D} (h : Nq k d) (hk : k ≤ 64) : okE d = true := by
  unfold PT.okE SeqAt.shaped
  simp only [Bool.and_eq_true, decide_eq_true_eq]
  exact ⟨h.lay, Nat.le_trans h.dep hk⟩
theorem Nq.int {k : Nat} {i : Int} (h : i.natAbs < 2 ^ 200) : Nq k (.int i) := ⟨rfl, Nat.zero_le _, by simpa [PT.tq] using h⟩
theorem Nq.str {k : Nat} {x : Str} (h : PyData.canLay0 (.str x) = true) : Nq k (.str x) := ⟨h, Nat.zero_le _, rfl⟩
theorem cutL_sub {α : Type} (xs : List α) (lo hi : Option Int) : (cutL xs lo hi).Sublist xs := (List.take_sublist _ _).trans (List.drop_sublist _ _)
theorem atI_mem {α : Type} {xs : List α} {i : Int} {x : α} (h : L2.atI xs i = some x) : x ∈ xs := by
  unfold L2.atI at h
  cases q : L2.ixN xs.length i with
  | none => rw [q] at h; cases h
  | some j =>
    rw [q] at h
    exact List.mem_of_getElem? h
theorem atI_some {α : Type} {xs : List α} {i : Int} (h0 : 0 ≤ i) (h1 : i < xs.length) : ∃ x, L2.atI xs i = some x ∧ x ∈ xs := by
  obtain ⟨n, rfl⟩ := Int.eq_ofNat_of_zero_le h0
  have hn : n < xs.length := by omega
  refine ⟨xs[n], ?_, List.getElem_mem hn⟩
  unfold L2.atI L2.ixN
  rw [if_pos (by omega), if_pos (by omega)]
  simp [hn]
end PT
namespace PT
open PySem

theorem rgL_zero {i c : Int} : rgL i 0 c = [] := rfl
theorem rgL_succ {i c : Int} {n : Nat} : rgL i (n + 1) c = .int i :: rgL (i + c) n c := by
  unfold rgL
  rw [List.range_succ_eq_map, List.map_cons, List.map_map]
  congr 1
  · simp
  · apply List.map_congr_left
    intro k _
    simp only [Function.comp]
    congr 1
    push_cast
    rw [Int.add_mul]
    omega
theorem eI_rg1 {Φ : Fn} {ρ : Env} {g : G} {a : T} : evI Φ (.rg1 a) ρ g = (evE Φ a ρ g).bw fun x g => (Res.ofO (intOf x) g).bw fun j g => if rgB j = true then .ok (rgL 0 j.toNat 1) g else .bad := by simp only [evI] <;> rfl
/-- one turn of a for loop -/
def frF (Φ : Fn) (tg : Tg) (body : List S) : Env → D → G → Res Fl := fun ρ x g => match bindT tg x ρ with
  | some ρ' => evB Φ body ρ' g
  | none => .bad
@[simp] theorem frF_n {Φ : Fn} {i : Nat} {body : List S} {ρ : Env} {x : D} {g : G} : frF Φ (.n i) body ρ x g = evB Φ body (sv ρ i (some x)) g := by simp only [frF, bindT]
theorem eS_fr {Φ : Fn} {ρ : Env} {g : G} {tg : Tg} {it : It} {body : List S} : evS Φ (.fr tg it body) ρ g = (evI Φ it ρ g).bw fun xs g => frGo (frF Φ tg body) xs ρ g := by simp only [evS] <;> rfl
@[simp] theorem frGo_nil {f : Env → D → G → Res Fl} {ρ : Env} {g : G} : frGo f [] ρ g = .ok (.nx ρ) g := rfl
@[simp] theorem frGo_cons {f : Env → D → G → Res Fl} {x : D} {xs : List D} {ρ : Env} {g : G} : frGo f (x :: xs) ρ g = (f ρ x g).bw fun fl g => match fl with
    | .nx ρ' => frGo f xs ρ' g
    | .bk ρ' => .ok (.nx ρ') g
    | .rt d => .ok (.rt d) g := rfl
theorem rgB_of {j : Int} (h0 : 0 ≤ j) (h1 : j ≤ 1000000) : rgB j = true := by
  unfold rgB
  simp only [Bool.and_eq_true, decide_eq_true_eq]
  omega
@[simp] theorem isi_intI {i : Int} : isiD .int (.int i) = some true := (rfl)
noncomputable def same (a e : D) : Bool := @decide (a = e) (Classical.propDecidable _)
theorem same_iff {a e : D} : same a e = true ↔ a = e := by unfold same; exact @decide_eq_true_iff _ (Classical.propDecidable _)
theorem same_refl {a : D} : same a a = true := same_iff.mpr rfl
theorem same_no {a e : D} (h : a ≠ e) : same a e = false := by
  cases q : same a e with
  | false => rfl
  | true => exact absurd (same_iff.mp q) h
/-- what may be asked: also an empty dict -/
def As (k : Nat) (d : D) : Prop := Od k d ∨ d = .dict []
def dSame (s : Nat) : Def := { name := "_law_same", ps := 2, ns := ["actual", "expected", "k"], mu := [], fr := false, body := [
    .iff (.isN (.var 1)) [.ret (.isN (.var 0))] [],
    .iff (.isi .bool (.var 1)) [.ret (.and (.isi .bool (.var 0)) [.cmp .eq (.var 0) (.var 1)])] [],
    .iff (.isi .int (.var 1)) [.ret (.and (.isi .int (.var 0)) [.not (.isi .bool (.var 0)), .cmp .eq (.var 0) (.var 1)])] [],
    .iff (.isi .str (.var 1)) [.ret (.and (.isi .str (.var 0)) [.cmp .eq (.var 0) (.var 1)])] [],
    .iff (.and (.isi .tuple (.var 1)) [.not (.isi .tuple (.var 0))]) [.ret (.bl false)] [],
    .iff (.and (.isi .list (.var 1)) [.not (.isi .list (.var 0))]) [.ret (.bl false)] [],
    .iff (.cmp .ne (.b1 .len (.var 0)) (.b1 .len (.var 1))) [.ret (.bl false)] [],
    .fr (.n 2) (.rg1 (.b1 .len (.var 1))) [.iff (.not (.call s [.ix (.var 0) (.var 2), .ix (.var 1) (.var 2)])) [.ret (.bl false)] []],
    .ret (.bl true)] }
theorem eqv_bool {a b : Bool} : PyData.eqv (.bool a) (.bool b) = decide (a = b) := by unfold PyData.eqv; cases a <;> cases b <;> rfl
theorem eqv_str {x y : Str} : PyData.eqv (.str x) (.str y) = decide (x = y) := by
  unfold PyData.eqv
  by_cases h : x = y
  · simp [h]
  · simp [h]
theorem same_bool {a b : Bool} : same (.bool a) (.bool b) = decide (a = b) := by
  by_cases h : a = b
  · subst h; simp [same_refl]
  · rw [same_no (fun e => h (by injection e))]; simp [h]
theorem same_int {a b : Int} : same (.int a) (.int b) = decide (a = b) := by
  by_cases h : a = b
  · subst h; simp [same_refl]
  · rw [same_no (fun e => h (by injection e))]; simp [h]
theorem same_str {a b : Str} : same (.str a) (.str b) = decide (a = b) := by
  by_cases h : a = b
  · subst h; simp [same_refl]
  · rw [same_no (fun e => h (by injection e))]; simp [h]
section
variable {P : List Def} {s n k k' : Nat} {a e : D} {g : G}
theorem same_loop {Φ : Fn} {A E : D} {as es : List D} (hA : ∀ i : Int, ixG A (.int i) g = L2.atI as i) (hE : ∀ i : Int, ixG E (.int i) g = L2.atI es i) (hl : as.length = es.length)
    (hΦ : ∀ x ∈ as, ∀ y ∈ es, Φ s [x, y] g = .ok (.bool (same x y)) g) :
    ∀ (m j : Nat) (x : Option D), j + m = es.length → ∃ fl, frGo (frF Φ (.n 2) [.iff (.not (.call s [.ix (.var 0) (.var 2), .ix (.var 1) (.var 2)])) [.ret (.bl false)] []]) (rgL j m 1) [some A, some E, x] g = .ok fl g ∧ ((fl = .rt (.bool false) ∧ as.drop j ≠ es.drop j) ∨ (∃ y, fl = .nx [some A, some E, y]) ∧ as.drop j = es.drop j)
  | 0, j, x, h => by
    refine ⟨_, rfl, .inr ⟨⟨x, rfl⟩, ?_⟩⟩
    rw [List.drop_eq_nil_of_le (by omega), List.drop_eq_nil_of_le (by omega)]
  | m + 1, j, x, h => by
    have h1 : j < as.length := by omega
    have h2 : j < es.length := by omega
    have e1 : ixG A (.int j) g = some as[j] := by rw [hA, atI_nat h1]; simp [h1]
    have e2 : ixG E (.int j) g = some es[j] := by rw [hE, atI_nat h2]; simp [h2]
    have e3 := hΦ as[j] (List.getElem_mem h1) es[j] (List.getElem_mem h2)
    rw [rgL_succ]
    rw [frGo_cons]
    simp only [frF_n, sv_s, sv_z, eB_cons, eS_iff, eE_not, eE_call, eL_cons, eL_nil, eE_ix, eE_var, gv_z, gv_s, Res.ofO_some, bw_ok, e1, e2, e3, tru_bool, Option.map_some]
    rw [List.drop_eq_getElem_cons h1, List.drop_eq_getElem_cons h2]
    by_cases hq : as[j] = es[j]
    · obtain ⟨fl, f1, f2⟩ := same_loop hA hE hl hΦ m (j + 1) (some (.int j)) (by omega)
      rw [hq, same_refl]
      simp only [Bool.not_true, Bool.false_eq_true, if_false, eB_nil, bw_ok]
      refine ⟨fl, f1, ?_⟩
      rcases f2 with ⟨r1, r2⟩ | ⟨r1, r2⟩
      · exact .inl ⟨r1, fun z => r2 (by injection z)⟩
      · exact .inr ⟨r1, by rw [r2]⟩
    · rw [same_no hq]
      simp only [Bool.not_false, if_true, eB_cons, eS_ret, eE_bl, bw_ok]
      exact ⟨_, rfl, .inl ⟨rfl, fun z => hq (by injection z)⟩⟩
end
/-- what kind of thing -/
inductive Tg7 where
  | n | b | i | s | l | t | d
@[simp] def tgD : D → Tg7
  | .none => .n
  | .bool _ => .b
  | .int _ => .i
  | .str _ => .s
  | .list _ => .l
  | .tuple _ => .t
  | .dict _ => .d
@[simp] def kT : Kd → Tg7 → Bool
  | .int, .n => false
  | .int, .b => true
  | .int, .i => true
  | .int, .s => false
  | .int, .l => false
  | .int, .t => false
  | .int, .d => false
  | .bool, .n => false
  | .bool, .b => true
  | .bool, .i => false
  | .bool, .s => false
  | .bool, .l => false
  | .bool, .t => false
  | .bool, .d => false
  | .str, .n => false
  | .str, .b => false
  | .str, .i => false
  | .str, .s => true
  | .str, .l => false
  | .str, .t => false
  | .str, .d => false
  | .tuple, .n => false
  | .tuple, .b => false
  | .tuple, .i => false
  | .tuple, .s => false
  | .tuple, .l => false
  | .tuple, .t => true
  | .tuple, .d => false
  | .list, .n => false
  | .list, .b => false
  | .list, .i => false
  | .list, .s => false
  | .list, .l => true
  | .list, .t => false
  | .list, .d => false
  | .intTuple, .n => false
  | .intTuple, .b => true
  | .intTuple, .i => true
  | .intTuple, .s => false
  | .intTuple, .l => false
  | .intTuple, .t => true
  | .intTuple, .d => false
@[simp] def kB (k : Kd) (d : D) : Bool := kT k (tgD d)
/-- no dict with something in it -/
def nd : D → Bool
  | .dict (_ :: _) => false
  | _ => true
theorem isi_kB {kd : Kd} {d : D} (h : nd d = true) : isiD kd d = some (kB kd d) := by
  cases d with
  | dict kvs =>
    cases kvs with
    | nil => cases kd <;> rfl
    | cons _ _ => cases h
  | _ => cases kd <;> rfl
theorem Od.nd {k : Nat} {d : D} (h : Od k d) : nd d = true := by
  cases d with
  | dict kvs => have := h.oq; simp [PT.oq] at this
  | _ => rfl
theorem Nq.nd {k : Nat} {d : D} (h : Nq k d) : nd d = true := by
  cases d with
  | dict kvs => have := h.tq; simp [PT.tq] at this
  | _ => rfl
theorem As.nd {k : Nat} {d : D} (h : As k d) : nd d = true := by
  rcases h with h | rfl
  · exact h.nd
  · rfl
section
variable {Φ : Fn} {s k' : Nat} {a : D} {g : G}
theorem sb_none (ha : nd a = true) : evB Φ (dSame s).body [some a, some .none, none] g = .ok (.rt (.bool (same a .none))) g := by
  have h : same a .none = noneD a := by
    cases a with
    | none => rw [same_refl]; rfl
    | _ => rw [same_no (by intro h; cases h)]; rfl
  rw [h]
  simp [dSame, eB_cons, noneD]
theorem sb_bool {b : Bool} (ha : nd a = true) : evB Φ (dSame s).body [some a, some (.bool b), none] g = .ok (.rt (.bool (same a (.bool b)))) g := by
  have na := fun kd => isi_kB (kd := kd) ha
  have ne := fun kd => isi_kB (kd := kd) (d := .bool b) rfl
  simp only [dSame, eB_cons, eS_iff, eE_isN, eE_isi, eE_var, gv_z, gv_s, Res.ofO_some, bw_ok, ne, Option.map_some, tru_bool, eS_ret, eE_and, noneD, kB, tgD, kT, Bool.false_eq_true, if_false, eB_nil, if_true, na]
  cases a with
  | bool c => simp only [kB, tgD, kT, if_true, eA_one, eE_cmp, eE_var, gv_z, gv_s, Res.ofO_some, bw_ok, cmp_eq (x := .bool c) (y := .bool b) ⟨rfl, rfl⟩, eqv_bool, same_bool, Option.map_some]
  | _ => rw [same_no (by intro h; cases h)]; simp only [kB, tgD, kT, Bool.false_eq_true, if_false, bw_ok]
theorem sb_int {b : Int} (ha : nd a = true) : evB Φ (dSame s).body [some a, some (.int b), none] g = .ok (.rt (.bool (same a (.int b)))) g := by
  have na := fun kd => isi_kB (kd := kd) ha
  have ne := fun kd => isi_kB (kd := kd) (d := .int b) rfl
  simp only [dSame, eB_cons, eS_iff, eE_isN, eE_isi, eE_var, gv_z, gv_s, Res.ofO_some, bw_ok, ne, Option.map_some, tru_bool, eS_ret, eE_and, noneD, kB, tgD, kT, Bool.false_eq_true, if_false, eB_nil, if_true, na]
  cases a with
  | int c => simp only [kB, tgD, kT, if_true, eA_cons, eA_one, eE_not, eE_isi, na, tru_bool, Bool.not_false, eE_cmp, eE_var, gv_z, gv_s, Res.ofO_some, bw_ok, cmp_eqI, same_int, Option.map_some]
  | bool c => rw [same_no (by intro h; cases h)]; simp only [kB, tgD, kT, if_true, eA_cons, eA_one, eE_not, eE_isi, na, tru_bool, Bool.not_true, Bool.false_eq_true, if_false, eE_var, gv_z, gv_s, Res.ofO_some, bw_ok, Option.map_some]
  | _ => rw [same_no (by intro h; cases h)]; simp only [kB, tgD, kT, Bool.false_eq_true, if_false, bw_ok]
theorem sb_str {b : Str} (hb : okE (.str b) = true) (ha : nd a = true) (hs : ∀ x, a = .str x → okE a = true) : evB Φ (dSame s).body [some a, some (.str b), none] g = .ok (.rt (.bool (same a (.str b)))) g := by
  have na := fun kd => isi_kB (kd := kd) ha
  have ne := fun kd => isi_kB (kd := kd) (d := .str b) rfl
  simp only [dSame, eB_cons, eS_iff, eE_isN, eE_isi, eE_var, gv_z, gv_s, Res.ofO_some, bw_ok, ne, Option.map_some, tru_bool, eS_ret, eE_and, noneD, kB, tgD, kT, Bool.false_eq_true, if_false, eB_nil, if_true, na]
  cases a with
  | str c => simp only [kB, tgD, kT, if_true, eA_one, eE_cmp, eE_var, gv_z, gv_s, Res.ofO_some, bw_ok, cmp_eq (x := .str c) (y := .str b) ⟨hs c rfl, hb⟩, eqv_str, same_str, Option.map_some]
  | _ => rw [same_no (by intro h; cases h)]; simp only [kB, tgD, kT, Bool.false_eq_true, if_false, bw_ok]
end
end PT
namespace PT
open PySem
section
variable {Φ : Fn} {s k' : Nat} {a : D} {g : G}
theorem sb_tup {es : List D} (ha : nd a = true) (hl : es.length ≤ 100000) (hΦ : ∀ as, a = .tuple as → ∀ x ∈ as, ∀ y ∈ es, Φ s [x, y] g = .ok (.bool (same x y)) g) : evB Φ (dSame s).body [some a, some (.tuple es), none] g = .ok (.rt (.bool (same a (.tuple es)))) g := by
  have na := fun kd => isi_kB (kd := kd) ha
  have ne := fun kd => isi_kB (kd := kd) (d := .tuple es) rfl
  cases a with
  | tuple as =>
    by_cases h : as.length = es.length
    · have h0 : decide ((as.length : Int) = (es.length : Int)) = true := by simp [h]
      obtain ⟨fl, f1, f2⟩ := same_loop (Φ := Φ) (s := s) (g := g) (A := .tuple as) (E := .tuple es) (as := as) (es := es) (fun _ => rfl) (fun _ => rfl) h (hΦ as rfl) es.length 0 none (by omega)
      have hr : rgB (es.length : Int) = true := rgB_of (by omega) (by omega)
      rw [show ((0 : Nat) : Int) = 0 from rfl] at f1
      simp only [List.drop_zero] at f2
      simp only [dSame, eB_cons, eS_iff, eE_isN, eE_isi, eE_var, gv_z, gv_s, Res.ofO_some, bw_ok, ne, Option.map_some, tru_bool, eS_ret, eE_and, eE_not, noneD, kB, tgD, kT, Bool.false_eq_true, if_false, eB_nil, if_true, eA_one, na, Bool.not_true, eE_cmp, eE_b1, b1_lenT, cmp_neI, h0, eS_fr, eI_rg1, intOf_int, hr, Int.toNat_natCast, f1]
      rcases f2 with ⟨rfl, f2⟩ | ⟨⟨y, rfl⟩, f2⟩
      · rw [same_no (fun z => f2 (by injection z))]
      · rw [f2, same_refl]; simp only [bw_ok, eE_bl]
    · have h0 : decide ((as.length : Int) = (es.length : Int)) = false := by simp; omega
      rw [same_no (fun z => h (by injection z with z; rw [z]))]
      simp only [dSame, eB_cons, eS_iff, eE_isN, eE_isi, eE_var, gv_z, gv_s, Res.ofO_some, bw_ok, ne, Option.map_some, tru_bool, eS_ret, eE_and, eE_not, noneD, kB, tgD, kT, Bool.false_eq_true, if_false, eB_nil, if_true, eA_one, na, Bool.not_true, eE_cmp, eE_b1, b1_lenT, cmp_neI, h0, Bool.not_false, eE_bl]
  | _ => rw [same_no (by intro h; cases h)]; simp only [dSame, eB_cons, eS_iff, eE_isN, eE_isi, eE_var, gv_z, gv_s, Res.ofO_some, bw_ok, ne, Option.map_some, tru_bool, eS_ret, eE_and, eE_not, noneD, kB, tgD, kT, Bool.false_eq_true, if_false, eB_nil, if_true, eA_one, na, Bool.not_false, eE_bl]
theorem sb_lst {es : List D} (ha : nd a = true) (hl : es.length ≤ 100000) (hΦ : ∀ as, a = .list as → ∀ x ∈ as, ∀ y ∈ es, Φ s [x, y] g = .ok (.bool (same x y)) g) : evB Φ (dSame s).body [some a, some (.list es), none] g = .ok (.rt (.bool (same a (.list es)))) g := by
  have na := fun kd => isi_kB (kd := kd) ha
  have ne := fun kd => isi_kB (kd := kd) (d := .list es) rfl
  cases a with
  | list as =>
    by_cases h : as.length = es.length
    · have h0 : decide ((as.length : Int) = (es.length : Int)) = true := by simp [h]
      obtain ⟨fl, f1, f2⟩ := same_loop (Φ := Φ) (s := s) (g := g) (A := .list as) (E := .list es) (as := as) (es := es) (fun _ => rfl) (fun _ => rfl) h (hΦ as rfl) es.length 0 none (by omega)
      have hr : rgB (es.length : Int) = true := rgB_of (by omega) (by omega)
      rw [show ((0 : Nat) : Int) = 0 from rfl] at f1
      simp only [List.drop_zero] at f2
      simp only [dSame, eB_cons, eS_iff, eE_isN, eE_isi, eE_var, gv_z, gv_s, Res.ofO_some, bw_ok, ne, Option.map_some, tru_bool, eS_ret, eE_and, eE_not, noneD, kB, tgD, kT, Bool.false_eq_true, if_false, eB_nil, if_true, eA_one, na, Bool.not_true, eE_cmp, eE_b1, b1_lenL, cmp_neI, h0, eS_fr, eI_rg1, intOf_int, hr, Int.toNat_natCast, f1]
      rcases f2 with ⟨rfl, f2⟩ | ⟨⟨y, rfl⟩, f2⟩
      · rw [same_no (fun z => f2 (by injection z))]
      · rw [f2, same_refl]; simp only [bw_ok, eE_bl]
    · have h0 : decide ((as.length : Int) = (es.length : Int)) = false := by simp; omega
      rw [same_no (fun z => h (by injection z with z; rw [z]))]
      simp only [dSame, eB_cons, eS_iff, eE_isN, eE_isi, eE_var, gv_z, gv_s, Res.ofO_some, bw_ok, ne, Option.map_some, tru_bool, eS_ret, eE_and, eE_not, noneD, kB, tgD, kT, Bool.false_eq_true, if_false, eB_nil, if_true, eA_one, na, Bool.not_true, eE_cmp, eE_b1, b1_lenL, cmp_neI, h0, Bool.not_false, eE_bl]
  | _ => rw [same_no (by intro h; cases h)]; simp only [dSame, eB_cons, eS_iff, eE_isN, eE_isi, eE_var, gv_z, gv_s, Res.ofO_some, bw_ok, ne, Option.map_some, tru_bool, eS_ret, eE_and, eE_not, noneD, kB, tgD, kT, Bool.false_eq_true, if_false, eB_nil, if_true, eA_one, na, Bool.not_false, eE_bl]
end
section
variable {P : List Def} {s : Nat}
theorem As.tupm {k : Nat} {as : List D} (h : As k (.tuple as)) : ∀ x ∈ as, As k x := fun x hx => by
  rcases h with h | h
  · cases k with
    | zero => exact h.tup0.elim
    | succ j => exact .inl (((Od.tup.mp h).2 x hx).mono (Nat.le_succ _))
  · cases h
theorem As.lstm {k : Nat} {as : List D} (h : As k (.list as)) : ∀ x ∈ as, As k x := fun x hx => by
  rcases h with h | h
  · cases k with
    | zero => exact h.lst0.elim
    | succ j => exact .inl (((Od.lst.mp h).2 x hx).mono (Nat.le_succ _))
  · cases h
theorem same_run (hP : P[s]? = some (dSame s)) {k' : Nat} (hk' : k' ≤ 64) (n : Nat) : ∀ (k : Nat) (a e : D) (g : G), k < n → k ≤ 64 → Od k e → As k' a → runF P n s [a, e] g = .ok (.bool (same a e)) g := by
  induction n with
  | zero => intro k a e g hn; exact absurd hn (Nat.not_lt_zero _)
  | succ n ih =>
    intro k a e g hn hk he ha
    rw [run_def hP rfl]
    have hb : evB (runF P n) (dSame s).body [some a, some e, none] g = .ok (.rt (.bool (same a e))) g := by
      cases e with
      | none => exact sb_none ha.nd
      | bool b => exact sb_bool ha.nd
      | int b => exact sb_int ha.nd
      | str b => exact sb_str (he.okE hk) ha.nd fun x hx => ha.elim (fun h => h.okE hk') fun h => nomatch (h ▸ hx : (PyData.dict [] : D) = .str x)
      | dict kvs => have := he.oq; simp [PT.oq] at this
      | tuple es =>
        cases k with
        | zero => exact he.tup0.elim
        | succ k =>
          obtain ⟨el, em⟩ := Od.tup.mp he
          exact sb_tup ha.nd el fun as e1 x hx y hy => ih k x y g (by omega) (by omega) (em y hy) (As.tupm (e1 ▸ ha) x hx)
      | list es =>
        cases k with
        | zero => exact he.lst0.elim
        | succ k =>
          obtain ⟨el, em⟩ := Od.lst.mp he
          exact sb_lst ha.nd el fun as e1 x hx y hy => ih k x y g (by omega) (by omega) (em y hy) (As.lstm (e1 ▸ ha) x hx)
    exact congrArg fin hb
end
end PT
namespace PT
open PySem

abbrev NoE : Exc → G → Prop := fun _ _ => False
/-- one turn of a comprehension -/
def lcQ (Φ : Fn) (own : List Nat) (tg : Tg) (ifs : Op) (elt : T) (ρ : Env) : D → G → Res (List D) := fun x g => match bindT tg x (wipeE ρ own) with
      | some ρ' => (evC Φ ifs ρ' g).bind fun b g => if b = true then (evE Φ elt ρ' g).bind fun y g => .ok [y] g else .ok [] g
      | none => .bad
def lcQi (Φ : Fn) (own1 : List Nat) (tg1 : Tg) (elt : T) (ρ' : Env) : D → G → Res (List D) := fun y g => match bindT tg1 y (wipeE ρ' own1) with
        | some ρ'' => (evE Φ elt ρ'' g).bind fun z g => .ok [z] g
        | none => .bad
def lcQ2 (Φ : Fn) (own own1 : List Nat) (tg tg1 : Tg) (it1 : It) (elt : T) (ρ : Env) : D → G → Res (List D) := fun x g => match bindT tg x (wipeE ρ own) with
      | some ρ' => (evI Φ it1 ρ' g).bind fun ys g => lcGo (lcQi Φ own1 tg1 elt ρ') ys [] g
      | none => .bad
/-- a while loop -/
def whE (Φ : Fn) (c : T) (body : List S) (n : Nat) (ρ : Env) (g : G) : Res Fl := whGo (fun ρ g => (evE Φ c ρ g).bind fun x g => .ofO (truD x) g) (fun ρ g => evB Φ body ρ g) n ρ g
theorem lcQ_eq {Φ : Fn} {own : List Nat} {tg : Tg} {ifs : Op} {elt : T} {ρ : Env} {x : D} {g : G} : lcQ Φ own tg ifs elt ρ x g = (Res.ofO (bindT tg x (wipeE ρ own)) g).bw fun ρ' g => (evC Φ ifs ρ' g).bw fun b g => if b = true then (evE Φ elt ρ' g).bw fun y g => .ok [y] g else .ok [] g := by
  unfold lcQ
  cases bindT tg x (wipeE ρ own) <;> rfl
theorem lcQi_eq {Φ : Fn} {own1 : List Nat} {tg1 : Tg} {elt : T} {ρ : Env} {x : D} {g : G} : lcQi Φ own1 tg1 elt ρ x g = (Res.ofO (bindT tg1 x (wipeE ρ own1)) g).bw fun ρ' g => (evE Φ elt ρ' g).bw fun z g => .ok [z] g := by
  unfold lcQi
  cases bindT tg1 x (wipeE ρ own1) <;> rfl
theorem lcQ2_eq {Φ : Fn} {own own1 : List Nat} {tg tg1 : Tg} {it1 : It} {elt : T} {ρ : Env} {x : D} {g : G} : lcQ2 Φ own own1 tg tg1 it1 elt ρ x g = (Res.ofO (bindT tg x (wipeE ρ own)) g).bw fun ρ' g => (evI Φ it1 ρ' g).bw fun ys g => lcGo (lcQi Φ own1 tg1 elt ρ') ys [] g := by
  unfold lcQ2
  cases bindT tg x (wipeE ρ own) <;> rfl
theorem frF_eq {Φ : Fn} {tg : Tg} {body : List S} {ρ : Env} {x : D} {g : G} : frF Φ tg body ρ x g = (Res.ofO (bindT tg x ρ) g).bw fun ρ' g => evB Φ body ρ' g := by
  unfold frF
  cases bindT tg x ρ <;> rfl
section
variable {Φ : Fn} {ρ : Env} {g : G}
theorem eE_lc {own : List Nat} {tg : Tg} {it : It} {ifs : Op} {elt : T} : evE Φ (.lc own tg it ifs elt) ρ g = (evI Φ it ρ g).bw fun xs g => lcEnd (lcGo (lcQ Φ own tg ifs elt ρ) xs [] g) := by simp only [evE] <;> rfl
theorem eE_lc2 {own own1 : List Nat} {tg tg1 : Tg} {it it1 : It} {elt : T} : evE Φ (.lc2 own own1 tg it tg1 it1 elt) ρ g = (evI Φ it ρ g).bw fun xs g => lcEnd (lcGo (lcQ2 Φ own own1 tg tg1 it1 elt ρ) xs [] g) := by simp only [evE] <;> rfl
@[simp] theorem eE_lrg {it : It} : evE Φ (.lrg it) ρ g = (evI Φ it ρ g).bw fun xs g => if xs.length ≤ sizeLine then .ok (.list xs) g else .bad := by simp only [evE] <;> rfl
@[simp] theorem eE_m1 {o : M1} {a b : T} : evE Φ (.m1 o a b) ρ g = (evE Φ a ρ g).bw fun x g => match x with
    | .list xs => (evE Φ b ρ g).bw fun y g => .ofO (m1D o (.list xs) y) g
    | _ => .bad := by simp only [evE] <;> rfl
@[simp] theorem eE_isNT {a : T} : evE Φ (.isNT a) ρ g = (evE Φ a ρ g).bw fun x g => match x with
    | .bool b => .ok (.bool (!b)) g
    | _ => .bad := by simp only [evE] <;> rfl
@[simp] theorem eE_ch3 {o p q : COp} {a b c d : T} : evE Φ (.ch3 o p q a b c d) ρ g = (evE Φ a ρ g).bw fun x g => (evE Φ b ρ g).bw fun y g => (Res.ofO (cmpD o x y) g).bw fun r g =>
      if r = true then (evE Φ c ρ g).bw fun z g => (Res.ofO (cmpD p y z) g).bw fun r g =>
        if r = true then (evE Φ d ρ g).bw fun u g => .ofO ((cmpD q z u).map .bool) g else .ok (.bool false) g
      else .ok (.bool false) g := by simp only [evE] <;> rfl
@[simp] theorem eI_rg1' {a : T} : evI Φ (.rg1 a) ρ g = (evE Φ a ρ g).bw fun x g => (Res.ofO (intOf x) g).bw fun j g => if rgB j = true then .ok (rgL 0 j.toNat 1) g else .bad := eI_rg1
@[simp] theorem eI_rg2 {a b : T} : evI Φ (.rg2 a b) ρ g = (evE Φ a ρ g).bw fun x g => (evE Φ b ρ g).bw fun y g => (Res.ofO (intOf x) g).bw fun i g => (Res.ofO (intOf y) g).bw fun j g =>
      if rgB i = true ∧ rgB j = true then .ok (rgL i (j - i).toNat 1) g else .bad := by simp only [evI] <;> rfl
@[simp] theorem eI_rg3 {a b c : T} : evI Φ (.rg3 a b c) ρ g = (evE Φ a ρ g).bw fun x g => (evE Φ b ρ g).bw fun y g => (evE Φ c ρ g).bw fun z g => (Res.ofO (intOf x) g).bw fun i g => (Res.ofO (intOf y) g).bw fun j g => (Res.ofO (intOf z) g).bw fun c g =>
      if rgB i = true ∧ rgB j = true ∧ c = -1 then .ok (rgL i (i - j).toNat c) g else .bad := by simp only [evI] <;> rfl
@[simp] theorem eI_enu {a : T} : evI Φ (.enu a) ρ g = (evE Φ a ρ g).bw fun x g => (Res.ofO (itemsD x) g).bw fun xs g => .ok (enuL 0 xs) g := by simp only [evI] <;> rfl
@[simp] theorem eI_zip2 {a b : T} : evI Φ (.zip2 a b) ρ g = (evE Φ a ρ g).bw fun x g => (evE Φ b ρ g).bw fun y g => .ofO (zip2D x y) g := by simp only [evI] <;> rfl
@[simp] theorem eI_zip3 {a b c : T} : evI Φ (.zip3 a b c) ρ g = (evE Φ a ρ g).bw fun x g => (evE Φ b ρ g).bw fun y g => (evE Φ c ρ g).bw fun z g => .ofO (zip3D x y z) g := by simp only [evI] <;> rfl
@[simp] theorem eS_asgO {i : Nat} {e : T} : evS Φ (.asgO i e) ρ g = (evE Φ e ρ g).bw fun x g => match x with
    | .list _ => .ok (.nx (sv ρ i (some x))) g
    | _ => .bad := by simp only [evS] <;> rfl
@[simp] theorem eS_unp {ts : List Tg} {e : T} : evS Φ (.unp ts e) ρ g = (evE Φ e ρ g).bw fun x g => match x with
    | .tuple ds => (Res.ofO (bindTs ts ds ρ) g).bw fun ρ' g => .ok (.nx ρ') g
    | _ => .bad := by simp only [evS] <;> rfl
@[simp] theorem eS_par {js : List (Nat × Bool)} {es : List T} : evS Φ (.par js es) ρ g = (evL Φ es ρ g).bw fun ds g => (Res.ofO (svAll js ds ρ) g).bw fun ρ' g => .ok (.nx ρ') g := by simp only [evS] <;> rfl
@[simp] theorem eS_aug {i : Nat} {o : BOp} {e : T} : evS Φ (.aug i o e) ρ g = (Res.ofO (gv ρ i) g).bw fun x g => (evE Φ e ρ g).bw fun y g => (Res.ofO (intOf x) g).bw fun a g => (Res.ofO (intOf y) g).bw fun b g => (Res.ofO (binD o (.int a) (.int b)) g).bw fun z g => .ok (.nx (sv ρ i (some z))) g := by simp only [evS] <;> rfl
theorem eS_wh {n : Nat} {c : T} {body : List S} : evS Φ (.wh n c body) ρ g = whE Φ c body n ρ g := by simp only [evS] <;> rfl
@[simp] theorem eS_app {i : Nat} {e : T} : evS Φ (.app i e) ρ g = (Res.ofO (lstG ρ i) g).bw fun xs g => (evE Φ e ρ g).bw fun x g => if xs.length < sizeLine then .ok (.nx (sv ρ i (some (.list (xs ++ [x]))))) g else .bad := by simp only [evS] <;> rfl
@[simp] theorem eS_ext {i : Nat} {e : T} : evS Φ (.ext i e) ρ g = (Res.ofO (lstG ρ i) g).bw fun xs g => (evE Φ e ρ g).bw fun x g => (Res.ofO (lstD x) g).bw fun ys g => if xs.length + ys.length ≤ sizeLine then .ok (.nx (sv ρ i (some (.list (xs ++ ys))))) g else .bad := by simp only [evS] <;> rfl
@[simp] theorem eS_rem {i : Nat} {e : T} : evS Φ (.rem i e) ρ g = (Res.ofO (lstG ρ i) g).bw fun xs g => (evE Φ e ρ g).bw fun x g => (Res.ofO (intsD xs) g).bw fun ns g => (Res.ofO (intOf x) g).bw fun k g => if k ∈ ns then .ok (.nx (sv ρ i (some (mkL (ns.erase k))))) g else .bad := by simp only [evS] <;> rfl
@[simp] theorem eS_six {i : Nat} {k e : T} : evS Φ (.six i k e) ρ g = (evE Φ e ρ g).bw fun x g => (Res.ofO (lstG ρ i) g).bw fun xs g => (evE Φ k ρ g).bw fun y g => (Res.ofO (setL xs y x) g).bw fun ys g => .ok (.nx (sv ρ i (some (.list ys)))) g := by simp only [evS] <;> rfl
@[simp] theorem eS_saug {i : Nat} {o : BOp} {k e : T} : evS Φ (.saug i o k e) ρ g = (Res.ofO (lstG ρ i) g).bw fun xs g => (evE Φ k ρ g).bw fun y g => (Res.ofO (natOf y) g).bw fun j g => (Res.ofO xs[j]? g).bw fun v g => (evE Φ e ρ g).bw fun z g => (Res.ofO (intOf v) g).bw fun a g => (Res.ofO (intOf z) g).bw fun b g => (Res.ofO (binD o (.int a) (.int b)) g).bw fun u g => .ok (.nx (sv ρ i (some (.list (xs.set j u))))) g := by simp only [evS] <;> rfl
@[simp] theorem eS_popS {i j : Nat} {e : T} : evS Φ (.popS i j e) ρ g = (Res.ofO (lstG ρ j) g).bw fun xs g => (evE Φ e ρ g).bw fun y g => (Res.ofO (intOf y) g).bw fun k g => (Res.ofO (if rgB k = true then L2.ixN xs.length k else none) g).bw fun n g => (Res.ofO xs[n]? g).bw fun v g => .ok (.nx (sv (sv ρ j (some (.list (xs.eraseIdx n)))) i (some v))) g := by simp only [evS] <;> rfl
theorem eS_tryR {e : T} {er : Nat} : evS Φ (.tryR e er) ρ g = match evE Φ e ρ g with
    | .ok d g => .ok (.rt d) g
    | .exc _ g => .ok (.rt (.tuple [])) g
    | .bad => .bad := by simp only [evS] <;> rfl
theorem eS_tryU {c er : Nat} {f1 f2 : T} : evS Φ (.tryU c f1 f2 er) ρ g = (Res.ofO (gv ρ c) g).bw fun x g => (Res.ofO (truD x) g).bw fun t g => match (if t = true then evE Φ f1 ρ g else evE Φ f2 ρ g) with
    | .ok _ g => .ok (.rt (.bool false)) g
    | .exc .unfit g => .ok (.nx (sv ρ er none)) g
    | .exc x g => .exc x g
    | .bad => .bad := by simp only [evS] <;> rfl
@[simp] theorem eS_brk : evS Φ .brk ρ g = .ok (.bk ρ) g := by simp only [evS]
end

section
variable {k : Kd} {b : Bool} {i : Int} {x : Str} {xs : List D}
@[simp] theorem isi_n : isiD k .none = some (kB k .none) := isi_kB rfl
@[simp] theorem isi_b : isiD k (.bool b) = some (kB k (.bool b)) := isi_kB rfl
@[simp] theorem isi_i : isiD k (.int i) = some (kB k (.int i)) := isi_kB rfl
@[simp] theorem isi_s : isiD k (.str x) = some (kB k (.str x)) := isi_kB rfl
@[simp] theorem isi_t : isiD k (.tuple xs) = some (kB k (.tuple xs)) := isi_kB rfl
@[simp] theorem isi_l : isiD k (.list xs) = some (kB k (.list xs)) := isi_kB rfl
@[simp] theorem isi_d : isiD k (.dict []) = some (kB k (.dict [])) := isi_kB rfl
end
@[simp] theorem fin_rt {v : D} {g : G} : fin (.ok (.rt v) g) = .ok v g := (rfl)
@[simp] theorem fin_nx {ρ : Env} {g : G} : fin (.ok (.nx ρ) g) = .ok .none g := (rfl)
@[simp] theorem fin_exc {x : Exc} {g : G} : fin (.exc x g) = .exc x g := (rfl)
section
variable {f : D → G → Res (List D)} {g : G}
theorem lc_go {α : Type} (e : α → D) (F : α → List D) : ∀ (l : List α) (acc : List D), (∀ a ∈ l, f (e a) g = .ok (F a) g) → lcGo f (l.map e) acc g = .ok (acc ++ l.flatMap F) g
  | [], acc, _ => by simp [lcGo]
  | a :: l, acc, h => by
    rw [List.map_cons, lcGo, h a (List.mem_cons_self ..)]
    show lcGo f (l.map e) (acc ++ F a) g = _
    rw [lc_go e F l _ fun b hb => h b (List.mem_cons_of_mem _ hb)]
    simp
theorem lcEnd_eq {ys : List D} (h : ys.length ≤ sizeLine) : lcEnd (.ok ys g) = .ok (.list ys) g := by
  unfold lcEnd
  rw [Res.nox_ok, Res.bind_ok, if_pos h]
theorem big_line : (1000000 : Nat) ≤ sizeLine := by rw [sizeLine_eq]; decide
theorem lc_val {α : Type} {l : List α} {e : α → D} (F : α → D) (hl : l.length ≤ sizeLine) (h : ∀ a ∈ l, f (e a) g = .ok [F a] g) : lcEnd (lcGo f (l.map e) [] g) = .ok (.list (l.map F)) g := by
  rw [lc_go e (fun a => [F a]) l [] h, List.nil_append]
  have : ∀ l : List α, l.flatMap (fun a => [F a]) = l.map F := fun l => by
    induction l with
    | nil => rfl
    | cons a l ih => rw [List.flatMap_cons, ih]; rfl
  rw [this, lcEnd_eq (by simpa using hl)]
theorem lc_if {α : Type} {l : List α} {e : α → D} (p : α → Bool) (F : α → D) (hl : l.length ≤ sizeLine) (h : ∀ a ∈ l, f (e a) g = .ok (if p a = true then [F a] else []) g) : lcEnd (lcGo f (l.map e) [] g) = .ok (.list ((l.filter p).map F)) g := by
  rw [lc_go e (fun a => if p a = true then [F a] else []) l [] h, List.nil_append]
  have : ∀ l : List α, l.flatMap (fun a => if p a = true then [F a] else []) = (l.filter p).map F := fun l => by
    induction l with
    | nil => rfl
    | cons a l ih => rw [List.flatMap_cons, ih, List.filter_cons]; split <;> simp
  rw [this, lcEnd_eq]
  have := List.length_filter_le p l
  simp only [List.length_map]
  omega
theorem lc_flat {α : Type} {l : List α} {e : α → D} (F : α → List D) (hl : (l.flatMap F).length ≤ sizeLine) (h : ∀ a ∈ l, f (e a) g = .ok (F a) g) : lcEnd (lcGo f (l.map e) [] g) = .ok (.list (l.flatMap F)) g := by
  rw [lc_go e F l [] h, List.nil_append, lcEnd_eq hl]
/-- one that draws -/
theorem lc_go_rs {α : Type} {Q : D → Prop} (e : α → D) : ∀ (l : List α) (acc : List D) (g : G), (∀ a ∈ l, ∀ g, GS g → Rs (f (e a) g) (fun ys g' => (∃ y, ys = [y] ∧ Q y) ∧ GS g') NoE) → GS g → (∀ y ∈ acc, Q y) → Rs (lcGo f (l.map e) acc g) (fun ys g' => ys.length = acc.length + l.length ∧ (∀ y ∈ ys, Q y) ∧ GS g') NoE
  | [], acc, g, _, hg, ha => ⟨rfl, ha, hg⟩
  | a :: l, acc, g, h, hg, ha => by
    rw [List.map_cons, lcGo, Rs_bind]
    refine (h a (List.mem_cons_self ..) g hg).mono (fun ys g' ⟨⟨y, e1, hy⟩, hg'⟩ => ?_) fun _ _ h => h
    subst e1
    refine (lc_go_rs e l (acc ++ [y]) g' (fun b hb => h b (List.mem_cons_of_mem _ hb)) hg' fun z hz => ?_).mono (fun ys g2 ⟨h1, h2, h3⟩ => ⟨by rw [h1]; simp; omega, h2, h3⟩) fun _ _ h => h
    rcases List.mem_append.mp hz with hz | hz
    · exact ha z hz
    · rw [List.mem_singleton.mp hz]; exact hy
theorem lc_rs {α : Type} {Q : D → Prop} {l : List α} {e : α → D} {g : G} (hl : l.length ≤ sizeLine) (h : ∀ a ∈ l, ∀ g, GS g → Rs (f (e a) g) (fun ys g' => (∃ y, ys = [y] ∧ Q y) ∧ GS g') NoE) (hg : GS g) : Rs (lcEnd (lcGo f (l.map e) [] g)) (fun d g' => ∃ ys, d = .list ys ∧ ys.length = l.length ∧ (∀ y ∈ ys, Q y) ∧ GS g') NoE := by
  obtain ⟨ys, g', e1, h1, h2, h3⟩ := (lc_go_rs e l [] g h hg (by simp)).ex
  rw [e1, lcEnd_eq (by rw [h1]; simpa using hl)]
  exact ⟨ys, rfl, by simpa using h1, h2, h3⟩
end
theorem rgL_map (i : Int) (n : Nat) : rgL i n 1 = (List.range n).map fun k => .int (i + (k : Nat)) := by
  unfold rgL
  apply List.map_congr_left
  intro k _
  rw [Int.mul_one]
theorem rgL0_map (n : Nat) : rgL 0 n 1 = (List.range n).map fun k => .int (k : Nat) := by
  rw [rgL_map]
  apply List.map_congr_left
  intro k _
  rw [Int.zero_add]
theorem enuL_map {α : Type} (e : α → D) : ∀ (l : List α) (n : Nat), enuL n (l.map e) = (l.zipIdx n).map fun p => .tuple [.int p.2, e p.1]
  | [], n => rfl
  | a :: l, n => by simp only [List.map_cons, enuL, List.zipIdx_cons, enuL_map e l (n + 1)]
theorem zip2L_map {α β : Type} (e : α → D) (f : β → D) : ∀ (l : List α) (m : List β), zip2L (l.map e) (m.map f) = (l.zip m).map fun p => .tuple [e p.1, f p.2]
  | [], _ => by simp [zip2L]
  | _ :: _, [] => by simp [zip2L]
  | a :: l, b :: m => by simp only [List.map_cons, zip2L, List.zip_cons_cons, zip2L_map e f l m]
@[simp] theorem itemsD_L {xs : List D} : itemsD (.list xs) = some xs := (rfl)
@[simp] theorem itemsD_T {xs : List D} : itemsD (.tuple xs) = some xs := (rfl)
@[simp] theorem itemsD_mkT {r : List Int} : itemsD (mkT r) = some (r.map .int) := (rfl)
@[simp] theorem itemsD_mkL {r : List Int} : itemsD (mkL r) = some (r.map .int) := (rfl)
theorem all_flatB {α : Type} (p : α → Bool) (l : List α) : (l.map fun a => PyData.bool (p a)).all flatD = true := by
  rw [List.all_eq_true]
  intro x hx
  obtain ⟨a, _, rfl⟩ := List.mem_map.mp hx
  rfl
theorem in_true {α : Type} (p : α → Bool) (l : List α) : inD (.bool true) (.list (l.map fun a => .bool (p a))) = some (l.any p) := by
  unfold inD
  simp only [itemsD_L]
  rw [if_pos ⟨rfl, all_flatB p l⟩]
  congr 1
  induction l with
  | nil => rfl
  | cons a l ih => rw [List.map_cons, List.any_cons, List.any_cons, ih, eqv_bool]; cases p a <;> rfl
theorem in_false {α : Type} (p : α → Bool) (l : List α) : inD (.bool false) (.list (l.map fun a => .bool (p a))) = some (!l.all p) := by
  unfold inD
  simp only [itemsD_L]
  rw [if_pos ⟨rfl, all_flatB p l⟩]
  congr 1
  induction l with
  | nil => rfl
  | cons a l ih => rw [List.map_cons, List.any_cons, List.all_cons, ih, eqv_bool]; cases p a <;> simp
theorem all_flatI (r : List Int) : (r.map PyData.int).all flatD = true := by
  rw [List.all_eq_true]
  intro x hx
  obtain ⟨a, _, rfl⟩ := List.mem_map.mp hx
  rfl
theorem inD_ints (r : List Int) (i : Int) {d : D} (h : itemsD d = some (r.map .int)) : inD (.int i) d = some (decide (i ∈ r)) := by
  unfold inD
  simp only [h]
  rw [if_pos ⟨rfl, all_flatI r⟩]
  congr 1
  clear h
  induction r with
  | nil => rfl
  | cons a l ih =>
    rw [List.map_cons, List.any_cons, ih, eqv_int]
    by_cases h1 : a = i
    · subst h1; simp
    · simp [h1, Ne.symm h1]
@[simp] theorem in_mkL {r : List Int} {i : Int} : inD (.int i) (mkL r) = some (decide (i ∈ r)) := inD_ints r i rfl
@[simp] theorem in_mkT {r : List Int} {i : Int} : inD (.int i) (mkT r) = some (decide (i ∈ r)) := inD_ints r i rfl
theorem ixT_nat {xs : List D} {k : Nat} {g : G} (h : k < xs.length) : ixG (.tuple xs) (.int k) g = some xs[k] := by
  rw [ixG_T, atI_nat h]; simp [h]
theorem ixL_nat {xs : List D} {k : Nat} {g : G} (h : k < xs.length) : ixG (.list xs) (.int k) g = some xs[k] := by
  rw [ixG_L, atI_nat h]; simp [h]
theorem ix_mkT {r : List Int} {k : Nat} {g : G} (h : k < r.length) : ixG (mkT r) (.int k) g = some (.int r[k]) := by
  unfold mkT
  rw [ixT_nat (by simpa using h)]; simp
theorem ix_mkL {r : List Int} {k : Nat} {g : G} (h : k < r.length) : ixG (mkL r) (.int k) g = some (.int r[k]) := by
  unfold mkL
  rw [ixL_nat (by simpa using h)]; simp
theorem pick_ok {xs : List D} {j : Int} {g : G} {Q : D → G → Prop} {E : Exc → G → Prop} (h0 : 0 ≤ j) (h1 : j < xs.length) (h : ∀ x ∈ xs, Q x g) : Rs (Res.ofO (ixG (.list xs) (.int j) g) g) Q E := by
  obtain ⟨x, e, hx⟩ := atI_some h0 h1
  rw [ixG_L, e]; exact h x hx
end PT
namespace PT
open PySem

def cp (x : Str) : List Nat := x.cps.toList
theorem cp_app (x y : Str) : cp (x ++ y) = cp x ++ cp y := by
  show (x.cps ++ y.cps).toList = _
  simp [cp]
@[simp] theorem cp_mk (l : List Nat) : cp ⟨l.toArray⟩ = l := rfl
theorem cp_len (x : Str) : x.length = (cp x).length := by simp [cp, Str.length]
theorem cp_inj {x y : Str} (h : cp x = cp y) : x = y := by
  cases x; cases y
  simp only [cp] at h
  congr 1
  exact Array.toList_inj.mp h
theorem lay_str {x : Str} : PyData.canLay0 (.str x) = true ↔ ∀ c ∈ cp x, c < 1114112 := by
  simp only [PyData.canLay0, PyData.strOk, cp]
  rw [Array.all_eq_true_iff_forall_mem]
  constructor
  · intro h c hc
    exact of_decide_eq_true (h c (Array.mem_def.mpr hc))
  · intro h c hc
    exact decide_eq_true (h c (Array.mem_def.mp hc))
theorem cp_ofString (s : String) : cp (Str.ofString s) = s.toList.map Char.toNat := by
  rw [Str.ofString_eq_toList]; rfl
theorem lay_ofString (s : String) : PyData.canLay0 (.str (Str.ofString s)) = true := by
  rw [lay_str, cp_ofString]
  intro c hc
  obtain ⟨ch, _, rfl⟩ := List.mem_map.mp hc
  have := ch.valid
  simp only [UInt32.isValidChar, Nat.isValidChar] at this
  show ch.val.toNat < _
  omega
theorem len_ofString (s : String) : (Str.ofString s).length = s.length := by
  rw [cp_len, cp_ofString, List.length_map, String.length_toList]
/-- asked, of so much -/
def Oz (k m : Nat) (d : D) : Prop := Od k d ∧ sz d ≤ m
theorem Oz.mono {k k' m m' : Nat} {d : D} (h : Oz k m d) (l : k ≤ k') (l' : m ≤ m') : Oz k' m' d := ⟨h.1.mono l, Nat.le_trans h.2 l'⟩
theorem Oz.none {k m : Nat} (h : 1 ≤ m) : Oz k m .none := ⟨Od.none, h⟩
theorem Oz.bool {k m : Nat} {b : Bool} (h : 1 ≤ m) : Oz k m (.bool b) := ⟨Od.bool, h⟩
theorem Oz.int {k m : Nat} {i : Int} (h : 1 ≤ m) (hi : i.natAbs < 2 ^ 250) : Oz k m (.int i) := ⟨Od.int hi, h⟩
theorem Oz.str {k m : Nat} {x : Str} (h : 1 + x.length ≤ m) (hx : PyData.canLay0 (.str x) = true) : Oz k m (.str x) := ⟨Od.str hx, h⟩
theorem Oz.ofStr {k m : Nat} {x : String} (h : 1 + x.length ≤ m) : Oz k m (.str (Str.ofString x)) := .str (by rw [len_ofString]; exact h) (lay_ofString x)
theorem Oz.tup {k m : Nat} {ds : List D} (h : 1 + szL ds ≤ m) (hm : m ≤ 100000) (hd : ∀ d ∈ ds, Od k d) : Oz (k + 1) m (.tuple ds) := ⟨Od.tup.mpr ⟨by have := szL_len ds; omega, hd⟩, h⟩
theorem Oz.lst {k m : Nat} {ds : List D} (h : 1 + szL ds ≤ m) (hm : m ≤ 100000) (hd : ∀ d ∈ ds, Od k d) : Oz (k + 1) m (.list ds) := ⟨Od.lst.mpr ⟨by have := szL_len ds; omega, hd⟩, h⟩
theorem szL_cut {lo hi : Option Int} {xs : List D} : szL (cutL xs lo hi) ≤ szL xs := szL_sub (cutL_sub xs lo hi)
theorem szL_rev : ∀ xs : List D, szL xs.reverse = szL xs
  | [] => rfl
  | x :: xs => by rw [List.reverse_cons, szL_app, szL_rev xs]; simp only [szL]; omega
theorem cut_mem {α : Type} {lo hi : Option Int} {xs : List α} {x : α} (h : x ∈ cutL xs lo hi) : x ∈ xs := (cutL_sub xs lo hi).subset h
@[simp] theorem cutD_T {lo hi : Option Int} {xs : List D} : cutD lo hi (.tuple xs) = some (.tuple (cutL xs lo hi)) := (rfl)
@[simp] theorem cutD_L {lo hi : Option Int} {xs : List D} : cutD lo hi (.list xs) = some (.list (cutL xs lo hi)) := (rfl)
@[simp] theorem revD_T {xs : List D} : revD (.tuple xs) = some (.tuple xs.reverse) := (rfl)
@[simp] theorem revD_L {xs : List D} : revD (.list xs) = some (.list xs.reverse) := (rfl)
theorem line_of {n : Nat} (h : n ≤ 1000000) : n ≤ sizeLine := Nat.le_trans h big_line
theorem cutD_S {lo hi : Option Int} {x : Str} (h : x.length ≤ 1000000) : cutD lo hi (.str x) = some (.str ⟨(cutL (cp x) lo hi).toArray⟩) := if_pos (line_of h)
theorem revD_S {x : Str} (h : x.length ≤ 1000000) : revD (.str x) = some (.str ⟨(cp x).reverse.toArray⟩) := if_pos (line_of h)
theorem bin_addS' {x y : Str} (h : x.length + y.length ≤ 1000000) : binD .add (.str x) (.str y) = some (.str (x ++ y)) := bin_addS (line_of h)
theorem bin_addT' {xs ys : List D} (h : xs.length + ys.length ≤ 1000000) : binD .add (.tuple xs) (.tuple ys) = some (.tuple (xs ++ ys)) := bin_addT (line_of h)
theorem bin_addL' {xs ys : List D} (h : xs.length + ys.length ≤ 1000000) : binD .add (.list xs) (.list ys) = some (.list (xs ++ ys)) := bin_addL (line_of h)
theorem cut_len {α : Type} {lo hi : Option Int} {xs : List α} : (cutL xs lo hi).length ≤ xs.length := (cutL_sub xs lo hi).length_le
theorem b1_strI {i : Int} (h : i.natAbs < 2 ^ 200) : b1D .str (.int i) = some (.str (Str.ofString (toString i))) := by
  show (if i.natAbs.log2 < 1920 then some _ else none) = _
  rw [if_pos]
  rcases Nat.eq_zero_or_pos i.natAbs with h0 | h0
  · rw [h0]; decide
  · have := (Nat.log2_lt (show i.natAbs ≠ 0 by omega)).mpr h
    omega
@[simp] theorem b1_strN : b1D .str .none = some (.str (Str.ofString "None")) := (rfl)
theorem pow_200_250 : (2 : Nat) ^ 200 + 2 ^ 200 + 5 < 2 ^ 250 := by decide +kernel
theorem text_len {i : Int} (h : i.natAbs < 2 ^ 200) : (Str.ofString (toString i)).length ≤ 62 := by
  rw [len_ofString]
  exact int_text_length_le10 (k := 61) (by decide) (Nat.lt_trans h (by decide +kernel))
theorem pick2 {xs : List D} {j : Int} {g : G} {Q : D → G → Prop} {E : Exc → G → Prop} (h0 : 0 ≤ j) (h1 : j < xs.length) (h : ∀ x ∈ xs, Q x g) : Rs (Res.ofO (L2.atI xs j) g) Q E := by
  obtain ⟨x, e, hx⟩ := atI_some h0 h1
  rw [e]; exact h x hx
end PT
namespace PT
open PySem

def dChanged (nx ch : Nat) : Def := { name := "_law_changed", ps := 2, ns := ["state", "value", "k", "j", "more", "others", "turn"], mu := [], fr := false, body := [
    .iff (.isi .bool (.var 1)) [.ret (.ix (.lst [.not (.var 1), .b1 .int (.var 1)]) (.call nx [.var 0, .int 2]))] [],
    .iff (.or (.isN (.var 1)) [.isi .int (.var 1)]) [.ret (.ix (.lst [.bin .add (.or (.var 1) [.int 0]) (.int 1), .bin .sub (.or (.var 1) [.int 0]) (.int 1), .int 0, .non, .cmp .eq (.var 1) (.int 1), .b1 .str (.var 1), .bin .mul (.int 2) (.or (.var 1) [.int 1])]) (.call nx [.var 0, .int 7]))] [],
    .iff (.isi .str (.var 1)) [.asg 5 (.lst [.sl (.var 1) (.yes (.int 1)) .no, .bin .add (.var 1) (.str "a"), .rev (.var 1), .bin .add (.str "b") (.var 1), .str "", .sl (.var 1) .no (.yes (.neg (.int 1))), .str "left", .int 3, .str "in"]), .ret (.ix (.var 5) (.call nx [.var 0, .b1 .len (.var 5)]))] [],
    .iff (.and (.isi .tuple (.var 1)) [.cmp .ne (.var 1) (.tup []), .cmp .gt (.call nx [.var 0, .int 4]) (.int 0)]) [.asg 2 (.call nx [.var 0, .b1 .len (.var 1)]), .ret (.bin .add (.bin .add (.sl (.var 1) .no (.yes (.var 2))) (.tup [.call ch [.var 0, .ix (.var 1) (.var 2)]])) (.sl (.var 1) (.yes (.bin .add (.var 2) (.int 1))) .no))] [],
    .iff (.not (.isi .tuple (.var 1))) [.ret (.tup [])] [],
    .asg 2 (.call nx [.var 0, .bin .add (.b1 .len (.var 1)) (.int 1)]),
    .asg 3 (.call nx [.var 0, .bin .add (.b1 .len (.var 1)) (.int 1)]),
    .asg 4 (.lst [.bin .add (.sl (.var 1) .no (.yes (.var 2))) (.sl (.var 1) (.yes (.bin .add (.var 2) (.int 1))) .no), .bin .add (.var 1) (.sl (.var 1) .no (.yes (.int 1))), .rev (.var 1), .bin .add (.sl (.var 1) (.yes (.var 2)) .no) (.sl (.var 1) .no (.yes (.var 2))), .b1 .list (.var 1), .sl (.var 1) .no (.yes (.var 2)), .tup [], .bin .add (.var 1) (.tup [.int 0])]),
    .iff (.ch2 .lt .lt (.var 2) (.var 3) (.b1 .len (.var 1))) [.asg 4 (.bin .add (.var 4) (.lc [6] (.n 6) (.rg1 (.int 3)) .no (.bin .add (.bin .add (.bin .add (.bin .add (.sl (.var 1) .no (.yes (.var 2))) (.sl (.var 1) (.yes (.var 3)) (.yes (.bin .add (.var 3) (.int 1))))) (.sl (.var 1) (.yes (.bin .add (.var 2) (.int 1))) (.yes (.var 3)))) (.sl (.var 1) (.yes (.var 2)) (.yes (.bin .add (.var 2) (.int 1))))) (.sl (.var 1) (.yes (.bin .add (.var 3) (.int 1))) .no))))] [],
    .ret (.ix (.var 4) (.call nx [.var 0, .b1 .len (.var 4)]))] }
theorem next1 {P : List Def} {i n : Nat} (hP : P[i]? = some dNext) (hn : 1 ≤ n) {L : Int} (hL : 0 < L) (hL2 : L ≤ 1000000) {g : G} (h : GS g) : Rs (runF P n i [stD, .int L] g) (fun v g => ∃ k : Int, v = .int k ∧ 0 ≤ k ∧ k < L ∧ GS g) NoE := by
  obtain ⟨m, rfl⟩ : ∃ m, n = m + 1 := ⟨n - 1, by omega⟩
  exact next_ok hP hL (by omega) h
theorem next_bw {P : List Def} {i n : Nat} (hP : P[i]? = some dNext) (hn : 1 ≤ n) {L : Int} (hL : 0 < L) (hL2 : L ≤ 1000000) {g : G} (h : GS g) {β : Type} {f : D → G → Res β} {w : Tag f} {Q : β → G → Prop} {E : Exc → G → Prop}
    (k : ∀ (j : Int) (g' : G), 0 ≤ j → j < L → GS g' → Rs (f (.int j) g') Q E) : Rs ((runF P n i [stD, .int L] g).bw f w) Q E := by
  rw [Rs_bw]
  refine (next1 hP hn hL hL2 h).mono (fun v g' ⟨j, e, h0, h1, hg⟩ => ?_) fun _ _ h => h.elim
  subst e
  exact k j g' h0 h1 hg
theorem next_rs {P : List Def} {i n : Nat} (hP : P[i]? = some dNext) (hn : 1 ≤ n) {L : Int} (hL : 0 < L) (hL2 : L ≤ 1000000) {g : G} (h : GS g) {Q : D → G → Prop} {E : Exc → G → Prop}
    (k : ∀ (j : Int) (g' : G), 0 ≤ j → j < L → GS g' → Q (.int j) g') : Rs (runF P n i [stD, .int L] g) Q E := by
  refine (next1 hP hn hL hL2 h).mono (fun v g' ⟨j, e, h0, h1, hg⟩ => ?_) fun _ _ h => h.elim
  subst e
  exact k j g' h0 h1 hg
theorem natAbs_of {i : Int} (h : i.natAbs < 2 ^ 200) : (i + 1).natAbs < 2 ^ 250 ∧ (i - 1).natAbs < 2 ^ 250 ∧ (2 * i).natAbs < 2 ^ 250 := by
  have := pow_200_250
  generalize (2 : Nat) ^ 200 = a at *
  generalize (2 : Nat) ^ 250 = b at *
  omega
theorem z_250 {i : Nat} (h : i ≤ 100) : i < 2 ^ 250 := Nat.lt_of_le_of_lt h (by decide +kernel)
section
variable {P : List Def} {nx ch : Nat}
theorem ch_bool (hN : P[nx]? = some dNext) {n : Nat} (hn : 1 ≤ n) {b : Bool} {g : G} (hg : GS g) {Q : D → Prop} (h : ∀ d ∈ [PyData.bool (!b), .int (b2i b)], Q d) :
    Rs (fin (evB (runF P n) (dChanged nx ch).body [some stD, some (.bool b), none, none, none, none, none] g)) (fun d g' => Q d ∧ GS g') NoE := by
  rw [Rs_fin]
  simp [dChanged]
  rw [Rs_bw, Rs_bw, Rs_bw]
  refine next_bw hN hn (by decide) (by decide) hg fun j g' h0 h1 hg' => ?_
  simp only [ixG_L]
  refine pick2 h0 (by simpa using h1) fun x hx => ?_
  simp
  exact ⟨h x hx, hg'⟩
theorem ch_none (hN : P[nx]? = some dNext) {n : Nat} (hn : 1 ≤ n) {g : G} (hg : GS g) {k m : Nat} (hm : 200 ≤ m) :
    Rs (fin (evB (runF P n) (dChanged nx ch).body [some stD, some .none, none, none, none, none, none] g)) (fun d g' => Oz k m d ∧ GS g') NoE := by
  rw [Rs_fin]
  simp [dChanged, noneD, cmp_eq (x := .none) (y := .int 1) ⟨rfl, rfl⟩, bin_mulL, PyData.eqv]
  rw [Rs_bw, Rs_bw, Rs_bw]
  refine next_bw hN hn (by decide) (by decide) hg fun j g' h0 h1 hg' => ?_
  simp only [ixG_L]
  refine pick2 h0 (by simpa using h1) fun x hx => ?_
  simp
  refine ⟨?_, hg'⟩
  simp only [List.mem_cons, List.not_mem_nil, or_false] at hx
  rcases hx with rfl | rfl | rfl | rfl | rfl | rfl | rfl
  · exact .int (by omega) (z_250 (by decide))
  · exact .int (by omega) (z_250 (by decide))
  · exact .int (by omega) (z_250 (by decide))
  · exact .none (by omega)
  · exact .bool (by omega)
  · exact .ofStr (by have : ("None" : String).length = 4 := rfl; omega)
  · exact .int (by omega) (z_250 (by decide))
theorem ch_int (hN : P[nx]? = some dNext) {n : Nat} (hn : 1 ≤ n) {b : Int} (hb : b.natAbs < 2 ^ 200) {g : G} (hg : GS g) {k m : Nat} (hm : 200 ≤ m) :
    Rs (fin (evB (runF P n) (dChanged nx ch).body [some stD, some (.int b), none, none, none, none, none] g)) (fun d g' => Oz k m d ∧ GS g') NoE := by
  rw [Rs_fin]
  have e1 : ∀ c : Int, (if b = 0 then PyData.int c else .int b) = .int (if b = 0 then c else b) := fun c => by split <;> rfl
  have key : Rs (evB (runF P n) (dChanged nx ch).body [some stD, some (.int b), none, none, none, none, none] g) (fun fl g' => ∃ x, fl = .rt x ∧ Oz k m x ∧ GS g') NoE := by
    obtain ⟨a1, a2, a3⟩ := natAbs_of hb
    by_cases h : b = 0
    · subst h
      simp [dChanged, noneD, bin_mulL, b1_strI (i := 0) (by decide)]
      rw [Rs_bw, Rs_bw, Rs_bw]
      refine next_bw hN hn (by decide) (by decide) hg fun j g' h0 h1 hg' => ?_
      simp only [ixG_L]
      refine pick2 h0 (by simpa using h1) fun x hx => ?_
      simp
      refine ⟨?_, hg'⟩
      simp only [List.mem_cons, List.not_mem_nil, or_false] at hx
      rcases hx with rfl | rfl | rfl | rfl | rfl | rfl | rfl
      · exact .int (by omega) (z_250 (by decide))
      · exact .int (by omega) (z_250 (by decide))
      · exact .int (by omega) (z_250 (by decide))
      · exact .none (by omega)
      · exact .bool (by omega)
      · exact .str (by have := text_len hb; simp only [Int.toString_eq_repr] at this; omega) (lay_ofString _)
      · exact .int (by omega) (z_250 (by decide))
    · simp [dChanged, noneD, bin_mulL, b1_strI hb, h]
      rw [Rs_bw, Rs_bw, Rs_bw]
      refine next_bw hN hn (by decide) (by decide) hg fun j g' h0 h1 hg' => ?_
      simp only [ixG_L]
      refine pick2 h0 (by simpa using h1) fun x hx => ?_
      simp
      refine ⟨?_, hg'⟩
      simp only [List.mem_cons, List.not_mem_nil, or_false] at hx
      rcases hx with rfl | rfl | rfl | rfl | rfl | rfl | rfl
      · exact .int (by omega) a1
      · exact .int (by omega) a2
      · exact .int (by omega) (z_250 (by decide))
      · exact .none (by omega)
      · exact .bool (by omega)
      · exact .str (by have := text_len hb; simp only [Int.toString_eq_repr] at this; omega) (lay_ofString _)
      · exact .int (by omega) a3
  exact key.mono (fun fl g' ⟨x, e, h1, h2⟩ => e ▸ ⟨h1, h2⟩) fun _ _ h => h
theorem str_sz {x : Str} {m : Nat} (hx : PyData.canLay0 (.str x) = true) {l : List Nat} (h : ∀ c ∈ l, c ∈ cp x) (hl : l.length ≤ x.length) {k : Nat} (hm : 1 + x.length ≤ m) : Oz k m (.str ⟨l.toArray⟩) :=
  .str (by rw [cp_len, cp_mk]; omega) (lay_str.mpr fun c hc => lay_str.mp hx c (h c (by simpa using hc)))
theorem ch_str (hN : P[nx]? = some dNext) {n : Nat} (hn : 1 ≤ n) {b : Str} (hb : PyData.canLay0 (.str b) = true) {g : G} (hg : GS g) {k m : Nat} (hm : 200 + b.length ≤ m) (hm2 : m ≤ 100000) :
    Rs (fin (evB (runF P n) (dChanged nx ch).body [some stD, some (.str b), none, none, none, none, none] g)) (fun d g' => Oz k m d ∧ GS g') NoE := by
  rw [Rs_fin]
  have la : (Str.ofString "a").length = 1 := by rw [len_ofString]; rfl
  have lb : (Str.ofString "b").length = 1 := by rw [len_ofString]; rfl
  have c1 := cutD_S (lo := some 1) (hi := none) (x := b) (by omega)
  have c2 := cutD_S (lo := none) (hi := some (-1)) (x := b) (by omega)
  have c3 := revD_S (x := b) (by omega)
  have c4 := bin_addS' (x := b) (y := Str.ofString "a") (by omega)
  have c5 := bin_addS' (y := b) (x := Str.ofString "b") (by omega)
  simp [dChanged, noneD, c1, c2, c3, c4, c5]
  rw [Rs_bw, Rs_bw, Rs_bw]
  refine next_bw hN hn (by decide) (by decide) hg fun j g' h0 h1 hg' => ?_
  simp only [ixG_L]
  refine pick2 h0 (by simpa using h1) fun x hx => ?_
  simp
  refine ⟨?_, hg'⟩
  have hb' := lay_str.mp hb
  have lc := cp_len b
  simp only [List.mem_cons, List.not_mem_nil, or_false] at hx
  rcases hx with rfl | rfl | rfl | rfl | rfl | rfl | rfl | rfl | rfl
  · exact str_sz hb (fun c hc => cut_mem hc) (by rw [cp_len]; exact cut_len) (by omega)
  · refine .str (by rw [cp_len, cp_app, List.length_append, ← cp_len, ← cp_len]; omega) (lay_str.mpr fun c hc => ?_)
    rw [cp_app] at hc
    rcases List.mem_append.mp hc with hc | hc
    · exact hb' c hc
    · exact lay_str.mp (lay_ofString "a") c hc
  · exact str_sz hb (fun c hc => by simpa using hc) (by rw [cp_len]; simp) (by omega)
  · refine .str (by rw [cp_len, cp_app, List.length_append, ← cp_len, ← cp_len]; omega) (lay_str.mpr fun c hc => ?_)
    rw [cp_app] at hc
    rcases List.mem_append.mp hc with hc | hc
    · exact lay_str.mp (lay_ofString "b") c hc
    · exact hb' c hc
  · exact .ofStr (by have : ("" : String).length = 0 := rfl; omega)
  · exact str_sz hb (fun c hc => cut_mem hc) (by rw [cp_len]; exact cut_len) (by omega)
  · exact .ofStr (by have : ("left" : String).length = 4 := rfl; omega)
  · exact .int (by omega) (z_250 (by decide))
  · exact .ofStr (by have : ("in" : String).length = 2 := rfl; omega)
end
end PT
namespace PT
open PySem

/-- the last part of _law_changed -/
def chMore : T := .lst [.bin .add (.sl (.var 1) .no (.yes (.var 2))) (.sl (.var 1) (.yes (.bin .add (.var 2) (.int 1))) .no), .bin .add (.var 1) (.sl (.var 1) .no (.yes (.int 1))), .rev (.var 1), .bin .add (.sl (.var 1) (.yes (.var 2)) .no) (.sl (.var 1) .no (.yes (.var 2))), .b1 .list (.var 1), .sl (.var 1) .no (.yes (.var 2)), .tup [], .bin .add (.var 1) (.tup [.int 0])]
def chSwap : T := .lc [6] (.n 6) (.rg1 (.int 3)) .no (.bin .add (.bin .add (.bin .add (.bin .add (.sl (.var 1) .no (.yes (.var 2))) (.sl (.var 1) (.yes (.var 3)) (.yes (.bin .add (.var 3) (.int 1))))) (.sl (.var 1) (.yes (.bin .add (.var 2) (.int 1))) (.yes (.var 3)))) (.sl (.var 1) (.yes (.var 2)) (.yes (.bin .add (.var 2) (.int 1))))) (.sl (.var 1) (.yes (.bin .add (.var 3) (.int 1))) .no))
def chTail (nx : Nat) : List S := [
    .asg 2 (.call nx [.var 0, .bin .add (.b1 .len (.var 1)) (.int 1)]),
    .asg 3 (.call nx [.var 0, .bin .add (.b1 .len (.var 1)) (.int 1)]),
    .asg 4 chMore,
    .iff (.ch2 .lt .lt (.var 2) (.var 3) (.b1 .len (.var 1))) [.asg 4 (.bin .add (.var 4) chSwap)] [],
    .ret (.ix (.var 4) (.call nx [.var 0, .b1 .len (.var 4)]))]
section
variable {P : List Def} {nx ch : Nat} {Φ : Fn} {ds : List D}
/-- parts of a list of parts, put together -/
def Pt (ds : List D) (q : Nat) (xs : List D) : Prop := szL xs ≤ q * szL ds ∧ ∀ x ∈ xs, x ∈ ds
theorem Pt.cut {lo hi : Option Int} : Pt ds 1 (cutL ds lo hi) := ⟨by rw [Nat.one_mul]; exact szL_cut, fun x hx => cut_mem hx⟩
theorem Pt.self : Pt ds 1 ds := ⟨by rw [Nat.one_mul]; exact Nat.le_refl _, fun x hx => hx⟩
theorem Pt.app {q r : Nat} {xs ys : List D} (h : Pt ds q xs) (h' : Pt ds r ys) : Pt ds (q + r) (xs ++ ys) :=
  ⟨by rw [szL_app, Nat.add_mul]; exact Nat.add_le_add h.1 h'.1, fun x hx => (List.mem_append.mp hx).elim (h.2 x) (h'.2 x)⟩
theorem Pt.rev : Pt ds 1 ds.reverse := ⟨by rw [Nat.one_mul, szL_rev]; exact Nat.le_refl _, fun x hx => by simpa using hx⟩
/-- a cut's length, for sums -/
theorem cut_line {lo hi : Option Int} (h : szL ds ≤ 100000) : (cutL ds lo hi).length ≤ 100000 := Nat.le_trans cut_len (Nat.le_trans (szL_len ds) h)
theorem swap_ok {a b : Int} {l z : Option D} {y : Option D} {g : G} (h : szL ds ≤ 100000) :
    evE Φ chSwap [some stD, some (.tuple ds), some (.int a), some (.int b), l, y, z] g = .ok (.list (List.replicate 3 (.tuple (cutL ds none (some a) ++ cutL ds (some b) (some (b + 1)) ++ cutL ds (some (a + 1)) (some b) ++ cutL ds (some a) (some (a + 1)) ++ cutL ds (some (b + 1)) none)))) g := by
  have A := fun lo hi => cut_line (lo := lo) (hi := hi) h
  have h1 := A none (some a)
  have h2 := A (some b) (some (b + 1))
  have h3 := A (some (a + 1)) (some b)
  have h4 := A (some a) (some (a + 1))
  have h5 := A (some (b + 1)) none
  unfold chSwap
  rw [eE_lc]
  simp only [eI_rg1', eE_int, bw_ok, intOf_int, Res.ofO_some]
  rw [if_pos (by decide), show (3 : Int).toNat = 3 from rfl, rgL0_map]
  simp only [bw_ok]
  rw [lc_val (F := fun _ => .tuple (cutL ds none (some a) ++ cutL ds (some b) (some (b + 1)) ++ cutL ds (some (a + 1)) (some b) ++ cutL ds (some a) (some (a + 1)) ++ cutL ds (some (b + 1)) none)) (by simp; exact line_of (by decide))]
  · rfl
  · intro k hk
    have b1 := bin_addT' (xs := cutL ds none (some a)) (ys := cutL ds (some b) (some (b + 1))) (by omega)
    have b2 := bin_addT' (xs := cutL ds none (some a) ++ cutL ds (some b) (some (b + 1))) (ys := cutL ds (some (a + 1)) (some b)) (by rw [List.length_append]; omega)
    have b3 := bin_addT' (xs := cutL ds none (some a) ++ cutL ds (some b) (some (b + 1)) ++ cutL ds (some (a + 1)) (some b)) (ys := cutL ds (some a) (some (a + 1))) (by rw [List.length_append, List.length_append]; omega)
    have b4 := bin_addT' (xs := cutL ds none (some a) ++ cutL ds (some b) (some (b + 1)) ++ cutL ds (some (a + 1)) (some b) ++ cutL ds (some a) (some (a + 1))) (ys := cutL ds (some (b + 1)) none) (by rw [List.length_append, List.length_append, List.length_append]; omega)
    simp only [lcQ, bindT, wipeE, sv_s, sv_z, eC_no, Res.bind_ok, if_true, eE_bin, eE_sl, eE_var, gv_s, gv_z, Res.ofO_some, bw_ok, eP_no, eP_yes, intOf_int, cutD_T, eE_int, bin_add, b1, b2, b3, b4]
theorem eqv_nil {ds : List D} : PyData.eqv (.tuple ds) (.tuple []) = ds.isEmpty := by
  cases ds <;> simp [PyData.eqv, PyData.eqvAll]
theorem tail_run (hN : P[nx]? = some dNext) {n : Nat} (hn : 1 ≤ n) {k S : Nat} (hk : k ≤ 40) (hs : 1 + szL ds ≤ S) (hS : S ≤ 10000) (hd : ∀ d ∈ ds, Od k d) {g : G} (hg : GS g) {x y z u v : Option D} :
    Rs (evB (runF P n) (chTail nx) [some stD, some (.tuple ds), x, y, z, u, v] g) (fun fl g' => ∃ d, fl = .rt d ∧ Oz (k + 1) (6 * S + 200) d ∧ GS g') NoE := by
  have hl := szL_len ds
  have L0 : (0 : Int) < ds.length + 1 := by omega
  have L1 : ((ds.length : Int) + 1) ≤ 1000000 := by omega
  have zt : ∀ {q : Nat} {xs : List D}, Pt ds q xs → q ≤ 5 → Oz (k + 1) (6 * S + 200) (.tuple xs) := fun {q xs} p hq => by
    refine .tup ?_ (by omega) fun d hx => hd d (p.2 d hx)
    have := p.1
    have := Nat.mul_le_mul_right (szL ds) hq
    omega
  unfold chTail
  simp only [eB_cons, eS_asg, eE_call, eL_cons, eL_nil, eE_var, gv_z, gv_s, Res.ofO_some, bw_ok, eE_bin, eE_b1, b1_lenT, eE_int, bin_add]
  simp only [Rs_bw]
  refine next_rs hN hn L0 L1 hg fun a g1 a0 a1 hg1 => ?_
  simp only [Rs_ok, sv_s, sv_z, eB_cons, eS_asg, eE_call, eL_cons, eL_nil, eE_var, gv_z, gv_s, Res.ofO_some, bw_ok, eE_bin, eE_b1, b1_lenT, eE_int, bin_add]
  simp only [Rs_bw]
  refine next_rs hN hn L0 L1 hg1 fun b g2 b0 b1 hg2 => ?_
  have A := fun lo hi => cut_line (ds := ds) (lo := lo) (hi := hi) (by omega)
  have t1 := bin_addT' (xs := cutL ds none (some a)) (ys := cutL ds (some (a + 1)) none) (by have := A none (some a); have := A (some (a + 1)) none; omega)
  have t2 := bin_addT' (xs := ds) (ys := cutL ds none (some 1)) (by have := A none (some 1); omega)
  have t3 := bin_addT' (xs := cutL ds (some a) none) (ys := cutL ds none (some a)) (by have := A (some a) none; have := A none (some a); omega)
  have t4 := bin_addT' (xs := ds) (ys := [.int 0]) (by simp; omega)
  have hm : evE (runF P n) chMore [some stD, some (.tuple ds), some (.int a), some (.int b), z, u, v] g2 = .ok (.list [.tuple (cutL ds none (some a) ++ cutL ds (some (a + 1)) none), .tuple (ds ++ cutL ds none (some 1)), .tuple ds.reverse, .tuple (cutL ds (some a) none ++ cutL ds none (some a)), .list ds, .tuple (cutL ds none (some a)), .tuple [], .tuple (ds ++ [.int 0])]) g2 := by
    simp only [chMore, eE_lst, eL_cons, eL_nil, eE_bin, eE_sl, eE_var, gv_s, gv_z, Res.ofO_some, bw_ok, eP_no, eP_yes, intOf_int, cutD_T, eE_int, bin_add, t1, t2, t3, t4, eE_rev, revD_T, eE_b1, b1_lstT, eE_tup]
  simp only [Rs_ok, sv_s, sv_z, eB_cons, eS_asg, hm, bw_ok]
  have hall : ∀ x ∈ [PyData.tuple (cutL ds none (some a) ++ cutL ds (some (a + 1)) none), .tuple (ds ++ cutL ds none (some 1)), .tuple ds.reverse, .tuple (cutL ds (some a) none ++ cutL ds none (some a)), .list ds, .tuple (cutL ds none (some a)), .tuple [], .tuple (ds ++ [.int 0])], Oz (k + 1) (6 * S + 200) x := by
    intro x hx
    simp only [List.mem_cons, List.not_mem_nil, or_false] at hx
    rcases hx with rfl | rfl | rfl | rfl | rfl | rfl | rfl | rfl
    · exact zt (Pt.cut.app .cut) (by decide)
    · exact zt (Pt.self.app .cut) (by decide)
    · exact zt .rev (by decide)
    · exact zt (Pt.cut.app .cut) (by decide)
    · exact .lst (by omega) (by omega) hd
    · exact zt .cut (by decide)
    · exact .tup (by simp only [szL]; omega) (by omega) (by simp)
    · refine .tup (by rw [szL_app]; simp only [szL, sz]; omega) (by omega) fun d hx => ?_
      rcases List.mem_append.mp hx with hx | hx
      · exact hd d hx
      · rw [List.mem_singleton.mp hx]; exact Od.int (z_250 (by decide))
  have hpick : ∀ (xs : List D), xs.length ≤ 100 → 0 < xs.length → (∀ x ∈ xs, Oz (k + 1) (6 * S + 200) x) → Rs (evB (runF P n) [.ret (.ix (.var 4) (.call nx [.var 0, .b1 .len (.var 4)]))] [some stD, some (.tuple ds), some (.int a), some (.int b), some (.list xs), u, v] g2) (fun fl g' => ∃ d, fl = .rt d ∧ Oz (k + 1) (6 * S + 200) d ∧ GS g') NoE := by
    intro xs h1 h2 h3
    simp only [eB_cons, eS_ret, eE_ix, eE_var, gv_s, gv_z, Res.ofO_some, bw_ok, eE_call, eL_cons, eL_nil, eE_b1, b1_lenL]
    simp only [Rs_bw]
    refine next_rs hN hn (by omega) (by omega) hg2 fun c g3 c0 c1 hg3 => ?_
    simp only [ixG_L]
    refine pick2 c0 c1 fun x hx => ?_
    simp only [Rs_ok]
    exact ⟨x, rfl, h3 x hx, hg3⟩
  simp only [eS_iff, eE_ch2, eE_var, gv_s, gv_z, Res.ofO_some, bw_ok, cmp_lt, tru_bool, eE_b1, b1_lenT, Option.map_some]
  by_cases hab : a < b
  · by_cases hbl : b < (ds.length : Int)
    · simp only [hab, hbl, decide_true, if_true, Res.ofO_some, bw_ok, tru_bool, eB_cons, eS_asg, eE_bin, eE_var, gv_s, gv_z, swap_ok (ds := ds) (a := a) (b := b) (show szL ds ≤ 100000 by omega)]
      rw [bin_addL' (by simp)]
      simp only [Res.ofO_some, bw_ok, sv_s, sv_z, eB_nil]
      refine hpick _ (by simp) (by simp) fun x hx => ?_
      rcases List.mem_append.mp hx with hx | hx
      · exact hall x hx
      · rw [List.eq_of_mem_replicate hx]
        exact zt ((((Pt.cut.app .cut).app .cut).app .cut).app .cut) (by decide)
    · simp only [hab, hbl, decide_true, decide_false, if_true, if_false, Res.ofO_some, bw_ok, tru_bool, Bool.false_eq_true, eB_nil]
      exact hpick _ (by simp) (by simp) hall
  · simp only [hab, decide_false, if_false, Res.ofO_some, bw_ok, tru_bool, Bool.false_eq_true, eB_nil]
    exact hpick _ (by simp) (by simp) hall
end
end PT
namespace PT
open PySem

theorem cut_take {α : Type} {xs : List α} {k : Nat} : cutL xs none (some (k : Int)) = xs.take k := by
  unfold cutL
  rw [HT.sIx_none, HT.sIx_nat, List.drop_zero, Nat.sub_zero]
  by_cases h : k ≤ xs.length
  · rw [Nat.min_eq_left h]
  · rw [Nat.min_eq_right (by omega), List.take_of_length_le (by omega), List.take_of_length_le (by omega)]
theorem cut_drop {α : Type} {xs : List α} {k : Nat} : cutL xs (some (k : Int)) none = xs.drop k := by
  unfold cutL
  rw [HT.sIx_none, HT.sIx_nat]
  by_cases h : k ≤ xs.length
  · rw [Nat.min_eq_left h, List.take_of_length_le (by simp)]
  · rw [Nat.min_eq_right (by omega), List.drop_eq_nil_of_le (Nat.le_refl _), List.drop_eq_nil_of_le (by omega)]; simp
theorem cut_mid {α : Type} {xs : List α} {j k : Nat} : cutL xs (some (j : Int)) (some (k : Int)) = (xs.drop j).take (k - j) := by
  unfold cutL
  rw [HT.sIx_nat, HT.sIx_nat]
  by_cases h : j ≤ xs.length
  · rw [Nat.min_eq_left h]
    by_cases h2 : k ≤ xs.length
    · rw [Nat.min_eq_left h2]
    · rw [Nat.min_eq_right (show xs.length ≤ k by omega), List.take_of_length_le (by simp), List.take_of_length_le (by simp; omega)]
  · rw [Nat.min_eq_right (show xs.length ≤ j by omega), List.drop_eq_nil_of_le (Nat.le_refl _), List.drop_eq_nil_of_le (show xs.length ≤ j by omega)]; simp
theorem split_at {α : Type} {xs : List α} {k : Nat} (h : k < xs.length) : xs = xs.take k ++ xs[k] :: xs.drop (k + 1) := by
  rw [List.getElem_cons_drop, List.take_append_drop]
theorem szL_split {xs : List D} {k : Nat} (h : k < xs.length) : szL xs = szL (xs.take k) + sz xs[k] + szL (xs.drop (k + 1)) := by
  conv => lhs; rw [split_at h]
  rw [szL_app]
  simp only [szL]
  omega
section
variable {P : List Def} {nx ch : Nat} {ds : List D}
theorem ch_body (s : Nat) : (dChanged nx ch).body = (dChanged nx ch).body.take 5 ++ chTail nx := rfl
theorem ch_tup (hN : P[nx]? = some dNext) {n : Nat} (hn : 1 ≤ n) {k S : Nat} (hk : k ≤ 40) (hs : 1 + szL ds ≤ S) (hS : S ≤ 10000) (hd : ∀ d ∈ ds, Od k d) {g : G} (hg : GS g)
    (rec : ∀ x ∈ ds, ∀ g, GS g → Rs (runF P n ch [stD, x] g) (fun d g' => Oz (k + 1) (6 * sz x + 200) d ∧ GS g') NoE) :
    Rs (fin (evB (runF P n) (dChanged nx ch).body [some stD, some (.tuple ds), none, none, none, none, none] g)) (fun d g' => Oz (k + 2) (6 * S + 200) d ∧ GS g') NoE := by
  rw [Rs_fin]
  have hl := szL_len ds
  have ok : okE (.tuple ds) = true := (Od.tup (k := k).mpr ⟨by omega, hd⟩).okE (by omega)
  have hne := cmp_ne (x := .tuple ds) (y := .tuple []) ⟨ok, rfl⟩
  rw [eqv_nil] at hne
  have htail : ∀ (g : G), GS g → Rs (evB (runF P n) (chTail nx) [some stD, some (.tuple ds), none, none, none, none, none] g) (fun fl g' => match fl with
      | .rt v => Oz (k + 2) (6 * S + 200) v ∧ GS g'
      | .nx _ => Oz (k + 2) (6 * S + 200) .none ∧ GS g'
      | .bk _ => False) NoE := fun g hg => (tail_run hN hn hk hs hS hd hg).mono (fun fl g' ⟨d, e, h, hg'⟩ => by subst e; exact ⟨h.mono (Nat.le_succ _) (Nat.le_refl _), hg'⟩) fun _ _ h => h
  rw [show (dChanged nx ch).body = (dChanged nx ch).body.take 5 ++ chTail nx from rfl]
  simp only [dChanged, List.take_succ_cons, List.take_zero, List.cons_append, List.nil_append]
  by_cases h : ds = []
  · subst h
    simp only [eB_cons, eS_iff, eE_isi, eE_var, gv_z, gv_s, Res.ofO_some, bw_ok, isi_t, kB, tgD, kT, Option.map_some, tru_bool, Bool.false_eq_true, if_false, eB_nil, eE_or, eE_isN, noneD, eO_one, eE_and, eA_cons, eE_cmp, eE_tup, eL_nil, hne, if_true, List.isEmpty_nil, Bool.not_true, eE_not]
    exact htail g hg
  · have he : ds.isEmpty = false := by cases ds <;> simp_all
    have hpos : 0 < ds.length := List.length_pos_iff.mpr h
    simp only [eB_cons, eS_iff, eE_isi, eE_var, gv_z, gv_s, Res.ofO_some, bw_ok, isi_t, kB, tgD, kT, Option.map_some, tru_bool, Bool.false_eq_true, if_false, eB_nil, eE_or, eE_isN, noneD, eO_one, eE_and, eA_cons, eE_cmp, eE_tup, eL_nil, hne, if_true, he, Bool.not_false, eA_one, eE_call, eL_cons, eE_int]
    simp only [Rs_bw]
    refine next_rs hN hn (by decide) (by decide) hg fun c g1 c0 c1 hg1 => ?_
    simp only [eE_int, bw_ok, cmp_gt, Option.map_some, Res.ofO_some, Rs_ok, tru_bool]
    by_cases hc : 0 < c
    · simp only [hc, decide_true, if_true, eB_cons, eS_asg, eE_call, eL_cons, eL_nil, eE_var, gv_z, gv_s, Res.ofO_some, bw_ok, eE_b1, b1_lenT]
      simp only [Rs_bw]
      refine next_rs hN hn (by omega) (by omega) hg1 fun a g2 a0 a1 hg2 => ?_
      obtain ⟨a, rfl⟩ := Int.eq_ofNat_of_zero_le a0
      have ha : a < ds.length := by omega
      simp only [Rs_ok, sv_s, sv_z, eS_ret, eE_bin, eE_sl, eE_var, gv_z, gv_s, Res.ofO_some, bw_ok, eP_no, eP_yes, intOf_int, cutD_T, eE_tup, eL_cons, eE_call, eE_ix, ixT_nat ha, eL_nil, eE_int, bin_add, eB_cons]
      simp only [Rs_bw]
      refine (rec ds[a] (List.getElem_mem ha) g2 hg2).mono (fun r g3 ⟨hr, hg3⟩ => ?_) fun _ _ h => h
      have e1 : ((a : Int) + 1) = ((a + 1 : Nat) : Int) := by omega
      have A := fun lo hi => cut_line (ds := ds) (lo := lo) (hi := hi) (by omega)
      have t1 := bin_addT' (xs := ds.take a) (ys := [r]) (by have := List.length_take_le a ds; simp; omega)
      have t2 := bin_addT' (xs := ds.take a ++ [r]) (ys := ds.drop (a + 1)) (by have := List.length_take_le a ds; simp; omega)
      simp only [eB_cons, eB_nil, eS_asg, eS_iff, eS_ret, eS_ex, eS_rai, eS_aug, eS_par, eS_unp, eS_app, eS_ext, eS_asgO, eS_six, eS_brk, eE_var, eE_own, eE_int, eE_bl, eE_non, eE_str, eE_glob, eE_bin, eE_neg, eE_not, eE_and, eE_or, eE_cmp, eE_ch2, eE_isN, eE_isNN, eE_isNT, eE_ife, eE_tup, eE_lst, eE_dct0, eE_ix, eE_sl, eE_rev, eE_call, eE_b1, eE_b2, eE_isi, eE_join, eL_nil, eL_cons, eA_nil, eA_one, eA_cons, eO_nil, eO_one, eO_cons, eP_no, eP_yes, eC_no, eC_yes, eI_seq, gv_z, gv_s, sv_z, sv_s, bw_ok, bw_exc, Res.ofO_some, Option.map_some, tru_bool, tru_none, intOf_int, noneD, kB, tgD, kT, isi_n, isi_b, isi_i, isi_s, isi_t, isi_l, cutD_T, cutD_L, revD_T, revD_L, bin_add, bin_sub, cmp_lt, cmp_le, cmp_gt, cmp_ge, cmp_eqI, cmp_neI, b1_lenL, b1_lenT, b1_tupL, b1_tupT, b1_lstL, b1_lstT, b1_int, Bool.false_eq_true, if_false, if_true, Bool.not_true, Bool.not_false, decide_true, decide_false, Rs_ok, Rs_exc, lstG, lstD, bindTs, bindT, svAll, wipeE, Option.bind_some, fin_rt, fin_nx, fin_exc, e1, cut_take, cut_drop, t1, t2]
      refine ⟨?_, hg3⟩
      have sp := szL_split ha
      have hr2 := hr.2
      refine .tup (by rw [szL_app, szL_app]; simp only [szL]; omega) (by omega) fun d hx => ?_
      simp only [List.append_assoc, List.cons_append, List.nil_append, List.mem_append, List.mem_cons] at hx
      rcases hx with hx | rfl | hx
      · exact (hd d (List.mem_of_mem_take hx)).mono (Nat.le_succ _)
      · exact hr.1
      · exact (hd d (List.mem_of_mem_drop hx)).mono (Nat.le_succ _)
    · simp only [hc, decide_false, Bool.false_eq_true, if_false, eB_nil, Rs_ok, eB_cons, eS_iff, eE_not, eE_isi, eE_var, gv_z, gv_s, Res.ofO_some, bw_ok, isi_t, kB, tgD, kT, Option.map_some, tru_bool, Bool.not_true]
      exact htail g1 hg1
theorem changed_ok (hN : P[nx]? = some dNext) (hC : P[ch]? = some (dChanged nx ch)) : ∀ (k n : Nat), k + 2 ≤ n → k ≤ 40 → ∀ (v : D) (g : G), Nq k v → sz v ≤ 10000 → GS g → Rs (runF P n ch [stD, v] g) (fun d g' => Oz (k + 1) (6 * sz v + 200) d ∧ GS g') NoE
  | k, 0, hn, _, _, _, _, _, _ => absurd hn (by omega)
  | k, n + 1, hn, hk, v, g, hv, hs, hg => by
    rw [run_def hC rfl]
    show Rs (fin (evB (runF P n) (dChanged nx ch).body [some stD, some v, none, none, none, none, none] g)) _ _
    cases v with
    | none => exact ch_none hN (by omega) hg (by omega)
    | bool b =>
      refine ch_bool hN (by omega) hg fun d hd => ?_
      simp only [List.mem_cons, List.not_mem_nil, or_false] at hd
      rcases hd with rfl | rfl
      · exact .bool (by omega)
      · exact .int (by omega) (z_250 (by cases b <;> decide))
    | int i => exact ch_int hN (by omega) (by simpa [PT.tq] using hv.tq) hg (by omega)
    | str x => exact ch_str hN (by omega) hv.lay hg (by simp only [sz]; omega) (by simp only [sz] at hs ⊢; omega)
    | list xs => have := hv.tq; simp [PT.tq] at this
    | dict xs => have := hv.tq; simp [PT.tq] at this
    | tuple ds =>
      cases k with
      | zero => exact hv.tup0.elim
      | succ k =>
        have hm := Nq.tup.mp hv
        simp only [sz] at hs
        have hsz : ∀ x ∈ ds, sz x ≤ 10000 := fun x hx => by have := szL_mem hx; omega
        exact ch_tup hN (by omega) (k := k) (by omega) (Nat.le_refl _) hs (fun d hd => (hm d hd).od (by have := hsz d hd; omega)) hg fun x hx g hg => changed_ok hN hC k n (by omega) (by omega) x g (hm x hx) (hsz x hx) hg
end
end PT
namespace PT
open PySem

/-- a for loop by an invariant of what is left -/
theorem fr_rs {α : Type} {f : Env → D → G → Res Fl} {e : α → D} {I : List α → Env → G → Prop} {R : Fl → G → Prop} {E : Exc → G → Prop}
    (step : ∀ a l ρ g, I (a :: l) ρ g → Rs (f ρ (e a) g) (fun fl g' => match fl with
      | .nx ρ' => I l ρ' g'
      | .rt d => R (.rt d) g'
      | .bk ρ' => R (.nx ρ') g') E)
    (fin : ∀ ρ g, I [] ρ g → R (.nx ρ) g) : ∀ (l : List α) (ρ : Env) (g : G), I l ρ g → Rs (frGo f (l.map e) ρ g) R E
  | [], ρ, g, h => by
    rw [List.map_nil, frGo_nil]
    exact fin ρ g h
  | a :: l, ρ, g, h => by
    rw [List.map_cons, frGo_cons, Rs_bw]
    refine (step a l ρ g h).mono (fun fl g' hq => ?_) fun _ _ h => h
    cases fl with
    | nx ρ' => exact fr_rs step fin l ρ' g' hq
    | rt d => exact hq
    | bk ρ' => exact hq
/-- the same where nothing is drawn and nothing ends the loop -/
theorem fr_eq {α : Type} {f : Env → D → G → Res Fl} {e : α → D} {g : G} {I : List α → Env → Prop} (step : ∀ a l ρ, I (a :: l) ρ → ∃ ρ', f ρ (e a) g = .ok (.nx ρ') g ∧ I l ρ') : ∀ (l : List α) (ρ : Env), I l ρ → ∃ ρ', frGo f (l.map e) ρ g = .ok (.nx ρ') g ∧ I [] ρ'
  | [], ρ, h => ⟨ρ, rfl, h⟩
  | a :: l, ρ, h => by
    obtain ⟨ρ1, e1, h1⟩ := step a l ρ h
    obtain ⟨ρ2, e2, h2⟩ := fr_eq step l ρ1 h1
    refine ⟨ρ2, ?_, h2⟩
    rw [List.map_cons, frGo_cons, e1]
    exact e2
theorem map_id' {xs : List D} : xs.map (fun x => x) = xs := List.map_id' xs

def dInts (it : Nat) : Def := { name := "_law_ints", ps := 1, ns := ["value", "found", "part", "number"], mu := [], fr := false, body := [
    .iff (.or (.isi .bool (.var 0)) [.not (.isi .intTuple (.var 0))]) [.ret (.lst [])] [],
    .iff (.isi .int (.var 0)) [.ret (.lst [.var 0])] [],
    .asg 1 (.lst []),
    .fr (.n 2) (.seq (.var 0)) [.asg 1 (.bin .add (.var 1) (.lc [3] (.n 3) (.seq (.call it [.var 2])) (.yes (.cmp .notin (.var 3) (.var 1))) (.var 3)))],
    .ret (.var 1)] }
def small (i : Int) : Prop := i.natAbs < 2 ^ 200
section
variable {P : List Def} {it ex : Nat}
theorem mkL_app {r r' : List Int} : mkL r = .list (r.map .int) := rfl
theorem not_in (r r' : List Int) : (r.filter fun i => !decide (i ∈ r')).map PyData.int = (r.filter fun i => !decide (i ∈ r')).map PyData.int := rfl
theorem ints_lc {Φ : Fn} {x : D} {g : G} {r r' : List Int} {y : Option D} (h : Φ it [x] g = .ok (mkL r) g) (hl : r.length ≤ 100000) {v : Option D} :
    evE Φ (.lc [3] (.n 3) (.seq (.call it [.var 2])) (.yes (.cmp .notin (.var 3) (.var 1))) (.var 3)) [v, some (mkL r'), some x, y] g = .ok (mkL (r.filter fun i => !decide (i ∈ r'))) g := by
  rw [eE_lc]
  simp only [eB_cons, eB_nil, eS_asg, eS_iff, eS_ret, eS_ex, eS_rai, eS_aug, eS_par, eS_unp, eS_app, eS_ext, eS_asgO, eS_six, eS_brk, eE_var, eE_own, eE_int, eE_bl, eE_non, eE_str, eE_glob, eE_bin, eE_neg, eE_not, eE_and, eE_or, eE_cmp, eE_ch2, eE_isN, eE_isNN, eE_isNT, eE_ife, eE_tup, eE_lst, eE_dct0, eE_ix, eE_sl, eE_rev, eE_call, eE_b1, eE_b2, eE_isi, eE_join, eL_nil, eL_cons, eA_nil, eA_one, eA_cons, eO_nil, eO_one, eO_cons, eP_no, eP_yes, eC_no, eC_yes, eI_seq, gv_z, gv_s, sv_z, sv_s, bw_ok, bw_exc, Res.ofO_some, Option.map_some, tru_bool, tru_none, intOf_int, noneD, kB, tgD, kT, isi_n, isi_b, isi_i, isi_s, isi_t, isi_l, cutD_T, cutD_L, revD_T, revD_L, bin_add, bin_sub, cmp_lt, cmp_le, cmp_gt, cmp_ge, cmp_eqI, cmp_neI, b1_lenL, b1_lenT, b1_tupL, b1_tupT, b1_lstL, b1_lstT, b1_int, Bool.false_eq_true, if_false, if_true, Bool.not_true, Bool.not_false, decide_true, decide_false, Rs_ok, Rs_exc, lstG, lstD, bindTs, bindT, svAll, wipeE, Option.bind_some, fin_rt, fin_nx, fin_exc, h, itemsD_mkL]
  rw [lc_if (fun i => !decide (i ∈ r')) PyData.int (line_of (by omega))]
  · rfl
  · intro i _
    by_cases hi : i ∈ r'
    · simp only [lcQ_eq, wipeE, eB_cons, eB_nil, eS_asg, eS_iff, eS_ret, eS_ex, eS_rai, eS_aug, eS_par, eS_unp, eS_app, eS_ext, eS_asgO, eS_six, eS_brk, eE_var, eE_own, eE_int, eE_bl, eE_non, eE_str, eE_glob, eE_bin, eE_neg, eE_not, eE_and, eE_or, eE_cmp, eE_ch2, eE_isN, eE_isNN, eE_isNT, eE_ife, eE_tup, eE_lst, eE_dct0, eE_ix, eE_sl, eE_rev, eE_call, eE_b1, eE_b2, eE_isi, eE_join, eL_nil, eL_cons, eA_nil, eA_one, eA_cons, eO_nil, eO_one, eO_cons, eP_no, eP_yes, eC_no, eC_yes, eI_seq, gv_z, gv_s, sv_z, sv_s, bw_ok, bw_exc, Res.ofO_some, Option.map_some, tru_bool, tru_none, intOf_int, noneD, kB, tgD, kT, isi_n, isi_b, isi_i, isi_s, isi_t, isi_l, cutD_T, cutD_L, revD_T, revD_L, bin_add, bin_sub, cmp_lt, cmp_le, cmp_gt, cmp_ge, cmp_eqI, cmp_neI, b1_lenL, b1_lenT, b1_tupL, b1_tupT, b1_lstL, b1_lstT, b1_int, Bool.false_eq_true, if_false, if_true, Bool.not_true, Bool.not_false, decide_true, decide_false, Rs_ok, Rs_exc, lstG, lstD, bindTs, bindT, svAll, wipeE, Option.bind_some, fin_rt, fin_nx, fin_exc, cmp_notin, in_mkL, hi]
    · simp only [lcQ_eq, wipeE, eB_cons, eB_nil, eS_asg, eS_iff, eS_ret, eS_ex, eS_rai, eS_aug, eS_par, eS_unp, eS_app, eS_ext, eS_asgO, eS_six, eS_brk, eE_var, eE_own, eE_int, eE_bl, eE_non, eE_str, eE_glob, eE_bin, eE_neg, eE_not, eE_and, eE_or, eE_cmp, eE_ch2, eE_isN, eE_isNN, eE_isNT, eE_ife, eE_tup, eE_lst, eE_dct0, eE_ix, eE_sl, eE_rev, eE_call, eE_b1, eE_b2, eE_isi, eE_join, eL_nil, eL_cons, eA_nil, eA_one, eA_cons, eO_nil, eO_one, eO_cons, eP_no, eP_yes, eC_no, eC_yes, eI_seq, gv_z, gv_s, sv_z, sv_s, bw_ok, bw_exc, Res.ofO_some, Option.map_some, tru_bool, tru_none, intOf_int, noneD, kB, tgD, kT, isi_n, isi_b, isi_i, isi_s, isi_t, isi_l, cutD_T, cutD_L, revD_T, revD_L, bin_add, bin_sub, cmp_lt, cmp_le, cmp_gt, cmp_ge, cmp_eqI, cmp_neI, b1_lenL, b1_lenT, b1_tupL, b1_tupT, b1_lstL, b1_lstT, b1_int, Bool.false_eq_true, if_false, if_true, Bool.not_true, Bool.not_false, decide_true, decide_false, Rs_ok, Rs_exc, lstG, lstD, bindTs, bindT, svAll, wipeE, Option.bind_some, fin_rt, fin_nx, fin_exc, cmp_notin, in_mkL, hi]
theorem ints_ok (hI : P[it]? = some (dInts it)) : ∀ (k n : Nat), k + 1 ≤ n → ∀ (v : D), Nq k v → sz v ≤ 10000 → ∃ r : List Int, (∀ g, runF P n it [v] g = .ok (mkL r) g) ∧ r.length ≤ sz v ∧ ∀ i ∈ r, small i
  | k, 0, hn, _, _, _ => absurd hn (by omega)
  | k, n + 1, hn, v, hv, hs => by
    have run : ∀ g, runF P (n + 1) it [v] g = fin (evB (runF P n) (dInts it).body [some v, none, none, none] g) := fun g => by rw [run_def hI rfl]; rfl
    have nil : ∀ d, v = d → (∀ g, evB (runF P n) (dInts it).body [some d, none, none, none] g = .ok (.rt (.list [])) g) → ∃ r : List Int, (∀ g, runF P (n + 1) it [v] g = .ok (mkL r) g) ∧ r.length ≤ sz v ∧ ∀ i ∈ r, small i := fun d e h => ⟨[], fun g => by rw [run, e, h]; rfl, by simp, by simp⟩
    cases v with
    | none => exact nil _ rfl fun g => by simp only [dInts, eB_cons, eB_nil, eS_asg, eS_iff, eS_ret, eS_ex, eS_rai, eS_aug, eS_par, eS_unp, eS_app, eS_ext, eS_asgO, eS_six, eS_brk, eE_var, eE_own, eE_int, eE_bl, eE_non, eE_str, eE_glob, eE_bin, eE_neg, eE_not, eE_and, eE_or, eE_cmp, eE_ch2, eE_isN, eE_isNN, eE_isNT, eE_ife, eE_tup, eE_lst, eE_dct0, eE_ix, eE_sl, eE_rev, eE_call, eE_b1, eE_b2, eE_isi, eE_join, eL_nil, eL_cons, eA_nil, eA_one, eA_cons, eO_nil, eO_one, eO_cons, eP_no, eP_yes, eC_no, eC_yes, eI_seq, gv_z, gv_s, sv_z, sv_s, bw_ok, bw_exc, Res.ofO_some, Option.map_some, tru_bool, tru_none, intOf_int, noneD, kB, tgD, kT, isi_n, isi_b, isi_i, isi_s, isi_t, isi_l, cutD_T, cutD_L, revD_T, revD_L, bin_add, bin_sub, cmp_lt, cmp_le, cmp_gt, cmp_ge, cmp_eqI, cmp_neI, b1_lenL, b1_lenT, b1_tupL, b1_tupT, b1_lstL, b1_lstT, b1_int, Bool.false_eq_true, if_false, if_true, Bool.not_true, Bool.not_false, decide_true, decide_false, Rs_ok, Rs_exc, lstG, lstD, bindTs, bindT, svAll, wipeE, Option.bind_some, fin_rt, fin_nx, fin_exc]
    | bool b => exact nil _ rfl fun g => by simp only [dInts, eB_cons, eB_nil, eS_asg, eS_iff, eS_ret, eS_ex, eS_rai, eS_aug, eS_par, eS_unp, eS_app, eS_ext, eS_asgO, eS_six, eS_brk, eE_var, eE_own, eE_int, eE_bl, eE_non, eE_str, eE_glob, eE_bin, eE_neg, eE_not, eE_and, eE_or, eE_cmp, eE_ch2, eE_isN, eE_isNN, eE_isNT, eE_ife, eE_tup, eE_lst, eE_dct0, eE_ix, eE_sl, eE_rev, eE_call, eE_b1, eE_b2, eE_isi, eE_join, eL_nil, eL_cons, eA_nil, eA_one, eA_cons, eO_nil, eO_one, eO_cons, eP_no, eP_yes, eC_no, eC_yes, eI_seq, gv_z, gv_s, sv_z, sv_s, bw_ok, bw_exc, Res.ofO_some, Option.map_some, tru_bool, tru_none, intOf_int, noneD, kB, tgD, kT, isi_n, isi_b, isi_i, isi_s, isi_t, isi_l, cutD_T, cutD_L, revD_T, revD_L, bin_add, bin_sub, cmp_lt, cmp_le, cmp_gt, cmp_ge, cmp_eqI, cmp_neI, b1_lenL, b1_lenT, b1_tupL, b1_tupT, b1_lstL, b1_lstT, b1_int, Bool.false_eq_true, if_false, if_true, Bool.not_true, Bool.not_false, decide_true, decide_false, Rs_ok, Rs_exc, lstG, lstD, bindTs, bindT, svAll, wipeE, Option.bind_some, fin_rt, fin_nx, fin_exc]
    | str x => exact nil _ rfl fun g => by simp only [dInts, eB_cons, eB_nil, eS_asg, eS_iff, eS_ret, eS_ex, eS_rai, eS_aug, eS_par, eS_unp, eS_app, eS_ext, eS_asgO, eS_six, eS_brk, eE_var, eE_own, eE_int, eE_bl, eE_non, eE_str, eE_glob, eE_bin, eE_neg, eE_not, eE_and, eE_or, eE_cmp, eE_ch2, eE_isN, eE_isNN, eE_isNT, eE_ife, eE_tup, eE_lst, eE_dct0, eE_ix, eE_sl, eE_rev, eE_call, eE_b1, eE_b2, eE_isi, eE_join, eL_nil, eL_cons, eA_nil, eA_one, eA_cons, eO_nil, eO_one, eO_cons, eP_no, eP_yes, eC_no, eC_yes, eI_seq, gv_z, gv_s, sv_z, sv_s, bw_ok, bw_exc, Res.ofO_some, Option.map_some, tru_bool, tru_none, intOf_int, noneD, kB, tgD, kT, isi_n, isi_b, isi_i, isi_s, isi_t, isi_l, cutD_T, cutD_L, revD_T, revD_L, bin_add, bin_sub, cmp_lt, cmp_le, cmp_gt, cmp_ge, cmp_eqI, cmp_neI, b1_lenL, b1_lenT, b1_tupL, b1_tupT, b1_lstL, b1_lstT, b1_int, Bool.false_eq_true, if_false, if_true, Bool.not_true, Bool.not_false, decide_true, decide_false, Rs_ok, Rs_exc, lstG, lstD, bindTs, bindT, svAll, wipeE, Option.bind_some, fin_rt, fin_nx, fin_exc]
    | list xs => have := hv.tq; simp [PT.tq] at this
    | dict xs => have := hv.tq; simp [PT.tq] at this
    | int i => exact ⟨[i], fun g => by rw [run]; simp only [dInts, eB_cons, eB_nil, eS_asg, eS_iff, eS_ret, eS_ex, eS_rai, eS_aug, eS_par, eS_unp, eS_app, eS_ext, eS_asgO, eS_six, eS_brk, eE_var, eE_own, eE_int, eE_bl, eE_non, eE_str, eE_glob, eE_bin, eE_neg, eE_not, eE_and, eE_or, eE_cmp, eE_ch2, eE_isN, eE_isNN, eE_isNT, eE_ife, eE_tup, eE_lst, eE_dct0, eE_ix, eE_sl, eE_rev, eE_call, eE_b1, eE_b2, eE_isi, eE_join, eL_nil, eL_cons, eA_nil, eA_one, eA_cons, eO_nil, eO_one, eO_cons, eP_no, eP_yes, eC_no, eC_yes, eI_seq, gv_z, gv_s, sv_z, sv_s, bw_ok, bw_exc, Res.ofO_some, Option.map_some, tru_bool, tru_none, intOf_int, noneD, kB, tgD, kT, isi_n, isi_b, isi_i, isi_s, isi_t, isi_l, cutD_T, cutD_L, revD_T, revD_L, bin_add, bin_sub, cmp_lt, cmp_le, cmp_gt, cmp_ge, cmp_eqI, cmp_neI, b1_lenL, b1_lenT, b1_tupL, b1_tupT, b1_lstL, b1_lstT, b1_int, Bool.false_eq_true, if_false, if_true, Bool.not_true, Bool.not_false, decide_true, decide_false, Rs_ok, Rs_exc, lstG, lstD, bindTs, bindT, svAll, wipeE, Option.bind_some, fin_rt, fin_nx, fin_exc]; rfl, by simp [sz], by simpa [small, PT.tq] using hv.tq⟩
    | tuple ds =>
      cases k with
      | zero => exact hv.tup0.elim
      | succ k =>
        have hm := Nq.tup.mp hv
        simp only [sz] at hs ⊢
        have hsz : ∀ x ∈ ds, sz x ≤ 10000 := fun x hx => by have := szL_mem hx; omega
        have hrec := fun x (hx : x ∈ ds) => ints_ok hI k n (by omega) x (hm x hx) (hsz x hx)
        -- the loop
        have key : ∃ r : List Int, r.length ≤ szL ds ∧ (∀ i ∈ r, small i) ∧ ∀ g, ∃ ρ', frGo (frF (runF P n) (.n 2) [.asg 1 (.bin .add (.var 1) (.lc [3] (.n 3) (.seq (.call it [.var 2])) (.yes (.cmp .notin (.var 3) (.var 1))) (.var 3)))]) ds [some (.tuple ds), some (.list []), none, none] g = .ok (.nx ρ') g ∧ gv ρ' 1 = some (mkL r) := by
          have gen : ∀ (l : List D) (r0 : List Int) (y z : Option D), (∀ x ∈ l, x ∈ ds) → r0.length + szL l ≤ szL ds → (∀ i ∈ r0, small i) → ∃ r : List Int, r.length ≤ szL ds ∧ (∀ i ∈ r, small i) ∧ ∀ g, ∃ ρ', frGo (frF (runF P n) (.n 2) [.asg 1 (.bin .add (.var 1) (.lc [3] (.n 3) (.seq (.call it [.var 2])) (.yes (.cmp .notin (.var 3) (.var 1))) (.var 3)))]) l [some (.tuple ds), some (mkL r0), y, z] g = .ok (.nx ρ') g ∧ gv ρ' 1 = some (mkL r) := by
            intro l
            induction l with
            | nil => exact fun r0 y z _ h1 h2 => ⟨r0, by simp only [szL] at h1; omega, h2, fun g => ⟨_, rfl, rfl⟩⟩
            | cons x l ih =>
              intro r0 y z hx h1 h2
              obtain ⟨r, a1, a2, a3⟩ := hrec x (hx x (List.mem_cons_self ..))
              simp only [szL] at h1
              have hf : (r.filter fun i => !decide (i ∈ r0)).length ≤ r.length := List.length_filter_le _ _
              obtain ⟨r', b1, b2, b3⟩ := ih (r0 ++ r.filter fun i => !decide (i ∈ r0)) (some x) z (fun x' h => hx x' (List.mem_cons_of_mem _ h)) (by rw [List.length_append]; omega) (fun i hi => by
                rcases List.mem_append.mp hi with hi | hi
                · exact h2 i hi
                · exact a3 i (List.mem_filter.mp hi).1)
              refine ⟨r', b1, b2, fun g => ?_⟩
              obtain ⟨ρ', c1, c2⟩ := b3 g
              refine ⟨ρ', ?_, c2⟩
              rw [frGo_cons]
              have e1 := ints_lc (it := it) (Φ := runF P n) (x := x) (g := g) (r := r) (r' := r0) (y := z) (v := some (.tuple ds)) (a1 g) (by omega)
              have e2 : binD .add (mkL r0) (mkL (r.filter fun i => !decide (i ∈ r0))) = some (mkL (r0 ++ r.filter fun i => !decide (i ∈ r0))) := by
                unfold mkL
                rw [bin_addL' (by simp only [List.length_map]; omega), List.map_append]
              simp only [frF_n, eB_cons, eB_nil, eS_asg, eS_iff, eS_ret, eS_ex, eS_rai, eS_aug, eS_par, eS_unp, eS_app, eS_ext, eS_asgO, eS_six, eS_brk, eE_var, eE_own, eE_int, eE_bl, eE_non, eE_str, eE_glob, eE_bin, eE_neg, eE_not, eE_and, eE_or, eE_cmp, eE_ch2, eE_isN, eE_isNN, eE_isNT, eE_ife, eE_tup, eE_lst, eE_dct0, eE_ix, eE_sl, eE_rev, eE_call, eE_b1, eE_b2, eE_isi, eE_join, eL_nil, eL_cons, eA_nil, eA_one, eA_cons, eO_nil, eO_one, eO_cons, eP_no, eP_yes, eC_no, eC_yes, eI_seq, gv_z, gv_s, sv_z, sv_s, bw_ok, bw_exc, Res.ofO_some, Option.map_some, tru_bool, tru_none, intOf_int, noneD, kB, tgD, kT, isi_n, isi_b, isi_i, isi_s, isi_t, isi_l, cutD_T, cutD_L, revD_T, revD_L, bin_add, bin_sub, cmp_lt, cmp_le, cmp_gt, cmp_ge, cmp_eqI, cmp_neI, b1_lenL, b1_lenT, b1_tupL, b1_tupT, b1_lstL, b1_lstT, b1_int, Bool.false_eq_true, if_false, if_true, Bool.not_true, Bool.not_false, decide_true, decide_false, Rs_ok, Rs_exc, lstG, lstD, bindTs, bindT, svAll, wipeE, Option.bind_some, fin_rt, fin_nx, fin_exc, e1, e2]
              exact c1
          exact gen ds [] none none (fun x h => h) (by simp) (by simp)
        obtain ⟨r, h1, h2, h3⟩ := key
        refine ⟨r, fun g => ?_, by omega, h2⟩
        obtain ⟨ρ', c1, c2⟩ := h3 g
        rw [run]
        simp only [dInts, eB_cons, eB_nil, eS_asg, eS_iff, eS_ret, eS_ex, eS_rai, eS_aug, eS_par, eS_unp, eS_app, eS_ext, eS_asgO, eS_six, eS_brk, eE_var, eE_own, eE_int, eE_bl, eE_non, eE_str, eE_glob, eE_bin, eE_neg, eE_not, eE_and, eE_or, eE_cmp, eE_ch2, eE_isN, eE_isNN, eE_isNT, eE_ife, eE_tup, eE_lst, eE_dct0, eE_ix, eE_sl, eE_rev, eE_call, eE_b1, eE_b2, eE_isi, eE_join, eL_nil, eL_cons, eA_nil, eA_one, eA_cons, eO_nil, eO_one, eO_cons, eP_no, eP_yes, eC_no, eC_yes, eI_seq, gv_z, gv_s, sv_z, sv_s, bw_ok, bw_exc, Res.ofO_some, Option.map_some, tru_bool, tru_none, intOf_int, noneD, kB, tgD, kT, isi_n, isi_b, isi_i, isi_s, isi_t, isi_l, cutD_T, cutD_L, revD_T, revD_L, bin_add, bin_sub, cmp_lt, cmp_le, cmp_gt, cmp_ge, cmp_eqI, cmp_neI, b1_lenL, b1_lenT, b1_tupL, b1_tupT, b1_lstL, b1_lstT, b1_int, Bool.false_eq_true, if_false, if_true, Bool.not_true, Bool.not_false, decide_true, decide_false, Rs_ok, Rs_exc, lstG, lstD, bindTs, bindT, svAll, wipeE, Option.bind_some, fin_rt, fin_nx, fin_exc, eS_fr, itemsD_T, c1, c2]
/-- the numbers exchanged -/
def exI (a b i : Int) : Int := if i = a then b else if i = b then a else i
mutual
def exD (a b : Int) : D → D
  | .int i => .int (exI a b i)
  | .tuple ds => .tuple (exL a b ds)
  | .none => .none
  | .bool x => .bool x
  | .str x => .str x
  | .list xs => .list xs
  | .dict xs => .dict xs
def exL (a b : Int) : List D → List D
  | [] => []
  | d :: ds => exD a b d :: exL a b ds
end
theorem exL_map {a b : Int} : ∀ ds : List D, exL a b ds = ds.map (exD a b)
  | [] => rfl
  | d :: ds => by rw [List.map_cons, ← exL_map ds]; rfl
def dExch (ex : Nat) : Def := { name := "_law_exchanged", ps := 3, ns := ["value", "one", "other", "part"], mu := [], fr := false, body := [
    .iff (.or (.isi .bool (.var 0)) [.not (.isi .intTuple (.var 0))]) [.ret (.var 0)] [],
    .iff (.isi .int (.var 0)) [.ret (.ife (.cmp .eq (.var 0) (.var 1)) (.var 2) (.ife (.cmp .eq (.var 0) (.var 2)) (.var 1) (.var 0)))] [],
    .ret (.b1 .tuple (.lc [3] (.n 3) (.seq (.var 0)) .no (.call ex [.var 3, .var 1, .var 2])))] }
theorem exch_run (hX : P[ex]? = some (dExch ex)) {a b : Int} : ∀ (k n : Nat), k + 1 ≤ n → ∀ (v : D) (g : G), Nq k v → sz v ≤ 10000 → runF P n ex [v, .int a, .int b] g = .ok (exD a b v) g
  | k, 0, hn, _, _, _, _ => absurd hn (by omega)
  | k, n + 1, hn, v, g, hv, hs => by
    rw [run_def hX rfl]
    show fin (evB (runF P n) (dExch ex).body [some v, some (.int a), some (.int b), none] g) = _
    cases v with
    | none => simp only [dExch, eB_cons, eB_nil, eS_asg, eS_iff, eS_ret, eS_ex, eS_rai, eS_aug, eS_par, eS_unp, eS_app, eS_ext, eS_asgO, eS_six, eS_brk, eE_var, eE_own, eE_int, eE_bl, eE_non, eE_str, eE_glob, eE_bin, eE_neg, eE_not, eE_and, eE_or, eE_cmp, eE_ch2, eE_isN, eE_isNN, eE_isNT, eE_ife, eE_tup, eE_lst, eE_dct0, eE_ix, eE_sl, eE_rev, eE_call, eE_b1, eE_b2, eE_isi, eE_join, eL_nil, eL_cons, eA_nil, eA_one, eA_cons, eO_nil, eO_one, eO_cons, eP_no, eP_yes, eC_no, eC_yes, eI_seq, gv_z, gv_s, sv_z, sv_s, bw_ok, bw_exc, Res.ofO_some, Option.map_some, tru_bool, tru_none, intOf_int, noneD, kB, tgD, kT, isi_n, isi_b, isi_i, isi_s, isi_t, isi_l, cutD_T, cutD_L, revD_T, revD_L, bin_add, bin_sub, cmp_lt, cmp_le, cmp_gt, cmp_ge, cmp_eqI, cmp_neI, b1_lenL, b1_lenT, b1_tupL, b1_tupT, b1_lstL, b1_lstT, b1_int, Bool.false_eq_true, if_false, if_true, Bool.not_true, Bool.not_false, decide_true, decide_false, Rs_ok, Rs_exc, lstG, lstD, bindTs, bindT, svAll, wipeE, Option.bind_some, fin_rt, fin_nx, fin_exc, exD]
    | bool _ => simp only [dExch, eB_cons, eB_nil, eS_asg, eS_iff, eS_ret, eS_ex, eS_rai, eS_aug, eS_par, eS_unp, eS_app, eS_ext, eS_asgO, eS_six, eS_brk, eE_var, eE_own, eE_int, eE_bl, eE_non, eE_str, eE_glob, eE_bin, eE_neg, eE_not, eE_and, eE_or, eE_cmp, eE_ch2, eE_isN, eE_isNN, eE_isNT, eE_ife, eE_tup, eE_lst, eE_dct0, eE_ix, eE_sl, eE_rev, eE_call, eE_b1, eE_b2, eE_isi, eE_join, eL_nil, eL_cons, eA_nil, eA_one, eA_cons, eO_nil, eO_one, eO_cons, eP_no, eP_yes, eC_no, eC_yes, eI_seq, gv_z, gv_s, sv_z, sv_s, bw_ok, bw_exc, Res.ofO_some, Option.map_some, tru_bool, tru_none, intOf_int, noneD, kB, tgD, kT, isi_n, isi_b, isi_i, isi_s, isi_t, isi_l, cutD_T, cutD_L, revD_T, revD_L, bin_add, bin_sub, cmp_lt, cmp_le, cmp_gt, cmp_ge, cmp_eqI, cmp_neI, b1_lenL, b1_lenT, b1_tupL, b1_tupT, b1_lstL, b1_lstT, b1_int, Bool.false_eq_true, if_false, if_true, Bool.not_true, Bool.not_false, decide_true, decide_false, Rs_ok, Rs_exc, lstG, lstD, bindTs, bindT, svAll, wipeE, Option.bind_some, fin_rt, fin_nx, fin_exc, exD]
    | str _ => simp only [dExch, eB_cons, eB_nil, eS_asg, eS_iff, eS_ret, eS_ex, eS_rai, eS_aug, eS_par, eS_unp, eS_app, eS_ext, eS_asgO, eS_six, eS_brk, eE_var, eE_own, eE_int, eE_bl, eE_non, eE_str, eE_glob, eE_bin, eE_neg, eE_not, eE_and, eE_or, eE_cmp, eE_ch2, eE_isN, eE_isNN, eE_isNT, eE_ife, eE_tup, eE_lst, eE_dct0, eE_ix, eE_sl, eE_rev, eE_call, eE_b1, eE_b2, eE_isi, eE_join, eL_nil, eL_cons, eA_nil, eA_one, eA_cons, eO_nil, eO_one, eO_cons, eP_no, eP_yes, eC_no, eC_yes, eI_seq, gv_z, gv_s, sv_z, sv_s, bw_ok, bw_exc, Res.ofO_some, Option.map_some, tru_bool, tru_none, intOf_int, noneD, kB, tgD, kT, isi_n, isi_b, isi_i, isi_s, isi_t, isi_l, cutD_T, cutD_L, revD_T, revD_L, bin_add, bin_sub, cmp_lt, cmp_le, cmp_gt, cmp_ge, cmp_eqI, cmp_neI, b1_lenL, b1_lenT, b1_tupL, b1_tupT, b1_lstL, b1_lstT, b1_int, Bool.false_eq_true, if_false, if_true, Bool.not_true, Bool.not_false, decide_true, decide_false, Rs_ok, Rs_exc, lstG, lstD, bindTs, bindT, svAll, wipeE, Option.bind_some, fin_rt, fin_nx, fin_exc, exD]
    | list xs => have := hv.tq; simp [PT.tq] at this
    | dict xs => have := hv.tq; simp [PT.tq] at this
    | int i =>
      by_cases h1 : i = a
      · simp only [dExch, eB_cons, eB_nil, eS_asg, eS_iff, eS_ret, eS_ex, eS_rai, eS_aug, eS_par, eS_unp, eS_app, eS_ext, eS_asgO, eS_six, eS_brk, eE_var, eE_own, eE_int, eE_bl, eE_non, eE_str, eE_glob, eE_bin, eE_neg, eE_not, eE_and, eE_or, eE_cmp, eE_ch2, eE_isN, eE_isNN, eE_isNT, eE_ife, eE_tup, eE_lst, eE_dct0, eE_ix, eE_sl, eE_rev, eE_call, eE_b1, eE_b2, eE_isi, eE_join, eL_nil, eL_cons, eA_nil, eA_one, eA_cons, eO_nil, eO_one, eO_cons, eP_no, eP_yes, eC_no, eC_yes, eI_seq, gv_z, gv_s, sv_z, sv_s, bw_ok, bw_exc, Res.ofO_some, Option.map_some, tru_bool, tru_none, intOf_int, noneD, kB, tgD, kT, isi_n, isi_b, isi_i, isi_s, isi_t, isi_l, cutD_T, cutD_L, revD_T, revD_L, bin_add, bin_sub, cmp_lt, cmp_le, cmp_gt, cmp_ge, cmp_eqI, cmp_neI, b1_lenL, b1_lenT, b1_tupL, b1_tupT, b1_lstL, b1_lstT, b1_int, Bool.false_eq_true, if_false, if_true, Bool.not_true, Bool.not_false, decide_true, decide_false, Rs_ok, Rs_exc, lstG, lstD, bindTs, bindT, svAll, wipeE, Option.bind_some, fin_rt, fin_nx, fin_exc, exD, exI, h1]
      · by_cases h2 : i = b
        · simp only [dExch, eB_cons, eB_nil, eS_asg, eS_iff, eS_ret, eS_ex, eS_rai, eS_aug, eS_par, eS_unp, eS_app, eS_ext, eS_asgO, eS_six, eS_brk, eE_var, eE_own, eE_int, eE_bl, eE_non, eE_str, eE_glob, eE_bin, eE_neg, eE_not, eE_and, eE_or, eE_cmp, eE_ch2, eE_isN, eE_isNN, eE_isNT, eE_ife, eE_tup, eE_lst, eE_dct0, eE_ix, eE_sl, eE_rev, eE_call, eE_b1, eE_b2, eE_isi, eE_join, eL_nil, eL_cons, eA_nil, eA_one, eA_cons, eO_nil, eO_one, eO_cons, eP_no, eP_yes, eC_no, eC_yes, eI_seq, gv_z, gv_s, sv_z, sv_s, bw_ok, bw_exc, Res.ofO_some, Option.map_some, tru_bool, tru_none, intOf_int, noneD, kB, tgD, kT, isi_n, isi_b, isi_i, isi_s, isi_t, isi_l, cutD_T, cutD_L, revD_T, revD_L, bin_add, bin_sub, cmp_lt, cmp_le, cmp_gt, cmp_ge, cmp_eqI, cmp_neI, b1_lenL, b1_lenT, b1_tupL, b1_tupT, b1_lstL, b1_lstT, b1_int, Bool.false_eq_true, if_false, if_true, Bool.not_true, Bool.not_false, decide_true, decide_false, Rs_ok, Rs_exc, lstG, lstD, bindTs, bindT, svAll, wipeE, Option.bind_some, fin_rt, fin_nx, fin_exc, exD, exI, h1, h2]
          by_cases h3 : b = a
          · exact absurd (h2.trans h3) h1
          · simp only [eB_cons, eB_nil, eS_asg, eS_iff, eS_ret, eS_ex, eS_rai, eS_aug, eS_par, eS_unp, eS_app, eS_ext, eS_asgO, eS_six, eS_brk, eE_var, eE_own, eE_int, eE_bl, eE_non, eE_str, eE_glob, eE_bin, eE_neg, eE_not, eE_and, eE_or, eE_cmp, eE_ch2, eE_isN, eE_isNN, eE_isNT, eE_ife, eE_tup, eE_lst, eE_dct0, eE_ix, eE_sl, eE_rev, eE_call, eE_b1, eE_b2, eE_isi, eE_join, eL_nil, eL_cons, eA_nil, eA_one, eA_cons, eO_nil, eO_one, eO_cons, eP_no, eP_yes, eC_no, eC_yes, eI_seq, gv_z, gv_s, sv_z, sv_s, bw_ok, bw_exc, Res.ofO_some, Option.map_some, tru_bool, tru_none, intOf_int, noneD, kB, tgD, kT, isi_n, isi_b, isi_i, isi_s, isi_t, isi_l, cutD_T, cutD_L, revD_T, revD_L, bin_add, bin_sub, cmp_lt, cmp_le, cmp_gt, cmp_ge, cmp_eqI, cmp_neI, b1_lenL, b1_lenT, b1_tupL, b1_tupT, b1_lstL, b1_lstT, b1_int, Bool.false_eq_true, if_false, if_true, Bool.not_true, Bool.not_false, decide_true, decide_false, Rs_ok, Rs_exc, lstG, lstD, bindTs, bindT, svAll, wipeE, Option.bind_some, fin_rt, fin_nx, fin_exc, h3]
        · simp only [dExch, eB_cons, eB_nil, eS_asg, eS_iff, eS_ret, eS_ex, eS_rai, eS_aug, eS_par, eS_unp, eS_app, eS_ext, eS_asgO, eS_six, eS_brk, eE_var, eE_own, eE_int, eE_bl, eE_non, eE_str, eE_glob, eE_bin, eE_neg, eE_not, eE_and, eE_or, eE_cmp, eE_ch2, eE_isN, eE_isNN, eE_isNT, eE_ife, eE_tup, eE_lst, eE_dct0, eE_ix, eE_sl, eE_rev, eE_call, eE_b1, eE_b2, eE_isi, eE_join, eL_nil, eL_cons, eA_nil, eA_one, eA_cons, eO_nil, eO_one, eO_cons, eP_no, eP_yes, eC_no, eC_yes, eI_seq, gv_z, gv_s, sv_z, sv_s, bw_ok, bw_exc, Res.ofO_some, Option.map_some, tru_bool, tru_none, intOf_int, noneD, kB, tgD, kT, isi_n, isi_b, isi_i, isi_s, isi_t, isi_l, cutD_T, cutD_L, revD_T, revD_L, bin_add, bin_sub, cmp_lt, cmp_le, cmp_gt, cmp_ge, cmp_eqI, cmp_neI, b1_lenL, b1_lenT, b1_tupL, b1_tupT, b1_lstL, b1_lstT, b1_int, Bool.false_eq_true, if_false, if_true, Bool.not_true, Bool.not_false, decide_true, decide_false, Rs_ok, Rs_exc, lstG, lstD, bindTs, bindT, svAll, wipeE, Option.bind_some, fin_rt, fin_nx, fin_exc, exD, exI, h1, h2]
    | tuple ds =>
      cases k with
      | zero => exact hv.tup0.elim
      | succ k =>
        have hm := Nq.tup.mp hv
        simp only [sz] at hs
        have hsz : ∀ x ∈ ds, sz x ≤ 10000 := fun x hx => by have := szL_mem hx; omega
        have hl := szL_len ds
        have e1 : lcEnd (lcGo (lcQ (runF P n) [3] (.n 3) .no (.call ex [.var 3, .var 1, .var 2]) [some (.tuple ds), some (.int a), some (.int b), none]) ds [] g) = .ok (.list (ds.map (exD a b))) g := by
          have := lc_val (f := lcQ (runF P n) [3] (.n 3) .no (.call ex [.var 3, .var 1, .var 2]) [some (.tuple ds), some (.int a), some (.int b), none]) (g := g) (l := ds) (e := fun x => x) (exD a b) (line_of (by omega)) (fun x hx => by
            simp only [lcQ_eq, wipeE, eB_cons, eB_nil, eS_asg, eS_iff, eS_ret, eS_ex, eS_rai, eS_aug, eS_par, eS_unp, eS_app, eS_ext, eS_asgO, eS_six, eS_brk, eE_var, eE_own, eE_int, eE_bl, eE_non, eE_str, eE_glob, eE_bin, eE_neg, eE_not, eE_and, eE_or, eE_cmp, eE_ch2, eE_isN, eE_isNN, eE_isNT, eE_ife, eE_tup, eE_lst, eE_dct0, eE_ix, eE_sl, eE_rev, eE_call, eE_b1, eE_b2, eE_isi, eE_join, eL_nil, eL_cons, eA_nil, eA_one, eA_cons, eO_nil, eO_one, eO_cons, eP_no, eP_yes, eC_no, eC_yes, eI_seq, gv_z, gv_s, sv_z, sv_s, bw_ok, bw_exc, Res.ofO_some, Option.map_some, tru_bool, tru_none, intOf_int, noneD, kB, tgD, kT, isi_n, isi_b, isi_i, isi_s, isi_t, isi_l, cutD_T, cutD_L, revD_T, revD_L, bin_add, bin_sub, cmp_lt, cmp_le, cmp_gt, cmp_ge, cmp_eqI, cmp_neI, b1_lenL, b1_lenT, b1_tupL, b1_tupT, b1_lstL, b1_lstT, b1_int, Bool.false_eq_true, if_false, if_true, Bool.not_true, Bool.not_false, decide_true, decide_false, Rs_ok, Rs_exc, lstG, lstD, bindTs, bindT, svAll, wipeE, Option.bind_some, fin_rt, fin_nx, fin_exc, exch_run hX k n (by omega) x g (hm x hx) (hsz x hx)])
          rwa [List.map_id'] at this
        simp only [dExch, eB_cons, eB_nil, eS_asg, eS_iff, eS_ret, eS_ex, eS_rai, eS_aug, eS_par, eS_unp, eS_app, eS_ext, eS_asgO, eS_six, eS_brk, eE_var, eE_own, eE_int, eE_bl, eE_non, eE_str, eE_glob, eE_bin, eE_neg, eE_not, eE_and, eE_or, eE_cmp, eE_ch2, eE_isN, eE_isNN, eE_isNT, eE_ife, eE_tup, eE_lst, eE_dct0, eE_ix, eE_sl, eE_rev, eE_call, eE_b1, eE_b2, eE_isi, eE_join, eL_nil, eL_cons, eA_nil, eA_one, eA_cons, eO_nil, eO_one, eO_cons, eP_no, eP_yes, eC_no, eC_yes, eI_seq, gv_z, gv_s, sv_z, sv_s, bw_ok, bw_exc, Res.ofO_some, Option.map_some, tru_bool, tru_none, intOf_int, noneD, kB, tgD, kT, isi_n, isi_b, isi_i, isi_s, isi_t, isi_l, cutD_T, cutD_L, revD_T, revD_L, bin_add, bin_sub, cmp_lt, cmp_le, cmp_gt, cmp_ge, cmp_eqI, cmp_neI, b1_lenL, b1_lenT, b1_tupL, b1_tupT, b1_lstL, b1_lstT, b1_int, Bool.false_eq_true, if_false, if_true, Bool.not_true, Bool.not_false, decide_true, decide_false, Rs_ok, Rs_exc, lstG, lstD, bindTs, bindT, svAll, wipeE, Option.bind_some, fin_rt, fin_nx, fin_exc, eE_lc, itemsD_T, e1, exD, exL_map]
theorem exD_ok {a b : Int} (ha : a.natAbs < 2 ^ 250) (hb : b.natAbs < 2 ^ 250) : ∀ {k : Nat} {v : D}, Nq k v → sz v ≤ 100000 → Oz k (sz v) (exD a b v)
  | k, .none, _, _ => .none (Nat.le_refl _)
  | k, .bool _, _, _ => .bool (Nat.le_refl _)
  | k, .str x, h, _ => .str (Nat.le_refl _) h.lay
  | k, .int i, h, hs => by
    refine .int (Nat.le_refl _) ?_
    have := (Nq.od h (Nat.le_trans (Nat.le_refl _) hs)).oq
    simp only [PT.oq, decide_eq_true_eq] at this
    unfold exI
    split
    · exact hb
    · split
      · exact ha
      · exact this
  | 0, .tuple ds, h, _ => h.tup0.elim
  | k + 1, .tuple ds, h, hs => by
    have hm := Nq.tup.mp h
    simp only [sz] at hs
    have hall : ∀ x ∈ ds, Oz k (sz x) (exD a b x) := fun x hx => exD_ok ha hb (hm x hx) (by have := szL_mem hx; omega)
    have hsum : szL (exL a b ds) ≤ szL ds := by
      rw [exL_map]
      clear hm hs h
      induction ds with
      | nil => exact Nat.le_refl _
      | cons d ds ih =>
        simp only [List.map_cons, szL]
        have := (hall d (List.mem_cons_self ..)).2
        have := ih fun x hx => hall x (List.mem_cons_of_mem _ hx)
        omega
    refine (show Oz (k + 1) (sz (.tuple ds)) (.tuple (exL a b ds)) from .tup (by simp only [sz]; omega) (by simp only [sz]; omega) fun d hd => ?_)
    rw [exL_map] at hd
    obtain ⟨x, hx, rfl⟩ := List.mem_map.mp hd
    exact (hall x hx).1
  | k, .list xs, h, _ => by have := h.tq; simp [PT.tq] at this
  | k, .dict xs, h, _ => by have := h.tq; simp [PT.tq] at this
end
end PT
namespace PT
open PySem

def dCut (nx ct : Nat) : Def := { name := "_law_cut", ps := 2, ns := ["state", "value", "k", "at", "ways", "part"], mu := [], fr := false, body := [
    .iff (.or (.not (.isi .tuple (.var 1))) [.cmp .eq (.var 1) (.tup [])]) [.ret (.var 1)] [],
    .iff (.cmp .ne (.lc [5] (.n 5) (.seq (.var 1)) (.yes (.not (.isi .str (.var 5)))) (.var 5)) (.lst [])) [.asg 2 (.call nx [.var 0, .b1 .len (.var 1)]), .ret (.bin .add (.bin .add (.sl (.var 1) .no (.yes (.var 2))) (.tup [.call ct [.var 0, .ix (.var 1) (.var 2)]])) (.sl (.var 1) (.yes (.bin .add (.var 2) (.int 1))) .no))] [],
    .asg 2 (.call nx [.var 0, .b1 .len (.var 1)]),
    .asg 3 (.call nx [.var 0, .bin .add (.b1 .len (.ix (.var 1) (.var 2))) (.int 1)]),
    .asg 4 (.lst [.bin .add (.bin .add (.sl (.var 1) .no (.yes (.var 2))) (.tup [.sl (.ix (.var 1) (.var 2)) .no (.yes (.var 3)), .sl (.ix (.var 1) (.var 2)) (.yes (.var 3)) .no])) (.sl (.var 1) (.yes (.bin .add (.var 2) (.int 1))) .no), .bin .add (.bin .add (.sl (.var 1) .no (.yes (.var 2))) (.tup [.join (.sl (.var 1) (.yes (.var 2)) (.yes (.bin .add (.var 2) (.int 2))))])) (.sl (.var 1) (.yes (.bin .add (.var 2) (.int 2))) .no)]),
    .asg 4 (.bin .add (.var 4) (.lst [.tup [.join (.var 1)], .b1 .tuple (.join (.var 1)), .bin .add (.bin .add (.sl (.var 1) .no (.yes (.var 2))) (.tup [.str ""])) (.sl (.var 1) (.yes (.var 2)) .no), .bin .add (.bin .add (.sl (.var 1) .no (.yes (.var 2))) (.rev (.sl (.var 1) (.yes (.var 2)) (.yes (.bin .add (.var 2) (.int 2)))))) (.sl (.var 1) (.yes (.bin .add (.var 2) (.int 2))) .no)])),
    .ret (.ix (.var 4) (.call nx [.var 0, .b1 .len (.var 4)]))] }
def stL (ss : List Str) : List D := ss.map .str
theorem mapM_strOf : ∀ ss : List Str, (stL ss).mapM strOf = some ss
  | [] => rfl
  | s :: ss => by
    have := mapM_strOf ss
    unfold stL at this ⊢
    rw [List.map_cons, List.mapM_cons, this]
    rfl
theorem txt_join (ss : List Str) : Txt.join ("" : Str) ss = Str.join ("" : Str) ss := by
  unfold Txt.join
  rw [StrLaws.glued_eq_join]
theorem cp_empty : cp ("" : Str) = [] := by
  rw [cp_ofString]; rfl
theorem cp_join : ∀ ss : List Str, cp (Txt.join ("" : Str) ss) = ss.flatMap cp
  | [] => rfl
  | [x] => by rw [txt_join]; show cp x = _; simp
  | x :: y :: r => by
    have ih := cp_join (y :: r)
    rw [txt_join] at ih ⊢
    show cp (x ++ (("" : Str)) ++ Str.join ("" : Str) (y :: r)) = _
    rw [cp_app, cp_app, cp_empty, ih]
    simp
theorem szL_strs : ∀ ss : List Str, szL (stL ss) = ss.length + (ss.flatMap cp).length
  | [] => rfl
  | s :: ss => by
    have := szL_strs ss
    unfold stL at this ⊢
    simp only [List.map_cons, szL, sz, this, List.length_cons, List.flatMap_cons, List.length_append, cp_len]
    omega
theorem sum_len (ss : List Str) : (ss.map (·.length)).sum = (ss.flatMap cp).length := by
  induction ss with
  | nil => rfl
  | cons s ss ih => rw [List.map_cons, List.sum_cons, List.flatMap_cons, List.length_append, ih, cp_len]
theorem joinD_strs {ss : List Str} (h : (ss.flatMap cp).length ≤ 1000000) : joinD (.tuple (stL ss)) = some (.str (Txt.join ("" : Str) ss)) := by
  show ((stL ss).mapM strOf).bind _ = _
  rw [mapM_strOf]
  simp only [Option.bind_some]
  rw [if_pos (by rw [sum_len]; exact h)]
theorem cut_map {α β : Type} {f : α → β} {xs : List α} {lo hi : Option Int} : cutL (xs.map f) lo hi = (cutL xs lo hi).map f := by
  unfold cutL
  rw [List.length_map, List.map_take, List.map_drop]
theorem all_str {ds : List D} (h : ∀ d ∈ ds, kB .str d = true) : ∃ ss : List Str, ds = stL ss := by
  induction ds with
  | nil => exact ⟨[], rfl⟩
  | cons d ds ih =>
    obtain ⟨ss, e⟩ := ih fun x hx => h x (List.mem_cons_of_mem _ hx)
    have := h d (List.mem_cons_self ..)
    cases d with
    | str x => exact ⟨x :: ss, by rw [e]; rfl⟩
    | _ => simp [kB, tgD, kT] at this
/-- fit texts -/
def fitS (ss : List Str) : Prop := ∀ s ∈ ss, PyData.canLay0 (.str s) = true
theorem lay_mk {l : List Nat} (h : ∀ c ∈ l, c < 1114112) : PyData.canLay0 (.str ⟨l.toArray⟩) = true := lay_str.mpr fun c hc => h c (by simpa using hc)
theorem lay_join {ss : List Str} (h : fitS ss) : PyData.canLay0 (.str (Txt.join ("" : Str) ss)) = true := by
  rw [lay_str, cp_join]
  intro c hc
  obtain ⟨s, hs, hc⟩ := List.mem_flatMap.mp hc
  exact lay_str.mp (h s hs) c hc
theorem len_join (ss : List Str) : (Txt.join ("" : Str) ss).length = (ss.flatMap cp).length := by rw [cp_len, cp_join]
theorem flat_sub {xs ys : List Str} (h : xs.Sublist ys) : (xs.flatMap cp).length ≤ (ys.flatMap cp).length := by
  induction h with
  | slnil => exact Nat.le_refl _
  | cons a _ ih => simp only [List.flatMap_cons, List.length_append]; omega
  | cons_cons a _ ih => simp only [List.flatMap_cons, List.length_append]; omega
theorem b1_tupS {x : Str} (h : x.length ≤ 1000) : b1D .tuple (.str x) = some (.tuple ((cp x).map fun c => .str ⟨#[c]⟩)) := if_pos h
theorem szL_chars (l : List Nat) : szL (l.map fun c => PyData.str ⟨#[c]⟩) = 2 * l.length := by
  induction l with
  | nil => rfl
  | cons c l ih => simp only [List.map_cons, szL, sz, ih, List.length_cons, Str.length, List.size_toArray, List.length_nil]; omega
theorem oz_strs {k m : Nat} {ss : List Str} (h : fitS ss) (hs : 1 + ss.length + (ss.flatMap cp).length ≤ m) (hm : m ≤ 100000) : Oz (k + 1) m (.tuple (stL ss)) := by
  refine .tup (by rw [szL_strs]; omega) hm fun d hd => ?_
  obtain ⟨s, hs, rfl⟩ := List.mem_map.mp hd
  exact Od.str (h s hs)
section
variable {P : List Def} {nx ct : Nat}
def cutWays : T := .lst [.bin .add (.bin .add (.sl (.var 1) .no (.yes (.var 2))) (.tup [.sl (.ix (.var 1) (.var 2)) .no (.yes (.var 3)), .sl (.ix (.var 1) (.var 2)) (.yes (.var 3)) .no])) (.sl (.var 1) (.yes (.bin .add (.var 2) (.int 1))) .no), .bin .add (.bin .add (.sl (.var 1) .no (.yes (.var 2))) (.tup [.join (.sl (.var 1) (.yes (.var 2)) (.yes (.bin .add (.var 2) (.int 2))))])) (.sl (.var 1) (.yes (.bin .add (.var 2) (.int 2))) .no)]
def cutMore : T := .bin .add (.var 4) (.lst [.tup [.join (.var 1)], .b1 .tuple (.join (.var 1)), .bin .add (.bin .add (.sl (.var 1) .no (.yes (.var 2))) (.tup [.str ""])) (.sl (.var 1) (.yes (.var 2)) .no), .bin .add (.bin .add (.sl (.var 1) .no (.yes (.var 2))) (.rev (.sl (.var 1) (.yes (.var 2)) (.yes (.bin .add (.var 2) (.int 2)))))) (.sl (.var 1) (.yes (.bin .add (.var 2) (.int 2))) .no)])
theorem one_str {x : Str} : [PyData.str x] = stL [x] := rfl
theorem two_str {x y : Str} : [PyData.str x, .str y] = stL [x, y] := rfl
theorem strs_app {xs ys : List Str} : stL xs ++ stL ys = stL (xs ++ ys) := (List.map_append ..).symm
theorem strs_rev {xs : List Str} : (stL xs).reverse = stL xs.reverse := by unfold stL; rw [List.map_reverse]
theorem addT_strs {xs ys : List Str} (h : xs.length + ys.length ≤ 1000000) : binD .add (.tuple (stL xs)) (.tuple (stL ys)) = some (.tuple (stL (xs ++ ys))) := by
  rw [bin_addT' (by unfold stL; simp only [List.length_map]; exact h), strs_app]
theorem cut_strs {ss : List Str} {lo hi : Option Int} : cutL (stL ss) lo hi = stL (cutL ss lo hi) := cut_map
theorem take_strs {ss : List Str} {a : Nat} : (stL ss).take a = stL (ss.take a) := (List.map_take ..).symm
theorem drop_strs {ss : List Str} {a : Nat} : (stL ss).drop a = stL (ss.drop a) := (List.map_drop ..).symm
theorem ways_ok {Φ : Fn} {ss : List Str} {a : Nat} (ha : a < ss.length) {b : Nat} (h : ss.length + (ss.flatMap cp).length ≤ 1000) (hf : fitS ss) {x y : Option D} {g : G} {k : Nat} :
    ∃ l : List D, evE Φ cutWays [some stD, some (.tuple (stL ss)), some (.int a), some (.int b), x, y] g = .ok (.list l) g ∧ l.length = 2 ∧ (∀ d ∈ l, Oz (k + 1) 6200 d ∧ ∃ es, d = .tuple es) := by
  have e1 : ((a : Int) + 1) = ((a + 1 : Nat) : Int) := by omega
  have e2 : ((a : Int) + 2) = ((a + 2 : Nat) : Int) := by omega
  have hx : ixG (.tuple (stL ss)) (.int a) g = some (.str ss[a]) := by rw [ixT_nat (by unfold stL; simpa using ha)]; simp [stL]
  have hxl : ss[a].length ≤ 1000 := by
    have := flat_sub (List.singleton_sublist.mpr (List.getElem_mem ha))
    simp only [List.flatMap_cons, List.flatMap_nil, List.append_nil, ← cp_len] at this
    omega
  have c1 := cutD_S (x := ss[a]) (lo := none) (hi := some (b : Int)) (by omega)
  have c2 := cutD_S (x := ss[a]) (lo := some (b : Int)) (hi := none) (by omega)
  rw [cut_take] at c1
  rw [cut_drop] at c2
  have k0 := cp_len ss[a]
  have k1 := List.length_take_le b (cp ss[a])
  have k2 : ((cp ss[a]).drop b).length ≤ ss[a].length := by rw [List.length_drop, cp_len]; omega
  have k3 : ((cp ss[a]).take b).length ≤ ss[a].length := by rw [List.length_take, cp_len]; omega
  have l1 := List.length_take_le a ss
  have j1 := flat_sub (cutL_sub ss (some (a : Int)) (some ((a + 2 : Nat) : Int)))
  have jn := joinD_strs (ss := cutL ss (some (a : Int)) (some ((a + 2 : Nat) : Int))) (by omega)
  rw [← cut_strs] at jn
  have t1 : binD .add (.tuple ((stL ss).take a)) (.tuple [.str ⟨((cp ss[a]).take b).toArray⟩, .str ⟨((cp ss[a]).drop b).toArray⟩]) = some (.tuple (stL (ss.take a ++ [⟨((cp ss[a]).take b).toArray⟩, ⟨((cp ss[a]).drop b).toArray⟩]))) := by
    rw [take_strs]
    exact addT_strs (xs := ss.take a) (ys := [⟨((cp ss[a]).take b).toArray⟩, ⟨((cp ss[a]).drop b).toArray⟩]) (by simp only [List.length_cons, List.length_nil]; omega)
  have t2 : binD .add (.tuple (stL (ss.take a ++ [⟨((cp ss[a]).take b).toArray⟩, ⟨((cp ss[a]).drop b).toArray⟩]))) (.tuple ((stL ss).drop (a + 1))) = some (.tuple (stL (ss.take a ++ [⟨((cp ss[a]).take b).toArray⟩, ⟨((cp ss[a]).drop b).toArray⟩] ++ ss.drop (a + 1)))) := by
    rw [drop_strs]
    exact addT_strs (by simp only [List.length_append, List.length_cons, List.length_nil, List.length_drop]; omega)
  have t3 : binD .add (.tuple ((stL ss).take a)) (.tuple [.str (Txt.join ("" : Str) (cutL ss (some (a : Int)) (some ((a + 2 : Nat) : Int))))]) = some (.tuple (stL (ss.take a ++ [Txt.join ("" : Str) (cutL ss (some (a : Int)) (some ((a + 2 : Nat) : Int)))]))) := by
    rw [take_strs]
    exact addT_strs (xs := ss.take a) (ys := [Txt.join ("" : Str) (cutL ss (some (a : Int)) (some ((a + 2 : Nat) : Int)))]) (by simp only [List.length_cons, List.length_nil]; omega)
  have t4 : binD .add (.tuple (stL (ss.take a ++ [Txt.join ("" : Str) (cutL ss (some (a : Int)) (some ((a + 2 : Nat) : Int)))]))) (.tuple ((stL ss).drop (a + 2))) = some (.tuple (stL (ss.take a ++ [Txt.join ("" : Str) (cutL ss (some (a : Int)) (some ((a + 2 : Nat) : Int)))] ++ ss.drop (a + 2)))) := by
    rw [drop_strs]
    exact addT_strs (by simp only [List.length_append, List.length_cons, List.length_nil, List.length_drop]; omega)
  refine ⟨[.tuple (stL (ss.take a ++ [⟨((cp ss[a]).take b).toArray⟩, ⟨((cp ss[a]).drop b).toArray⟩] ++ ss.drop (a + 1))), .tuple (stL (ss.take a ++ [Txt.join ("" : Str) (cutL ss (some (a : Int)) (some ((a + 2 : Nat) : Int)))] ++ ss.drop (a + 2)))], by simp only [cutWays, eB_cons, eB_nil, eS_asg, eS_iff, eS_ret, eS_ex, eS_rai, eS_aug, eS_par, eS_unp, eS_app, eS_ext, eS_asgO, eS_six, eS_brk, eE_var, eE_own, eE_int, eE_bl, eE_non, eE_str, eE_glob, eE_bin, eE_neg, eE_not, eE_and, eE_or, eE_cmp, eE_ch2, eE_isN, eE_isNN, eE_isNT, eE_ife, eE_tup, eE_lst, eE_dct0, eE_ix, eE_sl, eE_rev, eE_call, eE_b1, eE_b2, eE_isi, eE_join, eL_nil, eL_cons, eA_nil, eA_one, eA_cons, eO_nil, eO_one, eO_cons, eP_no, eP_yes, eC_no, eC_yes, eI_seq, gv_z, gv_s, sv_z, sv_s, bw_ok, bw_exc, Res.ofO_some, Option.map_some, tru_bool, tru_none, intOf_int, noneD, kB, tgD, kT, isi_n, isi_b, isi_i, isi_s, isi_t, isi_l, cutD_T, cutD_L, revD_T, revD_L, bin_add, bin_sub, cmp_lt, cmp_le, cmp_gt, cmp_ge, cmp_eqI, cmp_neI, b1_lenL, b1_lenT, b1_tupL, b1_tupT, b1_lstL, b1_lstT, b1_int, Bool.false_eq_true, if_false, if_true, Bool.not_true, Bool.not_false, decide_true, decide_false, Rs_ok, Rs_exc, lstG, lstD, bindTs, bindT, svAll, wipeE, Option.bind_some, fin_rt, fin_nx, fin_exc, e1, e2, cut_take, cut_drop, hx, c1, c2, t1, t2, jn, t3, t4], rfl, fun d hd => ?_⟩
  have f1 := flat_sub (List.take_sublist a ss)
  have hp := fun s (hs : s ∈ ss) => lay_str.mp (hf s hs)
  simp only [List.mem_cons, List.not_mem_nil, or_false] at hd
  rcases hd with rfl | rfl
  · refine ⟨?_, _, rfl⟩
    refine oz_strs (fun s hs => ?_) ?_ (by omega)
    · simp only [List.append_assoc, List.cons_append, List.nil_append, List.mem_append, List.mem_cons] at hs
      rcases hs with hs | rfl | rfl | hs
      · exact hf s (List.mem_of_mem_take hs)
      · exact lay_mk fun c hc => hp _ (List.getElem_mem ha) c (List.mem_of_mem_take hc)
      · exact lay_mk fun c hc => hp _ (List.getElem_mem ha) c (List.mem_of_mem_drop hc)
      · exact hf s (List.mem_of_mem_drop hs)
    · have f2 := flat_sub (List.drop_sublist (a + 1) ss)
      simp only [List.length_append, List.length_cons, List.length_nil, List.length_drop, List.flatMap_append, List.flatMap_cons, List.flatMap_nil, cp_mk]
      omega
  · refine ⟨?_, _, rfl⟩
    refine oz_strs (fun s hs => ?_) ?_ (by omega)
    · simp only [List.append_assoc, List.cons_append, List.nil_append, List.mem_append, List.mem_cons] at hs
      rcases hs with hs | rfl | hs
      · exact hf s (List.mem_of_mem_take hs)
      · exact lay_join fun s hs => hf s (cut_mem hs)
      · exact hf s (List.mem_of_mem_drop hs)
    · have f2 := flat_sub (List.drop_sublist (a + 2) ss)
      simp only [List.length_append, List.length_cons, List.length_nil, List.length_drop, List.flatMap_append, List.flatMap_cons, List.flatMap_nil, cp_join]
      omega
theorem more_ok {Φ : Fn} {ss : List Str} {a : Nat} (ha : a < ss.length) {b : Option D} (h : ss.length + (ss.flatMap cp).length ≤ 1000) (hf : fitS ss) {y : Option D} {l0 : List D} (h0 : l0.length = 2) {g : G} {k : Nat} (hl0 : ∀ d ∈ l0, Oz (k + 1) 6200 d ∧ ∃ es, d = .tuple es) :
    ∃ l : List D, evE Φ cutMore [some stD, some (.tuple (stL ss)), some (.int a), b, some (.list l0), y] g = .ok (.list l) g ∧ l.length = 6 ∧ (∀ d ∈ l, Oz (k + 1) 6200 d ∧ ∃ es, d = .tuple es) := by
  have e2 : ((a : Int) + 2) = ((a + 2 : Nat) : Int) := by omega
  have jn := joinD_strs (ss := ss) (by omega)
  have l1 := List.length_take_le a ss
  have tj := b1_tupS (x := Txt.join ("" : Str) ss) (by rw [len_join]; omega)
  have t1 : binD .add (.tuple ((stL ss).take a)) (.tuple [.str ("" : Str)]) = some (.tuple (stL (ss.take a ++ [("" : Str)]))) := by
    rw [take_strs]
    exact addT_strs (xs := ss.take a) (ys := [("" : Str)]) (by simp only [List.length_cons, List.length_nil]; omega)
  have t2 : binD .add (.tuple (stL (ss.take a ++ [("" : Str)]))) (.tuple ((stL ss).drop a)) = some (.tuple (stL (ss.take a ++ [("" : Str)] ++ ss.drop a))) := by
    rw [drop_strs]
    exact addT_strs (by simp only [List.length_append, List.length_cons, List.length_nil, List.length_drop]; omega)
  have m1 := cut_len (lo := some (a : Int)) (hi := some ((a + 2 : Nat) : Int)) (xs := ss)
  have t3 : binD .add (.tuple ((stL ss).take a)) (.tuple (cutL (stL ss) (some (a : Int)) (some ((a + 2 : Nat) : Int))).reverse) = some (.tuple (stL (ss.take a ++ (cutL ss (some (a : Int)) (some ((a + 2 : Nat) : Int))).reverse))) := by
    rw [take_strs, cut_strs, strs_rev]
    exact addT_strs (by simp only [List.length_reverse]; omega)
  have t4 : binD .add (.tuple (stL (ss.take a ++ (cutL ss (some (a : Int)) (some ((a + 2 : Nat) : Int))).reverse))) (.tuple ((stL ss).drop (a + 2))) = some (.tuple (stL (ss.take a ++ (cutL ss (some (a : Int)) (some ((a + 2 : Nat) : Int))).reverse ++ ss.drop (a + 2)))) := by
    rw [drop_strs]
    exact addT_strs (by simp only [List.length_append, List.length_reverse, List.length_drop]; omega)
  have key : evE Φ (.lst [.tup [.join (.var 1)], .b1 .tuple (.join (.var 1)), .bin .add (.bin .add (.sl (.var 1) .no (.yes (.var 2))) (.tup [.str ""])) (.sl (.var 1) (.yes (.var 2)) .no), .bin .add (.bin .add (.sl (.var 1) .no (.yes (.var 2))) (.rev (.sl (.var 1) (.yes (.var 2)) (.yes (.bin .add (.var 2) (.int 2)))))) (.sl (.var 1) (.yes (.bin .add (.var 2) (.int 2))) .no)]) [some stD, some (.tuple (stL ss)), some (.int a), b, some (.list l0), y] g =
      .ok (.list [.tuple [.str (Txt.join ("" : Str) ss)], .tuple ((cp (Txt.join ("" : Str) ss)).map fun c => .str ⟨#[c]⟩), .tuple (stL (ss.take a ++ [("" : Str)] ++ ss.drop a)), .tuple (stL (ss.take a ++ (cutL ss (some (a : Int)) (some ((a + 2 : Nat) : Int))).reverse ++ ss.drop (a + 2)))]) g := by
    simp only [eB_cons, eB_nil, eS_asg, eS_iff, eS_ret, eS_ex, eS_rai, eS_aug, eS_par, eS_unp, eS_app, eS_ext, eS_asgO, eS_six, eS_brk, eE_var, eE_own, eE_int, eE_bl, eE_non, eE_str, eE_glob, eE_bin, eE_neg, eE_not, eE_and, eE_or, eE_cmp, eE_ch2, eE_isN, eE_isNN, eE_isNT, eE_ife, eE_tup, eE_lst, eE_dct0, eE_ix, eE_sl, eE_rev, eE_call, eE_b1, eE_b2, eE_isi, eE_join, eL_nil, eL_cons, eA_nil, eA_one, eA_cons, eO_nil, eO_one, eO_cons, eP_no, eP_yes, eC_no, eC_yes, eI_seq, gv_z, gv_s, sv_z, sv_s, bw_ok, bw_exc, Res.ofO_some, Option.map_some, tru_bool, tru_none, intOf_int, noneD, kB, tgD, kT, isi_n, isi_b, isi_i, isi_s, isi_t, isi_l, cutD_T, cutD_L, revD_T, revD_L, bin_add, bin_sub, cmp_lt, cmp_le, cmp_gt, cmp_ge, cmp_eqI, cmp_neI, b1_lenL, b1_lenT, b1_tupL, b1_tupT, b1_lstL, b1_lstT, b1_int, Bool.false_eq_true, if_false, if_true, Bool.not_true, Bool.not_false, decide_true, decide_false, Rs_ok, Rs_exc, lstG, lstD, bindTs, bindT, svAll, wipeE, Option.bind_some, fin_rt, fin_nx, fin_exc, e2, cut_take, cut_drop, jn, tj, t1, t2, t3, t4]
  refine ⟨l0 ++ [.tuple [.str (Txt.join ("" : Str) ss)], .tuple ((cp (Txt.join ("" : Str) ss)).map fun c => .str ⟨#[c]⟩), .tuple (stL (ss.take a ++ [("" : Str)] ++ ss.drop a)), .tuple (stL (ss.take a ++ (cutL ss (some (a : Int)) (some ((a + 2 : Nat) : Int))).reverse ++ ss.drop (a + 2)))], ?_, by simp [h0], fun d hd => ?_⟩
  · have := bin_addL' (xs := l0) (ys := [.tuple [.str (Txt.join ("" : Str) ss)], .tuple ((cp (Txt.join ("" : Str) ss)).map fun c => .str ⟨#[c]⟩), .tuple (stL (ss.take a ++ [("" : Str)] ++ ss.drop a)), .tuple (stL (ss.take a ++ (cutL ss (some (a : Int)) (some ((a + 2 : Nat) : Int))).reverse ++ ss.drop (a + 2)))]) (by simp [h0])
    unfold cutMore
    rw [eE_bin]
    simp only [eE_var, gv_s, gv_z, Res.ofO_some, bw_ok]
    rw [key]
    simp only [Res.ofO_some, bw_ok, this]
  · rcases List.mem_append.mp hd with hd | hd
    · exact hl0 d hd
    · have f1 := flat_sub (List.take_sublist a ss)
      simp only [List.mem_cons, List.not_mem_nil, or_false] at hd
      rcases hd with rfl | rfl | rfl | rfl
      · refine ⟨?_, _, rfl⟩
        rw [one_str]
        refine oz_strs (fun s hs => ?_) ?_ (by omega)
        · rw [List.mem_singleton.mp hs]; exact lay_join hf
        · simp only [List.length_cons, List.length_nil, List.flatMap_cons, List.flatMap_nil, List.append_nil, cp_join]; omega
      · refine ⟨?_, _, rfl⟩
        refine .tup (by rw [szL_chars, cp_join]; omega) (by omega) fun d hd => ?_
        obtain ⟨c, hc, rfl⟩ := List.mem_map.mp hd
        refine Od.str (lay_str.mpr fun c' hc' => ?_)
        have : c' = c := by simpa [cp] using hc'
        rw [this]
        exact lay_str.mp (lay_join hf) c hc
      · refine ⟨?_, _, rfl⟩
        refine oz_strs (fun s hs => ?_) ?_ (by omega)
        · simp only [List.append_assoc, List.cons_append, List.nil_append, List.mem_append, List.mem_cons] at hs
          rcases hs with hs | rfl | hs
          · exact hf s (List.mem_of_mem_take hs)
          · exact lay_ofString _
          · exact hf s (List.mem_of_mem_drop hs)
        · have f2 := flat_sub (List.drop_sublist a ss)
          simp only [List.length_append, List.length_cons, List.length_nil, List.length_drop, List.flatMap_append, List.flatMap_cons, List.flatMap_nil, cp_empty]
          omega
      · refine ⟨?_, _, rfl⟩
        refine oz_strs (fun s hs => ?_) ?_ (by omega)
        · simp only [List.append_assoc, List.mem_append, List.mem_reverse] at hs
          rcases hs with hs | hs | hs
          · exact hf s (List.mem_of_mem_take hs)
          · exact hf s (cut_mem hs)
          · exact hf s (List.mem_of_mem_drop hs)
        · have f2 := flat_sub (List.drop_sublist (a + 2) ss)
          have f3 := flat_sub (cutL_sub ss (some (a : Int)) (some ((a + 2 : Nat) : Int)))
          have f4 : ((cutL ss (some (a : Int)) (some ((a + 2 : Nat) : Int))).reverse.flatMap cp).length = ((cutL ss (some (a : Int)) (some ((a + 2 : Nat) : Int))).flatMap cp).length := by
            rw [← sum_len, ← sum_len, List.map_reverse, List.sum_reverse]
          simp only [List.length_append, List.length_reverse, List.length_drop, List.flatMap_append, f4]
          omega
end
end PT
namespace PT
open PySem
section
variable {P : List Def} {nx ct : Nat}
def isS (d : D) : Bool := kB .str d
theorem eqv_nilL {ds : List D} : PyData.eqv (.list ds) (.list []) = ds.isEmpty := by
  cases ds <;> simp [PyData.eqv, PyData.eqvAll]
theorem notstr_lc {Φ : Fn} {ds : List D} {a b c x y : Option D} {g : G} (hl : ds.length ≤ 100000) (hn : ∀ d ∈ ds, nd d = true) :
    evE Φ (.lc [5] (.n 5) (.seq (.var 1)) (.yes (.not (.isi .str (.var 5)))) (.var 5)) [x, some (.tuple ds), a, b, c, y] g = .ok (.list (ds.filter fun d => !isS d)) g := by
  rw [eE_lc]
  simp only [eB_cons, eB_nil, eS_asg, eS_iff, eS_ret, eS_ex, eS_rai, eS_aug, eS_par, eS_unp, eS_app, eS_ext, eS_asgO, eS_six, eS_brk, eE_var, eE_own, eE_int, eE_bl, eE_non, eE_str, eE_glob, eE_bin, eE_neg, eE_not, eE_and, eE_or, eE_cmp, eE_ch2, eE_isN, eE_isNN, eE_isNT, eE_ife, eE_tup, eE_lst, eE_dct0, eE_ix, eE_sl, eE_rev, eE_call, eE_b1, eE_b2, eE_isi, eE_join, eL_nil, eL_cons, eA_nil, eA_one, eA_cons, eO_nil, eO_one, eO_cons, eP_no, eP_yes, eC_no, eC_yes, eI_seq, gv_z, gv_s, sv_z, sv_s, bw_ok, bw_exc, Res.ofO_some, Option.map_some, tru_bool, tru_none, intOf_int, noneD, kB, tgD, kT, isi_n, isi_b, isi_i, isi_s, isi_t, isi_l, cutD_T, cutD_L, revD_T, revD_L, bin_add, bin_sub, cmp_lt, cmp_le, cmp_gt, cmp_ge, cmp_eqI, cmp_neI, b1_lenL, b1_lenT, b1_tupL, b1_tupT, b1_lstL, b1_lstT, b1_int, Bool.false_eq_true, if_false, if_true, Bool.not_true, Bool.not_false, decide_true, decide_false, Rs_ok, Rs_exc, lstG, lstD, bindTs, bindT, svAll, wipeE, Option.bind_some, fin_rt, fin_nx, fin_exc, itemsD_T]
  have := lc_if (f := lcQ Φ [5] (.n 5) (.yes (.not (.isi .str (.var 5)))) (.var 5) [x, some (.tuple ds), a, b, c, y]) (g := g) (l := ds) (e := fun x => x) (fun d => !isS d) (fun x => x) (line_of (by omega)) (fun d hd => by
    have e : isiD .str d = some (isS d) := isi_kB (kd := .str) (hn d hd)
    simp only [lcQ_eq, eB_cons, eB_nil, eS_asg, eS_iff, eS_ret, eS_ex, eS_rai, eS_aug, eS_par, eS_unp, eS_app, eS_ext, eS_asgO, eS_six, eS_brk, eE_var, eE_own, eE_int, eE_bl, eE_non, eE_str, eE_glob, eE_bin, eE_neg, eE_not, eE_and, eE_or, eE_cmp, eE_ch2, eE_isN, eE_isNN, eE_isNT, eE_ife, eE_tup, eE_lst, eE_dct0, eE_ix, eE_sl, eE_rev, eE_call, eE_b1, eE_b2, eE_isi, eE_join, eL_nil, eL_cons, eA_nil, eA_one, eA_cons, eO_nil, eO_one, eO_cons, eP_no, eP_yes, eC_no, eC_yes, eI_seq, gv_z, gv_s, sv_z, sv_s, bw_ok, bw_exc, Res.ofO_some, Option.map_some, tru_bool, tru_none, intOf_int, noneD, kB, tgD, kT, isi_n, isi_b, isi_i, isi_s, isi_t, isi_l, cutD_T, cutD_L, revD_T, revD_L, bin_add, bin_sub, cmp_lt, cmp_le, cmp_gt, cmp_ge, cmp_eqI, cmp_neI, b1_lenL, b1_lenT, b1_tupL, b1_tupT, b1_lstL, b1_lstT, b1_int, Bool.false_eq_true, if_false, if_true, Bool.not_true, Bool.not_false, decide_true, decide_false, Rs_ok, Rs_exc, lstG, lstD, bindTs, bindT, svAll, wipeE, Option.bind_some, fin_rt, fin_nx, fin_exc, e]
    cases isS d <;> simp only [eB_cons, eB_nil, eS_asg, eS_iff, eS_ret, eS_ex, eS_rai, eS_aug, eS_par, eS_unp, eS_app, eS_ext, eS_asgO, eS_six, eS_brk, eE_var, eE_own, eE_int, eE_bl, eE_non, eE_str, eE_glob, eE_bin, eE_neg, eE_not, eE_and, eE_or, eE_cmp, eE_ch2, eE_isN, eE_isNN, eE_isNT, eE_ife, eE_tup, eE_lst, eE_dct0, eE_ix, eE_sl, eE_rev, eE_call, eE_b1, eE_b2, eE_isi, eE_join, eL_nil, eL_cons, eA_nil, eA_one, eA_cons, eO_nil, eO_one, eO_cons, eP_no, eP_yes, eC_no, eC_yes, eI_seq, gv_z, gv_s, sv_z, sv_s, bw_ok, bw_exc, Res.ofO_some, Option.map_some, tru_bool, tru_none, intOf_int, noneD, kB, tgD, kT, isi_n, isi_b, isi_i, isi_s, isi_t, isi_l, cutD_T, cutD_L, revD_T, revD_L, bin_add, bin_sub, cmp_lt, cmp_le, cmp_gt, cmp_ge, cmp_eqI, cmp_neI, b1_lenL, b1_lenT, b1_tupL, b1_tupT, b1_lstL, b1_lstT, b1_int, Bool.false_eq_true, if_false, if_true, Bool.not_true, Bool.not_false, decide_true, decide_false, Rs_ok, Rs_exc, lstG, lstD, bindTs, bindT, svAll, wipeE, Option.bind_some, fin_rt, fin_nx, fin_exc])
  rwa [List.map_id', List.map_id'] at this
theorem cut_ok (hN : P[nx]? = some dNext) (hC : P[ct]? = some (dCut nx ct)) : ∀ (k n : Nat), k + 2 ≤ n → k ≤ 40 → ∀ (v : D) (g : G), Nq k v → sz v ≤ 1000 → GS g → Rs (runF P n ct [stD, v] g) (fun d g' => (Oz k (6 * sz v + 6200) d ∧ ∀ ds, v = .tuple ds → ∃ es, d = .tuple es) ∧ GS g') NoE
  | k, 0, hn, _, _, _, _, _, _ => absurd hn (by omega)
  | k, n + 1, hn, hk, v, g, hv, hs, hg => by
    rw [run_def hC rfl, Rs_fin]
    show Rs (evB (runF P n) (dCut nx ct).body [some stD, some v, none, none, none, none] g) _ _
    have self : Oz k (6 * sz v + 6200) v := ⟨hv.od (by omega), by omega⟩
    cases v with
    | none => simp only [dCut, eB_cons, eB_nil, eS_asg, eS_iff, eS_ret, eS_ex, eS_rai, eS_aug, eS_par, eS_unp, eS_app, eS_ext, eS_asgO, eS_six, eS_brk, eE_var, eE_own, eE_int, eE_bl, eE_non, eE_str, eE_glob, eE_bin, eE_neg, eE_not, eE_and, eE_or, eE_cmp, eE_ch2, eE_isN, eE_isNN, eE_isNT, eE_ife, eE_tup, eE_lst, eE_dct0, eE_ix, eE_sl, eE_rev, eE_call, eE_b1, eE_b2, eE_isi, eE_join, eL_nil, eL_cons, eA_nil, eA_one, eA_cons, eO_nil, eO_one, eO_cons, eP_no, eP_yes, eC_no, eC_yes, eI_seq, gv_z, gv_s, sv_z, sv_s, bw_ok, bw_exc, Res.ofO_some, Option.map_some, tru_bool, tru_none, intOf_int, noneD, kB, tgD, kT, isi_n, isi_b, isi_i, isi_s, isi_t, isi_l, cutD_T, cutD_L, revD_T, revD_L, bin_add, bin_sub, cmp_lt, cmp_le, cmp_gt, cmp_ge, cmp_eqI, cmp_neI, b1_lenL, b1_lenT, b1_tupL, b1_tupT, b1_lstL, b1_lstT, b1_int, Bool.false_eq_true, if_false, if_true, Bool.not_true, Bool.not_false, decide_true, decide_false, Rs_ok, Rs_exc, lstG, lstD, bindTs, bindT, svAll, wipeE, Option.bind_some, fin_rt, fin_nx, fin_exc]; exact ⟨⟨self, fun _ e => nomatch e⟩, hg⟩
    | bool b => simp only [dCut, eB_cons, eB_nil, eS_asg, eS_iff, eS_ret, eS_ex, eS_rai, eS_aug, eS_par, eS_unp, eS_app, eS_ext, eS_asgO, eS_six, eS_brk, eE_var, eE_own, eE_int, eE_bl, eE_non, eE_str, eE_glob, eE_bin, eE_neg, eE_not, eE_and, eE_or, eE_cmp, eE_ch2, eE_isN, eE_isNN, eE_isNT, eE_ife, eE_tup, eE_lst, eE_dct0, eE_ix, eE_sl, eE_rev, eE_call, eE_b1, eE_b2, eE_isi, eE_join, eL_nil, eL_cons, eA_nil, eA_one, eA_cons, eO_nil, eO_one, eO_cons, eP_no, eP_yes, eC_no, eC_yes, eI_seq, gv_z, gv_s, sv_z, sv_s, bw_ok, bw_exc, Res.ofO_some, Option.map_some, tru_bool, tru_none, intOf_int, noneD, kB, tgD, kT, isi_n, isi_b, isi_i, isi_s, isi_t, isi_l, cutD_T, cutD_L, revD_T, revD_L, bin_add, bin_sub, cmp_lt, cmp_le, cmp_gt, cmp_ge, cmp_eqI, cmp_neI, b1_lenL, b1_lenT, b1_tupL, b1_tupT, b1_lstL, b1_lstT, b1_int, Bool.false_eq_true, if_false, if_true, Bool.not_true, Bool.not_false, decide_true, decide_false, Rs_ok, Rs_exc, lstG, lstD, bindTs, bindT, svAll, wipeE, Option.bind_some, fin_rt, fin_nx, fin_exc]; exact ⟨⟨self, fun _ e => nomatch e⟩, hg⟩
    | int b => simp only [dCut, eB_cons, eB_nil, eS_asg, eS_iff, eS_ret, eS_ex, eS_rai, eS_aug, eS_par, eS_unp, eS_app, eS_ext, eS_asgO, eS_six, eS_brk, eE_var, eE_own, eE_int, eE_bl, eE_non, eE_str, eE_glob, eE_bin, eE_neg, eE_not, eE_and, eE_or, eE_cmp, eE_ch2, eE_isN, eE_isNN, eE_isNT, eE_ife, eE_tup, eE_lst, eE_dct0, eE_ix, eE_sl, eE_rev, eE_call, eE_b1, eE_b2, eE_isi, eE_join, eL_nil, eL_cons, eA_nil, eA_one, eA_cons, eO_nil, eO_one, eO_cons, eP_no, eP_yes, eC_no, eC_yes, eI_seq, gv_z, gv_s, sv_z, sv_s, bw_ok, bw_exc, Res.ofO_some, Option.map_some, tru_bool, tru_none, intOf_int, noneD, kB, tgD, kT, isi_n, isi_b, isi_i, isi_s, isi_t, isi_l, cutD_T, cutD_L, revD_T, revD_L, bin_add, bin_sub, cmp_lt, cmp_le, cmp_gt, cmp_ge, cmp_eqI, cmp_neI, b1_lenL, b1_lenT, b1_tupL, b1_tupT, b1_lstL, b1_lstT, b1_int, Bool.false_eq_true, if_false, if_true, Bool.not_true, Bool.not_false, decide_true, decide_false, Rs_ok, Rs_exc, lstG, lstD, bindTs, bindT, svAll, wipeE, Option.bind_some, fin_rt, fin_nx, fin_exc]; exact ⟨⟨self, fun _ e => nomatch e⟩, hg⟩
    | str b => simp only [dCut, eB_cons, eB_nil, eS_asg, eS_iff, eS_ret, eS_ex, eS_rai, eS_aug, eS_par, eS_unp, eS_app, eS_ext, eS_asgO, eS_six, eS_brk, eE_var, eE_own, eE_int, eE_bl, eE_non, eE_str, eE_glob, eE_bin, eE_neg, eE_not, eE_and, eE_or, eE_cmp, eE_ch2, eE_isN, eE_isNN, eE_isNT, eE_ife, eE_tup, eE_lst, eE_dct0, eE_ix, eE_sl, eE_rev, eE_call, eE_b1, eE_b2, eE_isi, eE_join, eL_nil, eL_cons, eA_nil, eA_one, eA_cons, eO_nil, eO_one, eO_cons, eP_no, eP_yes, eC_no, eC_yes, eI_seq, gv_z, gv_s, sv_z, sv_s, bw_ok, bw_exc, Res.ofO_some, Option.map_some, tru_bool, tru_none, intOf_int, noneD, kB, tgD, kT, isi_n, isi_b, isi_i, isi_s, isi_t, isi_l, cutD_T, cutD_L, revD_T, revD_L, bin_add, bin_sub, cmp_lt, cmp_le, cmp_gt, cmp_ge, cmp_eqI, cmp_neI, b1_lenL, b1_lenT, b1_tupL, b1_tupT, b1_lstL, b1_lstT, b1_int, Bool.false_eq_true, if_false, if_true, Bool.not_true, Bool.not_false, decide_true, decide_false, Rs_ok, Rs_exc, lstG, lstD, bindTs, bindT, svAll, wipeE, Option.bind_some, fin_rt, fin_nx, fin_exc]; exact ⟨⟨self, fun _ e => nomatch e⟩, hg⟩
    | list xs => have := hv.tq; simp [PT.tq] at this
    | dict xs => have := hv.tq; simp [PT.tq] at this
    | tuple ds =>
      have ok : okE (.tuple ds) = true := hv.okE (by omega)
      have hne := cmp_eq (x := .tuple ds) (y := .tuple []) ⟨ok, rfl⟩
      rw [eqv_nil] at hne
      cases k with
      | zero => exact hv.tup0.elim
      | succ k =>
        have hm := Nq.tup.mp hv
        simp only [sz] at hs self ⊢
        have hl := szL_len ds
        have hsz : ∀ x ∈ ds, sz x ≤ 1000 := fun x hx => by have := szL_mem hx; omega
        have hod : ∀ d ∈ ds, Od k d := fun d hd => (hm d hd).od (by have := hsz d hd; omega)
        by_cases h : ds = []
        · subst h
          simp only [dCut, eB_cons, eB_nil, eS_asg, eS_iff, eS_ret, eS_ex, eS_rai, eS_aug, eS_par, eS_unp, eS_app, eS_ext, eS_asgO, eS_six, eS_brk, eE_var, eE_own, eE_int, eE_bl, eE_non, eE_str, eE_glob, eE_bin, eE_neg, eE_not, eE_and, eE_or, eE_cmp, eE_ch2, eE_isN, eE_isNN, eE_isNT, eE_ife, eE_tup, eE_lst, eE_dct0, eE_ix, eE_sl, eE_rev, eE_call, eE_b1, eE_b2, eE_isi, eE_join, eL_nil, eL_cons, eA_nil, eA_one, eA_cons, eO_nil, eO_one, eO_cons, eP_no, eP_yes, eC_no, eC_yes, eI_seq, gv_z, gv_s, sv_z, sv_s, bw_ok, bw_exc, Res.ofO_some, Option.map_some, tru_bool, tru_none, intOf_int, noneD, kB, tgD, kT, isi_n, isi_b, isi_i, isi_s, isi_t, isi_l, cutD_T, cutD_L, revD_T, revD_L, bin_add, bin_sub, cmp_lt, cmp_le, cmp_gt, cmp_ge, cmp_eqI, cmp_neI, b1_lenL, b1_lenT, b1_tupL, b1_tupT, b1_lstL, b1_lstT, b1_int, Bool.false_eq_true, if_false, if_true, Bool.not_true, Bool.not_false, decide_true, decide_false, Rs_ok, Rs_exc, lstG, lstD, bindTs, bindT, svAll, wipeE, Option.bind_some, fin_rt, fin_nx, fin_exc, hne, List.isEmpty_nil]
          exact ⟨⟨self, fun _ _ => ⟨[], rfl⟩⟩, hg⟩
        · have he : ds.isEmpty = false := by cases ds <;> simp_all
          have hpos : 0 < ds.length := List.length_pos_iff.mpr h
          have lc := fun (a b c y x : Option D) (g : G) => notstr_lc (Φ := runF P n) (ds := ds) (a := a) (b := b) (c := c) (y := y) (x := x) (g := g) (by omega) fun d hd => (hm d hd).nd
          have okf : okE (.list (ds.filter fun d => !isS d)) = true := (Od.lst (k := k).mpr ⟨by exact Nat.le_trans (List.length_filter_le _ _) (by omega), fun d hd => hod d (List.mem_filter.mp hd).1⟩).okE (by omega)
          have hnf := cmp_ne (x := .list (ds.filter fun d => !isS d)) (y := .list []) ⟨okf, rfl⟩
          rw [eqv_nilL] at hnf
          by_cases hall : ∀ d ∈ ds, isS d = true
          · have hf : ds.filter (fun d => !isS d) = [] := List.filter_eq_nil_iff.mpr fun d hd => by simp [hall d hd]
            rw [hf] at hnf
            rw [show (dCut nx ct).body = (dCut nx ct).body.take 2 ++ [.asg 2 (.call nx [.var 0, .b1 .len (.var 1)]), .asg 3 (.call nx [.var 0, .bin .add (.b1 .len (.ix (.var 1) (.var 2))) (.int 1)]), .asg 4 cutWays, .asg 4 cutMore, .ret (.ix (.var 4) (.call nx [.var 0, .b1 .len (.var 4)]))] from rfl]
            simp only [dCut, List.take_succ_cons, List.take_zero, List.cons_append, List.nil_append, eB_cons, eB_nil, eS_asg, eS_iff, eS_ret, eS_ex, eS_rai, eS_aug, eS_par, eS_unp, eS_app, eS_ext, eS_asgO, eS_six, eS_brk, eE_var, eE_own, eE_int, eE_bl, eE_non, eE_str, eE_glob, eE_bin, eE_neg, eE_not, eE_and, eE_or, eE_cmp, eE_ch2, eE_isN, eE_isNN, eE_isNT, eE_ife, eE_tup, eE_lst, eE_dct0, eE_ix, eE_sl, eE_rev, eE_call, eE_b1, eE_b2, eE_isi, eE_join, eL_nil, eL_cons, eA_nil, eA_one, eA_cons, eO_nil, eO_one, eO_cons, eP_no, eP_yes, eC_no, eC_yes, eI_seq, gv_z, gv_s, sv_z, sv_s, bw_ok, bw_exc, Res.ofO_some, Option.map_some, tru_bool, tru_none, intOf_int, noneD, kB, tgD, kT, isi_n, isi_b, isi_i, isi_s, isi_t, isi_l, cutD_T, cutD_L, revD_T, revD_L, bin_add, bin_sub, cmp_lt, cmp_le, cmp_gt, cmp_ge, cmp_eqI, cmp_neI, b1_lenL, b1_lenT, b1_tupL, b1_tupT, b1_lstL, b1_lstT, b1_int, Bool.false_eq_true, if_false, if_true, Bool.not_true, Bool.not_false, decide_true, decide_false, Rs_ok, Rs_exc, lstG, lstD, bindTs, bindT, svAll, wipeE, Option.bind_some, fin_rt, fin_nx, fin_exc, hne, he, lc, hf, hnf, List.isEmpty_nil]
            obtain ⟨ss, rfl⟩ := all_str hall
            have hlen : (stL ss).length = ss.length := List.length_map ..
            rw [szL_strs] at hs
            have fit : fitS ss := fun s hs => (hm (.str s) (List.mem_map.mpr ⟨s, hs, rfl⟩)).lay
            simp only [Rs_bw]
            refine next_rs hN (by omega) (by omega) (by omega) hg fun a g1 a0 a1 hg1 => ?_
            obtain ⟨a, rfl⟩ := Int.eq_ofNat_of_zero_le a0
            have ha : a < ss.length := by omega
            have hx : ∀ g, ixG (.tuple (stL ss)) (.int a) g = some (.str ss[a]) := fun g => by rw [ixT_nat (by omega)]; simp [stL]
            have hxl : ss[a].length ≤ 1000 := by
              have := flat_sub (List.singleton_sublist.mpr (List.getElem_mem ha))
              simp only [List.flatMap_cons, List.flatMap_nil, List.append_nil, ← cp_len] at this
              omega
            have hxl2 := b1_lenS (x := ss[a]) (line_of (by omega))
            simp only [eB_cons, eB_nil, eS_asg, eS_iff, eS_ret, eS_ex, eS_rai, eS_aug, eS_par, eS_unp, eS_app, eS_ext, eS_asgO, eS_six, eS_brk, eE_var, eE_own, eE_int, eE_bl, eE_non, eE_str, eE_glob, eE_bin, eE_neg, eE_not, eE_and, eE_or, eE_cmp, eE_ch2, eE_isN, eE_isNN, eE_isNT, eE_ife, eE_tup, eE_lst, eE_dct0, eE_ix, eE_sl, eE_rev, eE_call, eE_b1, eE_b2, eE_isi, eE_join, eL_nil, eL_cons, eA_nil, eA_one, eA_cons, eO_nil, eO_one, eO_cons, eP_no, eP_yes, eC_no, eC_yes, eI_seq, gv_z, gv_s, sv_z, sv_s, bw_ok, bw_exc, Res.ofO_some, Option.map_some, tru_bool, tru_none, intOf_int, noneD, kB, tgD, kT, isi_n, isi_b, isi_i, isi_s, isi_t, isi_l, cutD_T, cutD_L, revD_T, revD_L, bin_add, bin_sub, cmp_lt, cmp_le, cmp_gt, cmp_ge, cmp_eqI, cmp_neI, b1_lenL, b1_lenT, b1_tupL, b1_tupT, b1_lstL, b1_lstT, b1_int, Bool.false_eq_true, if_false, if_true, Bool.not_true, Bool.not_false, decide_true, decide_false, Rs_ok, Rs_exc, lstG, lstD, bindTs, bindT, svAll, wipeE, Option.bind_some, fin_rt, fin_nx, fin_exc, hx, hxl2]
            simp only [Rs_bw]
            refine next_rs hN (by omega) (by omega) (by omega) hg1 fun b g2 b0 b1 hg2 => ?_
            obtain ⟨b, rfl⟩ := Int.eq_ofNat_of_zero_le b0
            obtain ⟨l0, w1, w2, w3⟩ := ways_ok (Φ := runF P n) (b := b) ha (by omega) fit (x := none) (y := none) (g := g2) (k := k)
            obtain ⟨l1, v1, v2, v3⟩ := more_ok (Φ := runF P n) (b := some (.int b)) ha (by omega) fit (y := none) w2 (g := g2) (k := k) w3
            simp only [eB_cons, eB_nil, eS_asg, eS_iff, eS_ret, eS_ex, eS_rai, eS_aug, eS_par, eS_unp, eS_app, eS_ext, eS_asgO, eS_six, eS_brk, eE_var, eE_own, eE_int, eE_bl, eE_non, eE_str, eE_glob, eE_bin, eE_neg, eE_not, eE_and, eE_or, eE_cmp, eE_ch2, eE_isN, eE_isNN, eE_isNT, eE_ife, eE_tup, eE_lst, eE_dct0, eE_ix, eE_sl, eE_rev, eE_call, eE_b1, eE_b2, eE_isi, eE_join, eL_nil, eL_cons, eA_nil, eA_one, eA_cons, eO_nil, eO_one, eO_cons, eP_no, eP_yes, eC_no, eC_yes, eI_seq, gv_z, gv_s, sv_z, sv_s, bw_ok, bw_exc, Res.ofO_some, Option.map_some, tru_bool, tru_none, intOf_int, noneD, kB, tgD, kT, isi_n, isi_b, isi_i, isi_s, isi_t, isi_l, cutD_T, cutD_L, revD_T, revD_L, bin_add, bin_sub, cmp_lt, cmp_le, cmp_gt, cmp_ge, cmp_eqI, cmp_neI, b1_lenL, b1_lenT, b1_tupL, b1_tupT, b1_lstL, b1_lstT, b1_int, Bool.false_eq_true, if_false, if_true, Bool.not_true, Bool.not_false, decide_true, decide_false, Rs_ok, Rs_exc, lstG, lstD, bindTs, bindT, svAll, wipeE, Option.bind_some, fin_rt, fin_nx, fin_exc, w1, v1]
            simp only [Rs_bw]
            refine next_rs hN (by omega) (by omega) (by omega) hg2 fun c g3 c0 c1 hg3 => ?_
            simp only [ixG_L]
            refine pick2 c0 c1 fun x hx => ?_
            simp only [Rs_ok]
            exact ⟨⟨(v3 x hx).1.mono (Nat.le_refl _) (by omega), fun _ _ => (v3 x hx).2⟩, hg3⟩
          · have hf : (ds.filter (fun d => !isS d)).isEmpty = false := by
              rw [Bool.eq_false_iff]
              intro h2
              apply hall
              intro d hd
              have := List.filter_eq_nil_iff.mp (List.isEmpty_iff.mp h2) d hd
              simpa using this
            simp only [dCut, eB_cons, eB_nil, eS_asg, eS_iff, eS_ret, eS_ex, eS_rai, eS_aug, eS_par, eS_unp, eS_app, eS_ext, eS_asgO, eS_six, eS_brk, eE_var, eE_own, eE_int, eE_bl, eE_non, eE_str, eE_glob, eE_bin, eE_neg, eE_not, eE_and, eE_or, eE_cmp, eE_ch2, eE_isN, eE_isNN, eE_isNT, eE_ife, eE_tup, eE_lst, eE_dct0, eE_ix, eE_sl, eE_rev, eE_call, eE_b1, eE_b2, eE_isi, eE_join, eL_nil, eL_cons, eA_nil, eA_one, eA_cons, eO_nil, eO_one, eO_cons, eP_no, eP_yes, eC_no, eC_yes, eI_seq, gv_z, gv_s, sv_z, sv_s, bw_ok, bw_exc, Res.ofO_some, Option.map_some, tru_bool, tru_none, intOf_int, noneD, kB, tgD, kT, isi_n, isi_b, isi_i, isi_s, isi_t, isi_l, cutD_T, cutD_L, revD_T, revD_L, bin_add, bin_sub, cmp_lt, cmp_le, cmp_gt, cmp_ge, cmp_eqI, cmp_neI, b1_lenL, b1_lenT, b1_tupL, b1_tupT, b1_lstL, b1_lstT, b1_int, Bool.false_eq_true, if_false, if_true, Bool.not_true, Bool.not_false, decide_true, decide_false, Rs_ok, Rs_exc, lstG, lstD, bindTs, bindT, svAll, wipeE, Option.bind_some, fin_rt, fin_nx, fin_exc, hne, he, lc, hnf, hf]
            simp only [Rs_bw]
            refine next_rs hN (by omega) (by omega) (by omega) hg fun a g1 a0 a1 hg1 => ?_
            obtain ⟨a, rfl⟩ := Int.eq_ofNat_of_zero_le a0
            have ha : a < ds.length := by omega
            have hx : ∀ g, ixG (.tuple ds) (.int a) g = some ds[a] := fun g => ixT_nat ha
            have e1 : ((a : Int) + 1) = ((a + 1 : Nat) : Int) := by omega
            simp only [eB_cons, eB_nil, eS_asg, eS_iff, eS_ret, eS_ex, eS_rai, eS_aug, eS_par, eS_unp, eS_app, eS_ext, eS_asgO, eS_six, eS_brk, eE_var, eE_own, eE_int, eE_bl, eE_non, eE_str, eE_glob, eE_bin, eE_neg, eE_not, eE_and, eE_or, eE_cmp, eE_ch2, eE_isN, eE_isNN, eE_isNT, eE_ife, eE_tup, eE_lst, eE_dct0, eE_ix, eE_sl, eE_rev, eE_call, eE_b1, eE_b2, eE_isi, eE_join, eL_nil, eL_cons, eA_nil, eA_one, eA_cons, eO_nil, eO_one, eO_cons, eP_no, eP_yes, eC_no, eC_yes, eI_seq, gv_z, gv_s, sv_z, sv_s, bw_ok, bw_exc, Res.ofO_some, Option.map_some, tru_bool, tru_none, intOf_int, noneD, kB, tgD, kT, isi_n, isi_b, isi_i, isi_s, isi_t, isi_l, cutD_T, cutD_L, revD_T, revD_L, bin_add, bin_sub, cmp_lt, cmp_le, cmp_gt, cmp_ge, cmp_eqI, cmp_neI, b1_lenL, b1_lenT, b1_tupL, b1_tupT, b1_lstL, b1_lstT, b1_int, Bool.false_eq_true, if_false, if_true, Bool.not_true, Bool.not_false, decide_true, decide_false, Rs_ok, Rs_exc, lstG, lstD, bindTs, bindT, svAll, wipeE, Option.bind_some, fin_rt, fin_nx, fin_exc, hx, cut_take]
            simp only [Rs_bw]
            refine (cut_ok hN hC k n (by omega) (by omega) ds[a] g1 (hm _ (List.getElem_mem ha)) (hsz _ (List.getElem_mem ha)) hg1).mono (fun r g2 ⟨⟨hr, _⟩, hg2⟩ => ?_) fun _ _ h => h
            have t1 := bin_addT' (xs := ds.take a) (ys := [r]) (by have := List.length_take_le a ds; simp; omega)
            have t2 := bin_addT' (xs := ds.take a ++ [r]) (ys := ds.drop (a + 1)) (by have := List.length_take_le a ds; simp; omega)
            simp only [eB_cons, eB_nil, eS_asg, eS_iff, eS_ret, eS_ex, eS_rai, eS_aug, eS_par, eS_unp, eS_app, eS_ext, eS_asgO, eS_six, eS_brk, eE_var, eE_own, eE_int, eE_bl, eE_non, eE_str, eE_glob, eE_bin, eE_neg, eE_not, eE_and, eE_or, eE_cmp, eE_ch2, eE_isN, eE_isNN, eE_isNT, eE_ife, eE_tup, eE_lst, eE_dct0, eE_ix, eE_sl, eE_rev, eE_call, eE_b1, eE_b2, eE_isi, eE_join, eL_nil, eL_cons, eA_nil, eA_one, eA_cons, eO_nil, eO_one, eO_cons, eP_no, eP_yes, eC_no, eC_yes, eI_seq, gv_z, gv_s, sv_z, sv_s, bw_ok, bw_exc, Res.ofO_some, Option.map_some, tru_bool, tru_none, intOf_int, noneD, kB, tgD, kT, isi_n, isi_b, isi_i, isi_s, isi_t, isi_l, cutD_T, cutD_L, revD_T, revD_L, bin_add, bin_sub, cmp_lt, cmp_le, cmp_gt, cmp_ge, cmp_eqI, cmp_neI, b1_lenL, b1_lenT, b1_tupL, b1_tupT, b1_lstL, b1_lstT, b1_int, Bool.false_eq_true, if_false, if_true, Bool.not_true, Bool.not_false, decide_true, decide_false, Rs_ok, Rs_exc, lstG, lstD, bindTs, bindT, svAll, wipeE, Option.bind_some, fin_rt, fin_nx, fin_exc, e1, cut_drop, t1, t2]
            have sp := szL_split ha
            have hr2 := hr.2
            refine ⟨⟨.tup (by rw [szL_app, szL_app]; simp only [szL]; omega) (by omega) fun d hx => ?_, fun _ _ => ⟨_, rfl⟩⟩, hg2⟩
            simp only [List.append_assoc, List.cons_append, List.nil_append, List.mem_append, List.mem_cons] at hx
            rcases hx with hx | rfl | hx
            · exact hod d (List.mem_of_mem_take hx)
            · exact hr.1
            · exact hod d (List.mem_of_mem_drop hx)
end
end PT
namespace PT
open PySem
def dTurned (nx it ex ct : Nat) : Def := { name := "_law_turned_about", ps := 2, ns := ["state", "told", "numbers", "pick", "one", "other", "k", "j", "part"], mu := [], fr := false, body := [
    .asg 2 (.call it [.var 1]),
    .asg 3 (.call nx [.var 0, .int 5]),
    .iff (.and (.cmp .lt (.var 3) (.int 3)) [.cmp .ne (.var 2) (.lst [])]) [.asg 4 (.ix (.var 2) (.call nx [.var 0, .b1 .len (.var 2)])), .asg 5 (.ife (.cmp .eq (.var 3) (.int 0)) (.bin .add (.var 4) (.int 1)) (.ix (.var 2) (.call nx [.var 0, .b1 .len (.var 2)]))), .ret (.call ex [.var 1, .var 4, .var 5])] [],
    .iff (.cmp .eq (.var 3) (.int 3)) [.ret (.bin .add (.sl (.var 1) .no (.yes (.int 1))) (.ife (.cmp .gt (.b1 .len (.var 1)) (.int 2)) (.call ct [.var 0, .sl (.var 1) (.yes (.int 1)) .no]) (.b1 .tuple (.lc [8] (.n 8) (.seq (.sl (.var 1) (.yes (.int 1)) .no)) .no (.call ct [.var 0, .var 8])))))] [],
    .par [(6, false), (7, false)] [.call nx [.var 0, .b1 .len (.var 1)], .call nx [.var 0, .b1 .len (.var 1)]],
    .iff (.and (.cmp .eq (.b1 .len (.var 1)) (.int 2)) [.isi .tuple (.ix (.var 1) (.int 1)), .cmp .ne (.ix (.var 1) (.int 1)) (.tup [])]) [.par [(6, false), (7, false)] [.call nx [.var 0, .b1 .len (.ix (.var 1) (.int 1))], .call nx [.var 0, .b1 .len (.ix (.var 1) (.int 1))]], .ret (.tup [.ix (.var 1) (.int 0), .bin .add (.bin .add (.sl (.ix (.var 1) (.int 1)) .no (.yes (.var 6))) (.sl (.ix (.var 1) (.int 1)) (.yes (.var 7)) (.yes (.bin .add (.var 7) (.int 1))))) (.sl (.ix (.var 1) (.int 1)) (.yes (.bin .add (.var 6) (.int 1))) .no)])] [],
    .ret (.ife (.and (.cmp .gt (.var 6) (.int 0)) [.cmp .gt (.var 7) (.int 0)]) (.bin .add (.bin .add (.sl (.var 1) .no (.yes (.var 6))) (.sl (.var 1) (.yes (.var 7)) (.yes (.bin .add (.var 7) (.int 1))))) (.sl (.var 1) (.yes (.bin .add (.var 6) (.int 1))) .no)) (.var 1))] }
def dOdd (nx ch tu : Nat) : Def := { name := "_law_odd", ps := 2, ns := ["state", "told", "odd", "pick"], mu := [], fr := false, body := [
    .asg 2 (.lst [.non, .str "", .str "yes", .dct0, .tup [], .sl (.var 1) .no (.yes (.int 1)), .b1 .list (.var 1), .bin .add (.var 1) (.tup [.int 0]), .bin .add (.tup [.lst [.ix (.var 1) (.int 0)]]) (.sl (.var 1) (.yes (.int 1)) .no), .bin .add (.tup [.str "none such"]) (.sl (.var 1) (.yes (.int 1)) .no), .int 7]),
    .asg 3 (.call nx [.var 0, .int 9]),
    .iff (.cmp .gt (.var 3) (.int 4)) [.ret (.call tu [.var 0, .var 1])] [],
    .ret (.ife (.cmp .eq (.var 3) (.int 0)) (.ix (.var 2) (.call nx [.var 0, .b1 .len (.var 2)])) (.call ch [.var 0, .var 1]))] }
/-- what a def of the program tells -/
structure Tol (d : D) : Prop where
  shape : ∃ w x r, d = .tuple (.str w :: x :: r)
  nq : Nq 30 d
  sz : PT.sz d ≤ 1000
/-- what is asked -/
def Ask (d : D) : Prop := Oz 40 20000 d ∨ d = .dict []
section
variable {P : List Def} {nx it ex ct ch tu : Nat}
/-- a part in the place of another one -/
theorem mix_ok {ds : List D} {k m : Nat} (hl : 1 + 3 * szL ds ≤ m) (hm : m ≤ 20000) (hd : ∀ d ∈ ds, Od k d) {a b : Nat} :
    binD .add (.tuple (ds.take a)) (.tuple (cutL ds (some (b : Int)) (some ((b : Int) + 1)))) = some (.tuple (ds.take a ++ cutL ds (some (b : Int)) (some ((b : Int) + 1)))) ∧
    binD .add (.tuple (ds.take a ++ cutL ds (some (b : Int)) (some ((b : Int) + 1)))) (.tuple (ds.drop (a + 1))) = some (.tuple (ds.take a ++ cutL ds (some (b : Int)) (some ((b : Int) + 1)) ++ ds.drop (a + 1))) ∧
    Oz (k + 1) m (.tuple (ds.take a ++ cutL ds (some (b : Int)) (some ((b : Int) + 1)) ++ ds.drop (a + 1))) := by
  have l0 := szL_len ds
  have l1 := (List.take_sublist a ds).length_le
  have l2 := cut_len (lo := some (b : Int)) (hi := some ((b : Int) + 1)) (xs := ds)
  have l3 := (List.drop_sublist (a + 1) ds).length_le
  refine ⟨bin_addT' (by omega), bin_addT' (by rw [List.length_append]; omega), .tup ?_ (by omega) fun d hx => ?_⟩
  · have s1 := szL_sub (List.take_sublist a ds)
    have s2 := szL_sub (cutL_sub ds (some (b : Int)) (some ((b : Int) + 1)))
    have s3 := szL_sub (List.drop_sublist (a + 1) ds)
    rw [szL_app, szL_app]
    omega
  · rcases List.mem_append.mp hx with hx | hx
    · rcases List.mem_append.mp hx with hx | hx
      · exact hd d (List.mem_of_mem_take hx)
      · exact hd d (cut_mem hx)
    · exact hd d (List.mem_of_mem_drop hx)
theorem turned_ok (hN : P[nx]? = some dNext) (hI : P[it]? = some (dInts it)) (hX : P[ex]? = some (dExch ex)) (hC : P[ct]? = some (dCut nx ct)) (hT : P[tu]? = some (dTurned nx it ex ct)) {n : Nat} (hn : 40 ≤ n) {v : D} (hv : Tol v) {g : G} (hg : GS g) :
    Rs (runF P n tu [stD, v] g) (fun d g' => Oz 40 20000 d ∧ GS g') NoE := by
  obtain ⟨n, rfl⟩ : ∃ m, n = m + 1 := ⟨n - 1, by omega⟩
  obtain ⟨⟨w, x, r, rfl⟩, hq, hs⟩ := hv
  generalize hds : (PyData.str w :: x :: r) = ds at *
  have hlen : 2 ≤ ds.length := by rw [← hds]; simp
  have hm := Nq.tup.mp hq
  simp only [sz] at hs
  have hl := szL_len ds
  have hsz : ∀ x ∈ ds, sz x ≤ 999 := fun x hx => by have := szL_mem hx; omega
  have hod : ∀ d ∈ ds, Od 29 d := fun d hd => (hm d hd).od (by have := hsz d hd; omega)
  obtain ⟨ns, i1, i2, i3⟩ := ints_ok hI 30 n (by omega) (.tuple ds) hq (by simp only [sz]; omega)
  have okn : okE (mkL ns) = true := (Od.lst (k := 0).mpr ⟨by simp only [List.length_map]; simp only [sz] at i2; omega, fun d hd => by
    obtain ⟨i, hi, rfl⟩ := List.mem_map.mp hd
    exact Od.int (Nat.lt_trans (i3 i hi) two_lt)⟩).okE (by decide)
  have hne := cmp_ne (x := mkL ns) (y := .list []) ⟨okn, rfl⟩
  rw [show PyData.eqv (mkL ns) (.list []) = (ns.map PyData.int).isEmpty from eqv_nilL] at hne
  rw [run_def hT rfl, Rs_fin]
  show Rs (evB (runF P n) (dTurned nx it ex ct).body [some stD, some (.tuple ds), none, none, none, none, none, none, none] g) _ _
  simp only [dTurned, eB_cons, eB_nil, eS_asg, eS_iff, eS_ret, eS_ex, eS_rai, eS_aug, eS_par, eS_unp, eS_app, eS_ext, eS_asgO, eS_six, eS_brk, eE_var, eE_own, eE_int, eE_bl, eE_non, eE_str, eE_glob, eE_bin, eE_neg, eE_not, eE_and, eE_or, eE_cmp, eE_ch2, eE_isN, eE_isNN, eE_isNT, eE_ife, eE_tup, eE_lst, eE_dct0, eE_ix, eE_sl, eE_rev, eE_call, eE_b1, eE_b2, eE_isi, eE_join, eL_nil, eL_cons, eA_nil, eA_one, eA_cons, eO_nil, eO_one, eO_cons, eP_no, eP_yes, eC_no, eC_yes, eI_seq, gv_z, gv_s, sv_z, sv_s, bw_ok, bw_exc, Res.ofO_some, Option.map_some, tru_bool, tru_none, intOf_int, noneD, kB, tgD, kT, isi_n, isi_b, isi_i, isi_s, isi_t, isi_l, cutD_T, cutD_L, revD_T, revD_L, bin_add, bin_sub, cmp_lt, cmp_le, cmp_gt, cmp_ge, cmp_eqI, cmp_neI, b1_lenL, b1_lenT, b1_tupL, b1_tupT, b1_lstL, b1_lstT, b1_int, Bool.false_eq_true, if_false, if_true, Bool.not_true, Bool.not_false, decide_true, decide_false, Rs_ok, Rs_exc, lstG, lstD, bindTs, bindT, svAll, wipeE, Option.bind_some, fin_rt, fin_nx, fin_exc, i1]
  simp only [Rs_bw]
  refine next_rs hN (by omega) (by decide) (by decide) hg fun pick g1 p0 p1 hg1 => ?_
  -- what follows where no numbers are exchanged
  have rest : ∀ z u : Option D, Rs (evB (runF P n) ((dTurned nx it ex ct).body.drop 3) [some stD, some (.tuple ds), some (mkL ns), some (.int pick), z, u, none, none, none] g1) (fun fl g' => ∃ d, fl = .rt d ∧ Oz 40 20000 d ∧ GS g') NoE := by
    intro z u
    simp only [dTurned, List.drop_succ_cons, List.drop_zero]
    by_cases h3 : pick = 3
    · -- texts cut
      have c1 : cutL ds none (some (1 : Int)) = ds.take 1 := cut_take (k := 1)
      have c2 : cutL ds (some (1 : Int)) none = ds.drop 1 := cut_drop (k := 1)
      have s1 := szL_sub (List.take_sublist 1 ds)
      have s2 := szL_sub (List.drop_sublist 1 ds)
      have l1 := (List.take_sublist 1 ds).length_le
      by_cases h2 : ds.length > 2
      · have h2' : (2 : Int) < ds.length := by omega
        simp only [eB_cons, eB_nil, eS_asg, eS_iff, eS_ret, eS_ex, eS_rai, eS_aug, eS_par, eS_unp, eS_app, eS_ext, eS_asgO, eS_six, eS_brk, eE_var, eE_own, eE_int, eE_bl, eE_non, eE_str, eE_glob, eE_bin, eE_neg, eE_not, eE_and, eE_or, eE_cmp, eE_ch2, eE_isN, eE_isNN, eE_isNT, eE_ife, eE_tup, eE_lst, eE_dct0, eE_ix, eE_sl, eE_rev, eE_call, eE_b1, eE_b2, eE_isi, eE_join, eL_nil, eL_cons, eA_nil, eA_one, eA_cons, eO_nil, eO_one, eO_cons, eP_no, eP_yes, eC_no, eC_yes, eI_seq, gv_z, gv_s, sv_z, sv_s, bw_ok, bw_exc, Res.ofO_some, Option.map_some, tru_bool, tru_none, intOf_int, noneD, kB, tgD, kT, isi_n, isi_b, isi_i, isi_s, isi_t, isi_l, cutD_T, cutD_L, revD_T, revD_L, bin_add, bin_sub, cmp_lt, cmp_le, cmp_gt, cmp_ge, cmp_eqI, cmp_neI, b1_lenL, b1_lenT, b1_tupL, b1_tupT, b1_lstL, b1_lstT, b1_int, Bool.false_eq_true, if_false, if_true, Bool.not_true, Bool.not_false, decide_true, decide_false, Rs_ok, Rs_exc, lstG, lstD, bindTs, bindT, svAll, wipeE, Option.bind_some, fin_rt, fin_nx, fin_exc, h3, h2', c1, c2]
        simp only [Rs_bw]
        have hq2 : Nq 30 (.tuple (ds.drop 1)) := Nq.tup.mpr fun d hd => hm d (List.mem_of_mem_drop hd)
        refine (cut_ok hN hC 30 n (by omega) (by omega) _ g1 hq2 (by simp only [sz]; omega) hg1).mono (fun d g2 ⟨⟨hd, ht⟩, hg2⟩ => ?_) fun _ _ h => h
        obtain ⟨es, rfl⟩ := ht _ rfl
        have e2 := hd.2
        simp only [sz] at e2
        have l2 := szL_len es
        simp only [eB_cons, eB_nil, eS_asg, eS_iff, eS_ret, eS_ex, eS_rai, eS_aug, eS_par, eS_unp, eS_app, eS_ext, eS_asgO, eS_six, eS_brk, eE_var, eE_own, eE_int, eE_bl, eE_non, eE_str, eE_glob, eE_bin, eE_neg, eE_not, eE_and, eE_or, eE_cmp, eE_ch2, eE_isN, eE_isNN, eE_isNT, eE_ife, eE_tup, eE_lst, eE_dct0, eE_ix, eE_sl, eE_rev, eE_call, eE_b1, eE_b2, eE_isi, eE_join, eL_nil, eL_cons, eA_nil, eA_one, eA_cons, eO_nil, eO_one, eO_cons, eP_no, eP_yes, eC_no, eC_yes, eI_seq, gv_z, gv_s, sv_z, sv_s, bw_ok, bw_exc, Res.ofO_some, Option.map_some, tru_bool, tru_none, intOf_int, noneD, kB, tgD, kT, isi_n, isi_b, isi_i, isi_s, isi_t, isi_l, cutD_T, cutD_L, revD_T, revD_L, bin_add, bin_sub, cmp_lt, cmp_le, cmp_gt, cmp_ge, cmp_eqI, cmp_neI, b1_lenL, b1_lenT, b1_tupL, b1_tupT, b1_lstL, b1_lstT, b1_int, Bool.false_eq_true, if_false, if_true, Bool.not_true, Bool.not_false, decide_true, decide_false, Rs_ok, Rs_exc, lstG, lstD, bindTs, bindT, svAll, wipeE, Option.bind_some, fin_rt, fin_nx, fin_exc, bin_addT' (xs := ds.take 1) (ys := es) (by omega)]
        refine ⟨_, rfl, Oz.mono (k := 30) (m := 18000) (.tup (by rw [szL_app]; omega) (by omega) fun d hx => ?_) (by omega) (by omega), hg2⟩
        rcases List.mem_append.mp hx with hx | hx
        · exact hod d (List.mem_of_mem_take hx)
        · exact (Od.tup.mp hd.1).2 d hx
      · have h2' : ¬ (2 : Int) < ds.length := by omega
        simp only [eB_cons, eB_nil, eS_asg, eS_iff, eS_ret, eS_ex, eS_rai, eS_aug, eS_par, eS_unp, eS_app, eS_ext, eS_asgO, eS_six, eS_brk, eE_var, eE_own, eE_int, eE_bl, eE_non, eE_str, eE_glob, eE_bin, eE_neg, eE_not, eE_and, eE_or, eE_cmp, eE_ch2, eE_isN, eE_isNN, eE_isNT, eE_ife, eE_tup, eE_lst, eE_dct0, eE_ix, eE_sl, eE_rev, eE_call, eE_b1, eE_b2, eE_isi, eE_join, eL_nil, eL_cons, eA_nil, eA_one, eA_cons, eO_nil, eO_one, eO_cons, eP_no, eP_yes, eC_no, eC_yes, eI_seq, gv_z, gv_s, sv_z, sv_s, bw_ok, bw_exc, Res.ofO_some, Option.map_some, tru_bool, tru_none, intOf_int, noneD, kB, tgD, kT, isi_n, isi_b, isi_i, isi_s, isi_t, isi_l, cutD_T, cutD_L, revD_T, revD_L, bin_add, bin_sub, cmp_lt, cmp_le, cmp_gt, cmp_ge, cmp_eqI, cmp_neI, b1_lenL, b1_lenT, b1_tupL, b1_tupT, b1_lstL, b1_lstT, b1_int, Bool.false_eq_true, if_false, if_true, Bool.not_true, Bool.not_false, decide_true, decide_false, Rs_ok, Rs_exc, lstG, lstD, bindTs, bindT, svAll, wipeE, Option.bind_some, fin_rt, fin_nx, fin_exc, h3, h2', c1, c2, eE_lc, itemsD_T]
        simp only [Rs_bw]
        have hr := lc_rs (f := lcQ (runF P n) [8] (.n 8) .no (.call ct [.var 0, .var 8]) [some stD, some (.tuple ds), some (mkL ns), some (.int 3), z, u, none, none, none]) (Q := fun d => Oz 29 13000 d) (l := ds.drop 1) (e := fun x => x) (g := g1) (line_of (by simp only [List.length_drop]; omega)) (fun d hd g hg => by
          simp only [lcQ_eq, eB_cons, eB_nil, eS_asg, eS_iff, eS_ret, eS_ex, eS_rai, eS_aug, eS_par, eS_unp, eS_app, eS_ext, eS_asgO, eS_six, eS_brk, eE_var, eE_own, eE_int, eE_bl, eE_non, eE_str, eE_glob, eE_bin, eE_neg, eE_not, eE_and, eE_or, eE_cmp, eE_ch2, eE_isN, eE_isNN, eE_isNT, eE_ife, eE_tup, eE_lst, eE_dct0, eE_ix, eE_sl, eE_rev, eE_call, eE_b1, eE_b2, eE_isi, eE_join, eL_nil, eL_cons, eA_nil, eA_one, eA_cons, eO_nil, eO_one, eO_cons, eP_no, eP_yes, eC_no, eC_yes, eI_seq, gv_z, gv_s, sv_z, sv_s, bw_ok, bw_exc, Res.ofO_some, Option.map_some, tru_bool, tru_none, intOf_int, noneD, kB, tgD, kT, isi_n, isi_b, isi_i, isi_s, isi_t, isi_l, cutD_T, cutD_L, revD_T, revD_L, bin_add, bin_sub, cmp_lt, cmp_le, cmp_gt, cmp_ge, cmp_eqI, cmp_neI, b1_lenL, b1_lenT, b1_tupL, b1_tupT, b1_lstL, b1_lstT, b1_int, Bool.false_eq_true, if_false, if_true, Bool.not_true, Bool.not_false, decide_true, decide_false, Rs_ok, Rs_exc, lstG, lstD, bindTs, bindT, svAll, wipeE, Option.bind_some, fin_rt, fin_nx, fin_exc]
          simp only [Rs_bw]
          refine (cut_ok hN hC 29 n (by omega) (by omega) d g (hm d (List.mem_of_mem_drop hd)) (by have := hsz d (List.mem_of_mem_drop hd); omega) hg).mono (fun y g2 ⟨⟨hd2, ht⟩, hg2⟩ => ?_) fun _ _ h => h
          simp only [Rs_ok]
          exact ⟨⟨y, rfl, hd2.mono (Nat.le_refl _) (by have := hsz d (List.mem_of_mem_drop hd); omega)⟩, hg2⟩) hg1
        rw [List.map_id'] at hr
        refine hr.mono (fun d g2 ⟨ys, e, y1, y2, hg2⟩ => ?_) fun _ _ h => h
        subst e
        have hy : szL ys ≤ 13000 := by
          have : ys.length = 1 := by rw [y1, List.length_drop]; omega
          obtain ⟨y, rfl⟩ := List.length_eq_one_iff.mp this
          have := (y2 y (List.mem_cons_self ..)).2
          simp only [szL]
          omega
        have l2 := szL_len ys
        simp only [eB_cons, eB_nil, eS_asg, eS_iff, eS_ret, eS_ex, eS_rai, eS_aug, eS_par, eS_unp, eS_app, eS_ext, eS_asgO, eS_six, eS_brk, eE_var, eE_own, eE_int, eE_bl, eE_non, eE_str, eE_glob, eE_bin, eE_neg, eE_not, eE_and, eE_or, eE_cmp, eE_ch2, eE_isN, eE_isNN, eE_isNT, eE_ife, eE_tup, eE_lst, eE_dct0, eE_ix, eE_sl, eE_rev, eE_call, eE_b1, eE_b2, eE_isi, eE_join, eL_nil, eL_cons, eA_nil, eA_one, eA_cons, eO_nil, eO_one, eO_cons, eP_no, eP_yes, eC_no, eC_yes, eI_seq, gv_z, gv_s, sv_z, sv_s, bw_ok, bw_exc, Res.ofO_some, Option.map_some, tru_bool, tru_none, intOf_int, noneD, kB, tgD, kT, isi_n, isi_b, isi_i, isi_s, isi_t, isi_l, cutD_T, cutD_L, revD_T, revD_L, bin_add, bin_sub, cmp_lt, cmp_le, cmp_gt, cmp_ge, cmp_eqI, cmp_neI, b1_lenL, b1_lenT, b1_tupL, b1_tupT, b1_lstL, b1_lstT, b1_int, Bool.false_eq_true, if_false, if_true, Bool.not_true, Bool.not_false, decide_true, decide_false, Rs_ok, Rs_exc, lstG, lstD, bindTs, bindT, svAll, wipeE, Option.bind_some, fin_rt, fin_nx, fin_exc, bin_addT' (xs := ds.take 1) (ys := ys) (by omega)]
        refine ⟨_, rfl, Oz.mono (k := 30) (m := 15000) (.tup (by rw [szL_app]; omega) (by omega) fun d hx => ?_) (by omega) (by omega), hg2⟩
        rcases List.mem_append.mp hx with hx | hx
        · exact hod d (List.mem_of_mem_take hx)
        · exact (y2 d hx).1
    · simp only [eB_cons, eB_nil, eS_asg, eS_iff, eS_ret, eS_ex, eS_rai, eS_aug, eS_par, eS_unp, eS_app, eS_ext, eS_asgO, eS_six, eS_brk, eE_var, eE_own, eE_int, eE_bl, eE_non, eE_str, eE_glob, eE_bin, eE_neg, eE_not, eE_and, eE_or, eE_cmp, eE_ch2, eE_isN, eE_isNN, eE_isNT, eE_ife, eE_tup, eE_lst, eE_dct0, eE_ix, eE_sl, eE_rev, eE_call, eE_b1, eE_b2, eE_isi, eE_join, eL_nil, eL_cons, eA_nil, eA_one, eA_cons, eO_nil, eO_one, eO_cons, eP_no, eP_yes, eC_no, eC_yes, eI_seq, gv_z, gv_s, sv_z, sv_s, bw_ok, bw_exc, Res.ofO_some, Option.map_some, tru_bool, tru_none, intOf_int, noneD, kB, tgD, kT, isi_n, isi_b, isi_i, isi_s, isi_t, isi_l, cutD_T, cutD_L, revD_T, revD_L, bin_add, bin_sub, cmp_lt, cmp_le, cmp_gt, cmp_ge, cmp_eqI, cmp_neI, b1_lenL, b1_lenT, b1_tupL, b1_tupT, b1_lstL, b1_lstT, b1_int, Bool.false_eq_true, if_false, if_true, Bool.not_true, Bool.not_false, decide_true, decide_false, Rs_ok, Rs_exc, lstG, lstD, bindTs, bindT, svAll, wipeE, Option.bind_some, fin_rt, fin_nx, fin_exc, h3]
      simp only [Rs_bw]
      refine next_rs hN (by omega) (by omega) (by omega) hg1 fun a g2 a0 a1 hg2 => ?_
      simp only [eB_cons, eB_nil, eS_asg, eS_iff, eS_ret, eS_ex, eS_rai, eS_aug, eS_par, eS_unp, eS_app, eS_ext, eS_asgO, eS_six, eS_brk, eE_var, eE_own, eE_int, eE_bl, eE_non, eE_str, eE_glob, eE_bin, eE_neg, eE_not, eE_and, eE_or, eE_cmp, eE_ch2, eE_isN, eE_isNN, eE_isNT, eE_ife, eE_tup, eE_lst, eE_dct0, eE_ix, eE_sl, eE_rev, eE_call, eE_b1, eE_b2, eE_isi, eE_join, eL_nil, eL_cons, eA_nil, eA_one, eA_cons, eO_nil, eO_one, eO_cons, eP_no, eP_yes, eC_no, eC_yes, eI_seq, gv_z, gv_s, sv_z, sv_s, bw_ok, bw_exc, Res.ofO_some, Option.map_some, tru_bool, tru_none, intOf_int, noneD, kB, tgD, kT, isi_n, isi_b, isi_i, isi_s, isi_t, isi_l, cutD_T, cutD_L, revD_T, revD_L, bin_add, bin_sub, cmp_lt, cmp_le, cmp_gt, cmp_ge, cmp_eqI, cmp_neI, b1_lenL, b1_lenT, b1_tupL, b1_tupT, b1_lstL, b1_lstT, b1_int, Bool.false_eq_true, if_false, if_true, Bool.not_true, Bool.not_false, decide_true, decide_false, Rs_ok, Rs_exc, lstG, lstD, bindTs, bindT, svAll, wipeE, Option.bind_some, fin_rt, fin_nx, fin_exc]
      simp only [Rs_bw]
      refine next_rs hN (by omega) (by omega) (by omega) hg2 fun b g3 b0 b1 hg3 => ?_
      obtain ⟨a, rfl⟩ := Int.eq_ofNat_of_zero_le a0
      obtain ⟨b, rfl⟩ := Int.eq_ofNat_of_zero_le b0
      have ea : ((a : Int) + 1) = ((a + 1 : Nat) : Int) := by omega
      -- the last row
      have last : Rs (evB (runF P n) ((dTurned nx it ex ct).body.drop 6) [some stD, some (.tuple ds), some (mkL ns), some (.int pick), z, u, some (.int a), some (.int b), none] g3) (fun fl g' => ∃ d, fl = .rt d ∧ Oz 40 20000 d ∧ GS g') NoE := by
        simp only [dTurned, List.drop_succ_cons, List.drop_zero]
        obtain ⟨m1, m2, m3⟩ := mix_ok (ds := ds) (k := 29) (m := 20000) (a := a) (b := b) (by omega) (by omega) hod
        have self : Oz 40 20000 (.tuple ds) := Oz.mono (k := 30) (m := 20000) (.tup (by omega) (by omega) hod) (by omega) (by omega)
        by_cases h1 : (0 : Int) < a
        · by_cases h2 : (0 : Int) < b
          · simp only [eB_cons, eB_nil, eS_asg, eS_iff, eS_ret, eS_ex, eS_rai, eS_aug, eS_par, eS_unp, eS_app, eS_ext, eS_asgO, eS_six, eS_brk, eE_var, eE_own, eE_int, eE_bl, eE_non, eE_str, eE_glob, eE_bin, eE_neg, eE_not, eE_and, eE_or, eE_cmp, eE_ch2, eE_isN, eE_isNN, eE_isNT, eE_ife, eE_tup, eE_lst, eE_dct0, eE_ix, eE_sl, eE_rev, eE_call, eE_b1, eE_b2, eE_isi, eE_join, eL_nil, eL_cons, eA_nil, eA_one, eA_cons, eO_nil, eO_one, eO_cons, eP_no, eP_yes, eC_no, eC_yes, eI_seq, gv_z, gv_s, sv_z, sv_s, bw_ok, bw_exc, Res.ofO_some, Option.map_some, tru_bool, tru_none, intOf_int, noneD, kB, tgD, kT, isi_n, isi_b, isi_i, isi_s, isi_t, isi_l, cutD_T, cutD_L, revD_T, revD_L, bin_add, bin_sub, cmp_lt, cmp_le, cmp_gt, cmp_ge, cmp_eqI, cmp_neI, b1_lenL, b1_lenT, b1_tupL, b1_tupT, b1_lstL, b1_lstT, b1_int, Bool.false_eq_true, if_false, if_true, Bool.not_true, Bool.not_false, decide_true, decide_false, Rs_ok, Rs_exc, lstG, lstD, bindTs, bindT, svAll, wipeE, Option.bind_some, fin_rt, fin_nx, fin_exc, h1, h2, cut_take, ea, cut_drop, m1, m2]
            exact ⟨_, rfl, m3.mono (by omega) (by omega), hg3⟩
          · simp only [eB_cons, eB_nil, eS_asg, eS_iff, eS_ret, eS_ex, eS_rai, eS_aug, eS_par, eS_unp, eS_app, eS_ext, eS_asgO, eS_six, eS_brk, eE_var, eE_own, eE_int, eE_bl, eE_non, eE_str, eE_glob, eE_bin, eE_neg, eE_not, eE_and, eE_or, eE_cmp, eE_ch2, eE_isN, eE_isNN, eE_isNT, eE_ife, eE_tup, eE_lst, eE_dct0, eE_ix, eE_sl, eE_rev, eE_call, eE_b1, eE_b2, eE_isi, eE_join, eL_nil, eL_cons, eA_nil, eA_one, eA_cons, eO_nil, eO_one, eO_cons, eP_no, eP_yes, eC_no, eC_yes, eI_seq, gv_z, gv_s, sv_z, sv_s, bw_ok, bw_exc, Res.ofO_some, Option.map_some, tru_bool, tru_none, intOf_int, noneD, kB, tgD, kT, isi_n, isi_b, isi_i, isi_s, isi_t, isi_l, cutD_T, cutD_L, revD_T, revD_L, bin_add, bin_sub, cmp_lt, cmp_le, cmp_gt, cmp_ge, cmp_eqI, cmp_neI, b1_lenL, b1_lenT, b1_tupL, b1_tupT, b1_lstL, b1_lstT, b1_int, Bool.false_eq_true, if_false, if_true, Bool.not_true, Bool.not_false, decide_true, decide_false, Rs_ok, Rs_exc, lstG, lstD, bindTs, bindT, svAll, wipeE, Option.bind_some, fin_rt, fin_nx, fin_exc, h1, h2]
            exact ⟨_, rfl, self, hg3⟩
        · simp only [eB_cons, eB_nil, eS_asg, eS_iff, eS_ret, eS_ex, eS_rai, eS_aug, eS_par, eS_unp, eS_app, eS_ext, eS_asgO, eS_six, eS_brk, eE_var, eE_own, eE_int, eE_bl, eE_non, eE_str, eE_glob, eE_bin, eE_neg, eE_not, eE_and, eE_or, eE_cmp, eE_ch2, eE_isN, eE_isNN, eE_isNT, eE_ife, eE_tup, eE_lst, eE_dct0, eE_ix, eE_sl, eE_rev, eE_call, eE_b1, eE_b2, eE_isi, eE_join, eL_nil, eL_cons, eA_nil, eA_one, eA_cons, eO_nil, eO_one, eO_cons, eP_no, eP_yes, eC_no, eC_yes, eI_seq, gv_z, gv_s, sv_z, sv_s, bw_ok, bw_exc, Res.ofO_some, Option.map_some, tru_bool, tru_none, intOf_int, noneD, kB, tgD, kT, isi_n, isi_b, isi_i, isi_s, isi_t, isi_l, cutD_T, cutD_L, revD_T, revD_L, bin_add, bin_sub, cmp_lt, cmp_le, cmp_gt, cmp_ge, cmp_eqI, cmp_neI, b1_lenL, b1_lenT, b1_tupL, b1_tupT, b1_lstL, b1_lstT, b1_int, Bool.false_eq_true, if_false, if_true, Bool.not_true, Bool.not_false, decide_true, decide_false, Rs_ok, Rs_exc, lstG, lstD, bindTs, bindT, svAll, wipeE, Option.bind_some, fin_rt, fin_nx, fin_exc, h1]
          exact ⟨_, rfl, self, hg3⟩
      simp only [dTurned, List.drop_succ_cons, List.drop_zero] at last
      by_cases h2 : ds.length = 2
      · have h2' : (ds.length : Int) = 2 := by omega
        have hx1 : ∀ g, ixG (.tuple ds) (.int 1) g = some x := fun g => by
          have := ixT_nat (xs := ds) (k := 1) (g := g) (by omega)
          rw [show ((1 : Nat) : Int) = 1 from rfl] at this
          rw [this]
          simp [← hds]
        have hx0 : ∀ g, ixG (.tuple ds) (.int 0) g = some (.str w) := fun g => by
          have := ixT_nat (xs := ds) (k := 0) (g := g) (by omega)
          rw [show ((0 : Nat) : Int) = 0 from rfl] at this
          rw [this]
          simp [← hds]
        have hxm : x ∈ ds := by rw [← hds]; simp
        have hwm : PyData.str w ∈ ds := by rw [← hds]; simp
        have nx1 := hm x hxm
        cases x with
        | tuple es =>
          have okx : okE (.tuple es) = true := nx1.okE (by omega)
          have hne2 := cmp_ne (x := .tuple es) (y := .tuple []) ⟨okx, rfl⟩
          rw [eqv_nil] at hne2
          by_cases he : es = []
          · subst he
            simp only [eB_cons, eB_nil, eS_asg, eS_iff, eS_ret, eS_ex, eS_rai, eS_aug, eS_par, eS_unp, eS_app, eS_ext, eS_asgO, eS_six, eS_brk, eE_var, eE_own, eE_int, eE_bl, eE_non, eE_str, eE_glob, eE_bin, eE_neg, eE_not, eE_and, eE_or, eE_cmp, eE_ch2, eE_isN, eE_isNN, eE_isNT, eE_ife, eE_tup, eE_lst, eE_dct0, eE_ix, eE_sl, eE_rev, eE_call, eE_b1, eE_b2, eE_isi, eE_join, eL_nil, eL_cons, eA_nil, eA_one, eA_cons, eO_nil, eO_one, eO_cons, eP_no, eP_yes, eC_no, eC_yes, eI_seq, gv_z, gv_s, sv_z, sv_s, bw_ok, bw_exc, Res.ofO_some, Option.map_some, tru_bool, tru_none, intOf_int, noneD, kB, tgD, kT, isi_n, isi_b, isi_i, isi_s, isi_t, isi_l, cutD_T, cutD_L, revD_T, revD_L, bin_add, bin_sub, cmp_lt, cmp_le, cmp_gt, cmp_ge, cmp_eqI, cmp_neI, b1_lenL, b1_lenT, b1_tupL, b1_tupT, b1_lstL, b1_lstT, b1_int, Bool.false_eq_true, if_false, if_true, Bool.not_true, Bool.not_false, decide_true, decide_false, Rs_ok, Rs_exc, lstG, lstD, bindTs, bindT, svAll, wipeE, Option.bind_some, fin_rt, fin_nx, fin_exc, h2', hx1, hne2, List.isEmpty_nil]
            exact last
          · have he' : es.isEmpty = false := by cases es <;> simp_all
            have hpos : 0 < es.length := List.length_pos_iff.mpr he
            have sx := hsz _ hxm
            simp only [sz] at sx
            have le := szL_len es
            have hoe : ∀ d ∈ es, Od 28 d := (Od.tup.mp (nx1.od (by simp only [sz]; omega))).2
            simp only [eB_cons, eB_nil, eS_asg, eS_iff, eS_ret, eS_ex, eS_rai, eS_aug, eS_par, eS_unp, eS_app, eS_ext, eS_asgO, eS_six, eS_brk, eE_var, eE_own, eE_int, eE_bl, eE_non, eE_str, eE_glob, eE_bin, eE_neg, eE_not, eE_and, eE_or, eE_cmp, eE_ch2, eE_isN, eE_isNN, eE_isNT, eE_ife, eE_tup, eE_lst, eE_dct0, eE_ix, eE_sl, eE_rev, eE_call, eE_b1, eE_b2, eE_isi, eE_join, eL_nil, eL_cons, eA_nil, eA_one, eA_cons, eO_nil, eO_one, eO_cons, eP_no, eP_yes, eC_no, eC_yes, eI_seq, gv_z, gv_s, sv_z, sv_s, bw_ok, bw_exc, Res.ofO_some, Option.map_some, tru_bool, tru_none, intOf_int, noneD, kB, tgD, kT, isi_n, isi_b, isi_i, isi_s, isi_t, isi_l, cutD_T, cutD_L, revD_T, revD_L, bin_add, bin_sub, cmp_lt, cmp_le, cmp_gt, cmp_ge, cmp_eqI, cmp_neI, b1_lenL, b1_lenT, b1_tupL, b1_tupT, b1_lstL, b1_lstT, b1_int, Bool.false_eq_true, if_false, if_true, Bool.not_true, Bool.not_false, decide_true, decide_false, Rs_ok, Rs_exc, lstG, lstD, bindTs, bindT, svAll, wipeE, Option.bind_some, fin_rt, fin_nx, fin_exc, h2', hx1, hne2, he']
            simp only [Rs_bw]
            refine next_rs hN (by omega) (by omega) (by omega) hg3 fun c g4 c0 c1 hg4 => ?_
            simp only [eB_cons, eB_nil, eS_asg, eS_iff, eS_ret, eS_ex, eS_rai, eS_aug, eS_par, eS_unp, eS_app, eS_ext, eS_asgO, eS_six, eS_brk, eE_var, eE_own, eE_int, eE_bl, eE_non, eE_str, eE_glob, eE_bin, eE_neg, eE_not, eE_and, eE_or, eE_cmp, eE_ch2, eE_isN, eE_isNN, eE_isNT, eE_ife, eE_tup, eE_lst, eE_dct0, eE_ix, eE_sl, eE_rev, eE_call, eE_b1, eE_b2, eE_isi, eE_join, eL_nil, eL_cons, eA_nil, eA_one, eA_cons, eO_nil, eO_one, eO_cons, eP_no, eP_yes, eC_no, eC_yes, eI_seq, gv_z, gv_s, sv_z, sv_s, bw_ok, bw_exc, Res.ofO_some, Option.map_some, tru_bool, tru_none, intOf_int, noneD, kB, tgD, kT, isi_n, isi_b, isi_i, isi_s, isi_t, isi_l, cutD_T, cutD_L, revD_T, revD_L, bin_add, bin_sub, cmp_lt, cmp_le, cmp_gt, cmp_ge, cmp_eqI, cmp_neI, b1_lenL, b1_lenT, b1_tupL, b1_tupT, b1_lstL, b1_lstT, b1_int, Bool.false_eq_true, if_false, if_true, Bool.not_true, Bool.not_false, decide_true, decide_false, Rs_ok, Rs_exc, lstG, lstD, bindTs, bindT, svAll, wipeE, Option.bind_some, fin_rt, fin_nx, fin_exc, hx1]
            simp only [Rs_bw]
            refine next_rs hN (by omega) (by omega) (by omega) hg4 fun e g5 e0 e1 hg5 => ?_
            obtain ⟨c, rfl⟩ := Int.eq_ofNat_of_zero_le c0
            obtain ⟨e, rfl⟩ := Int.eq_ofNat_of_zero_le e0
            have ec : ((c : Int) + 1) = ((c + 1 : Nat) : Int) := by omega
            obtain ⟨m1, m2, m3⟩ := mix_ok (ds := es) (k := 28) (m := 10000) (a := c) (b := e) (by omega) (by omega) hoe
            simp only [eB_cons, eB_nil, eS_asg, eS_iff, eS_ret, eS_ex, eS_rai, eS_aug, eS_par, eS_unp, eS_app, eS_ext, eS_asgO, eS_six, eS_brk, eE_var, eE_own, eE_int, eE_bl, eE_non, eE_str, eE_glob, eE_bin, eE_neg, eE_not, eE_and, eE_or, eE_cmp, eE_ch2, eE_isN, eE_isNN, eE_isNT, eE_ife, eE_tup, eE_lst, eE_dct0, eE_ix, eE_sl, eE_rev, eE_call, eE_b1, eE_b2, eE_isi, eE_join, eL_nil, eL_cons, eA_nil, eA_one, eA_cons, eO_nil, eO_one, eO_cons, eP_no, eP_yes, eC_no, eC_yes, eI_seq, gv_z, gv_s, sv_z, sv_s, bw_ok, bw_exc, Res.ofO_some, Option.map_some, tru_bool, tru_none, intOf_int, noneD, kB, tgD, kT, isi_n, isi_b, isi_i, isi_s, isi_t, isi_l, cutD_T, cutD_L, revD_T, revD_L, bin_add, bin_sub, cmp_lt, cmp_le, cmp_gt, cmp_ge, cmp_eqI, cmp_neI, b1_lenL, b1_lenT, b1_tupL, b1_tupT, b1_lstL, b1_lstT, b1_int, Bool.false_eq_true, if_false, if_true, Bool.not_true, Bool.not_false, decide_true, decide_false, Rs_ok, Rs_exc, lstG, lstD, bindTs, bindT, svAll, wipeE, Option.bind_some, fin_rt, fin_nx, fin_exc, hx1, hx0, cut_take, ec, cut_drop, m1, m2]
            refine ⟨_, rfl, Oz.mono (k := 30) (m := 12000) (.tup ?_ (by omega) fun d hx => ?_) (by omega) (by omega), hg5⟩
            · have := hsz _ hwm
              have := m3.2
              simp only [szL]
              omega
            · simp only [List.mem_cons, List.not_mem_nil, or_false] at hx
              rcases hx with rfl | rfl
              · exact hod _ hwm
              · exact m3.1
        | list _ => have := nx1.tq; simp [PT.tq] at this
        | dict _ => have := nx1.tq; simp [PT.tq] at this
        | none => simp only [eB_cons, eB_nil, eS_asg, eS_iff, eS_ret, eS_ex, eS_rai, eS_aug, eS_par, eS_unp, eS_app, eS_ext, eS_asgO, eS_six, eS_brk, eE_var, eE_own, eE_int, eE_bl, eE_non, eE_str, eE_glob, eE_bin, eE_neg, eE_not, eE_and, eE_or, eE_cmp, eE_ch2, eE_isN, eE_isNN, eE_isNT, eE_ife, eE_tup, eE_lst, eE_dct0, eE_ix, eE_sl, eE_rev, eE_call, eE_b1, eE_b2, eE_isi, eE_join, eL_nil, eL_cons, eA_nil, eA_one, eA_cons, eO_nil, eO_one, eO_cons, eP_no, eP_yes, eC_no, eC_yes, eI_seq, gv_z, gv_s, sv_z, sv_s, bw_ok, bw_exc, Res.ofO_some, Option.map_some, tru_bool, tru_none, intOf_int, noneD, kB, tgD, kT, isi_n, isi_b, isi_i, isi_s, isi_t, isi_l, cutD_T, cutD_L, revD_T, revD_L, bin_add, bin_sub, cmp_lt, cmp_le, cmp_gt, cmp_ge, cmp_eqI, cmp_neI, b1_lenL, b1_lenT, b1_tupL, b1_tupT, b1_lstL, b1_lstT, b1_int, Bool.false_eq_true, if_false, if_true, Bool.not_true, Bool.not_false, decide_true, decide_false, Rs_ok, Rs_exc, lstG, lstD, bindTs, bindT, svAll, wipeE, Option.bind_some, fin_rt, fin_nx, fin_exc, h2', hx1]; exact last
        | bool _ => simp only [eB_cons, eB_nil, eS_asg, eS_iff, eS_ret, eS_ex, eS_rai, eS_aug, eS_par, eS_unp, eS_app, eS_ext, eS_asgO, eS_six, eS_brk, eE_var, eE_own, eE_int, eE_bl, eE_non, eE_str, eE_glob, eE_bin, eE_neg, eE_not, eE_and, eE_or, eE_cmp, eE_ch2, eE_isN, eE_isNN, eE_isNT, eE_ife, eE_tup, eE_lst, eE_dct0, eE_ix, eE_sl, eE_rev, eE_call, eE_b1, eE_b2, eE_isi, eE_join, eL_nil, eL_cons, eA_nil, eA_one, eA_cons, eO_nil, eO_one, eO_cons, eP_no, eP_yes, eC_no, eC_yes, eI_seq, gv_z, gv_s, sv_z, sv_s, bw_ok, bw_exc, Res.ofO_some, Option.map_some, tru_bool, tru_none, intOf_int, noneD, kB, tgD, kT, isi_n, isi_b, isi_i, isi_s, isi_t, isi_l, cutD_T, cutD_L, revD_T, revD_L, bin_add, bin_sub, cmp_lt, cmp_le, cmp_gt, cmp_ge, cmp_eqI, cmp_neI, b1_lenL, b1_lenT, b1_tupL, b1_tupT, b1_lstL, b1_lstT, b1_int, Bool.false_eq_true, if_false, if_true, Bool.not_true, Bool.not_false, decide_true, decide_false, Rs_ok, Rs_exc, lstG, lstD, bindTs, bindT, svAll, wipeE, Option.bind_some, fin_rt, fin_nx, fin_exc, h2', hx1]; exact last
        | int _ => simp only [eB_cons, eB_nil, eS_asg, eS_iff, eS_ret, eS_ex, eS_rai, eS_aug, eS_par, eS_unp, eS_app, eS_ext, eS_asgO, eS_six, eS_brk, eE_var, eE_own, eE_int, eE_bl, eE_non, eE_str, eE_glob, eE_bin, eE_neg, eE_not, eE_and, eE_or, eE_cmp, eE_ch2, eE_isN, eE_isNN, eE_isNT, eE_ife, eE_tup, eE_lst, eE_dct0, eE_ix, eE_sl, eE_rev, eE_call, eE_b1, eE_b2, eE_isi, eE_join, eL_nil, eL_cons, eA_nil, eA_one, eA_cons, eO_nil, eO_one, eO_cons, eP_no, eP_yes, eC_no, eC_yes, eI_seq, gv_z, gv_s, sv_z, sv_s, bw_ok, bw_exc, Res.ofO_some, Option.map_some, tru_bool, tru_none, intOf_int, noneD, kB, tgD, kT, isi_n, isi_b, isi_i, isi_s, isi_t, isi_l, cutD_T, cutD_L, revD_T, revD_L, bin_add, bin_sub, cmp_lt, cmp_le, cmp_gt, cmp_ge, cmp_eqI, cmp_neI, b1_lenL, b1_lenT, b1_tupL, b1_tupT, b1_lstL, b1_lstT, b1_int, Bool.false_eq_true, if_false, if_true, Bool.not_true, Bool.not_false, decide_true, decide_false, Rs_ok, Rs_exc, lstG, lstD, bindTs, bindT, svAll, wipeE, Option.bind_some, fin_rt, fin_nx, fin_exc, h2', hx1]; exact last
        | str _ => simp only [eB_cons, eB_nil, eS_asg, eS_iff, eS_ret, eS_ex, eS_rai, eS_aug, eS_par, eS_unp, eS_app, eS_ext, eS_asgO, eS_six, eS_brk, eE_var, eE_own, eE_int, eE_bl, eE_non, eE_str, eE_glob, eE_bin, eE_neg, eE_not, eE_and, eE_or, eE_cmp, eE_ch2, eE_isN, eE_isNN, eE_isNT, eE_ife, eE_tup, eE_lst, eE_dct0, eE_ix, eE_sl, eE_rev, eE_call, eE_b1, eE_b2, eE_isi, eE_join, eL_nil, eL_cons, eA_nil, eA_one, eA_cons, eO_nil, eO_one, eO_cons, eP_no, eP_yes, eC_no, eC_yes, eI_seq, gv_z, gv_s, sv_z, sv_s, bw_ok, bw_exc, Res.ofO_some, Option.map_some, tru_bool, tru_none, intOf_int, noneD, kB, tgD, kT, isi_n, isi_b, isi_i, isi_s, isi_t, isi_l, cutD_T, cutD_L, revD_T, revD_L, bin_add, bin_sub, cmp_lt, cmp_le, cmp_gt, cmp_ge, cmp_eqI, cmp_neI, b1_lenL, b1_lenT, b1_tupL, b1_tupT, b1_lstL, b1_lstT, b1_int, Bool.false_eq_true, if_false, if_true, Bool.not_true, Bool.not_false, decide_true, decide_false, Rs_ok, Rs_exc, lstG, lstD, bindTs, bindT, svAll, wipeE, Option.bind_some, fin_rt, fin_nx, fin_exc, h2', hx1]; exact last
      · have h2' : ¬ (ds.length : Int) = 2 := by omega
        simp only [eB_cons, eB_nil, eS_asg, eS_iff, eS_ret, eS_ex, eS_rai, eS_aug, eS_par, eS_unp, eS_app, eS_ext, eS_asgO, eS_six, eS_brk, eE_var, eE_own, eE_int, eE_bl, eE_non, eE_str, eE_glob, eE_bin, eE_neg, eE_not, eE_and, eE_or, eE_cmp, eE_ch2, eE_isN, eE_isNN, eE_isNT, eE_ife, eE_tup, eE_lst, eE_dct0, eE_ix, eE_sl, eE_rev, eE_call, eE_b1, eE_b2, eE_isi, eE_join, eL_nil, eL_cons, eA_nil, eA_one, eA_cons, eO_nil, eO_one, eO_cons, eP_no, eP_yes, eC_no, eC_yes, eI_seq, gv_z, gv_s, sv_z, sv_s, bw_ok, bw_exc, Res.ofO_some, Option.map_some, tru_bool, tru_none, intOf_int, noneD, kB, tgD, kT, isi_n, isi_b, isi_i, isi_s, isi_t, isi_l, cutD_T, cutD_L, revD_T, revD_L, bin_add, bin_sub, cmp_lt, cmp_le, cmp_gt, cmp_ge, cmp_eqI, cmp_neI, b1_lenL, b1_lenT, b1_tupL, b1_tupT, b1_lstL, b1_lstT, b1_int, Bool.false_eq_true, if_false, if_true, Bool.not_true, Bool.not_false, decide_true, decide_false, Rs_ok, Rs_exc, lstG, lstD, bindTs, bindT, svAll, wipeE, Option.bind_some, fin_rt, fin_nx, fin_exc, h2']
        exact last
  have restF : ∀ z u : Option D, Rs (evB (runF P n) ((dTurned nx it ex ct).body.drop 3) [some stD, some (.tuple ds), some (mkL ns), some (.int pick), z, u, none, none, none] g1) (fun fl g' => match fl with
      | .rt v => Oz 40 20000 v ∧ GS g'
      | .nx _ => Oz 40 20000 .none ∧ GS g'
      | .bk _ => False) NoE := fun z u => (rest z u).mono (fun fl g' ⟨d, e, h⟩ => by subst e; exact h) fun _ _ h => h
  simp only [dTurned, List.drop_succ_cons, List.drop_zero] at restF
  by_cases hp : pick < 3
  · by_cases hnn : ns = []
    · subst hnn
      simp only [eB_cons, eB_nil, eS_asg, eS_iff, eS_ret, eS_ex, eS_rai, eS_aug, eS_par, eS_unp, eS_app, eS_ext, eS_asgO, eS_six, eS_brk, eE_var, eE_own, eE_int, eE_bl, eE_non, eE_str, eE_glob, eE_bin, eE_neg, eE_not, eE_and, eE_or, eE_cmp, eE_ch2, eE_isN, eE_isNN, eE_isNT, eE_ife, eE_tup, eE_lst, eE_dct0, eE_ix, eE_sl, eE_rev, eE_call, eE_b1, eE_b2, eE_isi, eE_join, eL_nil, eL_cons, eA_nil, eA_one, eA_cons, eO_nil, eO_one, eO_cons, eP_no, eP_yes, eC_no, eC_yes, eI_seq, gv_z, gv_s, sv_z, sv_s, bw_ok, bw_exc, Res.ofO_some, Option.map_some, tru_bool, tru_none, intOf_int, noneD, kB, tgD, kT, isi_n, isi_b, isi_i, isi_s, isi_t, isi_l, cutD_T, cutD_L, revD_T, revD_L, bin_add, bin_sub, cmp_lt, cmp_le, cmp_gt, cmp_ge, cmp_eqI, cmp_neI, b1_lenL, b1_lenT, b1_tupL, b1_tupT, b1_lstL, b1_lstT, b1_int, Bool.false_eq_true, if_false, if_true, Bool.not_true, Bool.not_false, decide_true, decide_false, Rs_ok, Rs_exc, lstG, lstD, bindTs, bindT, svAll, wipeE, Option.bind_some, fin_rt, fin_nx, fin_exc, hp, hne, List.map_nil, List.isEmpty_nil]
      exact restF _ _
    · have he' : (ns.map PyData.int).isEmpty = false := by cases ns <;> simp_all
      have hpos : 0 < ns.length := List.length_pos_iff.mpr hnn
      have hns : ns.length ≤ 1000 := by simp only [sz] at i2; omega
      simp only [eB_cons, eB_nil, eS_asg, eS_iff, eS_ret, eS_ex, eS_rai, eS_aug, eS_par, eS_unp, eS_app, eS_ext, eS_asgO, eS_six, eS_brk, eE_var, eE_own, eE_int, eE_bl, eE_non, eE_str, eE_glob, eE_bin, eE_neg, eE_not, eE_and, eE_or, eE_cmp, eE_ch2, eE_isN, eE_isNN, eE_isNT, eE_ife, eE_tup, eE_lst, eE_dct0, eE_ix, eE_sl, eE_rev, eE_call, eE_b1, eE_b2, eE_isi, eE_join, eL_nil, eL_cons, eA_nil, eA_one, eA_cons, eO_nil, eO_one, eO_cons, eP_no, eP_yes, eC_no, eC_yes, eI_seq, gv_z, gv_s, sv_z, sv_s, bw_ok, bw_exc, Res.ofO_some, Option.map_some, tru_bool, tru_none, intOf_int, noneD, kB, tgD, kT, isi_n, isi_b, isi_i, isi_s, isi_t, isi_l, cutD_T, cutD_L, revD_T, revD_L, bin_add, bin_sub, cmp_lt, cmp_le, cmp_gt, cmp_ge, cmp_eqI, cmp_neI, b1_lenL, b1_lenT, b1_tupL, b1_tupT, b1_lstL, b1_lstT, b1_int, Bool.false_eq_true, if_false, if_true, Bool.not_true, Bool.not_false, decide_true, decide_false, Rs_ok, Rs_exc, lstG, lstD, bindTs, bindT, svAll, wipeE, Option.bind_some, fin_rt, fin_nx, fin_exc, hp, hne, he', b1_lenM]
      simp only [Rs_bw]
      refine next_rs hN (by omega) (by omega) (by omega) hg1 fun a g2 a0 a1 hg2 => ?_
      obtain ⟨a, rfl⟩ := Int.eq_ofNat_of_zero_le a0
      have ha : a < ns.length := by omega
      have sa := i3 _ (List.getElem_mem ha)
      have exok : ∀ b : Int, b.natAbs < 2 ^ 250 → Oz 40 20000 (exD ns[a] b (.tuple ds)) := fun b hb => (exD_ok (Nat.lt_trans sa two_lt) hb hq (by simp only [sz]; omega)).mono (by omega) (by simp only [sz]; omega)
      have exr : ∀ (b : Int) (g : G), runF P n ex [.tuple ds, .int ns[a], .int b] g = .ok (exD ns[a] b (.tuple ds)) g := fun b g => exch_run hX 30 n (by omega) _ g hq (by simp only [sz]; omega)
      by_cases hp0 : pick = 0
      · simp only [eB_cons, eB_nil, eS_asg, eS_iff, eS_ret, eS_ex, eS_rai, eS_aug, eS_par, eS_unp, eS_app, eS_ext, eS_asgO, eS_six, eS_brk, eE_var, eE_own, eE_int, eE_bl, eE_non, eE_str, eE_glob, eE_bin, eE_neg, eE_not, eE_and, eE_or, eE_cmp, eE_ch2, eE_isN, eE_isNN, eE_isNT, eE_ife, eE_tup, eE_lst, eE_dct0, eE_ix, eE_sl, eE_rev, eE_call, eE_b1, eE_b2, eE_isi, eE_join, eL_nil, eL_cons, eA_nil, eA_one, eA_cons, eO_nil, eO_one, eO_cons, eP_no, eP_yes, eC_no, eC_yes, eI_seq, gv_z, gv_s, sv_z, sv_s, bw_ok, bw_exc, Res.ofO_some, Option.map_some, tru_bool, tru_none, intOf_int, noneD, kB, tgD, kT, isi_n, isi_b, isi_i, isi_s, isi_t, isi_l, cutD_T, cutD_L, revD_T, revD_L, bin_add, bin_sub, cmp_lt, cmp_le, cmp_gt, cmp_ge, cmp_eqI, cmp_neI, b1_lenL, b1_lenT, b1_tupL, b1_tupT, b1_lstL, b1_lstT, b1_int, Bool.false_eq_true, if_false, if_true, Bool.not_true, Bool.not_false, decide_true, decide_false, Rs_ok, Rs_exc, lstG, lstD, bindTs, bindT, svAll, wipeE, Option.bind_some, fin_rt, fin_nx, fin_exc, ix_mkL ha, hp0, exr]
        exact ⟨exok _ (natAbs_of sa).1, hg2⟩
      · simp only [eB_cons, eB_nil, eS_asg, eS_iff, eS_ret, eS_ex, eS_rai, eS_aug, eS_par, eS_unp, eS_app, eS_ext, eS_asgO, eS_six, eS_brk, eE_var, eE_own, eE_int, eE_bl, eE_non, eE_str, eE_glob, eE_bin, eE_neg, eE_not, eE_and, eE_or, eE_cmp, eE_ch2, eE_isN, eE_isNN, eE_isNT, eE_ife, eE_tup, eE_lst, eE_dct0, eE_ix, eE_sl, eE_rev, eE_call, eE_b1, eE_b2, eE_isi, eE_join, eL_nil, eL_cons, eA_nil, eA_one, eA_cons, eO_nil, eO_one, eO_cons, eP_no, eP_yes, eC_no, eC_yes, eI_seq, gv_z, gv_s, sv_z, sv_s, bw_ok, bw_exc, Res.ofO_some, Option.map_some, tru_bool, tru_none, intOf_int, noneD, kB, tgD, kT, isi_n, isi_b, isi_i, isi_s, isi_t, isi_l, cutD_T, cutD_L, revD_T, revD_L, bin_add, bin_sub, cmp_lt, cmp_le, cmp_gt, cmp_ge, cmp_eqI, cmp_neI, b1_lenL, b1_lenT, b1_tupL, b1_tupT, b1_lstL, b1_lstT, b1_int, Bool.false_eq_true, if_false, if_true, Bool.not_true, Bool.not_false, decide_true, decide_false, Rs_ok, Rs_exc, lstG, lstD, bindTs, bindT, svAll, wipeE, Option.bind_some, fin_rt, fin_nx, fin_exc, ix_mkL ha, hp0, b1_lenM]
        simp only [Rs_bw]
        refine next_rs hN (by omega) (by omega) (by omega) hg2 fun b g3 b0 b1 hg3 => ?_
        obtain ⟨b, rfl⟩ := Int.eq_ofNat_of_zero_le b0
        have hb : b < ns.length := by omega
        simp only [eB_cons, eB_nil, eS_asg, eS_iff, eS_ret, eS_ex, eS_rai, eS_aug, eS_par, eS_unp, eS_app, eS_ext, eS_asgO, eS_six, eS_brk, eE_var, eE_own, eE_int, eE_bl, eE_non, eE_str, eE_glob, eE_bin, eE_neg, eE_not, eE_and, eE_or, eE_cmp, eE_ch2, eE_isN, eE_isNN, eE_isNT, eE_ife, eE_tup, eE_lst, eE_dct0, eE_ix, eE_sl, eE_rev, eE_call, eE_b1, eE_b2, eE_isi, eE_join, eL_nil, eL_cons, eA_nil, eA_one, eA_cons, eO_nil, eO_one, eO_cons, eP_no, eP_yes, eC_no, eC_yes, eI_seq, gv_z, gv_s, sv_z, sv_s, bw_ok, bw_exc, Res.ofO_some, Option.map_some, tru_bool, tru_none, intOf_int, noneD, kB, tgD, kT, isi_n, isi_b, isi_i, isi_s, isi_t, isi_l, cutD_T, cutD_L, revD_T, revD_L, bin_add, bin_sub, cmp_lt, cmp_le, cmp_gt, cmp_ge, cmp_eqI, cmp_neI, b1_lenL, b1_lenT, b1_tupL, b1_tupT, b1_lstL, b1_lstT, b1_int, Bool.false_eq_true, if_false, if_true, Bool.not_true, Bool.not_false, decide_true, decide_false, Rs_ok, Rs_exc, lstG, lstD, bindTs, bindT, svAll, wipeE, Option.bind_some, fin_rt, fin_nx, fin_exc, ix_mkL hb, exr]
        exact ⟨exok _ (Nat.lt_trans (i3 _ (List.getElem_mem hb)) two_lt), hg3⟩
  · simp only [eB_cons, eB_nil, eS_asg, eS_iff, eS_ret, eS_ex, eS_rai, eS_aug, eS_par, eS_unp, eS_app, eS_ext, eS_asgO, eS_six, eS_brk, eE_var, eE_own, eE_int, eE_bl, eE_non, eE_str, eE_glob, eE_bin, eE_neg, eE_not, eE_and, eE_or, eE_cmp, eE_ch2, eE_isN, eE_isNN, eE_isNT, eE_ife, eE_tup, eE_lst, eE_dct0, eE_ix, eE_sl, eE_rev, eE_call, eE_b1, eE_b2, eE_isi, eE_join, eL_nil, eL_cons, eA_nil, eA_one, eA_cons, eO_nil, eO_one, eO_cons, eP_no, eP_yes, eC_no, eC_yes, eI_seq, gv_z, gv_s, sv_z, sv_s, bw_ok, bw_exc, Res.ofO_some, Option.map_some, tru_bool, tru_none, intOf_int, noneD, kB, tgD, kT, isi_n, isi_b, isi_i, isi_s, isi_t, isi_l, cutD_T, cutD_L, revD_T, revD_L, bin_add, bin_sub, cmp_lt, cmp_le, cmp_gt, cmp_ge, cmp_eqI, cmp_neI, b1_lenL, b1_lenT, b1_tupL, b1_tupT, b1_lstL, b1_lstT, b1_int, Bool.false_eq_true, if_false, if_true, Bool.not_true, Bool.not_false, decide_true, decide_false, Rs_ok, Rs_exc, lstG, lstD, bindTs, bindT, svAll, wipeE, Option.bind_some, fin_rt, fin_nx, fin_exc, hp]
    exact restF _ _
end
end PT
namespace PT
open PySem
section
variable {P : List Def} {nx it ex ct ch tu od nb : Nat}
theorem odd_ok (hN : P[nx]? = some dNext) (hI : P[it]? = some (dInts it)) (hX : P[ex]? = some (dExch ex)) (hC : P[ct]? = some (dCut nx ct)) (hT : P[tu]? = some (dTurned nx it ex ct)) (hH : P[ch]? = some (dChanged nx ch)) (hO : P[od]? = some (dOdd nx ch tu))
    {n : Nat} (hn : 50 ≤ n) {v : D} (hv : Tol v) {g : G} (hg : GS g) :
    Rs (runF P n od [stD, v] g) (fun d g' => Ask d ∧ GS g') NoE := by
  obtain ⟨n, rfl⟩ : ∃ m, n = m + 1 := ⟨n - 1, by omega⟩
  have hv0 := hv
  obtain ⟨⟨w, x, r, rfl⟩, hq, hs⟩ := hv
  generalize hds : (PyData.str w :: x :: r) = ds at *
  have hlen : 2 ≤ ds.length := by rw [← hds]; simp
  have hm := Nq.tup.mp hq
  have hs0 := hs
  simp only [sz] at hs
  have hl := szL_len ds
  have hsz : ∀ x ∈ ds, sz x ≤ 999 := fun x hx => by have := szL_mem hx; omega
  have hod : ∀ d ∈ ds, Od 29 d := fun d hd => (hm d hd).od (by have := hsz d hd; omega)
  have hx0 : ∀ g, ixG (.tuple ds) (.int 0) g = some (.str w) := fun g => by
    have := ixT_nat (xs := ds) (k := 0) (g := g) (by omega)
    rw [show ((0 : Nat) : Int) = 0 from rfl] at this
    rw [this]
    simp [← hds]
  have hwm : PyData.str w ∈ ds := by rw [← hds]; simp
  have c1 : cutL ds none (some (1 : Int)) = ds.take 1 := cut_take (k := 1)
  have c2 : cutL ds (some (1 : Int)) none = ds.drop 1 := cut_drop (k := 1)
  have l2 : (ds.drop 1).length ≤ ds.length := by rw [List.length_drop]; omega
  have s1 := szL_sub (List.take_sublist 1 ds)
  have s2 := szL_sub (List.drop_sublist 1 ds)
  have b1 := bin_addT' (xs := ds) (ys := [.int 0]) (by simp only [List.length_cons, List.length_nil]; omega)
  have b2 := bin_addT' (xs := [.list [.str w]]) (ys := ds.drop 1) (by simp only [List.length_cons, List.length_nil]; omega)
  have b3 := bin_addT' (xs := [.str ("none such" : Str)]) (ys := ds.drop 1) (by simp only [List.length_cons, List.length_nil]; omega)
  rw [run_def hO rfl, Rs_fin]
  show Rs (evB (runF P n) (dOdd nx ch tu).body [some stD, some (.tuple ds), none, none] g) _ _
  simp only [dOdd, eB_cons, eB_nil, eS_asg, eS_iff, eS_ret, eS_ex, eS_rai, eS_aug, eS_par, eS_unp, eS_app, eS_ext, eS_asgO, eS_six, eS_brk, eE_var, eE_own, eE_int, eE_bl, eE_non, eE_str, eE_glob, eE_bin, eE_neg, eE_not, eE_and, eE_or, eE_cmp, eE_ch2, eE_isN, eE_isNN, eE_isNT, eE_ife, eE_tup, eE_lst, eE_dct0, eE_ix, eE_sl, eE_rev, eE_call, eE_b1, eE_b2, eE_isi, eE_join, eL_nil, eL_cons, eA_nil, eA_one, eA_cons, eO_nil, eO_one, eO_cons, eP_no, eP_yes, eC_no, eC_yes, eI_seq, gv_z, gv_s, sv_z, sv_s, bw_ok, bw_exc, Res.ofO_some, Option.map_some, tru_bool, tru_none, intOf_int, noneD, kB, tgD, kT, isi_n, isi_b, isi_i, isi_s, isi_t, isi_l, cutD_T, cutD_L, revD_T, revD_L, bin_add, bin_sub, cmp_lt, cmp_le, cmp_gt, cmp_ge, cmp_eqI, cmp_neI, b1_lenL, b1_lenT, b1_tupL, b1_tupT, b1_lstL, b1_lstT, b1_int, Bool.false_eq_true, if_false, if_true, Bool.not_true, Bool.not_false, decide_true, decide_false, Rs_ok, Rs_exc, lstG, lstD, bindTs, bindT, svAll, wipeE, Option.bind_some, fin_rt, fin_nx, fin_exc, hx0, c1, c2, b1, b2, b3]
  simp only [Rs_bw]
  refine next_rs hN (by omega) (by decide) (by decide) hg fun pick g1 p0 p1 hg1 => ?_
  by_cases h4 : 4 < pick
  · simp only [eB_cons, eB_nil, eS_asg, eS_iff, eS_ret, eS_ex, eS_rai, eS_aug, eS_par, eS_unp, eS_app, eS_ext, eS_asgO, eS_six, eS_brk, eE_var, eE_own, eE_int, eE_bl, eE_non, eE_str, eE_glob, eE_bin, eE_neg, eE_not, eE_and, eE_or, eE_cmp, eE_ch2, eE_isN, eE_isNN, eE_isNT, eE_ife, eE_tup, eE_lst, eE_dct0, eE_ix, eE_sl, eE_rev, eE_call, eE_b1, eE_b2, eE_isi, eE_join, eL_nil, eL_cons, eA_nil, eA_one, eA_cons, eO_nil, eO_one, eO_cons, eP_no, eP_yes, eC_no, eC_yes, eI_seq, gv_z, gv_s, sv_z, sv_s, bw_ok, bw_exc, Res.ofO_some, Option.map_some, tru_bool, tru_none, intOf_int, noneD, kB, tgD, kT, isi_n, isi_b, isi_i, isi_s, isi_t, isi_l, cutD_T, cutD_L, revD_T, revD_L, bin_add, bin_sub, cmp_lt, cmp_le, cmp_gt, cmp_ge, cmp_eqI, cmp_neI, b1_lenL, b1_lenT, b1_tupL, b1_tupT, b1_lstL, b1_lstT, b1_int, Bool.false_eq_true, if_false, if_true, Bool.not_true, Bool.not_false, decide_true, decide_false, Rs_ok, Rs_exc, lstG, lstD, bindTs, bindT, svAll, wipeE, Option.bind_some, fin_rt, fin_nx, fin_exc, h4]
    simp only [Rs_bw]
    exact (turned_ok hN hI hX hC hT (by omega) hv0 hg1).mono (fun d g2 ⟨h1, h2⟩ => ⟨.inl h1, h2⟩) fun _ _ h => h
  · by_cases hp0 : pick = 0
    · have h40 : ¬ (4 : Int) < 0 := by decide
      simp only [eB_cons, eB_nil, eS_asg, eS_iff, eS_ret, eS_ex, eS_rai, eS_aug, eS_par, eS_unp, eS_app, eS_ext, eS_asgO, eS_six, eS_brk, eE_var, eE_own, eE_int, eE_bl, eE_non, eE_str, eE_glob, eE_bin, eE_neg, eE_not, eE_and, eE_or, eE_cmp, eE_ch2, eE_isN, eE_isNN, eE_isNT, eE_ife, eE_tup, eE_lst, eE_dct0, eE_ix, eE_sl, eE_rev, eE_call, eE_b1, eE_b2, eE_isi, eE_join, eL_nil, eL_cons, eA_nil, eA_one, eA_cons, eO_nil, eO_one, eO_cons, eP_no, eP_yes, eC_no, eC_yes, eI_seq, gv_z, gv_s, sv_z, sv_s, bw_ok, bw_exc, Res.ofO_some, Option.map_some, tru_bool, tru_none, intOf_int, noneD, kB, tgD, kT, isi_n, isi_b, isi_i, isi_s, isi_t, isi_l, cutD_T, cutD_L, revD_T, revD_L, bin_add, bin_sub, cmp_lt, cmp_le, cmp_gt, cmp_ge, cmp_eqI, cmp_neI, b1_lenL, b1_lenT, b1_tupL, b1_tupT, b1_lstL, b1_lstT, b1_int, Bool.false_eq_true, if_false, if_true, Bool.not_true, Bool.not_false, decide_true, decide_false, Rs_ok, Rs_exc, lstG, lstD, bindTs, bindT, svAll, wipeE, Option.bind_some, fin_rt, fin_nx, fin_exc, h40, hp0]
      simp only [Rs_bw]
      refine next_rs hN (by omega) (by simp only [List.length_cons, List.length_nil]; omega) (by simp only [List.length_cons, List.length_nil]; omega) hg1 fun j g2 j0 j1 hg2 => ?_
      simp only [ixG_L]
      refine pick2 j0 j1 fun y hy => ?_
      simp only [Rs_ok]
      refine ⟨?_, hg2⟩
      simp only [List.mem_cons, List.not_mem_nil, or_false] at hy
      have dr : ∀ d ∈ ds.drop 1, Od 29 d := fun d hd => hod d (List.mem_of_mem_drop hd)
      rcases hy with rfl | rfl | rfl | rfl | rfl | rfl | rfl | rfl | rfl | rfl | rfl
      · exact .inl (.none (by decide))
      · exact .inl (.ofStr (by decide))
      · exact .inl (.ofStr (by decide))
      · exact .inr rfl
      · exact .inl (.tup (by decide) (by decide) (by simp))
      · exact .inl (Oz.mono (k := 30) (m := 20000) (.tup (by omega) (by omega) fun d hd => hod d (List.mem_of_mem_take hd)) (by omega) (by omega))
      · exact .inl (Oz.mono (k := 30) (m := 20000) (.lst (by omega) (by omega) hod) (by omega) (by omega))
      · refine .inl (Oz.mono (k := 30) (m := 20000) (.tup (by rw [szL_app]; simp only [szL, sz]; omega) (by omega) fun d hd => ?_) (by omega) (by omega))
        rcases List.mem_append.mp hd with hd | hd
        · exact hod d hd
        · rw [List.mem_singleton.mp hd]; exact Od.int (z_250 (by decide))
      · have := hsz _ hwm
        refine .inl (Oz.mono (k := 30) (m := 20000) (.tup (by rw [szL_app]; simp only [szL, sz] at this ⊢; omega) (by omega) fun d hd => ?_) (by omega) (by omega))
        rcases List.mem_append.mp hd with hd | hd
        · rw [List.mem_singleton.mp hd]
          exact Od.lst.mpr ⟨by simp, fun d hd => by rw [List.mem_singleton.mp hd]; exact Od.str (hod _ hwm).lay⟩
        · exact dr d hd
      · refine .inl (Oz.mono (k := 30) (m := 20000) (.tup (by rw [szL_app]; simp only [szL, sz, len_ofString]; have : ("none such" : String).length = 9 := rfl; omega) (by omega) fun d hd => ?_) (by omega) (by omega))
        rcases List.mem_append.mp hd with hd | hd
        · rw [List.mem_singleton.mp hd]; exact Od.str (lay_ofString _)
        · exact dr d hd
      · exact .inl (.int (by decide) (z_250 (by decide)))
    · simp only [eB_cons, eB_nil, eS_asg, eS_iff, eS_ret, eS_ex, eS_rai, eS_aug, eS_par, eS_unp, eS_app, eS_ext, eS_asgO, eS_six, eS_brk, eE_var, eE_own, eE_int, eE_bl, eE_non, eE_str, eE_glob, eE_bin, eE_neg, eE_not, eE_and, eE_or, eE_cmp, eE_ch2, eE_isN, eE_isNN, eE_isNT, eE_ife, eE_tup, eE_lst, eE_dct0, eE_ix, eE_sl, eE_rev, eE_call, eE_b1, eE_b2, eE_isi, eE_join, eL_nil, eL_cons, eA_nil, eA_one, eA_cons, eO_nil, eO_one, eO_cons, eP_no, eP_yes, eC_no, eC_yes, eI_seq, gv_z, gv_s, sv_z, sv_s, bw_ok, bw_exc, Res.ofO_some, Option.map_some, tru_bool, tru_none, intOf_int, noneD, kB, tgD, kT, isi_n, isi_b, isi_i, isi_s, isi_t, isi_l, cutD_T, cutD_L, revD_T, revD_L, bin_add, bin_sub, cmp_lt, cmp_le, cmp_gt, cmp_ge, cmp_eqI, cmp_neI, b1_lenL, b1_lenT, b1_tupL, b1_tupT, b1_lstL, b1_lstT, b1_int, Bool.false_eq_true, if_false, if_true, Bool.not_true, Bool.not_false, decide_true, decide_false, Rs_ok, Rs_exc, lstG, lstD, bindTs, bindT, svAll, wipeE, Option.bind_some, fin_rt, fin_nx, fin_exc, h4, hp0]
      simp only [Rs_bw]
      exact (changed_ok hN hH 30 n (by omega) (by omega) _ g1 hq (by omega) hg1).mono (fun d g2 ⟨h1, h2⟩ => ⟨.inl (h1.mono (by omega) (by omega)), h2⟩) fun _ _ h => h
def dNeigh (nx nb : Nat) : Def := { name := "_law_neighbour", ps := 2, ns := ["state", "value", "step", "k"], mu := [], fr := false, body := [
    .asg 2 (.ix (.lst [.int 1, .neg (.int 1)]) (.call nx [.var 0, .int 2])),
    .iff (.isi .str (.var 1)) [.ret (.var 1)] [],
    .iff (.isi .int (.var 1)) [.ret (.bin .add (.var 1) (.var 2))] [],
    .iff (.cmp .eq (.var 1) (.tup [])) [.ret (.var 1)] [],
    .asg 3 (.call nx [.var 0, .b1 .len (.var 1)]),
    .iff (.and (.cmp .eq (.call nx [.var 0, .int 3]) (.int 0)) [.cmp .gt (.b1 .len (.var 1)) (.int 1)]) [.ret (.bin .add (.sl (.var 1) .no (.yes (.var 3))) (.sl (.var 1) (.yes (.bin .add (.var 3) (.int 1))) .no))] [],
    .ret (.bin .add (.bin .add (.sl (.var 1) .no (.yes (.var 3))) (.tup [.call nb [.var 0, .ix (.var 1) (.var 3)]])) (.sl (.var 1) (.yes (.bin .add (.var 3) (.int 1))) .no))] }
/-- beside a row -/
inductive Nb {α : Type} (N : α → α → Prop) : List α → List α → Prop where
  | nil : Nb N [] []
  | out (xs ys : List α) (x : α) (h : xs ++ ys ≠ []) : Nb N (xs ++ x :: ys) (xs ++ ys)
  | one (xs ys : List α) (x y : α) (h : N x y) : Nb N (xs ++ x :: ys) (xs ++ y :: ys)
/-- beside a number -/
def NbI (i j : Int) : Prop := j = i + 1 ∨ j = i - 1
theorem nb_first {n : Nat} (hN : P[nx]? = some dNext) (hn : 1 ≤ n) {v : D} {g : G} (hg : GS g) {R : Fl → G → Prop}
    (h : ∀ (s : Int) (g' : G), s = 1 ∨ s = -1 → GS g' → Rs (evB (runF P n) ((dNeigh nx nb).body.drop 1) [some stD, some v, some (.int s), none] g') R NoE) :
    Rs (evB (runF P n) (dNeigh nx nb).body [some stD, some v, none, none] g) R NoE := by
  simp only [dNeigh, eB_cons, eB_nil, eS_asg, eS_iff, eS_ret, eS_ex, eS_rai, eS_aug, eS_par, eS_unp, eS_app, eS_ext, eS_asgO, eS_six, eS_brk, eE_var, eE_own, eE_int, eE_bl, eE_non, eE_str, eE_glob, eE_bin, eE_neg, eE_not, eE_and, eE_or, eE_cmp, eE_ch2, eE_isN, eE_isNN, eE_isNT, eE_ife, eE_tup, eE_lst, eE_dct0, eE_ix, eE_sl, eE_rev, eE_call, eE_b1, eE_b2, eE_isi, eE_join, eL_nil, eL_cons, eA_nil, eA_one, eA_cons, eO_nil, eO_one, eO_cons, eP_no, eP_yes, eC_no, eC_yes, eI_seq, gv_z, gv_s, sv_z, sv_s, bw_ok, bw_exc, Res.ofO_some, Option.map_some, tru_bool, tru_none, intOf_int, noneD, kB, tgD, kT, isi_n, isi_b, isi_i, isi_s, isi_t, isi_l, cutD_T, cutD_L, revD_T, revD_L, bin_add, bin_sub, cmp_lt, cmp_le, cmp_gt, cmp_ge, cmp_eqI, cmp_neI, b1_lenL, b1_lenT, b1_tupL, b1_tupT, b1_lstL, b1_lstT, b1_int, Bool.false_eq_true, if_false, if_true, Bool.not_true, Bool.not_false, decide_true, decide_false, Rs_ok, Rs_exc, lstG, lstD, bindTs, bindT, svAll, wipeE, Option.bind_some, fin_rt, fin_nx, fin_exc, Option.map_some]
  simp only [Rs_bw]
  refine next_rs hN hn (by decide) (by decide) hg fun j g' j0 j1 hg' => ?_
  simp only [dNeigh, List.drop_succ_cons, List.drop_zero] at h
  simp only [ixG_L]
  refine pick2 j0 (by simpa using j1) fun y hy => ?_
  simp only [List.mem_cons, List.not_mem_nil, or_false] at hy
  rcases hy with rfl | rfl
  · simp only [eB_cons, eB_nil, eS_asg, eS_iff, eS_ret, eS_ex, eS_rai, eS_aug, eS_par, eS_unp, eS_app, eS_ext, eS_asgO, eS_six, eS_brk, eE_var, eE_own, eE_int, eE_bl, eE_non, eE_str, eE_glob, eE_bin, eE_neg, eE_not, eE_and, eE_or, eE_cmp, eE_ch2, eE_isN, eE_isNN, eE_isNT, eE_ife, eE_tup, eE_lst, eE_dct0, eE_ix, eE_sl, eE_rev, eE_call, eE_b1, eE_b2, eE_isi, eE_join, eL_nil, eL_cons, eA_nil, eA_one, eA_cons, eO_nil, eO_one, eO_cons, eP_no, eP_yes, eC_no, eC_yes, eI_seq, gv_z, gv_s, sv_z, sv_s, bw_ok, bw_exc, Res.ofO_some, Option.map_some, tru_bool, tru_none, intOf_int, noneD, kB, tgD, kT, isi_n, isi_b, isi_i, isi_s, isi_t, isi_l, cutD_T, cutD_L, revD_T, revD_L, bin_add, bin_sub, cmp_lt, cmp_le, cmp_gt, cmp_ge, cmp_eqI, cmp_neI, b1_lenL, b1_lenT, b1_tupL, b1_tupT, b1_lstL, b1_lstT, b1_int, Bool.false_eq_true, if_false, if_true, Bool.not_true, Bool.not_false, decide_true, decide_false, Rs_ok, Rs_exc, lstG, lstD, bindTs, bindT, svAll, wipeE, Option.bind_some, fin_rt, fin_nx, fin_exc]
    exact h 1 g' (.inl rfl) hg'
  · simp only [eB_cons, eB_nil, eS_asg, eS_iff, eS_ret, eS_ex, eS_rai, eS_aug, eS_par, eS_unp, eS_app, eS_ext, eS_asgO, eS_six, eS_brk, eE_var, eE_own, eE_int, eE_bl, eE_non, eE_str, eE_glob, eE_bin, eE_neg, eE_not, eE_and, eE_or, eE_cmp, eE_ch2, eE_isN, eE_isNN, eE_isNT, eE_ife, eE_tup, eE_lst, eE_dct0, eE_ix, eE_sl, eE_rev, eE_call, eE_b1, eE_b2, eE_isi, eE_join, eL_nil, eL_cons, eA_nil, eA_one, eA_cons, eO_nil, eO_one, eO_cons, eP_no, eP_yes, eC_no, eC_yes, eI_seq, gv_z, gv_s, sv_z, sv_s, bw_ok, bw_exc, Res.ofO_some, Option.map_some, tru_bool, tru_none, intOf_int, noneD, kB, tgD, kT, isi_n, isi_b, isi_i, isi_s, isi_t, isi_l, cutD_T, cutD_L, revD_T, revD_L, bin_add, bin_sub, cmp_lt, cmp_le, cmp_gt, cmp_ge, cmp_eqI, cmp_neI, b1_lenL, b1_lenT, b1_tupL, b1_tupT, b1_lstL, b1_lstT, b1_int, Bool.false_eq_true, if_false, if_true, Bool.not_true, Bool.not_false, decide_true, decide_false, Rs_ok, Rs_exc, lstG, lstD, bindTs, bindT, svAll, wipeE, Option.bind_some, fin_rt, fin_nx, fin_exc]
    exact h (-1) g' (.inr rfl) hg'
theorem nb_int (hN : P[nx]? = some dNext) (hB : P[nb]? = some (dNeigh nx nb)) {n : Nat} (hn : 2 ≤ n) {i : Int} {g : G} (hg : GS g) :
    Rs (runF P n nb [stD, .int i] g) (fun d g' => (∃ j, d = .int j ∧ NbI i j) ∧ GS g') NoE := by
  obtain ⟨n, rfl⟩ : ∃ m, n = m + 1 := ⟨n - 1, by omega⟩
  rw [run_def hB rfl, Rs_fin]
  refine nb_first hN (by omega) hg fun s g' hs hg' => ?_
  simp only [dNeigh, List.drop_succ_cons, List.drop_zero, eB_cons, eB_nil, eS_asg, eS_iff, eS_ret, eS_ex, eS_rai, eS_aug, eS_par, eS_unp, eS_app, eS_ext, eS_asgO, eS_six, eS_brk, eE_var, eE_own, eE_int, eE_bl, eE_non, eE_str, eE_glob, eE_bin, eE_neg, eE_not, eE_and, eE_or, eE_cmp, eE_ch2, eE_isN, eE_isNN, eE_isNT, eE_ife, eE_tup, eE_lst, eE_dct0, eE_ix, eE_sl, eE_rev, eE_call, eE_b1, eE_b2, eE_isi, eE_join, eL_nil, eL_cons, eA_nil, eA_one, eA_cons, eO_nil, eO_one, eO_cons, eP_no, eP_yes, eC_no, eC_yes, eI_seq, gv_z, gv_s, sv_z, sv_s, bw_ok, bw_exc, Res.ofO_some, Option.map_some, tru_bool, tru_none, intOf_int, noneD, kB, tgD, kT, isi_n, isi_b, isi_i, isi_s, isi_t, isi_l, cutD_T, cutD_L, revD_T, revD_L, bin_add, bin_sub, cmp_lt, cmp_le, cmp_gt, cmp_ge, cmp_eqI, cmp_neI, b1_lenL, b1_lenT, b1_tupL, b1_tupT, b1_lstL, b1_lstT, b1_int, Bool.false_eq_true, if_false, if_true, Bool.not_true, Bool.not_false, decide_true, decide_false, Rs_ok, Rs_exc, lstG, lstD, bindTs, bindT, svAll, wipeE, Option.bind_some, fin_rt, fin_nx, fin_exc]
  refine ⟨⟨_, rfl, ?_⟩, hg'⟩
  rcases hs with rfl | rfl
  · exact .inl rfl
  · exact .inr (by omega)
/-- a row of things, where it is known of each what lies beside it -/
theorem nb_seq {α : Type} {e : α → D} {N : α → α → Prop} (hN : P[nx]? = some dNext) (hB : P[nb]? = some (dNeigh nx nb)) {n : Nat} (hn : 2 ≤ n) {l : List α} (hl : l.length ≤ 100000) (hk : okE (.tuple (l.map e)) = true)
    (rec : ∀ a ∈ l, ∀ g, GS g → Rs (runF P (n - 1) nb [stD, e a] g) (fun d g' => (∃ b, d = e b ∧ N a b) ∧ GS g') NoE) {g : G} (hg : GS g) :
    Rs (runF P n nb [stD, .tuple (l.map e)] g) (fun d g' => (∃ m, d = .tuple (m.map e) ∧ Nb N l m) ∧ GS g') NoE := by
  obtain ⟨n, rfl⟩ : ∃ m, n = m + 1 := ⟨n - 1, by omega⟩
  rw [run_def hB rfl, Rs_fin]
  refine nb_first hN (by omega) hg fun s g' hs hg' => ?_
  have hne := cmp_eq (x := .tuple (l.map e)) (y := .tuple []) ⟨hk, rfl⟩
  rw [eqv_nil] at hne
  by_cases h : l = []
  · subst h
    simp only [dNeigh, List.drop_succ_cons, List.drop_zero, eB_cons, eB_nil, eS_asg, eS_iff, eS_ret, eS_ex, eS_rai, eS_aug, eS_par, eS_unp, eS_app, eS_ext, eS_asgO, eS_six, eS_brk, eE_var, eE_own, eE_int, eE_bl, eE_non, eE_str, eE_glob, eE_bin, eE_neg, eE_not, eE_and, eE_or, eE_cmp, eE_ch2, eE_isN, eE_isNN, eE_isNT, eE_ife, eE_tup, eE_lst, eE_dct0, eE_ix, eE_sl, eE_rev, eE_call, eE_b1, eE_b2, eE_isi, eE_join, eL_nil, eL_cons, eA_nil, eA_one, eA_cons, eO_nil, eO_one, eO_cons, eP_no, eP_yes, eC_no, eC_yes, eI_seq, gv_z, gv_s, sv_z, sv_s, bw_ok, bw_exc, Res.ofO_some, Option.map_some, tru_bool, tru_none, intOf_int, noneD, kB, tgD, kT, isi_n, isi_b, isi_i, isi_s, isi_t, isi_l, cutD_T, cutD_L, revD_T, revD_L, bin_add, bin_sub, cmp_lt, cmp_le, cmp_gt, cmp_ge, cmp_eqI, cmp_neI, b1_lenL, b1_lenT, b1_tupL, b1_tupT, b1_lstL, b1_lstT, b1_int, Bool.false_eq_true, if_false, if_true, Bool.not_true, Bool.not_false, decide_true, decide_false, Rs_ok, Rs_exc, lstG, lstD, bindTs, bindT, svAll, wipeE, Option.bind_some, fin_rt, fin_nx, fin_exc, hne, List.map_nil, List.isEmpty_nil]
    exact ⟨⟨[], rfl, .nil⟩, hg'⟩
  · have he : (l.map e).isEmpty = false := by cases l <;> simp_all
    have hpos : 0 < l.length := List.length_pos_iff.mpr h
    simp only [dNeigh, List.drop_succ_cons, List.drop_zero, eB_cons, eB_nil, eS_asg, eS_iff, eS_ret, eS_ex, eS_rai, eS_aug, eS_par, eS_unp, eS_app, eS_ext, eS_asgO, eS_six, eS_brk, eE_var, eE_own, eE_int, eE_bl, eE_non, eE_str, eE_glob, eE_bin, eE_neg, eE_not, eE_and, eE_or, eE_cmp, eE_ch2, eE_isN, eE_isNN, eE_isNT, eE_ife, eE_tup, eE_lst, eE_dct0, eE_ix, eE_sl, eE_rev, eE_call, eE_b1, eE_b2, eE_isi, eE_join, eL_nil, eL_cons, eA_nil, eA_one, eA_cons, eO_nil, eO_one, eO_cons, eP_no, eP_yes, eC_no, eC_yes, eI_seq, gv_z, gv_s, sv_z, sv_s, bw_ok, bw_exc, Res.ofO_some, Option.map_some, tru_bool, tru_none, intOf_int, noneD, kB, tgD, kT, isi_n, isi_b, isi_i, isi_s, isi_t, isi_l, cutD_T, cutD_L, revD_T, revD_L, bin_add, bin_sub, cmp_lt, cmp_le, cmp_gt, cmp_ge, cmp_eqI, cmp_neI, b1_lenL, b1_lenT, b1_tupL, b1_tupT, b1_lstL, b1_lstT, b1_int, Bool.false_eq_true, if_false, if_true, Bool.not_true, Bool.not_false, decide_true, decide_false, Rs_ok, Rs_exc, lstG, lstD, bindTs, bindT, svAll, wipeE, Option.bind_some, fin_rt, fin_nx, fin_exc, hne, he, List.length_map]
    simp only [Rs_bw]
    refine next_rs hN (by omega) (by omega) (by omega) hg' fun a g1 a0 a1 hg1 => ?_
    obtain ⟨a, rfl⟩ := Int.eq_ofNat_of_zero_le a0
    have ha : a < l.length := by omega
    simp only [eB_cons, eB_nil, eS_asg, eS_iff, eS_ret, eS_ex, eS_rai, eS_aug, eS_par, eS_unp, eS_app, eS_ext, eS_asgO, eS_six, eS_brk, eE_var, eE_own, eE_int, eE_bl, eE_non, eE_str, eE_glob, eE_bin, eE_neg, eE_not, eE_and, eE_or, eE_cmp, eE_ch2, eE_isN, eE_isNN, eE_isNT, eE_ife, eE_tup, eE_lst, eE_dct0, eE_ix, eE_sl, eE_rev, eE_call, eE_b1, eE_b2, eE_isi, eE_join, eL_nil, eL_cons, eA_nil, eA_one, eA_cons, eO_nil, eO_one, eO_cons, eP_no, eP_yes, eC_no, eC_yes, eI_seq, gv_z, gv_s, sv_z, sv_s, bw_ok, bw_exc, Res.ofO_some, Option.map_some, tru_bool, tru_none, intOf_int, noneD, kB, tgD, kT, isi_n, isi_b, isi_i, isi_s, isi_t, isi_l, cutD_T, cutD_L, revD_T, revD_L, bin_add, bin_sub, cmp_lt, cmp_le, cmp_gt, cmp_ge, cmp_eqI, cmp_neI, b1_lenL, b1_lenT, b1_tupL, b1_tupT, b1_lstL, b1_lstT, b1_int, Bool.false_eq_true, if_false, if_true, Bool.not_true, Bool.not_false, decide_true, decide_false, Rs_ok, Rs_exc, lstG, lstD, bindTs, bindT, svAll, wipeE, Option.bind_some, fin_rt, fin_nx, fin_exc]
    simp only [Rs_bw]
    refine next_rs hN (by omega) (by omega) (by omega) hg1 fun c g2 c0 c1 hg2 => ?_
    have e1 : ((a : Int) + 1) = ((a + 1 : Nat) : Int) := by omega
    have hsp := split_at ha
    have ht := List.length_take_le a l
    have rest : Rs (evB (runF P n) [.ret (.bin .add (.bin .add (.sl (.var 1) .no (.yes (.var 3))) (.tup [.call nb [.var 0, .ix (.var 1) (.var 3)]])) (.sl (.var 1) (.yes (.bin .add (.var 3) (.int 1))) .no))] [some stD, some (.tuple (l.map e)), some (.int s), some (.int a)] g2) (fun fl g' => match fl with
      | .rt v => (∃ m, v = .tuple (m.map e) ∧ Nb N l m) ∧ GS g'
      | .nx _ => (∃ m, PyData.none = .tuple (m.map e) ∧ Nb N l m) ∧ GS g'
      | .bk _ => False) NoE := by
      have hx : ∀ g, ixG (.tuple (l.map e)) (.int a) g = some (e l[a]) := fun g => by rw [ixT_nat (by simpa using ha)]; simp
      simp only [eB_cons, eB_nil, eS_asg, eS_iff, eS_ret, eS_ex, eS_rai, eS_aug, eS_par, eS_unp, eS_app, eS_ext, eS_asgO, eS_six, eS_brk, eE_var, eE_own, eE_int, eE_bl, eE_non, eE_str, eE_glob, eE_bin, eE_neg, eE_not, eE_and, eE_or, eE_cmp, eE_ch2, eE_isN, eE_isNN, eE_isNT, eE_ife, eE_tup, eE_lst, eE_dct0, eE_ix, eE_sl, eE_rev, eE_call, eE_b1, eE_b2, eE_isi, eE_join, eL_nil, eL_cons, eA_nil, eA_one, eA_cons, eO_nil, eO_one, eO_cons, eP_no, eP_yes, eC_no, eC_yes, eI_seq, gv_z, gv_s, sv_z, sv_s, bw_ok, bw_exc, Res.ofO_some, Option.map_some, tru_bool, tru_none, intOf_int, noneD, kB, tgD, kT, isi_n, isi_b, isi_i, isi_s, isi_t, isi_l, cutD_T, cutD_L, revD_T, revD_L, bin_add, bin_sub, cmp_lt, cmp_le, cmp_gt, cmp_ge, cmp_eqI, cmp_neI, b1_lenL, b1_lenT, b1_tupL, b1_tupT, b1_lstL, b1_lstT, b1_int, Bool.false_eq_true, if_false, if_true, Bool.not_true, Bool.not_false, decide_true, decide_false, Rs_ok, Rs_exc, lstG, lstD, bindTs, bindT, svAll, wipeE, Option.bind_some, fin_rt, fin_nx, fin_exc, hx]
      simp only [Rs_bw]
      refine (rec l[a] (List.getElem_mem ha) g2 hg2).mono (fun d g3 ⟨⟨b, e2, hb⟩, hg3⟩ => ?_) fun _ _ h => h
      subst e2
      have t1 := bin_addT' (xs := (l.take a).map e) (ys := [e b]) (by simp only [List.length_map, List.length_cons, List.length_nil]; omega)
      have t2 := bin_addT' (xs := (l.take a).map e ++ [e b]) (ys := (l.drop (a + 1)).map e) (by simp only [List.length_append, List.length_map, List.length_cons, List.length_nil, List.length_drop]; omega)
      simp only [eB_cons, eB_nil, eS_asg, eS_iff, eS_ret, eS_ex, eS_rai, eS_aug, eS_par, eS_unp, eS_app, eS_ext, eS_asgO, eS_six, eS_brk, eE_var, eE_own, eE_int, eE_bl, eE_non, eE_str, eE_glob, eE_bin, eE_neg, eE_not, eE_and, eE_or, eE_cmp, eE_ch2, eE_isN, eE_isNN, eE_isNT, eE_ife, eE_tup, eE_lst, eE_dct0, eE_ix, eE_sl, eE_rev, eE_call, eE_b1, eE_b2, eE_isi, eE_join, eL_nil, eL_cons, eA_nil, eA_one, eA_cons, eO_nil, eO_one, eO_cons, eP_no, eP_yes, eC_no, eC_yes, eI_seq, gv_z, gv_s, sv_z, sv_s, bw_ok, bw_exc, Res.ofO_some, Option.map_some, tru_bool, tru_none, intOf_int, noneD, kB, tgD, kT, isi_n, isi_b, isi_i, isi_s, isi_t, isi_l, cutD_T, cutD_L, revD_T, revD_L, bin_add, bin_sub, cmp_lt, cmp_le, cmp_gt, cmp_ge, cmp_eqI, cmp_neI, b1_lenL, b1_lenT, b1_tupL, b1_tupT, b1_lstL, b1_lstT, b1_int, Bool.false_eq_true, if_false, if_true, Bool.not_true, Bool.not_false, decide_true, decide_false, Rs_ok, Rs_exc, lstG, lstD, bindTs, bindT, svAll, wipeE, Option.bind_some, fin_rt, fin_nx, fin_exc, e1, cut_take, cut_drop, ← List.map_take, ← List.map_drop, t1, t2]
      refine ⟨⟨l.take a ++ b :: l.drop (a + 1), by simp, ?_⟩, hg3⟩
      have := Nb.one (l.take a) (l.drop (a + 1)) l[a] b hb
      rwa [← hsp] at this
    by_cases hc : c = 0
    · by_cases h1 : (1 : Int) < l.length
      · have t1 := bin_addT' (xs := (l.take a).map e) (ys := (l.drop (a + 1)).map e) (by simp only [List.length_map, List.length_drop]; omega)
        simp only [eB_cons, eB_nil, eS_asg, eS_iff, eS_ret, eS_ex, eS_rai, eS_aug, eS_par, eS_unp, eS_app, eS_ext, eS_asgO, eS_six, eS_brk, eE_var, eE_own, eE_int, eE_bl, eE_non, eE_str, eE_glob, eE_bin, eE_neg, eE_not, eE_and, eE_or, eE_cmp, eE_ch2, eE_isN, eE_isNN, eE_isNT, eE_ife, eE_tup, eE_lst, eE_dct0, eE_ix, eE_sl, eE_rev, eE_call, eE_b1, eE_b2, eE_isi, eE_join, eL_nil, eL_cons, eA_nil, eA_one, eA_cons, eO_nil, eO_one, eO_cons, eP_no, eP_yes, eC_no, eC_yes, eI_seq, gv_z, gv_s, sv_z, sv_s, bw_ok, bw_exc, Res.ofO_some, Option.map_some, tru_bool, tru_none, intOf_int, noneD, kB, tgD, kT, isi_n, isi_b, isi_i, isi_s, isi_t, isi_l, cutD_T, cutD_L, revD_T, revD_L, bin_add, bin_sub, cmp_lt, cmp_le, cmp_gt, cmp_ge, cmp_eqI, cmp_neI, b1_lenL, b1_lenT, b1_tupL, b1_tupT, b1_lstL, b1_lstT, b1_int, Bool.false_eq_true, if_false, if_true, Bool.not_true, Bool.not_false, decide_true, decide_false, Rs_ok, Rs_exc, lstG, lstD, bindTs, bindT, svAll, wipeE, Option.bind_some, fin_rt, fin_nx, fin_exc, hc, h1, List.length_map, e1, cut_take, cut_drop, ← List.map_take, ← List.map_drop, t1]
        refine ⟨⟨l.take a ++ l.drop (a + 1), by simp, ?_⟩, hg2⟩
        have := Nb.out (N := N) (l.take a) (l.drop (a + 1)) l[a] (fun h => by
          have := congrArg List.length h
          simp only [List.length_append, List.length_take, List.length_drop, List.length_nil] at this
          omega)
        rwa [← hsp] at this
      · simp only [eB_cons, eB_nil, eS_asg, eS_iff, eS_ret, eS_ex, eS_rai, eS_aug, eS_par, eS_unp, eS_app, eS_ext, eS_asgO, eS_six, eS_brk, eE_var, eE_own, eE_int, eE_bl, eE_non, eE_str, eE_glob, eE_bin, eE_neg, eE_not, eE_and, eE_or, eE_cmp, eE_ch2, eE_isN, eE_isNN, eE_isNT, eE_ife, eE_tup, eE_lst, eE_dct0, eE_ix, eE_sl, eE_rev, eE_call, eE_b1, eE_b2, eE_isi, eE_join, eL_nil, eL_cons, eA_nil, eA_one, eA_cons, eO_nil, eO_one, eO_cons, eP_no, eP_yes, eC_no, eC_yes, eI_seq, gv_z, gv_s, sv_z, sv_s, bw_ok, bw_exc, Res.ofO_some, Option.map_some, tru_bool, tru_none, intOf_int, noneD, kB, tgD, kT, isi_n, isi_b, isi_i, isi_s, isi_t, isi_l, cutD_T, cutD_L, revD_T, revD_L, bin_add, bin_sub, cmp_lt, cmp_le, cmp_gt, cmp_ge, cmp_eqI, cmp_neI, b1_lenL, b1_lenT, b1_tupL, b1_tupT, b1_lstL, b1_lstT, b1_int, Bool.false_eq_true, if_false, if_true, Bool.not_true, Bool.not_false, decide_true, decide_false, Rs_ok, Rs_exc, lstG, lstD, bindTs, bindT, svAll, wipeE, Option.bind_some, fin_rt, fin_nx, fin_exc, hc, h1, List.length_map]
        exact rest
    · simp only [eB_cons, eB_nil, eS_asg, eS_iff, eS_ret, eS_ex, eS_rai, eS_aug, eS_par, eS_unp, eS_app, eS_ext, eS_asgO, eS_six, eS_brk, eE_var, eE_own, eE_int, eE_bl, eE_non, eE_str, eE_glob, eE_bin, eE_neg, eE_not, eE_and, eE_or, eE_cmp, eE_ch2, eE_isN, eE_isNN, eE_isNT, eE_ife, eE_tup, eE_lst, eE_dct0, eE_ix, eE_sl, eE_rev, eE_call, eE_b1, eE_b2, eE_isi, eE_join, eL_nil, eL_cons, eA_nil, eA_one, eA_cons, eO_nil, eO_one, eO_cons, eP_no, eP_yes, eC_no, eC_yes, eI_seq, gv_z, gv_s, sv_z, sv_s, bw_ok, bw_exc, Res.ofO_some, Option.map_some, tru_bool, tru_none, intOf_int, noneD, kB, tgD, kT, isi_n, isi_b, isi_i, isi_s, isi_t, isi_l, cutD_T, cutD_L, revD_T, revD_L, bin_add, bin_sub, cmp_lt, cmp_le, cmp_gt, cmp_ge, cmp_eqI, cmp_neI, b1_lenL, b1_lenT, b1_tupL, b1_tupT, b1_lstL, b1_lstT, b1_int, Bool.false_eq_true, if_false, if_true, Bool.not_true, Bool.not_false, decide_true, decide_false, Rs_ok, Rs_exc, lstG, lstD, bindTs, bindT, svAll, wipeE, Option.bind_some, fin_rt, fin_nx, fin_exc, hc]
      exact rest
end
end PT
namespace PT
open PySem

theorem cp_int (i : Int) : cp (Str.ofString (toString i)) = if i < 0 then 45 :: (Nat.toDigits 10 i.natAbs).map Char.toNat else (Nat.toDigits 10 i.natAbs).map Char.toNat := by
  rw [cp_ofString, Int.toString_eq_repr, Int.repr_eq_if]
  by_cases h : i < 0
  · rw [if_neg (by omega), if_pos h, String.toList_append, Nat.toList_repr, show (-i).toNat = i.natAbs by omega]; rfl
  · rw [if_pos (by omega), if_neg h, Nat.toList_repr, show i.toNat = i.natAbs by omega]
def isNum (c : Nat) : Bool := c == 45 || (decide (48 ≤ c) && decide (c ≤ 57))
theorem digs_num {n : Nat} : ∀ c ∈ (Nat.toDigits 10 n).map Char.toNat, 48 ≤ c ∧ c ≤ 57 := by
  intro c hc
  obtain ⟨ch, h1, rfl⟩ := List.mem_map.mp hc
  exact PyProof.Rows.digit_range (Nat.isDigit_of_mem_toDigits (by decide) (by decide) h1)
theorem int_num {i : Int} : ∀ c ∈ cp (Str.ofString (toString i)), isNum c = true := by
  intro c hc
  rw [cp_int] at hc
  unfold isNum
  split at hc
  · rcases List.mem_cons.mp hc with rfl | hc
    · rfl
    · have := digs_num c hc; simp [this]
  · have := digs_num c hc; simp [this]
theorem toNat_inj {a b : Char} (h : a.toNat = b.toNat) : a = b := by
  have : a.val = b.val := UInt32.toNat_inj.mp h
  exact Char.ext this
theorem map_toNat_inj : ∀ {a b : List Char}, a.map Char.toNat = b.map Char.toNat → a = b
  | [], [], _ => rfl
  | [], _ :: _, h => by cases h
  | _ :: _, [], h => by cases h
  | x :: a, y :: b, h => by
    simp only [List.map_cons, List.cons.injEq] at h
    rw [toNat_inj h.1, map_toNat_inj h.2]
theorem digs_inj {m n : Nat} (h : (Nat.toDigits 10 m).map Char.toNat = (Nat.toDigits 10 n).map Char.toNat) : m = n := by
  have := map_toNat_inj h
  rw [← Nat.ofDigitChars_toDigits (b := 10) (n := m) (by decide) (by decide), this, Nat.ofDigitChars_toDigits (by decide) (by decide)]
theorem int_inj {i j : Int} (h : cp (Str.ofString (toString i)) = cp (Str.ofString (toString j))) : i = j := by
  rw [cp_int, cp_int] at h
  by_cases hi : i < 0
  · by_cases hj : j < 0
    · rw [if_pos hi, if_pos hj] at h
      have := digs_inj (List.cons.inj h).2
      omega
    · rw [if_pos hi, if_neg hj] at h
      have := digs_num (n := j.natAbs) 45 (by rw [← h]; exact List.mem_cons_self ..)
      omega
  · by_cases hj : j < 0
    · rw [if_neg hi, if_pos hj] at h
      have := digs_num (n := i.natAbs) 45 (by rw [h]; exact List.mem_cons_self ..)
      omega
    · rw [if_neg hi, if_neg hj] at h
      have := digs_inj h
      omega
theorem int_ne (i : Int) : ∃ c t, cp (Str.ofString (toString i)) = c :: t ∧ isNum c = true := by
  have : cp (Str.ofString (toString i)) ≠ [] := by
    rw [cp_int]
    have : Nat.toDigits 10 i.natAbs ≠ [] := Nat.toDigits_ne_nil
    split
    · simp
    · simpa using this
  obtain ⟨c, t, e⟩ := List.exists_cons_of_ne_nil this
  exact ⟨c, t, e, int_num c (by rw [e]; exact List.mem_cons_self ..)⟩
/-- what stands behind an item -/
def dl (r : List Nat) : Prop := ∀ c t, r = c :: t → c = 44 ∨ c = 41
theorem dl_num {r : List Nat} (h : dl r) : ∀ c t, r = c :: t → isNum c = false := by
  intro c t e
  rcases h c t e with rfl | rfl <;> rfl
/-- the front of a list -/
theorem front_eq (p : Nat → Bool) : ∀ {a b r s : List Nat}, (∀ c ∈ a, p c = true) → (∀ c ∈ b, p c = true) → (∀ c t, r = c :: t → p c = false) → (∀ c t, s = c :: t → p c = false) → a ++ r = b ++ s → a = b ∧ r = s
  | [], [], _, _, _, _, _, _, h => ⟨rfl, h⟩
  | [], y :: b, r, s, _, hb, hr, _, h => by
    have h : r = y :: (b ++ s) := h
    have := hr _ _ h
    rw [hb y (List.mem_cons_self ..)] at this
    cases this
  | x :: a, [], r, s, ha, _, _, hs, h => by
    have h : x :: (a ++ r) = s := h
    have := hs _ _ h.symm
    rw [ha x (List.mem_cons_self ..)] at this
    cases this
  | x :: a, y :: b, r, s, ha, hb, hr, hs, h => by
    simp only [List.cons_append, List.cons.injEq] at h
    obtain ⟨e1, e2⟩ := front_eq p (fun c hc => ha c (List.mem_cons_of_mem _ hc)) (fun c hc => hb c (List.mem_cons_of_mem _ hc)) hr hs h.2
    exact ⟨by rw [h.1, e1], e2⟩
def tgN : D → Nat
  | .none => 0
  | .bool true => 1
  | .bool false => 2
  | .int _ => 3
  | .str _ => 4
  | .list _ => 5
  | .tuple _ => 6
  | .dict _ => 7
def chN (c : Nat) : Nat := if c = 78 then 0 else if c = 84 then 1 else if c = 70 then 2 else if isNum c = true then 3 else if c = 39 ∨ c = 34 then 4 else if c = 91 then 5 else if c = 40 then 6 else 7
theorem cp_join_s : ∀ (x : Str) (r : List Str), cp (Str.join (", " : Str) (x :: r)) = cp x ++ r.flatMap fun y => 44 :: 32 :: cp y
  | x, [] => by show cp x = _; simp
  | x, y :: r => by
    show cp (x ++ ((", " : Str)) ++ Str.join (", " : Str) (y :: r)) = _
    rw [cp_app, cp_app, cp_join_s y r, cp_ofString]
    simp
theorem cp_tuple_nil : cp (PyData.tuple []).shown = [40, 41] := by decide +kernel
theorem cp_tuple_one (x : D) : cp (PyData.tuple [x]).shown = 40 :: (cp x.shown ++ [44, 41]) := by
  rw [PyData.shown_tuple]
  simp only [PyData.shownAll, List.length_cons, List.length_nil]
  rw [cp_app, cp_app, cp_join_s, cp_ofString]
  show _ ++ cp (Str.ofString ",)") = _
  rw [cp_ofString]
  simp
def rowT : List D → List Nat
  | [] => [41]
  | y :: r => 44 :: 32 :: (cp y.shown ++ rowT r)
theorem rowT_eq : ∀ l : List D, rowT l = ((PyData.shownAll l).flatMap fun y => 44 :: 32 :: cp y) ++ [41]
  | [] => rfl
  | y :: r => by simp only [rowT, PyData.shownAll, List.flatMap_cons, rowT_eq r]; simp
theorem cp_tuple_more (x y : D) (r : List D) : cp (PyData.tuple (x :: y :: r)).shown = 40 :: (cp x.shown ++ rowT (y :: r)) := by
  rw [PyData.shown_tuple]
  have e : ((x :: y :: r).length == 1) = false := by simp
  rw [e, rowT_eq]
  simp only [PyData.shownAll]
  rw [cp_app, cp_app, cp_join_s, cp_ofString]
  show _ ++ cp (Str.ofString ")") = _
  rw [cp_ofString]
  simp
theorem cp_repr (x : Str) : ∃ t, cp (reprText x) = reprQuote x :: t := by
  refine ⟨(x.cps.toList.flatMap fun c => Builtin.Str.reprChar (reprQuote x) c) ++ [reprQuote x], ?_⟩
  unfold reprText cp
  rw [Array.toList_push, ← Array.foldl_toList]
  have : ∀ (l : List Nat) (acc : Array Nat), (l.foldl (fun out c => out ++ (Builtin.Str.reprChar (reprQuote x) c).toArray) acc).toList = acc.toList ++ l.flatMap fun c => Builtin.Str.reprChar (reprQuote x) c := by
    intro l
    induction l with
    | nil => intro acc; simp
    | cons c l ih => intro acc; rw [List.foldl_cons, ih]; simp
  rw [this]
  simp
theorem quote_or (x : Str) : reprQuote x = 34 ∨ reprQuote x = 39 := by
  unfold reprQuote
  split <;> simp
theorem head_of {d : D} (h : nd d = true) : ∃ c t, cp d.shown = c :: t ∧ chN c = tgN d := by
  cases d with
  | none => exact ⟨78, _, by rw [PyData.shown_none, cp_ofString]; rfl, rfl⟩
  | bool b =>
    cases b
    · exact ⟨70, _, by rw [PyData.shown_bool]; show cp (Str.ofString "False") = _; rw [cp_ofString]; rfl, rfl⟩
    · exact ⟨84, _, by rw [PyData.shown_bool]; show cp (Str.ofString "True") = _; rw [cp_ofString]; rfl, rfl⟩
  | int i =>
    obtain ⟨c, t, e, hc⟩ := int_ne i
    refine ⟨c, t, by rw [PyData.shown_int]; exact e, ?_⟩
    have : c ≠ 78 ∧ c ≠ 84 ∧ c ≠ 70 := by
      refine ⟨?_, ?_, ?_⟩ <;> (intro h; subst h; cases hc)
    simp only [chN, this, if_false, hc, if_true, tgN]
  | str x =>
    obtain ⟨t, e⟩ := cp_repr x
    refine ⟨_, t, by rw [PyData.shown_str]; exact e, ?_⟩
    rcases quote_or x with h | h <;> (rw [h]; rfl)
  | list xs =>
    refine ⟨91, _, by rw [PyData.shown_list, cp_app, cp_app, cp_ofString]; rfl, rfl⟩
  | tuple xs =>
    refine ⟨40, _, by rw [PyData.shown_tuple, cp_app, cp_app, cp_ofString]; rfl, rfl⟩
  | dict kvs =>
    cases kvs with
    | nil => exact ⟨123, _, by rw [PyData.shown_dict, cp_app, cp_app, cp_ofString]; rfl, rfl⟩
    | cons _ _ => cases h
theorem tag_eq {d e : D} (hd : nd d = true) (he : nd e = true) {r s : List Nat} (h : cp d.shown ++ r = cp e.shown ++ s) : tgN d = tgN e := by
  obtain ⟨c, t, e1, h1⟩ := head_of hd
  obtain ⟨c', t', e2, h2⟩ := head_of he
  rw [e1, e2] at h
  simp only [List.cons_append, List.cons.injEq] at h
  rw [← h1, ← h2, h.1]
mutual
/-- made of numbers, truths, None and tuples -/
def sol : D → Bool
  | .none => true
  | .bool _ => true
  | .int _ => true
  | .tuple ds => solL ds
  | .str _ => false
  | .list _ => false
  | .dict _ => false
def solL : List D → Bool
  | [] => true
  | d :: ds => sol d && solL ds
end
mutual
/-- no dict with something in it, anywhere -/
def ndd : D → Bool
  | .dict (_ :: _) => false
  | .dict [] => true
  | .none => true
  | .bool _ => true
  | .int _ => true
  | .str _ => true
  | .tuple ds => nddL ds
  | .list ds => nddL ds
def nddL : List D → Bool
  | [] => true
  | d :: ds => ndd d && nddL ds
end
theorem ndd_nd {d : D} (h : ndd d = true) : nd d = true := by
  cases d with
  | dict kvs => cases kvs with
    | nil => rfl
    | cons _ _ => simp [ndd] at h
  | _ => rfl
theorem sol_nd {d : D} (h : sol d = true) : nd d = true := by
  cases d with
  | dict kvs => simp [sol] at h
  | _ => rfl
theorem dl_41 (r : List Nat) : dl (41 :: r) := fun c t h => by injection h with h1; exact .inr h1.symm
theorem dl_44 (r : List Nat) : dl (44 :: r) := fun c t h => by injection h with h1; exact .inl h1.symm
mutual
theorem shown_inj : ∀ (e d : D) (r s : List Nat), sol e = true → ndd d = true → dl r → dl s → cp d.shown ++ r = cp e.shown ++ s → d = e ∧ r = s
  | e, d, r, s, he, hd, hr, hs, h => by
    have ht := tag_eq (ndd_nd hd) (sol_nd he) h
    cases e with
    | str _ => simp [sol] at he
    | list _ => simp [sol] at he
    | dict _ => simp [sol] at he
    | none =>
      cases d with
      | none => exact ⟨rfl, List.append_cancel_left h⟩
      | bool b => cases b <;> cases ht
      | _ => cases ht
    | bool b =>
      cases b <;> cases d with
      | bool b' => cases b' <;> first | exact ⟨rfl, List.append_cancel_left h⟩ | cases ht
      | _ => cases ht
    | int i =>
      cases d with
      | int j =>
        rw [PyData.shown_int, PyData.shown_int] at h
        obtain ⟨e1, e2⟩ := front_eq isNum int_num int_num (dl_num hr) (dl_num hs) h
        exact ⟨by rw [int_inj e1], e2⟩
      | bool b => cases b <;> cases ht
      | _ => cases ht
    | tuple es =>
      cases d with
      | tuple ds =>
        simp only [sol] at he
        simp only [ndd] at hd
        obtain ⟨e1, e2⟩ := shown_injT es ds r s he hd h
        exact ⟨by rw [e1], e2⟩
      | bool b => cases b <;> cases ht
      | _ => cases ht
theorem shown_injT : ∀ (es ds : List D) (r s : List Nat), solL es = true → nddL ds = true → cp (PyData.tuple ds).shown ++ r = cp (PyData.tuple es).shown ++ s → ds = es ∧ r = s
  | [], [], r, s, _, _, h => ⟨rfl, List.append_cancel_left h⟩
  | [], [x], r, s, _, hd, h => by
    rw [cp_tuple_nil, cp_tuple_one] at h
    simp only [nddL, Bool.and_true] at hd
    obtain ⟨c, t, e1, h1⟩ := head_of (ndd_nd hd)
    rw [e1] at h
    simp only [List.cons_append, List.cons.injEq] at h
    exfalso
    rw [h.2.1] at h1
    revert h1
    cases x with
    | bool b => cases b <;> (intro h1; cases h1)
    | dict kvs => cases kvs with
      | nil => have := head_of (d := .dict []) rfl; rw [PyData.shown_dict, cp_app, cp_app, cp_ofString] at e1; simp at e1; omega
      | cons _ _ => simp [ndd] at hd
    | _ => intro h1; cases h1
  | [], x :: y :: r', r, s, _, hd, h => by
    rw [cp_tuple_nil, cp_tuple_more] at h
    simp only [nddL, Bool.and_eq_true] at hd
    obtain ⟨c, t, e1, h1⟩ := head_of (ndd_nd hd.1)
    rw [e1] at h
    simp only [List.cons_append, List.cons.injEq] at h
    exfalso
    rw [h.2.1] at h1
    revert h1
    cases x with
    | bool b => cases b <;> (intro h1; cases h1)
    | dict kvs => cases kvs with
      | nil => rw [PyData.shown_dict, cp_app, cp_app, cp_ofString] at e1; simp at e1; omega
      | cons _ _ => simp [ndd] at hd
    | _ => intro h1; cases h1
  | [x], [], r, s, he, _, h => by
    rw [cp_tuple_nil, cp_tuple_one] at h
    simp only [solL, Bool.and_true] at he
    obtain ⟨c, t, e1, h1⟩ := head_of (sol_nd he)
    rw [e1] at h
    simp only [List.cons_append, List.cons.injEq] at h
    exfalso
    rw [← h.2.1] at h1
    revert h1
    cases x with
    | bool b => cases b <;> (intro h1; cases h1)
    | dict kvs => simp [sol] at he
    | _ => intro h1; cases h1
  | x :: y :: r', [], r, s, he, _, h => by
    rw [cp_tuple_nil, cp_tuple_more] at h
    simp only [solL, Bool.and_eq_true] at he
    obtain ⟨c, t, e1, h1⟩ := head_of (sol_nd he.1)
    rw [e1] at h
    simp only [List.cons_append, List.cons.injEq] at h
    exfalso
    rw [← h.2.1] at h1
    revert h1
    cases x with
    | bool b => cases b <;> (intro h1; cases h1)
    | dict kvs => simp [sol] at he
    | _ => intro h1; cases h1
  | [x], [x'], r, s, he, hd, h => by
    rw [cp_tuple_one, cp_tuple_one] at h
    simp only [solL, nddL, Bool.and_true] at he hd
    simp only [List.cons_append, List.append_assoc, List.nil_append, List.cons.injEq, true_and] at h
    obtain ⟨e1, e2⟩ := shown_inj x x' _ _ he hd (dl_44 _) (dl_44 _) h
    simp only [List.cons.injEq, true_and] at e2
    exact ⟨by rw [e1], e2⟩
  | [x], x' :: y' :: r', r, s, he, hd, h => by
    rw [cp_tuple_one, cp_tuple_more] at h
    simp only [solL, nddL, Bool.and_true, Bool.and_eq_true] at he hd
    simp only [rowT, List.cons_append, List.append_assoc, List.nil_append, List.cons.injEq, true_and] at h
    obtain ⟨e1, e2⟩ := shown_inj x x' _ _ he hd.1 (dl_44 _) (dl_44 _) h
    simp at e2
  | x :: y :: q, [x'], r, s, he, hd, h => by
    rw [cp_tuple_one, cp_tuple_more] at h
    simp only [solL, nddL, Bool.and_true, Bool.and_eq_true] at he hd
    simp only [rowT, List.cons_append, List.append_assoc, List.nil_append, List.cons.injEq, true_and] at h
    obtain ⟨e1, e2⟩ := shown_inj x x' _ _ he.1 hd (dl_44 _) (dl_44 _) h
    simp at e2
  | x :: y :: q, x' :: y' :: q', r, s, he, hd, h => by
    rw [cp_tuple_more, cp_tuple_more] at h
    simp only [solL, nddL, Bool.and_eq_true] at he hd
    simp only [List.cons_append, List.append_assoc, List.cons.injEq, true_and] at h
    obtain ⟨e1, e2⟩ := shown_inj x x' (rowT (y' :: q') ++ r) (rowT (y :: q) ++ s) he.1 hd.1 (dl_44 _) (dl_44 _) h
    obtain ⟨e3, e4⟩ := shown_injR (y :: q) (y' :: q') r s (by simp only [solL, Bool.and_eq_true]; exact he.2) (by simp only [nddL, Bool.and_eq_true]; exact hd.2) e2
    exact ⟨by rw [e1, e3], e4⟩
theorem shown_injR : ∀ (es ds : List D) (r s : List Nat), solL es = true → nddL ds = true → rowT ds ++ r = rowT es ++ s → ds = es ∧ r = s
  | [], [], r, s, _, _, h => ⟨rfl, List.append_cancel_left h⟩
  | [], x :: l, r, s, _, _, h => by simp [rowT] at h
  | x :: l, [], r, s, _, _, h => by simp [rowT] at h
  | x :: l, x' :: l', r, s, he, hd, h => by
    simp only [solL, nddL, Bool.and_eq_true] at he hd
    simp only [rowT, List.cons_append, List.append_assoc, List.cons.injEq, true_and] at h
    have dr : ∀ (l : List D) (r : List Nat), dl (rowT l ++ r) := fun l r => by
      cases l with
      | nil => exact dl_41 _
      | cons _ _ => exact dl_44 _
    obtain ⟨e1, e2⟩ := shown_inj x x' _ _ he.1 hd.1 (dr l' r) (dr l s) h
    obtain ⟨e3, e4⟩ := shown_injR l l' r s he.2 hd.2 e2
    exact ⟨by rw [e1, e3], e4⟩
end
end PT
namespace PT
open PySem

theorem hex_ok (c : Nat) {w : Nat} : ∀ x ∈ List.replicate (w - ((Nat.toDigits 16 c).map Char.toNat).length) 48 ++ (Nat.toDigits 16 c).map Char.toNat, x < 1114112 := by
  intro x hx
  rcases List.mem_append.mp hx with hx | hx
  · rw [List.eq_of_mem_replicate hx]; decide
  · obtain ⟨ch, _, rfl⟩ := List.mem_map.mp hx
    have := ch.valid
    simp only [UInt32.isValidChar, Nat.isValidChar] at this
    show ch.val.toNat < _
    omega
theorem reprChar_ok {q c : Nat} (hc : c < 1114112) : ∀ x ∈ Builtin.Str.reprChar q c, x < 1114112 := by
  unfold Builtin.Str.reprChar
  dsimp only
  intro x hx
  have h2 := hex_ok c (w := 2)
  have h4 := hex_ok c (w := 4)
  have h8 := hex_ok c (w := 8)
  repeat' split at hx
  all_goals first
    | (simp only [List.mem_cons, List.not_mem_nil, or_false] at hx; omega)
    | (rcases List.mem_append.mp hx with hx | hx
       · simp only [List.mem_cons, List.not_mem_nil, or_false] at hx; omega
       · first | exact h2 x hx | exact h4 x hx | exact h8 x hx)
theorem cp_repr' (x : Str) : cp (reprText x) = reprQuote x :: ((x.cps.toList.flatMap fun c => Builtin.Str.reprChar (reprQuote x) c) ++ [reprQuote x]) := by
  unfold reprText cp
  rw [Array.toList_push, ← Array.foldl_toList]
  have : ∀ (l : List Nat) (acc : Array Nat), (l.foldl (fun out c => out ++ (Builtin.Str.reprChar (reprQuote x) c).toArray) acc).toList = acc.toList ++ l.flatMap fun c => Builtin.Str.reprChar (reprQuote x) c := by
    intro l
    induction l with
    | nil => intro acc; simp
    | cons c l ih => intro acc; rw [List.foldl_cons, ih]; simp
  rw [this]
  simp
def lays (x : Str) : Prop := ∀ c ∈ cp x, c < 1114112
theorem lays_app {x y : Str} (h : lays x) (h' : lays y) : lays (x ++ y) := by
  intro c hc
  rw [cp_app] at hc
  rcases List.mem_append.mp hc with hc | hc
  · exact h c hc
  · exact h' c hc
theorem lays_of (s : String) : lays (Str.ofString s) := lay_str.mp (lay_ofString s)
theorem lays_joinS : ∀ l : List Str, (∀ x ∈ l, lays x) → lays (Str.join (", " : Str) l)
  | [], _ => by intro c hc; cases hc
  | [x], h => h x (List.mem_cons_self ..)
  | x :: y :: r, h => by
    show lays (x ++ ((", " : Str)) ++ Str.join (", " : Str) (y :: r))
    exact lays_app (lays_app (h x (List.mem_cons_self ..)) (lays_of _)) (lays_joinS (y :: r) fun z hz => h z (List.mem_cons_of_mem _ hz))
theorem reprText_sz {x : Str} (h : PyData.canLay0 (.str x) = true) : (reprText x).length ≤ 10 * x.length + 2 :=
  StrLaws.reprText_len x fun c hc => Nat.lt_trans (lay_str.mp h c hc) (by decide)
theorem len250 {i : Int} (h : i.natAbs < 2 ^ 250) : (Str.ofString (toString i)).length ≤ 77 := by
  rw [len_ofString]
  exact int_text_length_le10 (k := 76) (by decide) (Nat.lt_trans h (by decide +kernel))
mutual
theorem shown_ok : ∀ (d : D), PyData.canLay0 d = true → oq d = true → lays d.shown ∧ d.shown.length + 2 ≤ 100 * sz d ∧ PyData.showable d = true
  | .none, _, _ => ⟨by rw [PyData.shown_none]; exact lays_of _, by rw [PyData.shown_none, len_ofString]; decide, rfl⟩
  | .bool b, _, _ => by
    cases b
    · exact ⟨by rw [PyData.shown_bool]; exact lays_of "False", by rw [PyData.shown_bool]; show (Str.ofString "False").length + 2 ≤ _; rw [len_ofString]; decide, rfl⟩
    · exact ⟨by rw [PyData.shown_bool]; exact lays_of "True", by rw [PyData.shown_bool]; show (Str.ofString "True").length + 2 ≤ _; rw [len_ofString]; decide, rfl⟩
  | .int i, _, h => by
    simp only [oq, decide_eq_true_eq] at h
    refine ⟨by rw [PyData.shown_int]; exact lays_of _, by rw [PyData.shown_int]; have := len250 h; simp only [sz]; omega, ?_⟩
    simp only [PyData.showable, decide_eq_true_eq]
    rcases Nat.eq_zero_or_pos i.natAbs with h0 | h0
    · rw [h0]; decide
    · have := (Nat.log2_lt (show i.natAbs ≠ 0 by omega)).mpr h
      omega
  | .str x, h, _ => by
    refine ⟨?_, by rw [PyData.shown_str]; have := reprText_sz h; simp only [sz]; omega, rfl⟩
    rw [PyData.shown_str]
    intro c hc
    rw [cp_repr'] at hc
    have hq : reprQuote x < 1114112 := by rcases quote_or x with h | h <;> (rw [h]; decide)
    rcases List.mem_cons.mp hc with rfl | hc
    · exact hq
    · rcases List.mem_append.mp hc with hc | hc
      · obtain ⟨c', h1, h2⟩ := List.mem_flatMap.mp hc
        exact reprChar_ok (lay_str.mp h c' h1) c h2
      · rw [List.mem_singleton.mp hc]; exact hq
  | .list ds, h, ho => by
    simp only [PyData.canLay0] at h
    simp only [oq, Bool.and_eq_true] at ho
    obtain ⟨h1, h2, h3⟩ := shown_okL ds h ho.2
    refine ⟨?_, ?_, by simpa only [PyData.showable] using h3⟩
    · rw [PyData.shown_list]
      exact lays_app (lays_app (lays_of _) (lays_joinS _ h1)) (lays_of _)
    · have := PySem.listText_len_le (PyData.shownAll ds)
      have hl := shownAll_len ds
      have := szL_len ds
      simp only [PyData.shown, sz]
      omega
  | .tuple ds, h, ho => by
    simp only [PyData.canLay0] at h
    simp only [oq, Bool.and_eq_true] at ho
    obtain ⟨h1, h2, h3⟩ := shown_okL ds h ho.2
    refine ⟨?_, ?_, by simpa only [PyData.showable] using h3⟩
    · rw [PyData.shown_tuple]
      refine lays_app (lays_app (lays_of _) (lays_joinS _ h1)) ?_
      split <;> exact lays_of _
    · have := PySem.tupleText_len_le (PyData.shownAll ds)
      have hl := shownAll_len ds
      have := szL_len ds
      simp only [PyData.shown, sz]
      omega
  | .dict _, h, _ => by simp [PyData.canLay0] at h
theorem shown_okL : ∀ (ds : List D), PyData.canLayAll0 ds = true → oqL ds = true → (∀ x ∈ PyData.shownAll ds, lays x) ∧ ((PyData.shownAll ds).map (·.length)).sum + 2 * ds.length ≤ 100 * szL ds ∧ PyData.showableAll ds = true
  | [], _, _ => ⟨fun x hx => (nomatch hx), Nat.le_refl _, rfl⟩
  | d :: ds, h, ho => by
    simp only [PyData.canLayAll0, oqL, Bool.and_eq_true] at h ho
    obtain ⟨a1, a2, a3⟩ := shown_ok d h.1 ho.1
    obtain ⟨b1, b2, b3⟩ := shown_okL ds h.2 ho.2
    refine ⟨fun x hx => ?_, ?_, by simp only [PyData.showableAll, a3, b3, Bool.and_self]⟩
    · simp only [PyData.shownAll] at hx
      rcases List.mem_cons.mp hx with rfl | hx
      · exact a1
      · exact b1 x hx
    · have := sz_pos d
      simp only [PyData.shownAll, List.map_cons, List.sum_cons, List.length_cons, szL]
      omega
theorem shownAll_len : ∀ (ds : List D), (PyData.shownAll ds).length = ds.length
  | [] => rfl
  | d :: ds => by simp only [PyData.shownAll, List.length_cons, shownAll_len ds]
end
end PT
namespace PT
open PySem

mutual
/-- no truths, no dicts -/
def nob : D → Bool
  | .none => true
  | .int _ => true
  | .str _ => true
  | .tuple ds => nobL ds
  | .list ds => nobL ds
  | .bool _ => false
  | .dict _ => false
def nobL : List D → Bool
  | [] => true
  | d :: ds => nob d && nobL ds
end
mutual
theorem eqv_iff : ∀ (d e : D), nob d = true → nob e = true → (PyData.eqv d e = true ↔ d = e)
  | .none, e, _, he => by cases e <;> simp [PyData.eqv] <;> simp [nob] at he
  | .int i, e, _, he => by cases e <;> simp [PyData.eqv] <;> simp [nob] at he
  | .str x, e, _, he => by cases e <;> simp [PyData.eqv] <;> simp [nob] at he
  | .bool _, _, hd, _ => by simp [nob] at hd
  | .dict _, _, hd, _ => by simp [nob] at hd
  | .tuple ds, e, hd, he => by
    cases e with
    | tuple es =>
      simp only [nob] at hd he
      have := eqvL_iff ds es hd he
      simp only [PyData.eqv, this]
      exact ⟨fun h => by rw [h], fun h => by injection h⟩
    | _ => simp [PyData.eqv] <;> simp [nob] at he
  | .list ds, e, hd, he => by
    cases e with
    | list es =>
      simp only [nob] at hd he
      have := eqvL_iff ds es hd he
      simp only [PyData.eqv, this]
      exact ⟨fun h => by rw [h], fun h => by injection h⟩
    | _ => simp [PyData.eqv] <;> simp [nob] at he
theorem eqvL_iff : ∀ (ds es : List D), nobL ds = true → nobL es = true → (PyData.eqvAll ds es = true ↔ ds = es)
  | [], [], _, _ => by simp [PyData.eqvAll]
  | [], _ :: _, _, _ => by simp [PyData.eqvAll]
  | _ :: _, [], _, _ => by simp [PyData.eqvAll]
  | d :: ds, e :: es, hd, he => by
    simp only [nobL, Bool.and_eq_true] at hd he
    simp only [PyData.eqvAll, Bool.and_eq_true, eqv_iff d e hd.1 he.1, eqvL_iff ds es hd.2 he.2, List.cons.injEq]
end
theorem eqv_same {d e : D} (hd : nob d = true) (he : nob e = true) : PyData.eqv d e = same d e := by
  have := eqv_iff d e hd he
  rw [← same_iff] at this
  cases h : PyData.eqv d e <;> cases h' : same d e <;> simp_all
theorem nobL_iff : ∀ {ds : List D}, nobL ds = true ↔ ∀ d ∈ ds, nob d = true
  | [] => by simp [nobL]
  | d :: ds => by simp [nobL, nobL_iff (ds := ds)]
theorem nddL_iff : ∀ {ds : List D}, nddL ds = true ↔ ∀ d ∈ ds, ndd d = true
  | [] => by simp [nddL]
  | d :: ds => by simp [nddL, nddL_iff (ds := ds)]
theorem solL_iff : ∀ {ds : List D}, solL ds = true ↔ ∀ d ∈ ds, sol d = true
  | [] => by simp [solL]
  | d :: ds => by simp [solL, solL_iff (ds := ds)]
theorem nob_mkT (r : List Int) : nob (mkT r) = true := by
  simp only [mkT, nob, nobL_iff]
  intro d hd
  obtain ⟨i, _, rfl⟩ := List.mem_map.mp hd
  rfl
theorem sol_mkT (r : List Int) : sol (mkT r) = true := by
  simp only [mkT, sol, solL_iff]
  intro d hd
  obtain ⟨i, _, rfl⟩ := List.mem_map.mp hd
  rfl
mutual
theorem oq_ndd : ∀ (d : D), oq d = true → ndd d = true
  | .none, _ => rfl
  | .bool _, _ => rfl
  | .int _, _ => rfl
  | .str _, _ => rfl
  | .dict _, h => by simp [oq] at h
  | .tuple ds, h => by
    simp only [oq, Bool.and_eq_true] at h
    simp only [ndd]
    exact oqL_ndd ds h.2
  | .list ds, h => by
    simp only [oq, Bool.and_eq_true] at h
    simp only [ndd]
    exact oqL_ndd ds h.2
theorem oqL_ndd : ∀ (ds : List D), oqL ds = true → nddL ds = true
  | [], _ => rfl
  | d :: ds, h => by
    simp only [oqL, Bool.and_eq_true] at h
    simp only [nddL, oq_ndd d h.1, oqL_ndd ds h.2, Bool.and_self]
end
theorem repr_ok {k m : Nat} {d : D} (h : Oz k m d) (hk : k ≤ 64) (hm : m ≤ 100000) : b1D .repr d = some (.str d.shown) ∧ okE (.str d.shown) = true := by
  obtain ⟨h1, h2, h3⟩ := shown_ok d h.1.lay h.1.oq
  have := h.2
  have hz : d.shown.length ≤ sizeLine := by rw [sizeLine_eq]; omega
  exact ⟨if_pos ⟨h.1.lay, Nat.le_trans h.1.dep hk, h3, hz⟩, (Od.str (k := 0) (lay_str.mpr h1)).okE (by decide)⟩
/-- shown alike: alike -/
theorem repr_cmp {w : Str} {ds es : List D} (hd : nddL ds = true) (he : solL es = true) (hne : es ≠ []) : PyData.eqv (.str (PyData.tuple (.str w :: ds)).shown) (.str (PyData.tuple (.str w :: es)).shown) = same (.tuple (.str w :: ds)) (.tuple (.str w :: es)) := by
  rw [eqv_str]
  by_cases h : ds = es
  · subst h; simp [same_refl]
  · rw [same_no (by intro e; injection e with e; injection e with _ e; exact h e)]
    simp only [decide_eq_false_iff_not]
    intro e
    apply h
    have e := congrArg cp e
    obtain ⟨y, es, rfl⟩ := List.exists_cons_of_ne_nil hne
    rw [cp_tuple_more] at e
    cases ds with
    | nil =>
      rw [cp_tuple_one] at e
      simp [rowT] at e
    | cons x ds =>
      rw [cp_tuple_more] at e
      simp only [List.cons.injEq, true_and, List.append_cancel_left_eq] at e
      have := shown_injR (y :: es) (x :: ds) [] [] he hd (by simpa using e)
      exact this.1
def kI : D → Bool
  | .int _ => true
  | _ => false
def dWhole (nm : Str) : Def := { name := nm, ps := 1, ns := ["value"], mu := [], fr := false, body := [
    .ret (.and (.isi .int (.var 0)) [.not (.isi .bool (.var 0))])] }
section
variable {P : List Def} {wh : Nat} {nm : Str} {n : Nat} {g : G} {d : D}
theorem whole_run (hW : P[wh]? = some (dWhole nm)) (hn : 1 ≤ n) (hd : nd d = true) : runF P n wh [d] g = .ok (.bool (kI d)) g := by
  obtain ⟨n, rfl⟩ : ∃ m, n = m + 1 := ⟨n - 1, by omega⟩
  rw [run_def hW rfl]
  show fin (evB _ (dWhole nm).body [some d] g) = _
  cases d with
  | dict kvs => cases kvs with
    | nil => simp only [dWhole, eB_cons, eB_nil, eS_asg, eS_iff, eS_ret, eS_ex, eS_rai, eS_aug, eS_par, eS_unp, eS_app, eS_ext, eS_asgO, eS_six, eS_brk, eE_var, eE_own, eE_int, eE_bl, eE_non, eE_str, eE_glob, eE_bin, eE_neg, eE_not, eE_and, eE_or, eE_cmp, eE_ch2, eE_isN, eE_isNN, eE_isNT, eE_ife, eE_tup, eE_lst, eE_dct0, eE_ix, eE_sl, eE_rev, eE_call, eE_b1, eE_b2, eE_isi, eE_join, eL_nil, eL_cons, eA_nil, eA_one, eA_cons, eO_nil, eO_one, eO_cons, eP_no, eP_yes, eC_no, eC_yes, eI_seq, gv_z, gv_s, sv_z, sv_s, bw_ok, bw_exc, Res.ofO_some, Option.map_some, tru_bool, tru_none, intOf_int, noneD, kB, tgD, kT, isi_n, isi_b, isi_i, isi_s, isi_t, isi_l, cutD_T, cutD_L, revD_T, revD_L, bin_add, bin_sub, cmp_lt, cmp_le, cmp_gt, cmp_ge, cmp_eqI, cmp_neI, b1_lenL, b1_lenT, b1_tupL, b1_tupT, b1_lstL, b1_lstT, b1_int, Bool.false_eq_true, if_false, if_true, Bool.not_true, Bool.not_false, decide_true, decide_false, Rs_ok, Rs_exc, lstG, lstD, bindTs, bindT, svAll, wipeE, Option.bind_some, fin_rt, fin_nx, fin_exc, isi_d, kI]
    | cons _ _ => cases hd
  | _ => simp only [dWhole, eB_cons, eB_nil, eS_asg, eS_iff, eS_ret, eS_ex, eS_rai, eS_aug, eS_par, eS_unp, eS_app, eS_ext, eS_asgO, eS_six, eS_brk, eE_var, eE_own, eE_int, eE_bl, eE_non, eE_str, eE_glob, eE_bin, eE_neg, eE_not, eE_and, eE_or, eE_cmp, eE_ch2, eE_isN, eE_isNN, eE_isNT, eE_ife, eE_tup, eE_lst, eE_dct0, eE_ix, eE_sl, eE_rev, eE_call, eE_b1, eE_b2, eE_isi, eE_join, eL_nil, eL_cons, eA_nil, eA_one, eA_cons, eO_nil, eO_one, eO_cons, eP_no, eP_yes, eC_no, eC_yes, eI_seq, gv_z, gv_s, sv_z, sv_s, bw_ok, bw_exc, Res.ofO_some, Option.map_some, tru_bool, tru_none, intOf_int, noneD, kB, tgD, kT, isi_n, isi_b, isi_i, isi_s, isi_t, isi_l, cutD_T, cutD_L, revD_T, revD_L, bin_add, bin_sub, cmp_lt, cmp_le, cmp_gt, cmp_ge, cmp_eqI, cmp_neI, b1_lenL, b1_lenT, b1_tupL, b1_tupT, b1_lstL, b1_lstT, b1_int, Bool.false_eq_true, if_false, if_true, Bool.not_true, Bool.not_false, decide_true, decide_false, Rs_ok, Rs_exc, lstG, lstD, bindTs, bindT, svAll, wipeE, Option.bind_some, fin_rt, fin_nx, fin_exc, kI]
/-- told is a tuple of a word and so many -/
def told (w : Str) (k : Nat) : D → Bool
  | .tuple (.str x :: r) => decide (x = w) && decide (r.length + 1 = k)
  | _ => false
theorem told_iff {w : Str} {k : Nat} {d : D} : told w k d = true ↔ ∃ r, d = .tuple (.str w :: r) ∧ r.length + 1 = k := by
  constructor
  · intro h
    unfold told at h
    split at h
    · simp only [Bool.and_eq_true, decide_eq_true_eq] at h
      obtain ⟨rfl, h2⟩ := h
      exact ⟨_, rfl, h2⟩
    · cases h
  · rintro ⟨r, rfl, h⟩
    simp [told, h]
def dTold : Def := { name := "is_told", ps := 3, ns := ["told", "word", "count"], mu := [], fr := false, body := [
    .iff (.or (.not (.isi .tuple (.var 0))) [.cmp .ne (.b1 .len (.var 0)) (.var 2)]) [.ret (.bl false)] [],
    .ret (.and (.isi .str (.ix (.var 0) (.int 0))) [.cmp .eq (.ix (.var 0) (.int 0)) (.var 1)])] }
def dTold2 : Def := { name := "_law_is", ps := 3, ns := ["told", "word", "count"], mu := [], fr := false, body := [
    .ret (.and (.isi .tuple (.var 0)) [.cmp .eq (.b1 .len (.var 0)) (.var 2), .isi .str (.ix (.var 0) (.int 0)), .cmp .eq (.ix (.var 0) (.int 0)) (.var 1)])] }
/-- of what is asked: a thing, or {} -/
structure Aq (d : D) : Prop where
  nd : nd d = true
  tup : ∀ ds, d = .tuple ds → ∀ x ∈ ds, PT.nd x = true ∧ okE x = true
theorem ask_aq {d : D} (h : Ask d) : Aq d := by
  rcases h with h | rfl
  · refine ⟨h.1.nd, fun ds e x hx => ?_⟩
    subst e
    have := (Od.tup (k := 39).mp h.1).2 x hx
    exact ⟨this.nd, this.okE (by decide)⟩
  · exact ⟨rfl, fun _ e => nomatch e⟩
theorem od_aq {k : Nat} {d : D} (h : Od k d) (hk : k ≤ 64) : Aq d := by
  refine ⟨h.nd, fun ds e x hx => ?_⟩
  subst e
  cases k with
  | zero => exact h.tup0.elim
  | succ k =>
    have := (Od.tup.mp h).2 x hx
    exact ⟨this.nd, this.okE (by omega)⟩
theorem told_run {it : Nat} (hT : P[it]? = some dTold) (hn : 1 ≤ n) {w : Str} (hw : okE (.str w) = true) {k : Nat} (hk : 1 ≤ k) (hd : Aq d) : runF P n it [d, .str w, .int k] g = .ok (.bool (told w k d)) g := by
  obtain ⟨n, rfl⟩ : ∃ m, n = m + 1 := ⟨n - 1, by omega⟩
  rw [run_def hT rfl]
  show fin (evB _ dTold.body [some d, some (.str w), some (.int k)] g) = _
  cases d with
  | tuple ds =>
    by_cases h : ds.length = k
    · cases ds with
      | nil => simp at h; omega
      | cons x r =>
        have hx := hd.tup _ rfl x (List.mem_cons_self ..)
        have h' : (((x :: r).length : Nat) : Int) = (k : Int) := by omega
        have hi : ixG (.tuple (x :: r)) (.int 0) g = some x := by
          have := ixT_nat (xs := x :: r) (k := 0) (g := g) (by simp)
          simpa using this
        have hk : isiD .str x = some (kB .str x) := isi_kB hx.1
        cases x with
        | str y =>
          simp only [dTold, eB_cons, eB_nil, eS_asg, eS_iff, eS_ret, eS_ex, eS_rai, eS_aug, eS_par, eS_unp, eS_app, eS_ext, eS_asgO, eS_six, eS_brk, eE_var, eE_own, eE_int, eE_bl, eE_non, eE_str, eE_glob, eE_bin, eE_neg, eE_not, eE_and, eE_or, eE_cmp, eE_ch2, eE_isN, eE_isNN, eE_isNT, eE_ife, eE_tup, eE_lst, eE_dct0, eE_ix, eE_sl, eE_rev, eE_call, eE_b1, eE_b2, eE_isi, eE_join, eL_nil, eL_cons, eA_nil, eA_one, eA_cons, eO_nil, eO_one, eO_cons, eP_no, eP_yes, eC_no, eC_yes, eI_seq, gv_z, gv_s, sv_z, sv_s, bw_ok, bw_exc, Res.ofO_some, Option.map_some, tru_bool, tru_none, intOf_int, noneD, kB, tgD, kT, isi_n, isi_b, isi_i, isi_s, isi_t, isi_l, cutD_T, cutD_L, revD_T, revD_L, bin_add, bin_sub, cmp_lt, cmp_le, cmp_gt, cmp_ge, cmp_eqI, cmp_neI, b1_lenL, b1_lenT, b1_tupL, b1_tupT, b1_lstL, b1_lstT, b1_int, Bool.false_eq_true, if_false, if_true, Bool.not_true, Bool.not_false, decide_true, decide_false, Rs_ok, Rs_exc, lstG, lstD, bindTs, bindT, svAll, wipeE, Option.bind_some, fin_rt, fin_nx, fin_exc, h', hi, cmp_eq (x := .str y) (y := .str w) ⟨hx.2, hw⟩, eqv_str, told]
          simp only [List.length_cons] at h
          simp [h]
        | dict kvs =>
          cases kvs with
          | nil => simp only [dTold, eB_cons, eB_nil, eS_asg, eS_iff, eS_ret, eS_ex, eS_rai, eS_aug, eS_par, eS_unp, eS_app, eS_ext, eS_asgO, eS_six, eS_brk, eE_var, eE_own, eE_int, eE_bl, eE_non, eE_str, eE_glob, eE_bin, eE_neg, eE_not, eE_and, eE_or, eE_cmp, eE_ch2, eE_isN, eE_isNN, eE_isNT, eE_ife, eE_tup, eE_lst, eE_dct0, eE_ix, eE_sl, eE_rev, eE_call, eE_b1, eE_b2, eE_isi, eE_join, eL_nil, eL_cons, eA_nil, eA_one, eA_cons, eO_nil, eO_one, eO_cons, eP_no, eP_yes, eC_no, eC_yes, eI_seq, gv_z, gv_s, sv_z, sv_s, bw_ok, bw_exc, Res.ofO_some, Option.map_some, tru_bool, tru_none, intOf_int, noneD, kB, tgD, kT, isi_n, isi_b, isi_i, isi_s, isi_t, isi_l, cutD_T, cutD_L, revD_T, revD_L, bin_add, bin_sub, cmp_lt, cmp_le, cmp_gt, cmp_ge, cmp_eqI, cmp_neI, b1_lenL, b1_lenT, b1_tupL, b1_tupT, b1_lstL, b1_lstT, b1_int, Bool.false_eq_true, if_false, if_true, Bool.not_true, Bool.not_false, decide_true, decide_false, Rs_ok, Rs_exc, lstG, lstD, bindTs, bindT, svAll, wipeE, Option.bind_some, fin_rt, fin_nx, fin_exc, h', hi, isi_d, told]
          | cons _ _ => cases hx.1
        | _ => simp only [dTold, eB_cons, eB_nil, eS_asg, eS_iff, eS_ret, eS_ex, eS_rai, eS_aug, eS_par, eS_unp, eS_app, eS_ext, eS_asgO, eS_six, eS_brk, eE_var, eE_own, eE_int, eE_bl, eE_non, eE_str, eE_glob, eE_bin, eE_neg, eE_not, eE_and, eE_or, eE_cmp, eE_ch2, eE_isN, eE_isNN, eE_isNT, eE_ife, eE_tup, eE_lst, eE_dct0, eE_ix, eE_sl, eE_rev, eE_call, eE_b1, eE_b2, eE_isi, eE_join, eL_nil, eL_cons, eA_nil, eA_one, eA_cons, eO_nil, eO_one, eO_cons, eP_no, eP_yes, eC_no, eC_yes, eI_seq, gv_z, gv_s, sv_z, sv_s, bw_ok, bw_exc, Res.ofO_some, Option.map_some, tru_bool, tru_none, intOf_int, noneD, kB, tgD, kT, isi_n, isi_b, isi_i, isi_s, isi_t, isi_l, cutD_T, cutD_L, revD_T, revD_L, bin_add, bin_sub, cmp_lt, cmp_le, cmp_gt, cmp_ge, cmp_eqI, cmp_neI, b1_lenL, b1_lenT, b1_tupL, b1_tupT, b1_lstL, b1_lstT, b1_int, Bool.false_eq_true, if_false, if_true, Bool.not_true, Bool.not_false, decide_true, decide_false, Rs_ok, Rs_exc, lstG, lstD, bindTs, bindT, svAll, wipeE, Option.bind_some, fin_rt, fin_nx, fin_exc, h', hi, told]
    · have h' : ¬ ((ds.length : Nat) : Int) = (k : Int) := by omega
      have ht : told w k (.tuple ds) = false := by
        cases ht : told w k (.tuple ds) with
        | false => rfl
        | true =>
          obtain ⟨r, e, hr⟩ := told_iff.mp ht
          injection e with e
          rw [e] at h
          exact absurd hr h
      simp only [dTold, eB_cons, eB_nil, eS_asg, eS_iff, eS_ret, eS_ex, eS_rai, eS_aug, eS_par, eS_unp, eS_app, eS_ext, eS_asgO, eS_six, eS_brk, eE_var, eE_own, eE_int, eE_bl, eE_non, eE_str, eE_glob, eE_bin, eE_neg, eE_not, eE_and, eE_or, eE_cmp, eE_ch2, eE_isN, eE_isNN, eE_isNT, eE_ife, eE_tup, eE_lst, eE_dct0, eE_ix, eE_sl, eE_rev, eE_call, eE_b1, eE_b2, eE_isi, eE_join, eL_nil, eL_cons, eA_nil, eA_one, eA_cons, eO_nil, eO_one, eO_cons, eP_no, eP_yes, eC_no, eC_yes, eI_seq, gv_z, gv_s, sv_z, sv_s, bw_ok, bw_exc, Res.ofO_some, Option.map_some, tru_bool, tru_none, intOf_int, noneD, kB, tgD, kT, isi_n, isi_b, isi_i, isi_s, isi_t, isi_l, cutD_T, cutD_L, revD_T, revD_L, bin_add, bin_sub, cmp_lt, cmp_le, cmp_gt, cmp_ge, cmp_eqI, cmp_neI, b1_lenL, b1_lenT, b1_tupL, b1_tupT, b1_lstL, b1_lstT, b1_int, Bool.false_eq_true, if_false, if_true, Bool.not_true, Bool.not_false, decide_true, decide_false, Rs_ok, Rs_exc, lstG, lstD, bindTs, bindT, svAll, wipeE, Option.bind_some, fin_rt, fin_nx, fin_exc, h', ht]
  | dict kvs => cases kvs with
    | nil => simp only [dTold, eB_cons, eB_nil, eS_asg, eS_iff, eS_ret, eS_ex, eS_rai, eS_aug, eS_par, eS_unp, eS_app, eS_ext, eS_asgO, eS_six, eS_brk, eE_var, eE_own, eE_int, eE_bl, eE_non, eE_str, eE_glob, eE_bin, eE_neg, eE_not, eE_and, eE_or, eE_cmp, eE_ch2, eE_isN, eE_isNN, eE_isNT, eE_ife, eE_tup, eE_lst, eE_dct0, eE_ix, eE_sl, eE_rev, eE_call, eE_b1, eE_b2, eE_isi, eE_join, eL_nil, eL_cons, eA_nil, eA_one, eA_cons, eO_nil, eO_one, eO_cons, eP_no, eP_yes, eC_no, eC_yes, eI_seq, gv_z, gv_s, sv_z, sv_s, bw_ok, bw_exc, Res.ofO_some, Option.map_some, tru_bool, tru_none, intOf_int, noneD, kB, tgD, kT, isi_n, isi_b, isi_i, isi_s, isi_t, isi_l, cutD_T, cutD_L, revD_T, revD_L, bin_add, bin_sub, cmp_lt, cmp_le, cmp_gt, cmp_ge, cmp_eqI, cmp_neI, b1_lenL, b1_lenT, b1_tupL, b1_tupT, b1_lstL, b1_lstT, b1_int, Bool.false_eq_true, if_false, if_true, Bool.not_true, Bool.not_false, decide_true, decide_false, Rs_ok, Rs_exc, lstG, lstD, bindTs, bindT, svAll, wipeE, Option.bind_some, fin_rt, fin_nx, fin_exc, isi_d, told]
    | cons _ _ => cases hd.nd
  | _ => simp only [dTold, eB_cons, eB_nil, eS_asg, eS_iff, eS_ret, eS_ex, eS_rai, eS_aug, eS_par, eS_unp, eS_app, eS_ext, eS_asgO, eS_six, eS_brk, eE_var, eE_own, eE_int, eE_bl, eE_non, eE_str, eE_glob, eE_bin, eE_neg, eE_not, eE_and, eE_or, eE_cmp, eE_ch2, eE_isN, eE_isNN, eE_isNT, eE_ife, eE_tup, eE_lst, eE_dct0, eE_ix, eE_sl, eE_rev, eE_call, eE_b1, eE_b2, eE_isi, eE_join, eL_nil, eL_cons, eA_nil, eA_one, eA_cons, eO_nil, eO_one, eO_cons, eP_no, eP_yes, eC_no, eC_yes, eI_seq, gv_z, gv_s, sv_z, sv_s, bw_ok, bw_exc, Res.ofO_some, Option.map_some, tru_bool, tru_none, intOf_int, noneD, kB, tgD, kT, isi_n, isi_b, isi_i, isi_s, isi_t, isi_l, cutD_T, cutD_L, revD_T, revD_L, bin_add, bin_sub, cmp_lt, cmp_le, cmp_gt, cmp_ge, cmp_eqI, cmp_neI, b1_lenL, b1_lenT, b1_tupL, b1_tupT, b1_lstL, b1_lstT, b1_int, Bool.false_eq_true, if_false, if_true, Bool.not_true, Bool.not_false, decide_true, decide_false, Rs_ok, Rs_exc, lstG, lstD, bindTs, bindT, svAll, wipeE, Option.bind_some, fin_rt, fin_nx, fin_exc, told]
theorem told2_run {it : Nat} (hT : P[it]? = some dTold2) (hn : 1 ≤ n) {w : Str} (hw : okE (.str w) = true) {k : Nat} (hk : 1 ≤ k) (hd : Aq d) : runF P n it [d, .str w, .int k] g = .ok (.bool (told w k d)) g := by
  obtain ⟨n, rfl⟩ : ∃ m, n = m + 1 := ⟨n - 1, by omega⟩
  rw [run_def hT rfl]
  show fin (evB _ dTold2.body [some d, some (.str w), some (.int k)] g) = _
  cases d with
  | tuple ds =>
    by_cases h : ds.length = k
    · cases ds with
      | nil => simp at h; omega
      | cons x r =>
        have hx := hd.tup _ rfl x (List.mem_cons_self ..)
        have h' : (((x :: r).length : Nat) : Int) = (k : Int) := by omega
        have hi : ixG (.tuple (x :: r)) (.int 0) g = some x := by
          have := ixT_nat (xs := x :: r) (k := 0) (g := g) (by simp)
          simpa using this
        cases x with
        | str y =>
          simp only [dTold2, eB_cons, eB_nil, eS_asg, eS_iff, eS_ret, eS_ex, eS_rai, eS_aug, eS_par, eS_unp, eS_app, eS_ext, eS_asgO, eS_six, eS_brk, eE_var, eE_own, eE_int, eE_bl, eE_non, eE_str, eE_glob, eE_bin, eE_neg, eE_not, eE_and, eE_or, eE_cmp, eE_ch2, eE_isN, eE_isNN, eE_isNT, eE_ife, eE_tup, eE_lst, eE_dct0, eE_ix, eE_sl, eE_rev, eE_call, eE_b1, eE_b2, eE_isi, eE_join, eL_nil, eL_cons, eA_nil, eA_one, eA_cons, eO_nil, eO_one, eO_cons, eP_no, eP_yes, eC_no, eC_yes, eI_seq, gv_z, gv_s, sv_z, sv_s, bw_ok, bw_exc, Res.ofO_some, Option.map_some, tru_bool, tru_none, intOf_int, noneD, kB, tgD, kT, isi_n, isi_b, isi_i, isi_s, isi_t, isi_l, cutD_T, cutD_L, revD_T, revD_L, bin_add, bin_sub, cmp_lt, cmp_le, cmp_gt, cmp_ge, cmp_eqI, cmp_neI, b1_lenL, b1_lenT, b1_tupL, b1_tupT, b1_lstL, b1_lstT, b1_int, Bool.false_eq_true, if_false, if_true, Bool.not_true, Bool.not_false, decide_true, decide_false, Rs_ok, Rs_exc, lstG, lstD, bindTs, bindT, svAll, wipeE, Option.bind_some, fin_rt, fin_nx, fin_exc, h', hi, cmp_eq (x := .str y) (y := .str w) ⟨hx.2, hw⟩, eqv_str, told]
          simp only [List.length_cons] at h
          simp [h]
        | dict kvs =>
          cases kvs with
          | nil => simp only [dTold2, eB_cons, eB_nil, eS_asg, eS_iff, eS_ret, eS_ex, eS_rai, eS_aug, eS_par, eS_unp, eS_app, eS_ext, eS_asgO, eS_six, eS_brk, eE_var, eE_own, eE_int, eE_bl, eE_non, eE_str, eE_glob, eE_bin, eE_neg, eE_not, eE_and, eE_or, eE_cmp, eE_ch2, eE_isN, eE_isNN, eE_isNT, eE_ife, eE_tup, eE_lst, eE_dct0, eE_ix, eE_sl, eE_rev, eE_call, eE_b1, eE_b2, eE_isi, eE_join, eL_nil, eL_cons, eA_nil, eA_one, eA_cons, eO_nil, eO_one, eO_cons, eP_no, eP_yes, eC_no, eC_yes, eI_seq, gv_z, gv_s, sv_z, sv_s, bw_ok, bw_exc, Res.ofO_some, Option.map_some, tru_bool, tru_none, intOf_int, noneD, kB, tgD, kT, isi_n, isi_b, isi_i, isi_s, isi_t, isi_l, cutD_T, cutD_L, revD_T, revD_L, bin_add, bin_sub, cmp_lt, cmp_le, cmp_gt, cmp_ge, cmp_eqI, cmp_neI, b1_lenL, b1_lenT, b1_tupL, b1_tupT, b1_lstL, b1_lstT, b1_int, Bool.false_eq_true, if_false, if_true, Bool.not_true, Bool.not_false, decide_true, decide_false, Rs_ok, Rs_exc, lstG, lstD, bindTs, bindT, svAll, wipeE, Option.bind_some, fin_rt, fin_nx, fin_exc, h', hi, isi_d, told]
          | cons _ _ => cases hx.1
        | _ => simp only [dTold2, eB_cons, eB_nil, eS_asg, eS_iff, eS_ret, eS_ex, eS_rai, eS_aug, eS_par, eS_unp, eS_app, eS_ext, eS_asgO, eS_six, eS_brk, eE_var, eE_own, eE_int, eE_bl, eE_non, eE_str, eE_glob, eE_bin, eE_neg, eE_not, eE_and, eE_or, eE_cmp, eE_ch2, eE_isN, eE_isNN, eE_isNT, eE_ife, eE_tup, eE_lst, eE_dct0, eE_ix, eE_sl, eE_rev, eE_call, eE_b1, eE_b2, eE_isi, eE_join, eL_nil, eL_cons, eA_nil, eA_one, eA_cons, eO_nil, eO_one, eO_cons, eP_no, eP_yes, eC_no, eC_yes, eI_seq, gv_z, gv_s, sv_z, sv_s, bw_ok, bw_exc, Res.ofO_some, Option.map_some, tru_bool, tru_none, intOf_int, noneD, kB, tgD, kT, isi_n, isi_b, isi_i, isi_s, isi_t, isi_l, cutD_T, cutD_L, revD_T, revD_L, bin_add, bin_sub, cmp_lt, cmp_le, cmp_gt, cmp_ge, cmp_eqI, cmp_neI, b1_lenL, b1_lenT, b1_tupL, b1_tupT, b1_lstL, b1_lstT, b1_int, Bool.false_eq_true, if_false, if_true, Bool.not_true, Bool.not_false, decide_true, decide_false, Rs_ok, Rs_exc, lstG, lstD, bindTs, bindT, svAll, wipeE, Option.bind_some, fin_rt, fin_nx, fin_exc, h', hi, told]
    · have h' : ¬ ((ds.length : Nat) : Int) = (k : Int) := by omega
      have ht : told w k (.tuple ds) = false := by
        cases ht : told w k (.tuple ds) with
        | false => rfl
        | true =>
          obtain ⟨r, e, hr⟩ := told_iff.mp ht
          injection e with e
          rw [e] at h
          exact absurd hr h
      simp only [dTold2, eB_cons, eB_nil, eS_asg, eS_iff, eS_ret, eS_ex, eS_rai, eS_aug, eS_par, eS_unp, eS_app, eS_ext, eS_asgO, eS_six, eS_brk, eE_var, eE_own, eE_int, eE_bl, eE_non, eE_str, eE_glob, eE_bin, eE_neg, eE_not, eE_and, eE_or, eE_cmp, eE_ch2, eE_isN, eE_isNN, eE_isNT, eE_ife, eE_tup, eE_lst, eE_dct0, eE_ix, eE_sl, eE_rev, eE_call, eE_b1, eE_b2, eE_isi, eE_join, eL_nil, eL_cons, eA_nil, eA_one, eA_cons, eO_nil, eO_one, eO_cons, eP_no, eP_yes, eC_no, eC_yes, eI_seq, gv_z, gv_s, sv_z, sv_s, bw_ok, bw_exc, Res.ofO_some, Option.map_some, tru_bool, tru_none, intOf_int, noneD, kB, tgD, kT, isi_n, isi_b, isi_i, isi_s, isi_t, isi_l, cutD_T, cutD_L, revD_T, revD_L, bin_add, bin_sub, cmp_lt, cmp_le, cmp_gt, cmp_ge, cmp_eqI, cmp_neI, b1_lenL, b1_lenT, b1_tupL, b1_tupT, b1_lstL, b1_lstT, b1_int, Bool.false_eq_true, if_false, if_true, Bool.not_true, Bool.not_false, decide_true, decide_false, Rs_ok, Rs_exc, lstG, lstD, bindTs, bindT, svAll, wipeE, Option.bind_some, fin_rt, fin_nx, fin_exc, h', ht]
  | dict kvs => cases kvs with
    | nil => simp only [dTold2, eB_cons, eB_nil, eS_asg, eS_iff, eS_ret, eS_ex, eS_rai, eS_aug, eS_par, eS_unp, eS_app, eS_ext, eS_asgO, eS_six, eS_brk, eE_var, eE_own, eE_int, eE_bl, eE_non, eE_str, eE_glob, eE_bin, eE_neg, eE_not, eE_and, eE_or, eE_cmp, eE_ch2, eE_isN, eE_isNN, eE_isNT, eE_ife, eE_tup, eE_lst, eE_dct0, eE_ix, eE_sl, eE_rev, eE_call, eE_b1, eE_b2, eE_isi, eE_join, eL_nil, eL_cons, eA_nil, eA_one, eA_cons, eO_nil, eO_one, eO_cons, eP_no, eP_yes, eC_no, eC_yes, eI_seq, gv_z, gv_s, sv_z, sv_s, bw_ok, bw_exc, Res.ofO_some, Option.map_some, tru_bool, tru_none, intOf_int, noneD, kB, tgD, kT, isi_n, isi_b, isi_i, isi_s, isi_t, isi_l, cutD_T, cutD_L, revD_T, revD_L, bin_add, bin_sub, cmp_lt, cmp_le, cmp_gt, cmp_ge, cmp_eqI, cmp_neI, b1_lenL, b1_lenT, b1_tupL, b1_tupT, b1_lstL, b1_lstT, b1_int, Bool.false_eq_true, if_false, if_true, Bool.not_true, Bool.not_false, decide_true, decide_false, Rs_ok, Rs_exc, lstG, lstD, bindTs, bindT, svAll, wipeE, Option.bind_some, fin_rt, fin_nx, fin_exc, isi_d, told]
    | cons _ _ => cases hd.nd
  | _ => simp only [dTold2, eB_cons, eB_nil, eS_asg, eS_iff, eS_ret, eS_ex, eS_rai, eS_aug, eS_par, eS_unp, eS_app, eS_ext, eS_asgO, eS_six, eS_brk, eE_var, eE_own, eE_int, eE_bl, eE_non, eE_str, eE_glob, eE_bin, eE_neg, eE_not, eE_and, eE_or, eE_cmp, eE_ch2, eE_isN, eE_isNN, eE_isNT, eE_ife, eE_tup, eE_lst, eE_dct0, eE_ix, eE_sl, eE_rev, eE_call, eE_b1, eE_b2, eE_isi, eE_join, eL_nil, eL_cons, eA_nil, eA_one, eA_cons, eO_nil, eO_one, eO_cons, eP_no, eP_yes, eC_no, eC_yes, eI_seq, gv_z, gv_s, sv_z, sv_s, bw_ok, bw_exc, Res.ofO_some, Option.map_some, tru_bool, tru_none, intOf_int, noneD, kB, tgD, kT, isi_n, isi_b, isi_i, isi_s, isi_t, isi_l, cutD_T, cutD_L, revD_T, revD_L, bin_add, bin_sub, cmp_lt, cmp_le, cmp_gt, cmp_ge, cmp_eqI, cmp_neI, b1_lenL, b1_lenT, b1_tupL, b1_tupT, b1_lstL, b1_lstT, b1_int, Bool.false_eq_true, if_false, if_true, Bool.not_true, Bool.not_false, decide_true, decide_false, Rs_ok, Rs_exc, lstG, lstD, bindTs, bindT, svAll, wipeE, Option.bind_some, fin_rt, fin_nx, fin_exc, told]
/-- so many whole numbers -/
def wholes (k : Nat) : D → Bool
  | .tuple ds => decide (ds.length = k) && ds.all kI
  | _ => false
theorem kI_iff {d : D} : kI d = true ↔ ∃ i, d = .int i := by
  cases d <;> simp [kI]
theorem all_kI : ∀ {ds : List D}, ds.all kI = true ↔ ∃ r : List Int, ds = r.map .int
  | [] => by simp
  | d :: ds => by
    rw [List.all_cons, Bool.and_eq_true, all_kI, kI_iff]
    constructor
    · rintro ⟨⟨i, rfl⟩, r, rfl⟩
      exact ⟨i :: r, rfl⟩
    · rintro ⟨r, h⟩
      cases r with
      | nil => cases h
      | cons i r =>
        simp only [List.map_cons, List.cons.injEq] at h
        exact ⟨⟨i, h.1⟩, r, h.2⟩
theorem wholes_iff {k : Nat} {d : D} : wholes k d = true ↔ ∃ r : List Int, d = mkT r ∧ r.length = k := by
  constructor
  · intro h
    cases d with
    | tuple ds =>
      simp only [wholes, Bool.and_eq_true, decide_eq_true_eq, all_kI] at h
      obtain ⟨h1, r, rfl⟩ := h
      exact ⟨r, rfl, by simpa using h1⟩
    | _ => simp [wholes] at h
  · rintro ⟨r, rfl, rfl⟩
    simp only [mkT, wholes, List.length_map, decide_true, Bool.true_and, all_kI]
    exact ⟨r, rfl⟩
def dWholes (wh : Nat) : Def := { name := "are_wholes", ps := 2, ns := ["value", "count", "part"], mu := [], fr := false, body := [
    .ret (.and (.isi .tuple (.var 0)) [.cmp .eq (.b1 .len (.var 0)) (.var 1), .cmp .notin (.bl false) (.lc [2] (.n 2) (.seq (.var 0)) .no (.call wh [.var 2]))])] }
theorem wholes_run {aw : Nat} (hW : P[wh]? = some (dWhole nm)) (hA : P[aw]? = some (dWholes wh)) (hn : 2 ≤ n) {k : Int} {m : Nat} (hk : k = (m : Int)) (hm : m ≤ 100000) (hd : Aq d) : runF P n aw [d, .int k] g = .ok (.bool (wholes m d)) g := by
  subst hk
  obtain ⟨n, rfl⟩ : ∃ m, n = m + 1 := ⟨n - 1, by omega⟩
  rw [run_def hA rfl]
  show fin (evB _ (dWholes wh).body [some d, some (.int m), none] g) = _
  cases d with
  | tuple ds =>
    by_cases h : ds.length = m
    · have h' : ((ds.length : Nat) : Int) = (m : Int) := by omega
      have hlc := lc_val (f := lcQ (runF P n) [2] (.n 2) .no (.call wh [.var 2]) [some (.tuple ds), some (.int m), none]) (g := g) (l := ds) (e := fun x => x) (fun x => .bool (kI x)) (line_of (by omega)) (fun x hx => by
        simp only [lcQ_eq, eB_cons, eB_nil, eS_asg, eS_iff, eS_ret, eS_ex, eS_rai, eS_aug, eS_par, eS_unp, eS_app, eS_ext, eS_asgO, eS_six, eS_brk, eE_var, eE_own, eE_int, eE_bl, eE_non, eE_str, eE_glob, eE_bin, eE_neg, eE_not, eE_and, eE_or, eE_cmp, eE_ch2, eE_isN, eE_isNN, eE_isNT, eE_ife, eE_tup, eE_lst, eE_dct0, eE_ix, eE_sl, eE_rev, eE_call, eE_b1, eE_b2, eE_isi, eE_join, eL_nil, eL_cons, eA_nil, eA_one, eA_cons, eO_nil, eO_one, eO_cons, eP_no, eP_yes, eC_no, eC_yes, eI_seq, gv_z, gv_s, sv_z, sv_s, bw_ok, bw_exc, Res.ofO_some, Option.map_some, tru_bool, tru_none, intOf_int, noneD, kB, tgD, kT, isi_n, isi_b, isi_i, isi_s, isi_t, isi_l, cutD_T, cutD_L, revD_T, revD_L, bin_add, bin_sub, cmp_lt, cmp_le, cmp_gt, cmp_ge, cmp_eqI, cmp_neI, b1_lenL, b1_lenT, b1_tupL, b1_tupT, b1_lstL, b1_lstT, b1_int, Bool.false_eq_true, if_false, if_true, Bool.not_true, Bool.not_false, decide_true, decide_false, Rs_ok, Rs_exc, lstG, lstD, bindTs, bindT, svAll, wipeE, Option.bind_some, fin_rt, fin_nx, fin_exc, whole_run hW (show 1 ≤ n by omega) (hd.tup _ rfl x hx).1])
      rw [List.map_id'] at hlc
      simp only [dWholes, eB_cons, eB_nil, eS_asg, eS_iff, eS_ret, eS_ex, eS_rai, eS_aug, eS_par, eS_unp, eS_app, eS_ext, eS_asgO, eS_six, eS_brk, eE_var, eE_own, eE_int, eE_bl, eE_non, eE_str, eE_glob, eE_bin, eE_neg, eE_not, eE_and, eE_or, eE_cmp, eE_ch2, eE_isN, eE_isNN, eE_isNT, eE_ife, eE_tup, eE_lst, eE_dct0, eE_ix, eE_sl, eE_rev, eE_call, eE_b1, eE_b2, eE_isi, eE_join, eL_nil, eL_cons, eA_nil, eA_one, eA_cons, eO_nil, eO_one, eO_cons, eP_no, eP_yes, eC_no, eC_yes, eI_seq, gv_z, gv_s, sv_z, sv_s, bw_ok, bw_exc, Res.ofO_some, Option.map_some, tru_bool, tru_none, intOf_int, noneD, kB, tgD, kT, isi_n, isi_b, isi_i, isi_s, isi_t, isi_l, cutD_T, cutD_L, revD_T, revD_L, bin_add, bin_sub, cmp_lt, cmp_le, cmp_gt, cmp_ge, cmp_eqI, cmp_neI, b1_lenL, b1_lenT, b1_tupL, b1_tupT, b1_lstL, b1_lstT, b1_int, Bool.false_eq_true, if_false, if_true, Bool.not_true, Bool.not_false, decide_true, decide_false, Rs_ok, Rs_exc, lstG, lstD, bindTs, bindT, svAll, wipeE, Option.bind_some, fin_rt, fin_nx, fin_exc, h', eE_lc, itemsD_T, hlc, cmp_notin, in_false, Bool.not_not, wholes, h, Bool.true_and]
    · have h' : ¬ ((ds.length : Nat) : Int) = (m : Int) := by omega
      simp only [dWholes, eB_cons, eB_nil, eS_asg, eS_iff, eS_ret, eS_ex, eS_rai, eS_aug, eS_par, eS_unp, eS_app, eS_ext, eS_asgO, eS_six, eS_brk, eE_var, eE_own, eE_int, eE_bl, eE_non, eE_str, eE_glob, eE_bin, eE_neg, eE_not, eE_and, eE_or, eE_cmp, eE_ch2, eE_isN, eE_isNN, eE_isNT, eE_ife, eE_tup, eE_lst, eE_dct0, eE_ix, eE_sl, eE_rev, eE_call, eE_b1, eE_b2, eE_isi, eE_join, eL_nil, eL_cons, eA_nil, eA_one, eA_cons, eO_nil, eO_one, eO_cons, eP_no, eP_yes, eC_no, eC_yes, eI_seq, gv_z, gv_s, sv_z, sv_s, bw_ok, bw_exc, Res.ofO_some, Option.map_some, tru_bool, tru_none, intOf_int, noneD, kB, tgD, kT, isi_n, isi_b, isi_i, isi_s, isi_t, isi_l, cutD_T, cutD_L, revD_T, revD_L, bin_add, bin_sub, cmp_lt, cmp_le, cmp_gt, cmp_ge, cmp_eqI, cmp_neI, b1_lenL, b1_lenT, b1_tupL, b1_tupT, b1_lstL, b1_lstT, b1_int, Bool.false_eq_true, if_false, if_true, Bool.not_true, Bool.not_false, decide_true, decide_false, Rs_ok, Rs_exc, lstG, lstD, bindTs, bindT, svAll, wipeE, Option.bind_some, fin_rt, fin_nx, fin_exc, h', wholes, h, Bool.false_and]
  | dict kvs => cases kvs with
    | nil => simp only [dWholes, eB_cons, eB_nil, eS_asg, eS_iff, eS_ret, eS_ex, eS_rai, eS_aug, eS_par, eS_unp, eS_app, eS_ext, eS_asgO, eS_six, eS_brk, eE_var, eE_own, eE_int, eE_bl, eE_non, eE_str, eE_glob, eE_bin, eE_neg, eE_not, eE_and, eE_or, eE_cmp, eE_ch2, eE_isN, eE_isNN, eE_isNT, eE_ife, eE_tup, eE_lst, eE_dct0, eE_ix, eE_sl, eE_rev, eE_call, eE_b1, eE_b2, eE_isi, eE_join, eL_nil, eL_cons, eA_nil, eA_one, eA_cons, eO_nil, eO_one, eO_cons, eP_no, eP_yes, eC_no, eC_yes, eI_seq, gv_z, gv_s, sv_z, sv_s, bw_ok, bw_exc, Res.ofO_some, Option.map_some, tru_bool, tru_none, intOf_int, noneD, kB, tgD, kT, isi_n, isi_b, isi_i, isi_s, isi_t, isi_l, cutD_T, cutD_L, revD_T, revD_L, bin_add, bin_sub, cmp_lt, cmp_le, cmp_gt, cmp_ge, cmp_eqI, cmp_neI, b1_lenL, b1_lenT, b1_tupL, b1_tupT, b1_lstL, b1_lstT, b1_int, Bool.false_eq_true, if_false, if_true, Bool.not_true, Bool.not_false, decide_true, decide_false, Rs_ok, Rs_exc, lstG, lstD, bindTs, bindT, svAll, wipeE, Option.bind_some, fin_rt, fin_nx, fin_exc, isi_d, wholes]
    | cons _ _ => cases hd.nd
  | _ => simp only [dWholes, eB_cons, eB_nil, eS_asg, eS_iff, eS_ret, eS_ex, eS_rai, eS_aug, eS_par, eS_unp, eS_app, eS_ext, eS_asgO, eS_six, eS_brk, eE_var, eE_own, eE_int, eE_bl, eE_non, eE_str, eE_glob, eE_bin, eE_neg, eE_not, eE_and, eE_or, eE_cmp, eE_ch2, eE_isN, eE_isNN, eE_isNT, eE_ife, eE_tup, eE_lst, eE_dct0, eE_ix, eE_sl, eE_rev, eE_call, eE_b1, eE_b2, eE_isi, eE_join, eL_nil, eL_cons, eA_nil, eA_one, eA_cons, eO_nil, eO_one, eO_cons, eP_no, eP_yes, eC_no, eC_yes, eI_seq, gv_z, gv_s, sv_z, sv_s, bw_ok, bw_exc, Res.ofO_some, Option.map_some, tru_bool, tru_none, intOf_int, noneD, kB, tgD, kT, isi_n, isi_b, isi_i, isi_s, isi_t, isi_l, cutD_T, cutD_L, revD_T, revD_L, bin_add, bin_sub, cmp_lt, cmp_le, cmp_gt, cmp_ge, cmp_eqI, cmp_neI, b1_lenL, b1_lenT, b1_tupL, b1_tupT, b1_lstL, b1_lstT, b1_int, Bool.false_eq_true, if_false, if_true, Bool.not_true, Bool.not_false, decide_true, decide_false, Rs_ok, Rs_exc, lstG, lstD, bindTs, bindT, svAll, wipeE, Option.bind_some, fin_rt, fin_nx, fin_exc, wholes]
end
end PT
namespace PT
open PySem

theorem gv_sv_ne : ∀ {ρ : Env} {i j : Nat} {x : Option D}, i ≠ j → gv (sv ρ i x) j = gv ρ j
  | [], _, _, _, _ => rfl
  | _ :: _, 0, 0, _, h => absurd rfl h
  | _ :: _, 0, _ + 1, _, _ => rfl
  | _ :: _, _ + 1, 0, _, _ => rfl
  | _ :: r, i + 1, j + 1, x, h => gv_sv_ne (ρ := r) (fun e => h (by rw [e]))
theorem gv_sv_eq : ∀ {ρ : Env} {i : Nat} {x : Option D}, i < ρ.length → gv (sv ρ i x) i = x
  | [], _, _, h => absurd h (Nat.not_lt_zero _)
  | _ :: _, 0, _, _ => rfl
  | _ :: r, i + 1, x, h => gv_sv_eq (ρ := r) (Nat.lt_of_succ_lt_succ h)
theorem len_sv' : ∀ {ρ : Env} {i : Nat} {x : Option D}, (sv ρ i x).length = ρ.length
  | [], _, _ => rfl
  | _ :: _, 0, _ => rfl
  | _ :: r, i + 1, x => by simp only [sv, List.length_cons, len_sv' (ρ := r)]
/-- the args of a call, all of them names -/
def gvs (ρ : Env) (as : List Nat) : Option (List D) := as.mapM (gv ρ)
theorem evL_vars {Φ : Fn} {ρ : Env} {g : G} : ∀ {as : List Nat} {ds : List D}, gvs ρ as = some ds → evL Φ (as.map .var) ρ g = .ok ds g
  | [], ds, h => by
    have : ds = [] := by simpa [gvs] using h.symm
    subst this
    simp
  | a :: as, ds, h => by
    unfold gvs at h
    rw [List.mapM_cons] at h
    cases h1 : gv ρ a with
    | none => rw [h1] at h; cases h
    | some x =>
      cases h2 : as.mapM (gv ρ) with
      | none => rw [h1, h2] at h; cases h
      | some xs =>
        rw [h1, h2] at h
        cases h
        simp only [List.map_cons, eL_cons, eE_var, h1, Res.ofO_some, bw_ok, evL_vars (as := as) h2]
theorem gvs_app {ρ : Env} {k : Nat} {x : D} : ∀ {as : List Nat} {ds : List D}, gvs ρ as = some ds → gv ρ k = some x → gvs ρ (as ++ [k]) = some (ds ++ [x])
  | [], ds, h, h' => by
    have : ds = [] := by simpa [gvs] using h.symm
    subst this
    simp [gvs, h']
  | a :: as, ds, h, h' => by
    unfold gvs at h ⊢
    rw [List.mapM_cons] at h
    rw [List.cons_append, List.mapM_cons]
    cases h1 : gv ρ a with
    | none => rw [h1] at h; cases h
    | some y =>
      cases h2 : as.mapM (gv ρ) with
      | none => rw [h1, h2] at h; cases h
      | some ys =>
        rw [h1, h2] at h
        cases h
        have := gvs_app (as := as) h2 h'
        unfold gvs at this
        rw [this]
        rfl
theorem gvs_cons {ρ : Env} {k : Nat} {x : D} {as : List Nat} {ds : List D} (h : gvs ρ as = some ds) (h' : gv ρ k = some x) : gvs ρ (k :: as) = some (x :: ds) := by
  unfold gvs at h ⊢
  rw [List.mapM_cons, h', h]
  rfl
theorem gvs_congr {ρ ρ' : Env} : ∀ {as : List Nat}, (∀ i ∈ as, gv ρ' i = gv ρ i) → gvs ρ' as = gvs ρ as
  | [], _ => rfl
  | a :: as, h => by
    have := gvs_congr (as := as) fun i hi => h i (List.mem_cons_of_mem _ hi)
    unfold gvs at this ⊢
    rw [List.mapM_cons, List.mapM_cons, this, h a (List.mem_cons_self ..)]
theorem cut_last3 {α : Type} {xs : List α} : (cutL xs (some (-3)) none).length ≤ 3 := by
  unfold cutL
  simp only [List.length_take, List.length_drop, HT.sIx_none]
  have : xs.length - 3 ≤ HT.sIx xs.length 0 (some (-3)) := by
    show _ ≤ (if (-3 : Int) < 0 then ((-3 : Int) + (xs.length : Int)).toNat else min (-3 : Int).toNat xs.length)
    rw [if_pos (by decide)]
    omega
  omega
/-- the same at other slots -/
def Sm (ρ ρ' : Env) (ch : List Nat) : Prop := ρ'.length = ρ.length ∧ ∀ i, i ∉ ch → gv ρ' i = gv ρ i
theorem Sm.refl {ρ : Env} {ch : List Nat} : Sm ρ ρ ch := ⟨rfl, fun _ _ => rfl⟩
theorem Sm.sv {ρ ρ' : Env} {ch : List Nat} (h : Sm ρ ρ' ch) {i : Nat} (hi : i ∈ ch) {x : Option D} : Sm ρ (PT.sv ρ' i x) ch := ⟨by rw [len_sv']; exact h.1, fun j hj => by rw [gv_sv_ne (fun e => by subst e; exact hj hi)]; exact h.2 j hj⟩
theorem Sm.trans {ρ ρ' ρ'' : Env} {ch ch' : List Nat} (h : Sm ρ ρ' ch) (h' : Sm ρ' ρ'' ch') : Sm ρ ρ'' (ch ++ ch') := ⟨h'.1.trans h.1, fun i hi => by
  rw [h'.2 i fun e => hi (List.mem_append_right _ e), h.2 i fun e => hi (List.mem_append_left _ e)]⟩
theorem Sm.gvs {ρ ρ' : Env} {ch as : List Nat} (h : Sm ρ ρ' ch) (ha : ∀ i ∈ as, i ∉ ch) : PT.gvs ρ' as = PT.gvs ρ as := gvs_congr fun i hi => h.2 i (ha i hi)
structure Bk where
  st : Nat
  tl : Nat
  nr : Nat
  sn : Nat
  k : Nat
  as : Nat
  args : List Nat
  f : Nat
  ne : Nat
  ac : Nat
  j : Nat
  od : Nat
  sa : Nat
  c : Nat
def Bk.pre (b : Bk) : List S := [
  .asg b.tl (.call b.f (b.args.map .var)),
  .asg b.nr (.call b.ne ((b.st :: b.args).map .var)),
  .iff (.or (.not (.call b.ac ((b.args ++ [b.tl]).map .var))) [.isNT (.call b.j ((b.args ++ [b.tl]).map .var))]) [.ret (.bl false)] []]
def Bk.inner (b : Bk) : List S := [
  .asg b.as (.ife (.cmp .lt (.var b.k) (.int b.c)) (.call b.od [.var b.st, .var b.tl]) (.ix (.var b.sn) (.bin .sub (.var b.k) (.int b.c)))),
  .iff (.not (.call b.sa [.call b.j ((b.args ++ [b.as]).map .var), .call b.ac ((b.args ++ [b.as]).map .var)])) [.ret (.bl false)] []]
def Bk.post (b : Bk) : List S := [
  .asg b.sn (.bin .add (.sl (.var b.sn) (.yes (.neg (.int 3))) .no) (.lst [.var b.tl, .var b.nr])),
  .fr (.n b.k) (.rg1 (.bin .add (.int b.c) (.b1 .len (.var b.sn)))) b.inner]
/-- the slots lie apart -/
def Bk.okB (b : Bk) : Bool := !(b.args.any fun i => i == b.tl || i == b.nr || i == b.sn || i == b.k || i == b.as) && (b.tl != b.nr && (b.tl != b.sn && (b.tl != b.k && (b.tl != b.as && (b.nr != b.sn && (b.nr != b.k && (b.nr != b.as && (b.sn != b.k && (b.sn != b.as && (b.k != b.as && (b.st != b.tl && (b.st != b.nr && (b.st != b.sn && (b.st != b.k && (b.st != b.as && decide (b.c ≤ 1000))))))))))))))))
structure Bk.Ok (b : Bk) : Prop where
  args : ∀ i ∈ b.args, i ≠ b.tl ∧ i ≠ b.nr ∧ i ≠ b.sn ∧ i ≠ b.k ∧ i ≠ b.as
  h1 : b.tl ≠ b.nr
  h2 : b.tl ≠ b.sn
  h3 : b.tl ≠ b.k
  h4 : b.tl ≠ b.as
  h5 : b.nr ≠ b.sn
  h6 : b.nr ≠ b.k
  h7 : b.nr ≠ b.as
  h8 : b.sn ≠ b.k
  h9 : b.sn ≠ b.as
  h10 : b.k ≠ b.as
  s1 : b.st ≠ b.tl
  s2 : b.st ≠ b.nr
  s3 : b.st ≠ b.sn
  s4 : b.st ≠ b.k
  s5 : b.st ≠ b.as
  c : b.c ≤ 1000
theorem Bk.ok_of {b : Bk} (h : b.okB = true) : b.Ok := by
  unfold Bk.okB at h
  simp only [Bool.and_eq_true, Bool.not_eq_true', bne_iff_ne, ne_eq, decide_eq_true_eq, List.any_eq_false, Bool.or_eq_true, beq_iff_eq, not_or] at h
  obtain ⟨h0, h1, h2, h3, h4, h5, h6, h7, h8, h9, h10, s1, s2, s3, s4, s5, hc⟩ := h
  exact ⟨fun i hi => by have := h0 i hi; exact ⟨this.1.1.1.1, this.1.1.1.2, this.1.1.2, this.1.2, this.2⟩, h1, h2, h3, h4, h5, h6, h7, h8, h9, h10, s1, s2, s3, s4, s5, hc⟩
/-- what is known of the defs, at these args -/
structure Bk.Do (b : Bk) (Φ : Fn) (ds : List D) (v : D) : Prop where
  f : ∀ g, Φ b.f ds g = .ok v g
  tol : Tol v
  ne : ∀ g, GS g → Rs (Φ b.ne (stD :: ds) g) (fun d g' => Ask d ∧ GS g') NoE
  tr : ∀ g, Φ b.ac (ds ++ [v]) g = .ok (.bool true) g ∧ Φ b.j (ds ++ [v]) g = .ok (.bool true) g
  bo : ∀ a, Ask a → ∃ t : Bool, ∀ g, Φ b.ac (ds ++ [a]) g = .ok (.bool t) g ∧ Φ b.j (ds ++ [a]) g = .ok (.bool t) g
  od : ∀ g, GS g → Rs (Φ b.od [stD, v] g) (fun d g' => Ask d ∧ GS g') NoE
  sa : ∀ (s t : Bool) g, Φ b.sa [.bool s, .bool t] g = .ok (.bool (decide (s = t))) g
theorem Tol.ask {v : D} (h : Tol v) : Ask v := .inl ⟨(h.nq.od (Nat.le_trans h.sz (by decide))).mono (by decide), Nat.le_trans h.sz (by decide)⟩
section
variable {b : Bk} {Φ : Fn} {ds : List D} {v : D} {R : Fl → G → Prop}
theorem pre_ok (ok : b.Ok) (h : b.Do Φ ds v) {ρ : Env} {g : G} (hg : GS g) (hl1 : b.tl < ρ.length) (hl2 : b.nr < ρ.length) (hst : gv ρ b.st = some stD) (ha : gvs ρ b.args = some ds) {rest : List S}
    (hr : ∀ ρ' g' d, Sm ρ ρ' [b.tl, b.nr] → gv ρ' b.tl = some v → gv ρ' b.nr = some d → Ask d → GS g' → Rs (evB Φ rest ρ' g') R NoE) : Rs (evB Φ (b.pre ++ rest) ρ g) R NoE := by
  unfold Bk.pre
  simp only [List.cons_append, List.nil_append, eB_cons, eS_asg, eE_call, evL_vars ha, bw_ok, h.f]
  have a1 : Sm ρ (sv ρ b.tl (some v)) [b.tl, b.nr] := Sm.refl.sv (by simp)
  have nin : ∀ i ∈ b.args, i ∉ [b.tl, b.nr] := fun i hi => by have := ok.args i hi; simp [this.1, this.2.1]
  have e1 : gvs (sv ρ b.tl (some v)) (b.st :: b.args) = some (stD :: ds) := gvs_cons (by rw [a1.gvs nin]; exact ha) (by rw [a1.2 _ (by simp [ok.s1, ok.s2])]; exact hst)
  simp only [evL_vars e1, bw_ok]
  simp only [Rs_bw]
  refine (h.ne g hg).mono (fun d g' ⟨hd, hg'⟩ => ?_) fun _ _ h => h
  have a2 : Sm ρ (sv (sv ρ b.tl (some v)) b.nr (some d)) [b.tl, b.nr] := a1.sv (by simp)
  have e2 : gv (sv (sv ρ b.tl (some v)) b.nr (some d)) b.tl = some v := by rw [gv_sv_ne (Ne.symm ok.h1), gv_sv_eq hl1]
  have e3 : gv (sv (sv ρ b.tl (some v)) b.nr (some d)) b.nr = some d := by rw [gv_sv_eq (by rw [len_sv']; exact hl2)]
  have e4 : gvs (sv (sv ρ b.tl (some v)) b.nr (some d)) (b.args ++ [b.tl]) = some (ds ++ [v]) := gvs_app (by rw [a2.gvs nin]; exact ha) e2
  obtain ⟨t1, t2⟩ := h.tr g'
  simp only [Rs_ok, eB_cons, eS_iff, eE_or, eE_not, eE_call, evL_vars e4, bw_ok, t1, tru_bool, Option.map_some, Res.ofO_some, Bool.not_true, Bool.false_eq_true, if_false, eO_one, eE_isNT, t2, eB_nil]
  exact hr _ g' d a2 e2 e3 hd hg'
/-- the loop's turn -/
theorem inner_ok (ok : b.Ok) (h : b.Do Φ ds v) {ρ : Env} {g : G} (hg : GS g) (hl : b.as < ρ.length) (hst : gv ρ b.st = some stD) (ha : gvs ρ b.args = some ds) (htl : gv ρ b.tl = some v) {seen : List D} (hsn : gv ρ b.sn = some (.list seen)) (hseen : ∀ d ∈ seen, Ask d)
    {i : Nat} (hk : gv ρ b.k = some (.int i)) (hi : i < b.c + seen.length) : Rs (evB Φ b.inner ρ g) (fun fl g' => ∃ ρ', fl = .nx ρ' ∧ Sm ρ ρ' [b.as] ∧ GS g') NoE := by
  have main : ∀ (d : D) (g' : G), Ask d → GS g' → Rs (evB Φ (b.inner.drop 1) (sv ρ b.as (some d)) g') (fun fl g' => ∃ ρ', fl = .nx ρ' ∧ Sm ρ ρ' [b.as] ∧ GS g') NoE := by
    intro d g' hd hg'
    have a1 : Sm ρ (sv ρ b.as (some d)) [b.as] := Sm.refl.sv (by simp)
    have nin : ∀ i ∈ b.args, i ∉ [b.as] := fun i hi => by have := ok.args i hi; simp [this.2.2.2.2]
    have e1 : gvs (sv ρ b.as (some d)) (b.args ++ [b.as]) = some (ds ++ [d]) := gvs_app (by rw [a1.gvs nin]; exact ha) (gv_sv_eq hl)
    obtain ⟨t, ht⟩ := h.bo d hd
    obtain ⟨t1, t2⟩ := ht g'
    simp only [Bk.inner, List.drop_succ_cons, List.drop_zero, eB_cons, eS_iff, eE_not, eE_call, eL_cons, eL_nil, evL_vars e1, bw_ok, t1, t2, h.sa, decide_true, tru_bool, Option.map_some, Res.ofO_some, Bool.not_true, Bool.false_eq_true, if_false, eB_nil, Rs_ok]
    exact ⟨_, rfl, a1, hg'⟩
  simp only [Bk.inner, List.drop_succ_cons, List.drop_zero] at main
  by_cases hc : i < b.c
  · have hc' : (i : Int) < (b.c : Int) := by omega
    simp only [Bk.inner, eB_cons, eS_asg, eE_ife, eE_cmp, eE_var, hk, Res.ofO_some, bw_ok, eE_int, cmp_lt, hc', decide_true, Option.map_some, tru_bool, if_true, eE_call, eL_cons, eL_nil, hst, htl]
    simp only [Rs_bw]
    refine (h.od g hg).mono (fun d g' ⟨hd, hg'⟩ => ?_) fun _ _ h => h
    simp only [Rs_ok]
    exact main d g' hd hg'
  · have hc' : ¬ (i : Int) < (b.c : Int) := by omega
    obtain ⟨q, rfl⟩ : ∃ q, i = b.c + q := ⟨i - b.c, by omega⟩
    have hq : q < seen.length := by omega
    have e1 : (((b.c + q : Nat) : Int) - (b.c : Int)) = (q : Int) := by omega
    simp only [Bk.inner, eB_cons, eS_asg, eE_ife, eE_cmp, eE_var, hk, Res.ofO_some, bw_ok, eE_int, cmp_lt, hc', decide_false, Option.map_some, tru_bool, Bool.false_eq_true, if_false, eE_ix, hsn, eE_bin, bin_sub, e1, ixL_nat hq]
    exact main _ g (hseen _ (List.getElem_mem hq)) hg
theorem post_ok (ok : b.Ok) (h : b.Do Φ ds v) {ρ : Env} {g : G} (hg : GS g) (hl1 : b.sn < ρ.length) (hl2 : b.k < ρ.length) (hl3 : b.as < ρ.length) (hst : gv ρ b.st = some stD) (ha : gvs ρ b.args = some ds) (htl : gv ρ b.tl = some v) {d : D} (hnr : gv ρ b.nr = some d) (hd : Ask d)
    {seen : List D} (hsn : gv ρ b.sn = some (.list seen)) (hseen : ∀ d ∈ seen, Ask d) {rest : List S}
    (hr : ∀ ρ' g' seen', Sm ρ ρ' [b.sn, b.k, b.as] → gv ρ' b.sn = some (.list seen') → (∀ d ∈ seen', Ask d) → GS g' → Rs (evB Φ rest ρ' g') R NoE) : Rs (evB Φ (b.post ++ rest) ρ g) R NoE := by
  have l3 := cut_last3 (xs := seen)
  have t1 := bin_addL' (xs := cutL seen (some (-3)) none) (ys := [v, d]) (by simp; omega)
  let seen' := cutL seen (some (-3)) none ++ [v, d]
  have l5 : seen'.length ≤ 5 := by simp [seen']; omega
  have hs' : ∀ x ∈ seen', Ask x := fun x hx => by
    rcases List.mem_append.mp hx with hx | hx
    · exact hseen x (cut_mem hx)
    · simp only [List.mem_cons, List.not_mem_nil, or_false] at hx
      rcases hx with rfl | rfl
      · exact h.tol.ask
      · exact hd
  unfold Bk.post
  simp only [List.cons_append, List.nil_append, eB_cons, eS_asg, eE_bin, eE_sl, eE_var, hsn, Res.ofO_some, bw_ok, eP_yes, eE_neg, eE_int, intOf_int, Option.map_some, eP_no, cutD_L, eE_lst, eL_cons, eL_nil, htl, hnr, t1]
  have g1 : gv (sv ρ b.sn (some (.list seen'))) b.sn = some (.list seen') := gv_sv_eq hl1
  have a1 : Sm ρ (sv ρ b.sn (some (.list seen'))) [b.sn, b.k, b.as] := Sm.refl.sv (by simp)
  have hc := ok.c
  have hr1 : rgB ((b.c : Int) + (seen'.length : Int)) = true := rgB_of (by omega) (by omega)
  have e2 : ((b.c : Int) + (seen'.length : Int)).toNat = b.c + seen'.length := by omega
  have e3 : ((cutL seen (some (-3)) none ++ [v, d] : List D)) = seen' := rfl
  rw [e3]
  simp only [eS_fr, eI_rg1', eE_bin, eE_int, bw_ok, eE_b1, eE_var, g1, Res.ofO_some, b1_lenL, bin_add, intOf_int, hr1, if_true, e2, rgL0_map]
  rw [Rs_bw]
  refine (fr_rs (α := Nat) (f := frF Φ (.n b.k) b.inner) (e := fun k => .int (k : Nat)) (I := fun l ρ' g' => Sm ρ ρ' [b.sn, b.k, b.as] ∧ gv ρ' b.sn = some (.list seen') ∧ GS g' ∧ ∀ i ∈ l, i < b.c + seen'.length) (R := fun fl g' => ∃ ρ', fl = .nx ρ' ∧ Sm ρ ρ' [b.sn, b.k, b.as] ∧ gv ρ' b.sn = some (.list seen') ∧ GS g') (E := NoE) ?_ ?_ _ _ _ ⟨a1, g1, hg, fun i hi => List.mem_range.mp hi⟩).mono ?_ fun _ _ h => h
  · rintro i l ρ1 g1 ⟨b1, b2, b3, b4⟩
    rw [frF_n]
    have c1 : Sm ρ (sv ρ1 b.k (some (.int i))) [b.sn, b.k, b.as] := b1.sv (by simp)
    have c2 : gv (sv ρ1 b.k (some (.int i))) b.sn = some (.list seen') := by rw [gv_sv_ne (Ne.symm ok.h8)]; exact b2
    have nin : ∀ i ∈ b.args, i ∉ [b.sn, b.k, b.as] := fun i hi => by have := ok.args i hi; simp [this.2.2]
    refine (inner_ok ok h b3 (by rw [len_sv', b1.1]; exact hl3) (by rw [c1.2 _ (by simp [ok.s3, ok.s4, ok.s5])]; exact hst) (by rw [c1.gvs nin]; exact ha) (by rw [c1.2 _ (by simp [ok.h2, ok.h3, ok.h4])]; exact htl) c2 hs' (gv_sv_eq (by rw [b1.1]; exact hl2)) (b4 i (List.mem_cons_self ..))).mono (fun fl g2 ⟨ρ2, e, d1, d2⟩ => ?_) fun _ _ h => h
    subst e
    refine ⟨⟨d1.1.trans c1.1, fun j hj => ?_⟩, ?_, d2, fun j hj => b4 j (List.mem_cons_of_mem _ hj)⟩
    · have : j ∉ [b.as] := fun e => hj (by simp at e; simp [e])
      rw [d1.2 j this, c1.2 j hj]
    · rw [d1.2 _ (by simp [ok.h9])]; exact c2
  · rintro ρ1 g1 ⟨b1, b2, b3, _⟩
    exact ⟨ρ1, rfl, b1, b2, b3⟩
  · rintro fl g2 ⟨ρ2, rfl, d1, d2, d3⟩
    exact hr ρ2 g2 seen' d1 d2 hs' d3
end
end PT
namespace PT
open PySem
/-- it tells something that may be asked, or is refused -/
def Tel (r : Res D) (g : G) : Prop := (∃ v, r = .ok v g ∧ Ask v) ∨ ∃ x, r = .exc x g
theorem ask_unit : Ask (.tuple []) := .inl (Oz.mono (k := 1) (m := 1) (.tup (by decide) (by decide) (by simp)) (by decide) (by decide))
theorem tryR_ok {Φ : Fn} {e : T} {er : Nat} {ρ : Env} {g : G} (h : Tel (evE Φ e ρ g) g) (hg : GS g) : Rs (fin (evB Φ [.tryR e er] ρ g)) (fun v g' => Ask v ∧ GS g') NoE := by
  rw [Rs_fin, eB_cons, eS_tryR]
  rcases h with ⟨v, e1, hv⟩ | ⟨x, e1⟩
  · rw [e1]; exact ⟨hv, hg⟩
  · rw [e1]; exact ⟨ask_unit, hg⟩
section
variable {a b c : D} {r : List D}
theorem l0 : L2.atI (a :: r) (0 : Int) = some a := by
  have := atI_nat (xs := a :: r) (k := 0) (by simp)
  simpa using this
theorem l1 : L2.atI (a :: b :: r) (1 : Int) = some b := by
  have := atI_nat (xs := a :: b :: r) (k := 1) (by simp)
  simpa using this
theorem l2 : L2.atI (a :: b :: c :: r) (2 : Int) = some c := by
  have := atI_nat (xs := a :: b :: c :: r) (k := 2) (by simp)
  simpa using this
end
section
variable {P : List Def} {nx nb f j : Nat} {nm : Str} {ns : List Str}

def dNear1 (nm : Str) (ns : List Str) (nx nb f : Nat) : Def := { name := nm, ps := 2, ns := ns, mu := [2], fr := false, body := [
    .asgO 2 (.lst [.var 1]),
    .asg 3 (.call nx [.var 0, .int 1]),
    .six 2 (.var 3) (.call nb [.var 0, .ix (.own 2) (.var 3)]),
    .tryR (.call f [.ix (.own 2) (.int 0)]) 4] }
theorem near1_ok {ne : Nat} (hN : P[nx]? = some dNext) (hE : P[ne]? = some (dNear1 nm ns nx nb f)) (hns : ns.length = 5) {n : Nat} (hn : 5 ≤ n) {a0 : D} {N0 : D → Prop} (h0 : ∀ g, GS g → Rs (runF P (n - 1) nb [stD, a0] g) (fun d g' => N0 d ∧ GS g') NoE) (k0 : ∀ d, N0 d → ∀ g, Tel (runF P (n - 1) f [d] g) g) {g : G} (hg : GS g) :
    Rs (runF P n ne [stD, a0] g) (fun v g' => Ask v ∧ GS g') NoE := by
  obtain ⟨n, rfl⟩ : ∃ m, n = m + 1 := ⟨n - 1, by omega⟩
  simp only [Nat.add_sub_cancel] at *
  rw [run_def hE rfl]
  show Rs (fin (evB (runF P n) (dNear1 nm ns nx nb f).body ([some stD, some a0] ++ List.replicate (ns.length - 2) none) g)) _ _
  rw [hns]
  show Rs (fin (evB (runF P n) (dNear1 nm ns nx nb f).body [some stD, some a0, none, none, none] g)) _ _
  have go : ∀ (i : Nat) (d : D) (g' : G), i < 1 → GS g' → (∀ g, Tel (runF P n f (([a0] : List D).set i d) g) g) → Rs (fin (evB (runF P n) [.tryR (.call f [.ix (.own 2) (.int 0)]) 4] [some stD, some a0, some (.list (([a0] : List D).set i d)), some (.int i), none] g')) (fun v g' => Ask v ∧ GS g') NoE := by
    intro i d g' hi hg' hT
    refine tryR_ok ?_ hg'
    have := hT g'
    match i, hi with

    | 0, _ => simpa only [List.set_cons_zero, List.set_cons_succ, eB_cons, eB_nil, eS_asg, eS_iff, eS_ret, eS_ex, eS_rai, eS_aug, eS_par, eS_unp, eS_app, eS_ext, eS_asgO, eS_six, eS_brk, eE_var, eE_own, eE_int, eE_bl, eE_non, eE_str, eE_glob, eE_bin, eE_neg, eE_not, eE_and, eE_or, eE_cmp, eE_ch2, eE_isN, eE_isNN, eE_isNT, eE_ife, eE_tup, eE_lst, eE_dct0, eE_ix, eE_sl, eE_rev, eE_call, eE_b1, eE_b2, eE_isi, eE_join, eL_nil, eL_cons, eA_nil, eA_one, eA_cons, eO_nil, eO_one, eO_cons, eP_no, eP_yes, eC_no, eC_yes, eI_seq, gv_z, gv_s, sv_z, sv_s, bw_ok, bw_exc, Res.ofO_some, Option.map_some, tru_bool, tru_none, intOf_int, noneD, kB, tgD, kT, isi_n, isi_b, isi_i, isi_s, isi_t, isi_l, cutD_T, cutD_L, revD_T, revD_L, bin_add, bin_sub, cmp_lt, cmp_le, cmp_gt, cmp_ge, cmp_eqI, cmp_neI, b1_lenL, b1_lenT, b1_tupL, b1_tupT, b1_lstL, b1_lstT, b1_int, Bool.false_eq_true, if_false, if_true, Bool.not_true, Bool.not_false, decide_true, decide_false, Rs_ok, Rs_exc, lstG, lstD, bindTs, bindT, svAll, wipeE, Option.bind_some, fin_rt, fin_nx, fin_exc, ixG_L, l0, l1, l2] using this

  rw [Rs_fin]
  simp only [dNear1, eB_cons, eB_nil, eS_asg, eS_iff, eS_ret, eS_ex, eS_rai, eS_aug, eS_par, eS_unp, eS_app, eS_ext, eS_asgO, eS_six, eS_brk, eE_var, eE_own, eE_int, eE_bl, eE_non, eE_str, eE_glob, eE_bin, eE_neg, eE_not, eE_and, eE_or, eE_cmp, eE_ch2, eE_isN, eE_isNN, eE_isNT, eE_ife, eE_tup, eE_lst, eE_dct0, eE_ix, eE_sl, eE_rev, eE_call, eE_b1, eE_b2, eE_isi, eE_join, eL_nil, eL_cons, eA_nil, eA_one, eA_cons, eO_nil, eO_one, eO_cons, eP_no, eP_yes, eC_no, eC_yes, eI_seq, gv_z, gv_s, sv_z, sv_s, bw_ok, bw_exc, Res.ofO_some, Option.map_some, tru_bool, tru_none, intOf_int, noneD, kB, tgD, kT, isi_n, isi_b, isi_i, isi_s, isi_t, isi_l, cutD_T, cutD_L, revD_T, revD_L, bin_add, bin_sub, cmp_lt, cmp_le, cmp_gt, cmp_ge, cmp_eqI, cmp_neI, b1_lenL, b1_lenT, b1_tupL, b1_tupT, b1_lstL, b1_lstT, b1_int, Bool.false_eq_true, if_false, if_true, Bool.not_true, Bool.not_false, decide_true, decide_false, Rs_ok, Rs_exc, lstG, lstD, bindTs, bindT, svAll, wipeE, Option.bind_some, fin_rt, fin_nx, fin_exc, List.cons_append, List.nil_append]
  simp only [Rs_bw]
  refine next_rs hN (by omega) (by decide) (by decide) hg fun j g1 j0 j1 hg1 => ?_
  obtain ⟨j, rfl⟩ := Int.eq_ofNat_of_zero_le j0
  have hj : j < 1 := by omega
  have step : ∀ (a : D) (N : D → Prop), ([a0] : List D)[j]? = some a → (∀ g, GS g → Rs (runF P n nb [stD, a] g) (fun d g' => N d ∧ GS g') NoE) → (∀ d, N d → ∀ g, Tel (runF P n f (([a0] : List D).set j d) g) g) → Rs (evB (runF P n) [.six 2 (.var 3) (.call nb [.var 0, .ix (.own 2) (.var 3)]), .tryR (.call f [.ix (.own 2) (.int 0)]) 4] [some stD, some a0, some (.list [a0]), some (.int j), none] g1) (fun fl g => match fl with
    | .rt v => Ask v ∧ GS g
    | .nx _ => Ask .none ∧ GS g
    | .bk _ => False) NoE := by
    intro a N ha hN hT
    have hx : ∀ g, ixG (.list [a0]) (.int j) g = some a := fun g => by rw [ixG_L, atI_nat hj]; exact ha
    have hs : ∀ d, setL [a0] (.int j) d = some (([a0] : List D).set j d) := fun d => by
      show (L2.ixN ([a0] : List D).length (j : Int)).map (fun j => ([a0] : List D).set j d) = _
      unfold L2.ixN
      rw [if_pos (by omega), if_pos (by simp; omega)]
      rfl
    simp only [eB_cons, eB_nil, eS_asg, eS_iff, eS_ret, eS_ex, eS_rai, eS_aug, eS_par, eS_unp, eS_app, eS_ext, eS_asgO, eS_six, eS_brk, eE_var, eE_own, eE_int, eE_bl, eE_non, eE_str, eE_glob, eE_bin, eE_neg, eE_not, eE_and, eE_or, eE_cmp, eE_ch2, eE_isN, eE_isNN, eE_isNT, eE_ife, eE_tup, eE_lst, eE_dct0, eE_ix, eE_sl, eE_rev, eE_call, eE_b1, eE_b2, eE_isi, eE_join, eL_nil, eL_cons, eA_nil, eA_one, eA_cons, eO_nil, eO_one, eO_cons, eP_no, eP_yes, eC_no, eC_yes, eI_seq, gv_z, gv_s, sv_z, sv_s, bw_ok, bw_exc, Res.ofO_some, Option.map_some, tru_bool, tru_none, intOf_int, noneD, kB, tgD, kT, isi_n, isi_b, isi_i, isi_s, isi_t, isi_l, cutD_T, cutD_L, revD_T, revD_L, bin_add, bin_sub, cmp_lt, cmp_le, cmp_gt, cmp_ge, cmp_eqI, cmp_neI, b1_lenL, b1_lenT, b1_tupL, b1_tupT, b1_lstL, b1_lstT, b1_int, Bool.false_eq_true, if_false, if_true, Bool.not_true, Bool.not_false, decide_true, decide_false, Rs_ok, Rs_exc, lstG, lstD, bindTs, bindT, svAll, wipeE, Option.bind_some, fin_rt, fin_nx, fin_exc, hx]
    simp only [Rs_bw]
    refine (hN g1 hg1).mono (fun d g2 ⟨hd, hg2⟩ => ?_) fun _ _ h => h
    simp only [eB_cons, eB_nil, eS_asg, eS_iff, eS_ret, eS_ex, eS_rai, eS_aug, eS_par, eS_unp, eS_app, eS_ext, eS_asgO, eS_six, eS_brk, eE_var, eE_own, eE_int, eE_bl, eE_non, eE_str, eE_glob, eE_bin, eE_neg, eE_not, eE_and, eE_or, eE_cmp, eE_ch2, eE_isN, eE_isNN, eE_isNT, eE_ife, eE_tup, eE_lst, eE_dct0, eE_ix, eE_sl, eE_rev, eE_call, eE_b1, eE_b2, eE_isi, eE_join, eL_nil, eL_cons, eA_nil, eA_one, eA_cons, eO_nil, eO_one, eO_cons, eP_no, eP_yes, eC_no, eC_yes, eI_seq, gv_z, gv_s, sv_z, sv_s, bw_ok, bw_exc, Res.ofO_some, Option.map_some, tru_bool, tru_none, intOf_int, noneD, kB, tgD, kT, isi_n, isi_b, isi_i, isi_s, isi_t, isi_l, cutD_T, cutD_L, revD_T, revD_L, bin_add, bin_sub, cmp_lt, cmp_le, cmp_gt, cmp_ge, cmp_eqI, cmp_neI, b1_lenL, b1_lenT, b1_tupL, b1_tupT, b1_lstL, b1_lstT, b1_int, Bool.false_eq_true, if_false, if_true, Bool.not_true, Bool.not_false, decide_true, decide_false, Rs_ok, Rs_exc, lstG, lstD, bindTs, bindT, svAll, wipeE, Option.bind_some, fin_rt, fin_nx, fin_exc, hs]
    have := go j d g2 hj hg2 (hT d hd)
    rw [Rs_fin] at this
    simp only [eB_cons, eB_nil, eS_asg, eS_iff, eS_ret, eS_ex, eS_rai, eS_aug, eS_par, eS_unp, eS_app, eS_ext, eS_asgO, eS_six, eS_brk, eE_var, eE_own, eE_int, eE_bl, eE_non, eE_str, eE_glob, eE_bin, eE_neg, eE_not, eE_and, eE_or, eE_cmp, eE_ch2, eE_isN, eE_isNN, eE_isNT, eE_ife, eE_tup, eE_lst, eE_dct0, eE_ix, eE_sl, eE_rev, eE_call, eE_b1, eE_b2, eE_isi, eE_join, eL_nil, eL_cons, eA_nil, eA_one, eA_cons, eO_nil, eO_one, eO_cons, eP_no, eP_yes, eC_no, eC_yes, eI_seq, gv_z, gv_s, sv_z, sv_s, bw_ok, bw_exc, Res.ofO_some, Option.map_some, tru_bool, tru_none, intOf_int, noneD, kB, tgD, kT, isi_n, isi_b, isi_i, isi_s, isi_t, isi_l, cutD_T, cutD_L, revD_T, revD_L, bin_add, bin_sub, cmp_lt, cmp_le, cmp_gt, cmp_ge, cmp_eqI, cmp_neI, b1_lenL, b1_lenT, b1_tupL, b1_tupT, b1_lstL, b1_lstT, b1_int, Bool.false_eq_true, if_false, if_true, Bool.not_true, Bool.not_false, decide_true, decide_false, Rs_ok, Rs_exc, lstG, lstD, bindTs, bindT, svAll, wipeE, Option.bind_some, fin_rt, fin_nx, fin_exc] at this ⊢
    exact this
  have cas : ∃ (a : D) (N : D → Prop), ([a0] : List D)[j]? = some a ∧ (∀ g, GS g → Rs (runF P n nb [stD, a] g) (fun d g' => N d ∧ GS g') NoE) ∧ (∀ d, N d → ∀ g, Tel (runF P n f (([a0] : List D).set j d) g) g) := by
    match j, hj with

    | 0, _ => exact ⟨a0, N0, rfl, h0, k0⟩
  obtain ⟨a, N, c1, c2, c3⟩ := cas
  have := step a N c1 c2 c3
  simp only [eB_cons, eB_nil, eS_asg, eS_iff, eS_ret, eS_ex, eS_rai, eS_aug, eS_par, eS_unp, eS_app, eS_ext, eS_asgO, eS_six, eS_brk, eE_var, eE_own, eE_int, eE_bl, eE_non, eE_str, eE_glob, eE_bin, eE_neg, eE_not, eE_and, eE_or, eE_cmp, eE_ch2, eE_isN, eE_isNN, eE_isNT, eE_ife, eE_tup, eE_lst, eE_dct0, eE_ix, eE_sl, eE_rev, eE_call, eE_b1, eE_b2, eE_isi, eE_join, eL_nil, eL_cons, eA_nil, eA_one, eA_cons, eO_nil, eO_one, eO_cons, eP_no, eP_yes, eC_no, eC_yes, eI_seq, gv_z, gv_s, sv_z, sv_s, bw_ok, bw_exc, Res.ofO_some, Option.map_some, tru_bool, tru_none, intOf_int, noneD, kB, tgD, kT, isi_n, isi_b, isi_i, isi_s, isi_t, isi_l, cutD_T, cutD_L, revD_T, revD_L, bin_add, bin_sub, cmp_lt, cmp_le, cmp_gt, cmp_ge, cmp_eqI, cmp_neI, b1_lenL, b1_lenT, b1_tupL, b1_tupT, b1_lstL, b1_lstT, b1_int, Bool.false_eq_true, if_false, if_true, Bool.not_true, Bool.not_false, decide_true, decide_false, Rs_ok, Rs_exc, lstG, lstD, bindTs, bindT, svAll, wipeE, Option.bind_some, fin_rt, fin_nx, fin_exc] at this ⊢
  exact this

def dUnfit1 (nm : Str) (ns : List Str) (j f : Nat) : Def := { name := nm, ps := 1, ns := ns, mu := [], fr := false, body := [
    .fr (.n 1) (.seq (.lst [.bl false, .bl true])) [.tryU 1 (.call j [.var 0, .non]) (.call f [.var 0]) 2],
    .ret (.bl true)] }
theorem unfit1_ok {u : Nat} (hU : P[u]? = some (dUnfit1 nm ns j f)) (hns : ns.length = 3) {n : Nat} (hn : 2 ≤ n) {a0 : D} (hf : ∀ g, runF P (n - 1) f [a0] g = .exc .unfit g) (hj : ∀ g, runF P (n - 1) j [a0, .none] g = .exc .unfit g) (g : G) :
    runF P n u [a0] g = .ok (.bool true) g := by
  obtain ⟨n, rfl⟩ : ∃ m, n = m + 1 := ⟨n - 1, by omega⟩
  simp only [Nat.add_sub_cancel] at *
  rw [run_def hU rfl]
  show fin (evB (runF P n) (dUnfit1 nm ns j f).body ([some a0] ++ List.replicate (ns.length - 1) none) g) = _
  rw [hns]
  show fin (evB (runF P n) (dUnfit1 nm ns j f).body [some a0, none, none] g) = _
  simp only [dUnfit1, eB_cons, eB_nil, eS_asg, eS_iff, eS_ret, eS_ex, eS_rai, eS_aug, eS_par, eS_unp, eS_app, eS_ext, eS_asgO, eS_six, eS_brk, eE_var, eE_own, eE_int, eE_bl, eE_non, eE_str, eE_glob, eE_bin, eE_neg, eE_not, eE_and, eE_or, eE_cmp, eE_ch2, eE_isN, eE_isNN, eE_isNT, eE_ife, eE_tup, eE_lst, eE_dct0, eE_ix, eE_sl, eE_rev, eE_call, eE_b1, eE_b2, eE_isi, eE_join, eL_nil, eL_cons, eA_nil, eA_one, eA_cons, eO_nil, eO_one, eO_cons, eP_no, eP_yes, eC_no, eC_yes, eI_seq, gv_z, gv_s, sv_z, sv_s, bw_ok, bw_exc, Res.ofO_some, Option.map_some, tru_bool, tru_none, intOf_int, noneD, kB, tgD, kT, isi_n, isi_b, isi_i, isi_s, isi_t, isi_l, cutD_T, cutD_L, revD_T, revD_L, bin_add, bin_sub, cmp_lt, cmp_le, cmp_gt, cmp_ge, cmp_eqI, cmp_neI, b1_lenL, b1_lenT, b1_tupL, b1_tupT, b1_lstL, b1_lstT, b1_int, Bool.false_eq_true, if_false, if_true, Bool.not_true, Bool.not_false, decide_true, decide_false, Rs_ok, Rs_exc, lstG, lstD, bindTs, bindT, svAll, wipeE, Option.bind_some, fin_rt, fin_nx, fin_exc, eS_fr, itemsD_L, frGo_cons, frGo_nil, frF_n, eS_tryU, hf, hj]

def dNear2 (nm : Str) (ns : List Str) (nx nb f : Nat) : Def := { name := nm, ps := 3, ns := ns, mu := [3], fr := false, body := [
    .asgO 3 (.lst [.var 1, .var 2]),
    .asg 4 (.call nx [.var 0, .int 2]),
    .six 3 (.var 4) (.call nb [.var 0, .ix (.own 3) (.var 4)]),
    .tryR (.call f [.ix (.own 3) (.int 0), .ix (.own 3) (.int 1)]) 5] }
theorem near2_ok {ne : Nat} (hN : P[nx]? = some dNext) (hE : P[ne]? = some (dNear2 nm ns nx nb f)) (hns : ns.length = 6) {n : Nat} (hn : 5 ≤ n) {a0 a1 : D} {N0 : D → Prop} (h0 : ∀ g, GS g → Rs (runF P (n - 1) nb [stD, a0] g) (fun d g' => N0 d ∧ GS g') NoE) (k0 : ∀ d, N0 d → ∀ g, Tel (runF P (n - 1) f [d, a1] g) g) {N1 : D → Prop} (h1 : ∀ g, GS g → Rs (runF P (n - 1) nb [stD, a1] g) (fun d g' => N1 d ∧ GS g') NoE) (k1 : ∀ d, N1 d → ∀ g, Tel (runF P (n - 1) f [a0, d] g) g) {g : G} (hg : GS g) :
    Rs (runF P n ne [stD, a0, a1] g) (fun v g' => Ask v ∧ GS g') NoE := by
  obtain ⟨n, rfl⟩ : ∃ m, n = m + 1 := ⟨n - 1, by omega⟩
  simp only [Nat.add_sub_cancel] at *
  rw [run_def hE rfl]
  show Rs (fin (evB (runF P n) (dNear2 nm ns nx nb f).body ([some stD, some a0, some a1] ++ List.replicate (ns.length - 3) none) g)) _ _
  rw [hns]
  show Rs (fin (evB (runF P n) (dNear2 nm ns nx nb f).body [some stD, some a0, some a1, none, none, none] g)) _ _
  have go : ∀ (i : Nat) (d : D) (g' : G), i < 2 → GS g' → (∀ g, Tel (runF P n f (([a0, a1] : List D).set i d) g) g) → Rs (fin (evB (runF P n) [.tryR (.call f [.ix (.own 3) (.int 0), .ix (.own 3) (.int 1)]) 5] [some stD, some a0, some a1, some (.list (([a0, a1] : List D).set i d)), some (.int i), none] g')) (fun v g' => Ask v ∧ GS g') NoE := by
    intro i d g' hi hg' hT
    refine tryR_ok ?_ hg'
    have := hT g'
    match i, hi with

    | 0, _ => simpa only [List.set_cons_zero, List.set_cons_succ, eB_cons, eB_nil, eS_asg, eS_iff, eS_ret, eS_ex, eS_rai, eS_aug, eS_par, eS_unp, eS_app, eS_ext, eS_asgO, eS_six, eS_brk, eE_var, eE_own, eE_int, eE_bl, eE_non, eE_str, eE_glob, eE_bin, eE_neg, eE_not, eE_and, eE_or, eE_cmp, eE_ch2, eE_isN, eE_isNN, eE_isNT, eE_ife, eE_tup, eE_lst, eE_dct0, eE_ix, eE_sl, eE_rev, eE_call, eE_b1, eE_b2, eE_isi, eE_join, eL_nil, eL_cons, eA_nil, eA_one, eA_cons, eO_nil, eO_one, eO_cons, eP_no, eP_yes, eC_no, eC_yes, eI_seq, gv_z, gv_s, sv_z, sv_s, bw_ok, bw_exc, Res.ofO_some, Option.map_some, tru_bool, tru_none, intOf_int, noneD, kB, tgD, kT, isi_n, isi_b, isi_i, isi_s, isi_t, isi_l, cutD_T, cutD_L, revD_T, revD_L, bin_add, bin_sub, cmp_lt, cmp_le, cmp_gt, cmp_ge, cmp_eqI, cmp_neI, b1_lenL, b1_lenT, b1_tupL, b1_tupT, b1_lstL, b1_lstT, b1_int, Bool.false_eq_true, if_false, if_true, Bool.not_true, Bool.not_false, decide_true, decide_false, Rs_ok, Rs_exc, lstG, lstD, bindTs, bindT, svAll, wipeE, Option.bind_some, fin_rt, fin_nx, fin_exc, ixG_L, l0, l1, l2] using this

    | 1, _ => simpa only [List.set_cons_zero, List.set_cons_succ, eB_cons, eB_nil, eS_asg, eS_iff, eS_ret, eS_ex, eS_rai, eS_aug, eS_par, eS_unp, eS_app, eS_ext, eS_asgO, eS_six, eS_brk, eE_var, eE_own, eE_int, eE_bl, eE_non, eE_str, eE_glob, eE_bin, eE_neg, eE_not, eE_and, eE_or, eE_cmp, eE_ch2, eE_isN, eE_isNN, eE_isNT, eE_ife, eE_tup, eE_lst, eE_dct0, eE_ix, eE_sl, eE_rev, eE_call, eE_b1, eE_b2, eE_isi, eE_join, eL_nil, eL_cons, eA_nil, eA_one, eA_cons, eO_nil, eO_one, eO_cons, eP_no, eP_yes, eC_no, eC_yes, eI_seq, gv_z, gv_s, sv_z, sv_s, bw_ok, bw_exc, Res.ofO_some, Option.map_some, tru_bool, tru_none, intOf_int, noneD, kB, tgD, kT, isi_n, isi_b, isi_i, isi_s, isi_t, isi_l, cutD_T, cutD_L, revD_T, revD_L, bin_add, bin_sub, cmp_lt, cmp_le, cmp_gt, cmp_ge, cmp_eqI, cmp_neI, b1_lenL, b1_lenT, b1_tupL, b1_tupT, b1_lstL, b1_lstT, b1_int, Bool.false_eq_true, if_false, if_true, Bool.not_true, Bool.not_false, decide_true, decide_false, Rs_ok, Rs_exc, lstG, lstD, bindTs, bindT, svAll, wipeE, Option.bind_some, fin_rt, fin_nx, fin_exc, ixG_L, l0, l1, l2] using this

  rw [Rs_fin]
  simp only [dNear2, eB_cons, eB_nil, eS_asg, eS_iff, eS_ret, eS_ex, eS_rai, eS_aug, eS_par, eS_unp, eS_app, eS_ext, eS_asgO, eS_six, eS_brk, eE_var, eE_own, eE_int, eE_bl, eE_non, eE_str, eE_glob, eE_bin, eE_neg, eE_not, eE_and, eE_or, eE_cmp, eE_ch2, eE_isN, eE_isNN, eE_isNT, eE_ife, eE_tup, eE_lst, eE_dct0, eE_ix, eE_sl, eE_rev, eE_call, eE_b1, eE_b2, eE_isi, eE_join, eL_nil, eL_cons, eA_nil, eA_one, eA_cons, eO_nil, eO_one, eO_cons, eP_no, eP_yes, eC_no, eC_yes, eI_seq, gv_z, gv_s, sv_z, sv_s, bw_ok, bw_exc, Res.ofO_some, Option.map_some, tru_bool, tru_none, intOf_int, noneD, kB, tgD, kT, isi_n, isi_b, isi_i, isi_s, isi_t, isi_l, cutD_T, cutD_L, revD_T, revD_L, bin_add, bin_sub, cmp_lt, cmp_le, cmp_gt, cmp_ge, cmp_eqI, cmp_neI, b1_lenL, b1_lenT, b1_tupL, b1_tupT, b1_lstL, b1_lstT, b1_int, Bool.false_eq_true, if_false, if_true, Bool.not_true, Bool.not_false, decide_true, decide_false, Rs_ok, Rs_exc, lstG, lstD, bindTs, bindT, svAll, wipeE, Option.bind_some, fin_rt, fin_nx, fin_exc, List.cons_append, List.nil_append]
  simp only [Rs_bw]
  refine next_rs hN (by omega) (by decide) (by decide) hg fun j g1 j0 j1 hg1 => ?_
  obtain ⟨j, rfl⟩ := Int.eq_ofNat_of_zero_le j0
  have hj : j < 2 := by omega
  have step : ∀ (a : D) (N : D → Prop), ([a0, a1] : List D)[j]? = some a → (∀ g, GS g → Rs (runF P n nb [stD, a] g) (fun d g' => N d ∧ GS g') NoE) → (∀ d, N d → ∀ g, Tel (runF P n f (([a0, a1] : List D).set j d) g) g) → Rs (evB (runF P n) [.six 3 (.var 4) (.call nb [.var 0, .ix (.own 3) (.var 4)]), .tryR (.call f [.ix (.own 3) (.int 0), .ix (.own 3) (.int 1)]) 5] [some stD, some a0, some a1, some (.list [a0, a1]), some (.int j), none] g1) (fun fl g => match fl with
    | .rt v => Ask v ∧ GS g
    | .nx _ => Ask .none ∧ GS g
    | .bk _ => False) NoE := by
    intro a N ha hN hT
    have hx : ∀ g, ixG (.list [a0, a1]) (.int j) g = some a := fun g => by rw [ixG_L, atI_nat hj]; exact ha
    have hs : ∀ d, setL [a0, a1] (.int j) d = some (([a0, a1] : List D).set j d) := fun d => by
      show (L2.ixN ([a0, a1] : List D).length (j : Int)).map (fun j => ([a0, a1] : List D).set j d) = _
      unfold L2.ixN
      rw [if_pos (by omega), if_pos (by simp; omega)]
      rfl
    simp only [eB_cons, eB_nil, eS_asg, eS_iff, eS_ret, eS_ex, eS_rai, eS_aug, eS_par, eS_unp, eS_app, eS_ext, eS_asgO, eS_six, eS_brk, eE_var, eE_own, eE_int, eE_bl, eE_non, eE_str, eE_glob, eE_bin, eE_neg, eE_not, eE_and, eE_or, eE_cmp, eE_ch2, eE_isN, eE_isNN, eE_isNT, eE_ife, eE_tup, eE_lst, eE_dct0, eE_ix, eE_sl, eE_rev, eE_call, eE_b1, eE_b2, eE_isi, eE_join, eL_nil, eL_cons, eA_nil, eA_one, eA_cons, eO_nil, eO_one, eO_cons, eP_no, eP_yes, eC_no, eC_yes, eI_seq, gv_z, gv_s, sv_z, sv_s, bw_ok, bw_exc, Res.ofO_some, Option.map_some, tru_bool, tru_none, intOf_int, noneD, kB, tgD, kT, isi_n, isi_b, isi_i, isi_s, isi_t, isi_l, cutD_T, cutD_L, revD_T, revD_L, bin_add, bin_sub, cmp_lt, cmp_le, cmp_gt, cmp_ge, cmp_eqI, cmp_neI, b1_lenL, b1_lenT, b1_tupL, b1_tupT, b1_lstL, b1_lstT, b1_int, Bool.false_eq_true, if_false, if_true, Bool.not_true, Bool.not_false, decide_true, decide_false, Rs_ok, Rs_exc, lstG, lstD, bindTs, bindT, svAll, wipeE, Option.bind_some, fin_rt, fin_nx, fin_exc, hx]
    simp only [Rs_bw]
    refine (hN g1 hg1).mono (fun d g2 ⟨hd, hg2⟩ => ?_) fun _ _ h => h
    simp only [eB_cons, eB_nil, eS_asg, eS_iff, eS_ret, eS_ex, eS_rai, eS_aug, eS_par, eS_unp, eS_app, eS_ext, eS_asgO, eS_six, eS_brk, eE_var, eE_own, eE_int, eE_bl, eE_non, eE_str, eE_glob, eE_bin, eE_neg, eE_not, eE_and, eE_or, eE_cmp, eE_ch2, eE_isN, eE_isNN, eE_isNT, eE_ife, eE_tup, eE_lst, eE_dct0, eE_ix, eE_sl, eE_rev, eE_call, eE_b1, eE_b2, eE_isi, eE_join, eL_nil, eL_cons, eA_nil, eA_one, eA_cons, eO_nil, eO_one, eO_cons, eP_no, eP_yes, eC_no, eC_yes, eI_seq, gv_z, gv_s, sv_z, sv_s, bw_ok, bw_exc, Res.ofO_some, Option.map_some, tru_bool, tru_none, intOf_int, noneD, kB, tgD, kT, isi_n, isi_b, isi_i, isi_s, isi_t, isi_l, cutD_T, cutD_L, revD_T, revD_L, bin_add, bin_sub, cmp_lt, cmp_le, cmp_gt, cmp_ge, cmp_eqI, cmp_neI, b1_lenL, b1_lenT, b1_tupL, b1_tupT, b1_lstL, b1_lstT, b1_int, Bool.false_eq_true, if_false, if_true, Bool.not_true, Bool.not_false, decide_true, decide_false, Rs_ok, Rs_exc, lstG, lstD, bindTs, bindT, svAll, wipeE, Option.bind_some, fin_rt, fin_nx, fin_exc, hs]
    have := go j d g2 hj hg2 (hT d hd)
    rw [Rs_fin] at this
    simp only [eB_cons, eB_nil, eS_asg, eS_iff, eS_ret, eS_ex, eS_rai, eS_aug, eS_par, eS_unp, eS_app, eS_ext, eS_asgO, eS_six, eS_brk, eE_var, eE_own, eE_int, eE_bl, eE_non, eE_str, eE_glob, eE_bin, eE_neg, eE_not, eE_and, eE_or, eE_cmp, eE_ch2, eE_isN, eE_isNN, eE_isNT, eE_ife, eE_tup, eE_lst, eE_dct0, eE_ix, eE_sl, eE_rev, eE_call, eE_b1, eE_b2, eE_isi, eE_join, eL_nil, eL_cons, eA_nil, eA_one, eA_cons, eO_nil, eO_one, eO_cons, eP_no, eP_yes, eC_no, eC_yes, eI_seq, gv_z, gv_s, sv_z, sv_s, bw_ok, bw_exc, Res.ofO_some, Option.map_some, tru_bool, tru_none, intOf_int, noneD, kB, tgD, kT, isi_n, isi_b, isi_i, isi_s, isi_t, isi_l, cutD_T, cutD_L, revD_T, revD_L, bin_add, bin_sub, cmp_lt, cmp_le, cmp_gt, cmp_ge, cmp_eqI, cmp_neI, b1_lenL, b1_lenT, b1_tupL, b1_tupT, b1_lstL, b1_lstT, b1_int, Bool.false_eq_true, if_false, if_true, Bool.not_true, Bool.not_false, decide_true, decide_false, Rs_ok, Rs_exc, lstG, lstD, bindTs, bindT, svAll, wipeE, Option.bind_some, fin_rt, fin_nx, fin_exc] at this ⊢
    exact this
  have cas : ∃ (a : D) (N : D → Prop), ([a0, a1] : List D)[j]? = some a ∧ (∀ g, GS g → Rs (runF P n nb [stD, a] g) (fun d g' => N d ∧ GS g') NoE) ∧ (∀ d, N d → ∀ g, Tel (runF P n f (([a0, a1] : List D).set j d) g) g) := by
    match j, hj with

    | 0, _ => exact ⟨a0, N0, rfl, h0, k0⟩
    | 1, _ => exact ⟨a1, N1, rfl, h1, k1⟩
  obtain ⟨a, N, c1, c2, c3⟩ := cas
  have := step a N c1 c2 c3
  simp only [eB_cons, eB_nil, eS_asg, eS_iff, eS_ret, eS_ex, eS_rai, eS_aug, eS_par, eS_unp, eS_app, eS_ext, eS_asgO, eS_six, eS_brk, eE_var, eE_own, eE_int, eE_bl, eE_non, eE_str, eE_glob, eE_bin, eE_neg, eE_not, eE_and, eE_or, eE_cmp, eE_ch2, eE_isN, eE_isNN, eE_isNT, eE_ife, eE_tup, eE_lst, eE_dct0, eE_ix, eE_sl, eE_rev, eE_call, eE_b1, eE_b2, eE_isi, eE_join, eL_nil, eL_cons, eA_nil, eA_one, eA_cons, eO_nil, eO_one, eO_cons, eP_no, eP_yes, eC_no, eC_yes, eI_seq, gv_z, gv_s, sv_z, sv_s, bw_ok, bw_exc, Res.ofO_some, Option.map_some, tru_bool, tru_none, intOf_int, noneD, kB, tgD, kT, isi_n, isi_b, isi_i, isi_s, isi_t, isi_l, cutD_T, cutD_L, revD_T, revD_L, bin_add, bin_sub, cmp_lt, cmp_le, cmp_gt, cmp_ge, cmp_eqI, cmp_neI, b1_lenL, b1_lenT, b1_tupL, b1_tupT, b1_lstL, b1_lstT, b1_int, Bool.false_eq_true, if_false, if_true, Bool.not_true, Bool.not_false, decide_true, decide_false, Rs_ok, Rs_exc, lstG, lstD, bindTs, bindT, svAll, wipeE, Option.bind_some, fin_rt, fin_nx, fin_exc] at this ⊢
  exact this

def dUnfit2 (nm : Str) (ns : List Str) (j f : Nat) : Def := { name := nm, ps := 2, ns := ns, mu := [], fr := false, body := [
    .fr (.n 2) (.seq (.lst [.bl false, .bl true])) [.tryU 2 (.call j [.var 0, .var 1, .non]) (.call f [.var 0, .var 1]) 3],
    .ret (.bl true)] }
theorem unfit2_ok {u : Nat} (hU : P[u]? = some (dUnfit2 nm ns j f)) (hns : ns.length = 4) {n : Nat} (hn : 2 ≤ n) {a0 a1 : D} (hf : ∀ g, runF P (n - 1) f [a0, a1] g = .exc .unfit g) (hj : ∀ g, runF P (n - 1) j [a0, a1, .none] g = .exc .unfit g) (g : G) :
    runF P n u [a0, a1] g = .ok (.bool true) g := by
  obtain ⟨n, rfl⟩ : ∃ m, n = m + 1 := ⟨n - 1, by omega⟩
  simp only [Nat.add_sub_cancel] at *
  rw [run_def hU rfl]
  show fin (evB (runF P n) (dUnfit2 nm ns j f).body ([some a0, some a1] ++ List.replicate (ns.length - 2) none) g) = _
  rw [hns]
  show fin (evB (runF P n) (dUnfit2 nm ns j f).body [some a0, some a1, none, none] g) = _
  simp only [dUnfit2, eB_cons, eB_nil, eS_asg, eS_iff, eS_ret, eS_ex, eS_rai, eS_aug, eS_par, eS_unp, eS_app, eS_ext, eS_asgO, eS_six, eS_brk, eE_var, eE_own, eE_int, eE_bl, eE_non, eE_str, eE_glob, eE_bin, eE_neg, eE_not, eE_and, eE_or, eE_cmp, eE_ch2, eE_isN, eE_isNN, eE_isNT, eE_ife, eE_tup, eE_lst, eE_dct0, eE_ix, eE_sl, eE_rev, eE_call, eE_b1, eE_b2, eE_isi, eE_join, eL_nil, eL_cons, eA_nil, eA_one, eA_cons, eO_nil, eO_one, eO_cons, eP_no, eP_yes, eC_no, eC_yes, eI_seq, gv_z, gv_s, sv_z, sv_s, bw_ok, bw_exc, Res.ofO_some, Option.map_some, tru_bool, tru_none, intOf_int, noneD, kB, tgD, kT, isi_n, isi_b, isi_i, isi_s, isi_t, isi_l, cutD_T, cutD_L, revD_T, revD_L, bin_add, bin_sub, cmp_lt, cmp_le, cmp_gt, cmp_ge, cmp_eqI, cmp_neI, b1_lenL, b1_lenT, b1_tupL, b1_tupT, b1_lstL, b1_lstT, b1_int, Bool.false_eq_true, if_false, if_true, Bool.not_true, Bool.not_false, decide_true, decide_false, Rs_ok, Rs_exc, lstG, lstD, bindTs, bindT, svAll, wipeE, Option.bind_some, fin_rt, fin_nx, fin_exc, eS_fr, itemsD_L, frGo_cons, frGo_nil, frF_n, eS_tryU, hf, hj]

def dNear3 (nm : Str) (ns : List Str) (nx nb f : Nat) : Def := { name := nm, ps := 4, ns := ns, mu := [4], fr := false, body := [
    .asgO 4 (.lst [.var 1, .var 2, .var 3]),
    .asg 5 (.call nx [.var 0, .int 3]),
    .six 4 (.var 5) (.call nb [.var 0, .ix (.own 4) (.var 5)]),
    .tryR (.call f [.ix (.own 4) (.int 0), .ix (.own 4) (.int 1), .ix (.own 4) (.int 2)]) 6] }
theorem near3_ok {ne : Nat} (hN : P[nx]? = some dNext) (hE : P[ne]? = some (dNear3 nm ns nx nb f)) (hns : ns.length = 7) {n : Nat} (hn : 5 ≤ n) {a0 a1 a2 : D} {N0 : D → Prop} (h0 : ∀ g, GS g → Rs (runF P (n - 1) nb [stD, a0] g) (fun d g' => N0 d ∧ GS g') NoE) (k0 : ∀ d, N0 d → ∀ g, Tel (runF P (n - 1) f [d, a1, a2] g) g) {N1 : D → Prop} (h1 : ∀ g, GS g → Rs (runF P (n - 1) nb [stD, a1] g) (fun d g' => N1 d ∧ GS g') NoE) (k1 : ∀ d, N1 d → ∀ g, Tel (runF P (n - 1) f [a0, d, a2] g) g) {N2 : D → Prop} (h2 : ∀ g, GS g → Rs (runF P (n - 1) nb [stD, a2] g) (fun d g' => N2 d ∧ GS g') NoE) (k2 : ∀ d, N2 d → ∀ g, Tel (runF P (n - 1) f [a0, a1, d] g) g) {g : G} (hg : GS g) :
    Rs (runF P n ne [stD, a0, a1, a2] g) (fun v g' => Ask v ∧ GS g') NoE := by
  obtain ⟨n, rfl⟩ : ∃ m, n = m + 1 := ⟨n - 1, by omega⟩
  simp only [Nat.add_sub_cancel] at *
  rw [run_def hE rfl]
  show Rs (fin (evB (runF P n) (dNear3 nm ns nx nb f).body ([some stD, some a0, some a1, some a2] ++ List.replicate (ns.length - 4) none) g)) _ _
  rw [hns]
  show Rs (fin (evB (runF P n) (dNear3 nm ns nx nb f).body [some stD, some a0, some a1, some a2, none, none, none] g)) _ _
  have go : ∀ (i : Nat) (d : D) (g' : G), i < 3 → GS g' → (∀ g, Tel (runF P n f (([a0, a1, a2] : List D).set i d) g) g) → Rs (fin (evB (runF P n) [.tryR (.call f [.ix (.own 4) (.int 0), .ix (.own 4) (.int 1), .ix (.own 4) (.int 2)]) 6] [some stD, some a0, some a1, some a2, some (.list (([a0, a1, a2] : List D).set i d)), some (.int i), none] g')) (fun v g' => Ask v ∧ GS g') NoE := by
    intro i d g' hi hg' hT
    refine tryR_ok ?_ hg'
    have := hT g'
    match i, hi with

    | 0, _ => simpa only [List.set_cons_zero, List.set_cons_succ, eB_cons, eB_nil, eS_asg, eS_iff, eS_ret, eS_ex, eS_rai, eS_aug, eS_par, eS_unp, eS_app, eS_ext, eS_asgO, eS_six, eS_brk, eE_var, eE_own, eE_int, eE_bl, eE_non, eE_str, eE_glob, eE_bin, eE_neg, eE_not, eE_and, eE_or, eE_cmp, eE_ch2, eE_isN, eE_isNN, eE_isNT, eE_ife, eE_tup, eE_lst, eE_dct0, eE_ix, eE_sl, eE_rev, eE_call, eE_b1, eE_b2, eE_isi, eE_join, eL_nil, eL_cons, eA_nil, eA_one, eA_cons, eO_nil, eO_one, eO_cons, eP_no, eP_yes, eC_no, eC_yes, eI_seq, gv_z, gv_s, sv_z, sv_s, bw_ok, bw_exc, Res.ofO_some, Option.map_some, tru_bool, tru_none, intOf_int, noneD, kB, tgD, kT, isi_n, isi_b, isi_i, isi_s, isi_t, isi_l, cutD_T, cutD_L, revD_T, revD_L, bin_add, bin_sub, cmp_lt, cmp_le, cmp_gt, cmp_ge, cmp_eqI, cmp_neI, b1_lenL, b1_lenT, b1_tupL, b1_tupT, b1_lstL, b1_lstT, b1_int, Bool.false_eq_true, if_false, if_true, Bool.not_true, Bool.not_false, decide_true, decide_false, Rs_ok, Rs_exc, lstG, lstD, bindTs, bindT, svAll, wipeE, Option.bind_some, fin_rt, fin_nx, fin_exc, ixG_L, l0, l1, l2] using this

    | 1, _ => simpa only [List.set_cons_zero, List.set_cons_succ, eB_cons, eB_nil, eS_asg, eS_iff, eS_ret, eS_ex, eS_rai, eS_aug, eS_par, eS_unp, eS_app, eS_ext, eS_asgO, eS_six, eS_brk, eE_var, eE_own, eE_int, eE_bl, eE_non, eE_str, eE_glob, eE_bin, eE_neg, eE_not, eE_and, eE_or, eE_cmp, eE_ch2, eE_isN, eE_isNN, eE_isNT, eE_ife, eE_tup, eE_lst, eE_dct0, eE_ix, eE_sl, eE_rev, eE_call, eE_b1, eE_b2, eE_isi, eE_join, eL_nil, eL_cons, eA_nil, eA_one, eA_cons, eO_nil, eO_one, eO_cons, eP_no, eP_yes, eC_no, eC_yes, eI_seq, gv_z, gv_s, sv_z, sv_s, bw_ok, bw_exc, Res.ofO_some, Option.map_some, tru_bool, tru_none, intOf_int, noneD, kB, tgD, kT, isi_n, isi_b, isi_i, isi_s, isi_t, isi_l, cutD_T, cutD_L, revD_T, revD_L, bin_add, bin_sub, cmp_lt, cmp_le, cmp_gt, cmp_ge, cmp_eqI, cmp_neI, b1_lenL, b1_lenT, b1_tupL, b1_tupT, b1_lstL, b1_lstT, b1_int, Bool.false_eq_true, if_false, if_true, Bool.not_true, Bool.not_false, decide_true, decide_false, Rs_ok, Rs_exc, lstG, lstD, bindTs, bindT, svAll, wipeE, Option.bind_some, fin_rt, fin_nx, fin_exc, ixG_L, l0, l1, l2] using this

    | 2, _ => simpa only [List.set_cons_zero, List.set_cons_succ, eB_cons, eB_nil, eS_asg, eS_iff, eS_ret, eS_ex, eS_rai, eS_aug, eS_par, eS_unp, eS_app, eS_ext, eS_asgO, eS_six, eS_brk, eE_var, eE_own, eE_int, eE_bl, eE_non, eE_str, eE_glob, eE_bin, eE_neg, eE_not, eE_and, eE_or, eE_cmp, eE_ch2, eE_isN, eE_isNN, eE_isNT, eE_ife, eE_tup, eE_lst, eE_dct0, eE_ix, eE_sl, eE_rev, eE_call, eE_b1, eE_b2, eE_isi, eE_join, eL_nil, eL_cons, eA_nil, eA_one, eA_cons, eO_nil, eO_one, eO_cons, eP_no, eP_yes, eC_no, eC_yes, eI_seq, gv_z, gv_s, sv_z, sv_s, bw_ok, bw_exc, Res.ofO_some, Option.map_some, tru_bool, tru_none, intOf_int, noneD, kB, tgD, kT, isi_n, isi_b, isi_i, isi_s, isi_t, isi_l, cutD_T, cutD_L, revD_T, revD_L, bin_add, bin_sub, cmp_lt, cmp_le, cmp_gt, cmp_ge, cmp_eqI, cmp_neI, b1_lenL, b1_lenT, b1_tupL, b1_tupT, b1_lstL, b1_lstT, b1_int, Bool.false_eq_true, if_false, if_true, Bool.not_true, Bool.not_false, decide_true, decide_false, Rs_ok, Rs_exc, lstG, lstD, bindTs, bindT, svAll, wipeE, Option.bind_some, fin_rt, fin_nx, fin_exc, ixG_L, l0, l1, l2] using this

  rw [Rs_fin]
  simp only [dNear3, eB_cons, eB_nil, eS_asg, eS_iff, eS_ret, eS_ex, eS_rai, eS_aug, eS_par, eS_unp, eS_app, eS_ext, eS_asgO, eS_six, eS_brk, eE_var, eE_own, eE_int, eE_bl, eE_non, eE_str, eE_glob, eE_bin, eE_neg, eE_not, eE_and, eE_or, eE_cmp, eE_ch2, eE_isN, eE_isNN, eE_isNT, eE_ife, eE_tup, eE_lst, eE_dct0, eE_ix, eE_sl, eE_rev, eE_call, eE_b1, eE_b2, eE_isi, eE_join, eL_nil, eL_cons, eA_nil, eA_one, eA_cons, eO_nil, eO_one, eO_cons, eP_no, eP_yes, eC_no, eC_yes, eI_seq, gv_z, gv_s, sv_z, sv_s, bw_ok, bw_exc, Res.ofO_some, Option.map_some, tru_bool, tru_none, intOf_int, noneD, kB, tgD, kT, isi_n, isi_b, isi_i, isi_s, isi_t, isi_l, cutD_T, cutD_L, revD_T, revD_L, bin_add, bin_sub, cmp_lt, cmp_le, cmp_gt, cmp_ge, cmp_eqI, cmp_neI, b1_lenL, b1_lenT, b1_tupL, b1_tupT, b1_lstL, b1_lstT, b1_int, Bool.false_eq_true, if_false, if_true, Bool.not_true, Bool.not_false, decide_true, decide_false, Rs_ok, Rs_exc, lstG, lstD, bindTs, bindT, svAll, wipeE, Option.bind_some, fin_rt, fin_nx, fin_exc, List.cons_append, List.nil_append]
  simp only [Rs_bw]
  refine next_rs hN (by omega) (by decide) (by decide) hg fun j g1 j0 j1 hg1 => ?_
  obtain ⟨j, rfl⟩ := Int.eq_ofNat_of_zero_le j0
  have hj : j < 3 := by omega
  have step : ∀ (a : D) (N : D → Prop), ([a0, a1, a2] : List D)[j]? = some a → (∀ g, GS g → Rs (runF P n nb [stD, a] g) (fun d g' => N d ∧ GS g') NoE) → (∀ d, N d → ∀ g, Tel (runF P n f (([a0, a1, a2] : List D).set j d) g) g) → Rs (evB (runF P n) [.six 4 (.var 5) (.call nb [.var 0, .ix (.own 4) (.var 5)]), .tryR (.call f [.ix (.own 4) (.int 0), .ix (.own 4) (.int 1), .ix (.own 4) (.int 2)]) 6] [some stD, some a0, some a1, some a2, some (.list [a0, a1, a2]), some (.int j), none] g1) (fun fl g => match fl with
    | .rt v => Ask v ∧ GS g
    | .nx _ => Ask .none ∧ GS g
    | .bk _ => False) NoE := by
    intro a N ha hN hT
    have hx : ∀ g, ixG (.list [a0, a1, a2]) (.int j) g = some a := fun g => by rw [ixG_L, atI_nat hj]; exact ha
    have hs : ∀ d, setL [a0, a1, a2] (.int j) d = some (([a0, a1, a2] : List D).set j d) := fun d => by
      show (L2.ixN ([a0, a1, a2] : List D).length (j : Int)).map (fun j => ([a0, a1, a2] : List D).set j d) = _
      unfold L2.ixN
      rw [if_pos (by omega), if_pos (by simp; omega)]
      rfl
    simp only [eB_cons, eB_nil, eS_asg, eS_iff, eS_ret, eS_ex, eS_rai, eS_aug, eS_par, eS_unp, eS_app, eS_ext, eS_asgO, eS_six, eS_brk, eE_var, eE_own, eE_int, eE_bl, eE_non, eE_str, eE_glob, eE_bin, eE_neg, eE_not, eE_and, eE_or, eE_cmp, eE_ch2, eE_isN, eE_isNN, eE_isNT, eE_ife, eE_tup, eE_lst, eE_dct0, eE_ix, eE_sl, eE_rev, eE_call, eE_b1, eE_b2, eE_isi, eE_join, eL_nil, eL_cons, eA_nil, eA_one, eA_cons, eO_nil, eO_one, eO_cons, eP_no, eP_yes, eC_no, eC_yes, eI_seq, gv_z, gv_s, sv_z, sv_s, bw_ok, bw_exc, Res.ofO_some, Option.map_some, tru_bool, tru_none, intOf_int, noneD, kB, tgD, kT, isi_n, isi_b, isi_i, isi_s, isi_t, isi_l, cutD_T, cutD_L, revD_T, revD_L, bin_add, bin_sub, cmp_lt, cmp_le, cmp_gt, cmp_ge, cmp_eqI, cmp_neI, b1_lenL, b1_lenT, b1_tupL, b1_tupT, b1_lstL, b1_lstT, b1_int, Bool.false_eq_true, if_false, if_true, Bool.not_true, Bool.not_false, decide_true, decide_false, Rs_ok, Rs_exc, lstG, lstD, bindTs, bindT, svAll, wipeE, Option.bind_some, fin_rt, fin_nx, fin_exc, hx]
    simp only [Rs_bw]
    refine (hN g1 hg1).mono (fun d g2 ⟨hd, hg2⟩ => ?_) fun _ _ h => h
    simp only [eB_cons, eB_nil, eS_asg, eS_iff, eS_ret, eS_ex, eS_rai, eS_aug, eS_par, eS_unp, eS_app, eS_ext, eS_asgO, eS_six, eS_brk, eE_var, eE_own, eE_int, eE_bl, eE_non, eE_str, eE_glob, eE_bin, eE_neg, eE_not, eE_and, eE_or, eE_cmp, eE_ch2, eE_isN, eE_isNN, eE_isNT, eE_ife, eE_tup, eE_lst, eE_dct0, eE_ix, eE_sl, eE_rev, eE_call, eE_b1, eE_b2, eE_isi, eE_join, eL_nil, eL_cons, eA_nil, eA_one, eA_cons, eO_nil, eO_one, eO_cons, eP_no, eP_yes, eC_no, eC_yes, eI_seq, gv_z, gv_s, sv_z, sv_s, bw_ok, bw_exc, Res.ofO_some, Option.map_some, tru_bool, tru_none, intOf_int, noneD, kB, tgD, kT, isi_n, isi_b, isi_i, isi_s, isi_t, isi_l, cutD_T, cutD_L, revD_T, revD_L, bin_add, bin_sub, cmp_lt, cmp_le, cmp_gt, cmp_ge, cmp_eqI, cmp_neI, b1_lenL, b1_lenT, b1_tupL, b1_tupT, b1_lstL, b1_lstT, b1_int, Bool.false_eq_true, if_false, if_true, Bool.not_true, Bool.not_false, decide_true, decide_false, Rs_ok, Rs_exc, lstG, lstD, bindTs, bindT, svAll, wipeE, Option.bind_some, fin_rt, fin_nx, fin_exc, hs]
    have := go j d g2 hj hg2 (hT d hd)
    rw [Rs_fin] at this
    simp only [eB_cons, eB_nil, eS_asg, eS_iff, eS_ret, eS_ex, eS_rai, eS_aug, eS_par, eS_unp, eS_app, eS_ext, eS_asgO, eS_six, eS_brk, eE_var, eE_own, eE_int, eE_bl, eE_non, eE_str, eE_glob, eE_bin, eE_neg, eE_not, eE_and, eE_or, eE_cmp, eE_ch2, eE_isN, eE_isNN, eE_isNT, eE_ife, eE_tup, eE_lst, eE_dct0, eE_ix, eE_sl, eE_rev, eE_call, eE_b1, eE_b2, eE_isi, eE_join, eL_nil, eL_cons, eA_nil, eA_one, eA_cons, eO_nil, eO_one, eO_cons, eP_no, eP_yes, eC_no, eC_yes, eI_seq, gv_z, gv_s, sv_z, sv_s, bw_ok, bw_exc, Res.ofO_some, Option.map_some, tru_bool, tru_none, intOf_int, noneD, kB, tgD, kT, isi_n, isi_b, isi_i, isi_s, isi_t, isi_l, cutD_T, cutD_L, revD_T, revD_L, bin_add, bin_sub, cmp_lt, cmp_le, cmp_gt, cmp_ge, cmp_eqI, cmp_neI, b1_lenL, b1_lenT, b1_tupL, b1_tupT, b1_lstL, b1_lstT, b1_int, Bool.false_eq_true, if_false, if_true, Bool.not_true, Bool.not_false, decide_true, decide_false, Rs_ok, Rs_exc, lstG, lstD, bindTs, bindT, svAll, wipeE, Option.bind_some, fin_rt, fin_nx, fin_exc] at this ⊢
    exact this
  have cas : ∃ (a : D) (N : D → Prop), ([a0, a1, a2] : List D)[j]? = some a ∧ (∀ g, GS g → Rs (runF P n nb [stD, a] g) (fun d g' => N d ∧ GS g') NoE) ∧ (∀ d, N d → ∀ g, Tel (runF P n f (([a0, a1, a2] : List D).set j d) g) g) := by
    match j, hj with

    | 0, _ => exact ⟨a0, N0, rfl, h0, k0⟩
    | 1, _ => exact ⟨a1, N1, rfl, h1, k1⟩
    | 2, _ => exact ⟨a2, N2, rfl, h2, k2⟩
  obtain ⟨a, N, c1, c2, c3⟩ := cas
  have := step a N c1 c2 c3
  simp only [eB_cons, eB_nil, eS_asg, eS_iff, eS_ret, eS_ex, eS_rai, eS_aug, eS_par, eS_unp, eS_app, eS_ext, eS_asgO, eS_six, eS_brk, eE_var, eE_own, eE_int, eE_bl, eE_non, eE_str, eE_glob, eE_bin, eE_neg, eE_not, eE_and, eE_or, eE_cmp, eE_ch2, eE_isN, eE_isNN, eE_isNT, eE_ife, eE_tup, eE_lst, eE_dct0, eE_ix, eE_sl, eE_rev, eE_call, eE_b1, eE_b2, eE_isi, eE_join, eL_nil, eL_cons, eA_nil, eA_one, eA_cons, eO_nil, eO_one, eO_cons, eP_no, eP_yes, eC_no, eC_yes, eI_seq, gv_z, gv_s, sv_z, sv_s, bw_ok, bw_exc, Res.ofO_some, Option.map_some, tru_bool, tru_none, intOf_int, noneD, kB, tgD, kT, isi_n, isi_b, isi_i, isi_s, isi_t, isi_l, cutD_T, cutD_L, revD_T, revD_L, bin_add, bin_sub, cmp_lt, cmp_le, cmp_gt, cmp_ge, cmp_eqI, cmp_neI, b1_lenL, b1_lenT, b1_tupL, b1_tupT, b1_lstL, b1_lstT, b1_int, Bool.false_eq_true, if_false, if_true, Bool.not_true, Bool.not_false, decide_true, decide_false, Rs_ok, Rs_exc, lstG, lstD, bindTs, bindT, svAll, wipeE, Option.bind_some, fin_rt, fin_nx, fin_exc] at this ⊢
  exact this

def dUnfit3 (nm : Str) (ns : List Str) (j f : Nat) : Def := { name := nm, ps := 3, ns := ns, mu := [], fr := false, body := [
    .fr (.n 3) (.seq (.lst [.bl false, .bl true])) [.tryU 3 (.call j [.var 0, .var 1, .var 2, .non]) (.call f [.var 0, .var 1, .var 2]) 4],
    .ret (.bl true)] }
theorem unfit3_ok {u : Nat} (hU : P[u]? = some (dUnfit3 nm ns j f)) (hns : ns.length = 5) {n : Nat} (hn : 2 ≤ n) {a0 a1 a2 : D} (hf : ∀ g, runF P (n - 1) f [a0, a1, a2] g = .exc .unfit g) (hj : ∀ g, runF P (n - 1) j [a0, a1, a2, .none] g = .exc .unfit g) (g : G) :
    runF P n u [a0, a1, a2] g = .ok (.bool true) g := by
  obtain ⟨n, rfl⟩ : ∃ m, n = m + 1 := ⟨n - 1, by omega⟩
  simp only [Nat.add_sub_cancel] at *
  rw [run_def hU rfl]
  show fin (evB (runF P n) (dUnfit3 nm ns j f).body ([some a0, some a1, some a2] ++ List.replicate (ns.length - 3) none) g) = _
  rw [hns]
  show fin (evB (runF P n) (dUnfit3 nm ns j f).body [some a0, some a1, some a2, none, none] g) = _
  simp only [dUnfit3, eB_cons, eB_nil, eS_asg, eS_iff, eS_ret, eS_ex, eS_rai, eS_aug, eS_par, eS_unp, eS_app, eS_ext, eS_asgO, eS_six, eS_brk, eE_var, eE_own, eE_int, eE_bl, eE_non, eE_str, eE_glob, eE_bin, eE_neg, eE_not, eE_and, eE_or, eE_cmp, eE_ch2, eE_isN, eE_isNN, eE_isNT, eE_ife, eE_tup, eE_lst, eE_dct0, eE_ix, eE_sl, eE_rev, eE_call, eE_b1, eE_b2, eE_isi, eE_join, eL_nil, eL_cons, eA_nil, eA_one, eA_cons, eO_nil, eO_one, eO_cons, eP_no, eP_yes, eC_no, eC_yes, eI_seq, gv_z, gv_s, sv_z, sv_s, bw_ok, bw_exc, Res.ofO_some, Option.map_some, tru_bool, tru_none, intOf_int, noneD, kB, tgD, kT, isi_n, isi_b, isi_i, isi_s, isi_t, isi_l, cutD_T, cutD_L, revD_T, revD_L, bin_add, bin_sub, cmp_lt, cmp_le, cmp_gt, cmp_ge, cmp_eqI, cmp_neI, b1_lenL, b1_lenT, b1_tupL, b1_tupT, b1_lstL, b1_lstT, b1_int, Bool.false_eq_true, if_false, if_true, Bool.not_true, Bool.not_false, decide_true, decide_false, Rs_ok, Rs_exc, lstG, lstD, bindTs, bindT, svAll, wipeE, Option.bind_some, fin_rt, fin_nx, fin_exc, eS_fr, itemsD_L, frGo_cons, frGo_nil, frF_n, eS_tryU, hf, hj]

end
end PT
namespace PT
open PySem

abbrev sI (l : List Int) : List Int := l.mergeSort leI
abbrev sT (l : List (List Int)) : List (List Int) := l.mergeSort leT
theorem sI_pw (l : List Int) : (sI l).Pairwise (· ≤ ·) := by
  have := List.pairwise_mergeSort (le := leI) (fun a b c h1 h2 => by unfold leI at *; simp at *; omega) (fun a b => by unfold leI; simp; omega) l
  exact this.imp fun h => of_decide_eq_true h
theorem sI_perm (l : List Int) : (sI l).Perm l := List.mergeSort_perm l leI
theorem sI_of {l m : List Int} (h : m.Perm l) (hp : m.Pairwise (· ≤ ·)) : sI l = m :=
  ((sI_perm l).trans h.symm).eq_of_pairwise (le := (· ≤ ·)) (fun a b _ _ h1 h2 => Int.le_antisymm h1 h2) (sI_pw l) hp
theorem sI_congr {l m : List Int} (h : l.Perm m) : sI l = sI m := sI_of ((sI_perm m).trans h.symm) (sI_pw m)
theorem sT_pw (l : List (List Int)) : (sT l).Pairwise (· ≤ ·) := by
  have := List.pairwise_mergeSort (le := leT) (fun a b c h1 h2 => decide_eq_true (List.le_trans (of_decide_eq_true h1) (of_decide_eq_true h2))) (fun a b => by unfold leT; simp only [Bool.or_eq_true, decide_eq_true_eq]; exact List.le_total a b) l
  exact this.imp fun h => of_decide_eq_true h
theorem sT_perm (l : List (List Int)) : (sT l).Perm l := List.mergeSort_perm l leT
theorem sT_of {l m : List (List Int)} (h : m.Perm l) (hp : m.Pairwise (· ≤ ·)) : sT l = m :=
  ((sT_perm l).trans h.symm).eq_of_pairwise (le := (· ≤ ·)) (fun a b _ _ h1 h2 => List.le_antisymm h1 h2) (sT_pw l) hp
theorem sT_congr {l m : List (List Int)} (h : l.Perm m) : sT l = sT m := sT_of ((sT_perm m).trans h.symm) (sT_pw m)
theorem sI_len (l : List Int) : (sI l).length = l.length := (sI_perm l).length_eq
theorem sT_len (l : List (List Int)) : (sT l).length = l.length := (sT_perm l).length_eq
theorem sI_mem {l : List Int} {x : Int} : x ∈ sI l ↔ x ∈ l := (sI_perm l).mem_iff
theorem sT_mem {l : List (List Int)} {x : List Int} : x ∈ sT l ↔ x ∈ l := (sT_perm l).mem_iff
theorem intsD_map (r : List Int) : intsD (r.map .int) = some r := by
  unfold intsD
  induction r with
  | nil => rfl
  | cons i r ih => rw [List.map_cons, List.mapM_cons, ih]; rfl
theorem tupsD_map (L : List (List Int)) : tupsD (L.map mkT) = some L := by
  unfold tupsD
  induction L with
  | nil => rfl
  | cons r L ih =>
    rw [List.map_cons, List.mapM_cons, ih, show tupOf (mkT r) = some r from intsD_map r]
    rfl
theorem srt_ints (r : List Int) : srtD (r.map .int) = some ((sI r).map .int) := by
  unfold srtD
  rw [intsD_map]
theorem srt_rows {L : List (List Int)} (h : ∀ r ∈ L, r ≠ []) : srtD (L.map mkT) = some ((sT L).map mkT) := by
  unfold srtD
  cases L with
  | nil =>
    have : intsD (([] : List (List Int)).map mkT) = some [] := rfl
    rw [this]
    simp
  | cons r L =>
    have : intsD ((r :: L).map mkT) = none := rfl
    rw [this]
    simp only [tupsD_map]
    rw [if_pos]
    unfold neT
    rw [List.all_eq_true]
    intro x hx
    have := h x hx
    cases x <;> simp_all
theorem b1_sortedI {r : List Int} {d : D} (h : itemsD d = some (r.map .int)) : b1D .sorted d = some (mkL (sI r)) := by
  show (itemsD d).bind _ = _
  rw [h]
  simp only [Option.bind_some, srt_ints, Option.map_some]
  rfl
theorem b1_sortedT {L : List (List Int)} {d : D} (h : itemsD d = some (L.map mkT)) (hL : ∀ r ∈ L, r ≠ []) : b1D .sorted d = some (.list ((sT L).map mkT)) := by
  show (itemsD d).bind _ = _
  rw [h]
  simp only [Option.bind_some, srt_rows hL, Option.map_some]
theorem b1_sum {r : List Int} {d : D} (h : itemsD d = some (r.map .int)) : b1D .sum d = some (.int r.sum) := by
  show (itemsD d).bind _ = _
  rw [h]
  simp only [Option.bind_some, intsD_map, Option.map_some]
theorem b1_max {r : List Int} {d : D} (h : itemsD d = some (r.map .int)) : b1D .max d = (maxI r).map .int := by
  show (itemsD d).bind _ = _
  rw [h]
  simp only [Option.bind_some, maxD, intsD_map]
theorem b1_min {r : List Int} {d : D} (h : itemsD d = some (r.map .int)) : b1D .min d = (minI r).map .int := by
  show (itemsD d).bind _ = _
  rw [h]
  simp only [Option.bind_some, minD, intsD_map]
@[simp] theorem b1_lstN {r : List Int} : b1D .list (mkT r) = some (mkL r) := (rfl)
@[simp] theorem b1_tupM {r : List Int} : b1D .tuple (mkL r) = some (mkT r) := (rfl)
/-- pairs with places, in order: the keys are in order -/
theorem pair_le {a b p q : Int} : [a, p] ≤ [b, q] ↔ a < b ∨ (a = b ∧ p ≤ q) := by
  rw [List.cons_le_cons_iff, List.cons_le_cons_iff]
  simp only [List.le_refl, and_true]
  constructor
  · rintro (h | ⟨h, h2 | h2⟩)
    · exact .inl h
    · exact .inr ⟨h, by omega⟩
    · exact .inr ⟨h, by omega⟩
  · rintro (h | ⟨h, h2⟩)
    · exact .inl h
    · exact .inr ⟨h, by omega⟩
theorem hd_le {x y : List Int} (hx : x ≠ []) (hy : y ≠ []) (h : x ≤ y) : x.getD 0 0 ≤ y.getD 0 0 := by
  cases x with
  | nil => exact absurd rfl hx
  | cons a x =>
    cases y with
    | nil => exact absurd rfl hy
    | cons b y =>
      rw [List.cons_le_cons_iff] at h
      simp
      omega
theorem sT_heads {L : List (List Int)} (h : ∀ r ∈ L, r ≠ []) : (sT L).map (fun r => r.getD 0 0) = sI (L.map fun r => r.getD 0 0) := by
  refine (sI_of ((sT_perm L).map _) ?_).symm
  rw [List.pairwise_map]
  refine (sT_pw L).imp_of_mem fun {a b} ha hb hab => hd_le (h a (sT_mem.mp ha)) (h b (sT_mem.mp hb)) hab
theorem wh_run {c : Env → G → Res Bool} {f : Env → G → Res Fl} {g : G} {I : Nat → Env → Prop} {Q : Env → Prop}
    (step : ∀ m ρ, I m ρ → (c ρ g = .ok false g ∧ Q ρ) ∨ (∃ ρ' m', c ρ g = .ok true g ∧ f ρ g = .ok (.nx ρ') g ∧ I m' ρ' ∧ m' < m)) :
    ∀ (n m : Nat) (ρ : Env), I m ρ → m < n → ∃ ρ', whGo c f n ρ g = .ok (.nx ρ') g ∧ Q ρ'
  | 0, _, _, _, h => absurd h (Nat.not_lt_zero _)
  | n + 1, m, ρ, hI, hm => by
    rcases step m ρ hI with ⟨h1, h2⟩ | ⟨ρ', m', h1, h2, h3, h4⟩
    · exact ⟨ρ, by rw [whGo, h1]; rfl, h2⟩
    · obtain ⟨ρ2, e, hQ⟩ := wh_run step n m' ρ' h3 (by omega)
      exact ⟨ρ2, by rw [whGo, h1, Res.bind_ok, if_pos rfl, h2, Res.bind_ok]; exact e, hQ⟩
/-- the same with an end inside -/
theorem wh_rs {c : Env → G → Res Bool} {f : Env → G → Res Fl} {I : Nat → Env → G → Prop} {R : Fl → G → Prop} {E : Exc → G → Prop}
    (step : ∀ m ρ g, I m ρ g → Rs (c ρ g) (fun b g1 => if b = true then Rs (f ρ g1) (fun fl g2 => match fl with
      | .nx ρ' => ∃ m', m' < m ∧ I m' ρ' g2
      | .bk ρ' => R (.nx ρ') g2
      | .rt d => R (.rt d) g2) E else R (.nx ρ) g1) E) :
    ∀ (n m : Nat) (ρ : Env) (g : G), I m ρ g → m < n → Rs (whGo c f n ρ g) R E
  | 0, _, _, _, _, h => absurd h (Nat.not_lt_zero _)
  | n + 1, m, ρ, g, hI, hm => by
    rw [whGo, Rs_bind]
    refine (step m ρ g hI).mono (fun b g1 hb => ?_) fun _ _ h => h
    cases b with
    | false => exact hb
    | true =>
      rw [if_pos rfl] at hb ⊢
      rw [Rs_bind]
      refine hb.mono (fun fl g2 h => ?_) fun _ _ h => h
      cases fl with
      | nx ρ' =>
        obtain ⟨m', h1, h2⟩ := h
        exact wh_rs step n m' ρ' g2 h2 (by omega)
      | bk ρ' => exact h
      | rt d => exact h
theorem wh_E {Φ : Fn} {c : T} {body : List S} {g : G} {I : Nat → Env → Prop} {Q : Env → Prop}
    (step : ∀ m ρ, I m ρ → (∃ x, evE Φ c ρ g = .ok x g ∧ truD x = some false ∧ Q ρ) ∨ (∃ x ρ' m', evE Φ c ρ g = .ok x g ∧ truD x = some true ∧ evB Φ body ρ g = .ok (.nx ρ') g ∧ I m' ρ' ∧ m' < m))
    {n m : Nat} {ρ : Env} (hI : I m ρ) (hm : m < n) : ∃ ρ', whE Φ c body n ρ g = .ok (.nx ρ') g ∧ Q ρ' :=
  wh_run (fun m ρ h => by
    rcases step m ρ h with ⟨x, h1, h2, h3⟩ | ⟨x, ρ', m', h1, h2, h3, h4, h5⟩
    · exact .inl ⟨by rw [h1, Res.bind_ok, h2]; rfl, h3⟩
    · exact .inr ⟨ρ', m', by rw [h1, Res.bind_ok, h2]; rfl, h3, h4, h5⟩) n m ρ hI hm
/-- the same where something is drawn, or the loop is left -/
theorem wh_Rs {Φ : Fn} {c : T} {body : List S} {I : Nat → Env → G → Prop} {R : Fl → G → Prop} {E : Exc → G → Prop}
    (step : ∀ m ρ g, I m ρ g → ∃ x b, evE Φ c ρ g = .ok x g ∧ truD x = some b ∧ (if b = true then Rs (evB Φ body ρ g) (fun fl g2 => match fl with
      | .nx ρ' => ∃ m', m' < m ∧ I m' ρ' g2
      | .bk ρ' => R (.nx ρ') g2
      | .rt d => R (.rt d) g2) E else R (.nx ρ) g))
    {n m : Nat} {ρ : Env} {g : G} (hI : I m ρ g) (hm : m < n) : Rs (whE Φ c body n ρ g) R E :=
  wh_rs (fun m ρ g h => by
    obtain ⟨x, b, h1, h2, h3⟩ := step m ρ g h
    rw [h1, Res.bind_ok, h2]
    exact h3) n m ρ g hI hm
def dPow (nm : Str) (ns : List Str) : Def := { name := nm, ps := 1, ns := ns, mu := [], fr := false, body := [
    .asg 1 (.int 1),
    .fr (.n 2) (.rg1 (.var 0)) [.asg 1 (.bin .mul (.int 2) (.var 1))],
    .ret (.var 1)] }
theorem pow_run {P : List Def} {po : Nat} {nm : Str} {ns : List Str} (hP : P[po]? = some (dPow nm ns)) (hns : ns.length = 3) {n : Nat} (hn : 1 ≤ n) {p : Int} {k : Nat} (hp : p.toNat = k) (h2 : p ≤ 1000) (h3 : -1000 ≤ p) (g : G) : runF P n po [.int p] g = .ok (.int ((2 ^ k : Nat) : Int)) g := by
  obtain ⟨n, rfl⟩ : ∃ m, n = m + 1 := ⟨n - 1, by omega⟩
  rw [run_def hP rfl]
  show fin (evB (runF P n) (dPow nm ns).body ([some (.int p)] ++ List.replicate (ns.length - 1) none) g) = _
  rw [hns]
  show fin (evB (runF P n) (dPow nm ns).body [some (.int p), none, none] g) = _
  have loop : ∀ (l : List Nat) (j : Nat) (x : Option D), ∃ y, frGo (frF (runF P n) (.n 2) [.asg 1 (.bin .mul (.int 2) (.var 1))]) (l.map fun k => .int (k : Nat)) [some (.int p), some (.int ((2 ^ j : Nat) : Int)), x] g = .ok (.nx [some (.int p), some (.int ((2 ^ (j + l.length) : Nat) : Int)), y]) g := by
    intro l
    induction l with
    | nil => exact fun j x => ⟨x, rfl⟩
    | cons a l ih =>
      intro j x
      obtain ⟨y, e⟩ := ih (j + 1) (some (.int a))
      refine ⟨y, ?_⟩
      rw [List.map_cons, frGo_cons]
      have e1 : (2 : Int) * ((2 ^ j : Nat) : Int) = ((2 ^ (j + 1) : Nat) : Int) := by
        rw [Nat.pow_succ]; push_cast; rw [Int.mul_comm]
      simp only [frF_n, eB_cons, eB_nil, eS_asg, eS_iff, eS_ret, eS_ex, eS_rai, eS_aug, eS_par, eS_unp, eS_app, eS_ext, eS_asgO, eS_six, eS_brk, eE_var, eE_own, eE_int, eE_bl, eE_non, eE_str, eE_glob, eE_bin, eE_neg, eE_not, eE_and, eE_or, eE_cmp, eE_ch2, eE_isN, eE_isNN, eE_isNT, eE_ife, eE_tup, eE_lst, eE_dct0, eE_ix, eE_sl, eE_rev, eE_call, eE_b1, eE_b2, eE_isi, eE_join, eL_nil, eL_cons, eA_nil, eA_one, eA_cons, eO_nil, eO_one, eO_cons, eP_no, eP_yes, eC_no, eC_yes, eI_seq, gv_z, gv_s, sv_z, sv_s, bw_ok, bw_exc, Res.ofO_some, Option.map_some, tru_bool, tru_none, intOf_int, noneD, kB, tgD, kT, isi_n, isi_b, isi_i, isi_s, isi_t, isi_l, cutD_T, cutD_L, revD_T, revD_L, bin_add, bin_sub, cmp_lt, cmp_le, cmp_gt, cmp_ge, cmp_eqI, cmp_neI, b1_lenL, b1_lenT, b1_tupL, b1_tupT, b1_lstL, b1_lstT, b1_int, Bool.false_eq_true, if_false, if_true, Bool.not_true, Bool.not_false, decide_true, decide_false, Rs_ok, Rs_exc, lstG, lstD, bindTs, bindT, svAll, wipeE, Option.bind_some, fin_rt, fin_nx, fin_exc, bin_mulL (i := 2) (j := ((2 ^ j : Nat) : Int)) (by decide), e1]
      rw [e, List.length_cons, show j + 1 + l.length = j + (l.length + 1) by omega]
  obtain ⟨y, e⟩ := loop (List.range p.toNat) 0 none
  have hr : rgB p = true := by
    unfold rgB
    simp only [Bool.and_eq_true, decide_eq_true_eq]
    omega
  rw [List.length_range, Nat.zero_add, hp] at e
  simp only [dPow, eB_cons, eB_nil, eS_asg, eS_iff, eS_ret, eS_ex, eS_rai, eS_aug, eS_par, eS_unp, eS_app, eS_ext, eS_asgO, eS_six, eS_brk, eE_var, eE_own, eE_int, eE_bl, eE_non, eE_str, eE_glob, eE_bin, eE_neg, eE_not, eE_and, eE_or, eE_cmp, eE_ch2, eE_isN, eE_isNN, eE_isNT, eE_ife, eE_tup, eE_lst, eE_dct0, eE_ix, eE_sl, eE_rev, eE_call, eE_b1, eE_b2, eE_isi, eE_join, eL_nil, eL_cons, eA_nil, eA_one, eA_cons, eO_nil, eO_one, eO_cons, eP_no, eP_yes, eC_no, eC_yes, eI_seq, gv_z, gv_s, sv_z, sv_s, bw_ok, bw_exc, Res.ofO_some, Option.map_some, tru_bool, tru_none, intOf_int, noneD, kB, tgD, kT, isi_n, isi_b, isi_i, isi_s, isi_t, isi_l, cutD_T, cutD_L, revD_T, revD_L, bin_add, bin_sub, cmp_lt, cmp_le, cmp_gt, cmp_ge, cmp_eqI, cmp_neI, b1_lenL, b1_lenT, b1_tupL, b1_tupT, b1_lstL, b1_lstT, b1_int, Bool.false_eq_true, if_false, if_true, Bool.not_true, Bool.not_false, decide_true, decide_false, Rs_ok, Rs_exc, lstG, lstD, bindTs, bindT, svAll, wipeE, Option.bind_some, fin_rt, fin_nx, fin_exc, eS_fr, eI_rg1', hr, rgL0_map, hp]
  rw [show ((2 ^ 0 : Nat) : Int) = 1 from rfl] at e
  rw [e]
  rfl
end PT
namespace PT
open PySem

/-- what holds between the turns -/
structure TurnI (sns : List Nat) (L : Nat) (ρ : Env) (g : G) : Prop where
  gs : GS g
  len : ρ.length = L
  st : gv ρ 1 = some stD
  sn : ∀ s ∈ sns, ∃ seen, gv ρ s = some (.list seen) ∧ ∀ d ∈ seen, Ask d
theorem TurnI.sv {sns : List Nat} {L : Nat} {ρ : Env} {g : G} (h : TurnI sns L ρ g) {i : Nat} {x : Option D} (h1 : i ≠ 1) (h2 : i ∉ sns) : TurnI sns L (PT.sv ρ i x) g :=
  ⟨h.gs, by rw [len_sv']; exact h.len, by rw [gv_sv_ne h1]; exact h.st, fun s hs => by rw [gv_sv_ne (fun e => by subst e; exact h2 hs)]; exact h.sn s hs⟩
theorem turns_ok {Φ : Fn} {sns : List Nat} {L t m : Nat} {turn : List S} (ht : t ≠ 1) (hts : t ∉ sns) (hm : m ≤ 1000)
    (h : ∀ ρ g, TurnI sns L ρ g → Rs (evB Φ turn ρ g) (fun fl g' => ∃ ρ', fl = .nx ρ' ∧ TurnI sns L ρ' g') NoE) {ρ : Env} {g : G} (hI : TurnI sns L ρ g) {body : List S} (hb : body = [.fr (.n t) (.rg1 (.int m)) turn, .ret (.bl true)]) :
    Rs (evB Φ body ρ g) (fun fl g' => fl = .rt (.bool true)) NoE := by
  subst hb
  have hr : rgB (m : Int) = true := rgB_of (by omega) (by omega)
  simp only [eB_cons, eB_nil, eS_asg, eS_iff, eS_ret, eS_ex, eS_rai, eS_aug, eS_par, eS_unp, eS_app, eS_ext, eS_asgO, eS_six, eS_brk, eE_var, eE_own, eE_int, eE_bl, eE_non, eE_str, eE_glob, eE_bin, eE_neg, eE_not, eE_and, eE_or, eE_cmp, eE_ch2, eE_isN, eE_isNN, eE_isNT, eE_ife, eE_tup, eE_lst, eE_dct0, eE_ix, eE_sl, eE_rev, eE_call, eE_b1, eE_b2, eE_isi, eE_join, eL_nil, eL_cons, eA_nil, eA_one, eA_cons, eO_nil, eO_one, eO_cons, eP_no, eP_yes, eC_no, eC_yes, eI_seq, gv_z, gv_s, sv_z, sv_s, bw_ok, bw_exc, Res.ofO_some, Option.map_some, tru_bool, tru_none, intOf_int, noneD, kB, tgD, kT, isi_n, isi_b, isi_i, isi_s, isi_t, isi_l, cutD_T, cutD_L, revD_T, revD_L, bin_add, bin_sub, cmp_lt, cmp_le, cmp_gt, cmp_ge, cmp_eqI, cmp_neI, b1_lenL, b1_lenT, b1_tupL, b1_tupT, b1_lstL, b1_lstT, b1_int, Bool.false_eq_true, if_false, if_true, Bool.not_true, Bool.not_false, decide_true, decide_false, Rs_ok, Rs_exc, lstG, lstD, bindTs, bindT, svAll, wipeE, Option.bind_some, fin_rt, fin_nx, fin_exc, eS_fr, eI_rg1', hr, Int.toNat_natCast, rgL0_map]
  rw [Rs_bw]
  refine (fr_rs (α := Nat) (e := fun k => .int (k : Nat)) (I := fun l ρ' g' => TurnI sns L ρ' g') (R := fun fl g' => ∃ ρ', fl = .nx ρ') (E := NoE) ?_ ?_ _ _ _ hI).mono ?_ fun _ _ h => h
  · intro i l ρ1 g1 h1
    rw [frF_n]
    refine (h _ g1 (h1.sv ht hts)).mono (fun fl g2 ⟨ρ2, e, h2⟩ => ?_) fun _ _ h => h
    subst e
    exact h2
  · exact fun ρ1 g1 _ => ⟨ρ1, rfl⟩
  · rintro fl g2 ⟨ρ2, rfl⟩
    simp only [eB_cons, eB_nil, eS_asg, eS_iff, eS_ret, eS_ex, eS_rai, eS_aug, eS_par, eS_unp, eS_app, eS_ext, eS_asgO, eS_six, eS_brk, eE_var, eE_own, eE_int, eE_bl, eE_non, eE_str, eE_glob, eE_bin, eE_neg, eE_not, eE_and, eE_or, eE_cmp, eE_ch2, eE_isN, eE_isNN, eE_isNT, eE_ife, eE_tup, eE_lst, eE_dct0, eE_ix, eE_sl, eE_rev, eE_call, eE_b1, eE_b2, eE_isi, eE_join, eL_nil, eL_cons, eA_nil, eA_one, eA_cons, eO_nil, eO_one, eO_cons, eP_no, eP_yes, eC_no, eC_yes, eI_seq, gv_z, gv_s, sv_z, sv_s, bw_ok, bw_exc, Res.ofO_some, Option.map_some, tru_bool, tru_none, intOf_int, noneD, kB, tgD, kT, isi_n, isi_b, isi_i, isi_s, isi_t, isi_l, cutD_T, cutD_L, revD_T, revD_L, bin_add, bin_sub, cmp_lt, cmp_le, cmp_gt, cmp_ge, cmp_eqI, cmp_neI, b1_lenL, b1_lenT, b1_tupL, b1_tupT, b1_lstL, b1_lstT, b1_int, Bool.false_eq_true, if_false, if_true, Bool.not_true, Bool.not_false, decide_true, decide_false, Rs_ok, Rs_exc, lstG, lstD, bindTs, bindT, svAll, wipeE, Option.bind_some, fin_rt, fin_nx, fin_exc]
theorem yes1 {P : List Def} {n L m : Nat} {d : Def} {turn : List S} (hb : d.body = [.asg 2 (.lst []), .fr (.n 3) (.rg1 (.int m)) turn, .ret (.bl true)]) (hl : d.ns.length = L) (hL : 5 ≤ L) (hm : m ≤ 1000)
    (h : ∀ ρ g, TurnI [2] L ρ g → Rs (evB (runF P n) turn ρ g) (fun fl g' => ∃ ρ', fl = .nx ρ' ∧ TurnI [2] L ρ' g') NoE) : LawYes P n d := by
  intro ns hns
  have key : Rs (evB (runF P n) d.body (rho0 d) (st0 ns)) (fun fl g' => fl = .rt (.bool true)) NoE := by
    have hl0 : (rho0 d).length = L := by unfold rho0; simp; omega
    rw [hb, eB_cons, eS_asg, eE_lst, eL_nil]
    simp only [bw_ok]
    show Rs (evB (runF P n) [.fr (.n 3) (.rg1 (.int m)) turn, .ret (.bl true)] (sv (rho0 d) 2 (some (.list []))) (st0 ns)) _ _
    have hI : TurnI [2] L (sv (rho0 d) 2 (some (.list []))) (st0 ns) := by
      refine ⟨gs_st0 ns, by rw [len_sv']; exact hl0, ?_, fun s hs => ⟨[], ?_, fun d hd => absurd hd (List.not_mem_nil)⟩⟩
      · rw [gv_sv_ne (by decide)]; rfl
      · rw [List.mem_singleton.mp hs, gv_sv_eq (by omega)]
    generalize hbd : [S.fr (.n 3) (.rg1 (.int m)) turn, .ret (.bl true)] = body
    exact turns_ok (t := 3) (by decide) (by decide) hm h hI hbd.symm
  obtain ⟨fl, g, e, hfl⟩ := key.ex
  exact ⟨g, by rw [e, hfl]⟩
theorem yes2 {P : List Def} {n L m : Nat} {d : Def} {turn : List S} (hb : d.body = [.asg 2 (.lst []), .asg 3 (.lst []), .fr (.n 4) (.rg1 (.int m)) turn, .ret (.bl true)]) (hl : d.ns.length = L) (hL : 5 ≤ L) (hm : m ≤ 1000)
    (h : ∀ ρ g, TurnI [2, 3] L ρ g → Rs (evB (runF P n) turn ρ g) (fun fl g' => ∃ ρ', fl = .nx ρ' ∧ TurnI [2, 3] L ρ' g') NoE) : LawYes P n d := by
  intro ns hns
  have key : Rs (evB (runF P n) d.body (rho0 d) (st0 ns)) (fun fl g' => fl = .rt (.bool true)) NoE := by
    have hl0 : (rho0 d).length = L := by unfold rho0; simp; omega
    rw [hb, eB_cons, eS_asg, eE_lst, eL_nil]
    simp only [bw_ok]
    rw [eB_cons, eS_asg, eE_lst, eL_nil]
    simp only [bw_ok]
    show Rs (evB (runF P n) [.fr (.n 4) (.rg1 (.int m)) turn, .ret (.bl true)] (sv (sv (rho0 d) 2 (some (.list []))) 3 (some (.list []))) (st0 ns)) _ _
    have hI : TurnI [2, 3] L (sv (sv (rho0 d) 2 (some (.list []))) 3 (some (.list []))) (st0 ns) := by
      refine ⟨gs_st0 ns, by rw [len_sv', len_sv']; exact hl0, ?_, fun s hs => ⟨[], ?_, fun d hd => absurd hd (List.not_mem_nil)⟩⟩
      · rw [gv_sv_ne (by decide), gv_sv_ne (by decide)]; rfl
      · simp only [List.mem_cons, List.not_mem_nil, or_false] at hs
        rcases hs with rfl | rfl
        · rw [gv_sv_ne (by decide), gv_sv_eq (by omega)]
        · rw [gv_sv_eq (by rw [len_sv']; omega)]
    generalize hbd : [S.fr (.n 4) (.rg1 (.int m)) turn, .ret (.bl true)] = body
    exact turns_ok (t := 4) (by decide) (by decide) hm h hI hbd.symm
  obtain ⟨fl, g, e, hfl⟩ := key.ex
  exact ⟨g, by rw [e, hfl]⟩
/-- a block's two parts, and what stands between -/
theorem blk_ok {b : Bk} {Φ : Fn} {ds : List D} {v : D} (ok : b.Ok) (h : b.Do Φ ds v) {sns : List Nat} {L : Nat} {ρ : Env} {g : G} (hI : TurnI sns L ρ g)
    (hst : b.st = 1) (hsn : b.sn ∈ sns) (hlt : b.tl < L ∧ b.nr < L ∧ b.sn < L ∧ b.k < L ∧ b.as < L) (hap : ∀ s ∈ sns, s ≠ b.tl ∧ s ≠ b.nr ∧ s ≠ b.k ∧ s ≠ b.as)
    (ha : gvs ρ b.args = some ds) {mid rest : List S}
    (hmid : ∀ ρ' g', gvs ρ' b.args = some ds → evB Φ mid ρ' g' = .ok (.nx ρ') g') {R : Fl → G → Prop}
    (hr : ∀ ρ' g', TurnI sns L ρ' g' → Sm ρ ρ' [b.tl, b.nr, b.sn, b.k, b.as] → Rs (evB Φ rest ρ' g') R NoE) :
    Rs (evB Φ (b.pre ++ (mid ++ (b.post ++ rest))) ρ g) R NoE := by
  refine pre_ok ok h hI.gs (by rw [hI.len]; exact hlt.1) (by rw [hI.len]; exact hlt.2.1) (by rw [hst]; exact hI.st) ha fun ρ1 g1 d s1 e1 e2 hd hg1 => ?_
  have nin : ∀ i ∈ b.args, i ∉ [b.tl, b.nr] := fun i hi => by have := ok.args i hi; simp [this.1, this.2.1]
  have ha1 : gvs ρ1 b.args = some ds := by rw [s1.gvs nin]; exact ha
  have happ : ∀ (ss : List S) (ρ g) (tt : List S), evB Φ (ss ++ tt) ρ g = (evB Φ ss ρ g).bind fun fl g => match fl with
      | .nx ρ' => evB Φ tt ρ' g
      | .bk ρ' => .ok (.bk ρ') g
      | .rt d => .ok (.rt d) g := by
    intro ss
    induction ss with
    | nil => intro ρ g tt; rw [List.nil_append, eB_nil]; rfl
    | cons s ss ih =>
      intro ρ g tt
      rw [List.cons_append, eB_cons, eB_cons]
      show Res.bind _ _ = Res.bind (Res.bind _ _) _
      cases evS Φ s ρ g with
      | ok fl g1 =>
        simp only [Res.bind_ok]
        cases fl with
        | nx ρ' => exact ih ρ' g1 tt
        | bk _ => rfl
        | rt _ => rfl
      | exc _ _ => rfl
      | bad => rfl
  rw [happ mid, hmid ρ1 g1 ha1]
  simp only [Res.bind_ok]
  obtain ⟨seen, c1, c2⟩ := hI.sn b.sn hsn
  have q := ok
  have hap' := hap b.sn hsn
  refine post_ok ok h hg1 (by rw [s1.1, hI.len]; exact hlt.2.2.1) (by rw [s1.1, hI.len]; exact hlt.2.2.2.1) (by rw [s1.1, hI.len]; exact hlt.2.2.2.2) (by rw [s1.2 _ (by simp [ok.s1, ok.s2]), hst]; exact hI.st) ha1 e1 e2 hd (seen := seen) (by rw [s1.2 _ (by simp [hap'.1, hap'.2.1])]; exact c1) c2 fun ρ2 g2 seen' s2 f1 f2 hg2 => ?_
  have s12 : Sm ρ ρ2 [b.tl, b.nr, b.sn, b.k, b.as] := by
    have := s1.trans s2
    exact this
  refine hr ρ2 g2 ⟨hg2, by rw [s12.1]; exact hI.len, ?_, fun s hs => ?_⟩ s12
  · rw [← hst, s12.2 _ (by simp [ok.s1, ok.s2, ok.s3, ok.s4, ok.s5]), hst]; exact hI.st
  · by_cases e : s = b.sn
    · subst e; exact ⟨seen', f1, f2⟩
    · have := hap s hs
      rw [s12.2 s (by simp [this.1, this.2.1, this.2.2.1, this.2.2.2, e])]
      exact hI.sn s hs
end PT
namespace PT
open PySem

/-- a tuple of tuples of numbers -/
def rowsD (rows : List (List Int)) : D := .tuple (rows.map mkT)
@[simp] theorem itemsD_rows {rows : List (List Int)} : itemsD (rowsD rows) = some (rows.map mkT) := (rfl)
@[simp] theorem len_rows {rows : List (List Int)} : b1D .len (rowsD rows) = some (.int rows.length) := by unfold rowsD; simp
theorem list_of {α : Type} {e : α → D} {p : α → Prop} : ∀ {ys : List D}, (∀ y ∈ ys, ∃ a, y = e a ∧ p a) → ∃ l : List α, ys = l.map e ∧ ∀ a ∈ l, p a
  | [], _ => ⟨[], rfl, by simp⟩
  | y :: ys, h => by
    obtain ⟨a, e1, h1⟩ := h y (List.mem_cons_self ..)
    obtain ⟨l, e2, h2⟩ := list_of (ys := ys) fun z hz => h z (List.mem_cons_of_mem _ hz)
    exact ⟨a :: l, by rw [e1, e2]; rfl, fun x hx => by
      rcases List.mem_cons.mp hx with rfl | hx
      · exact h1
      · exact h2 x hx⟩
section
variable {α : Type} {N : α → α → Prop} {l m : List α}
theorem Nb.len (h : Nb N l m) : m.length ≤ l.length := by
  cases h with
  | nil => exact Nat.le_refl _
  | out xs ys x h => simp only [List.length_append, List.length_cons]; omega
  | one xs ys x y h => simp only [List.length_append, List.length_cons]; omega
theorem Nb.ne (h : Nb N l m) (hl : l ≠ []) : m ≠ [] := by
  cases h with
  | nil => exact absurd rfl hl
  | out xs ys x h => exact h
  | one xs ys x y h => simp
theorem Nb.all {p q : α → Prop} (h : Nb N l m) (hp : ∀ a ∈ l, p a) (hpq : ∀ a, p a → q a) (hN : ∀ a b, p a → N a b → q b) : ∀ b ∈ m, q b := by
  intro b hb
  cases h with
  | nil => exact absurd hb List.not_mem_nil
  | out xs ys x h =>
    refine hpq b (hp b ?_)
    rcases List.mem_append.mp hb with hb | hb
    · exact List.mem_append_left _ hb
    · exact List.mem_append_right _ (List.mem_cons_of_mem _ hb)
  | one xs ys x y h =>
    rcases List.mem_append.mp hb with hb | hb
    · exact hpq b (hp b (List.mem_append_left _ hb))
    · rcases List.mem_cons.mp hb with rfl | hb
      · exact hN x b (hp x (List.mem_append_right _ (List.mem_cons_self ..))) h
      · exact hpq b (hp b (List.mem_append_right _ (List.mem_cons_of_mem _ hb)))
end
theorem nq_mkT {k : Nat} {r : List Int} (h : ∀ i ∈ r, small i) : Nq (k + 1) (mkT r) := Nq.tup.mpr fun d hd => by
  obtain ⟨i, hi, rfl⟩ := List.mem_map.mp hd
  exact Nq.int (h i hi)
theorem szL_ints (r : List Int) : szL (r.map .int) = r.length := by
  induction r with
  | nil => rfl
  | cons i r ih => simp only [List.map_cons, szL, sz, ih, List.length_cons]; omega
@[simp] theorem sz_mkT (r : List Int) : sz (mkT r) = 1 + r.length := by simp only [mkT, sz, szL_ints]
theorem small_of {i : Int} (h : i.natAbs ≤ 1000000000000) : small i := Nat.lt_of_le_of_lt h (by decide +kernel)
theorem okE_mkT {r : List Int} : okE (mkT r) = true := by
  unfold okE SeqAt.shaped
  simp only [Bool.and_eq_true, decide_eq_true_eq]
  constructor
  · simp only [mkT, PyData.canLay0, layL_iff]
    intro d hd
    obtain ⟨i, _, rfl⟩ := List.mem_map.mp hd
    rfl
  · simp only [mkT, PyData.depth]
    refine Nat.succ_le_of_lt (Nat.lt_of_le_of_lt (depL_iff (k := 0).mpr fun d hd => ?_) (by decide))
    obtain ⟨i, _, rfl⟩ := List.mem_map.mp hd
    exact Nat.le_refl _
theorem okE_rows {rows : List (List Int)} : okE (rowsD rows) = true := by
  unfold okE SeqAt.shaped
  simp only [Bool.and_eq_true, decide_eq_true_eq]
  constructor
  · simp only [rowsD, PyData.canLay0, layL_iff]
    intro d hd
    obtain ⟨r, _, rfl⟩ := List.mem_map.mp hd
    have := okE_mkT (r := r)
    unfold okE SeqAt.shaped at this
    simp only [Bool.and_eq_true] at this
    exact this.1
  · simp only [rowsD, PyData.depth]
    refine Nat.succ_le_of_lt (Nat.lt_of_le_of_lt (depL_iff (k := 1).mpr fun d hd => ?_) (by decide))
    obtain ⟨r, _, rfl⟩ := List.mem_map.mp hd
    simp only [mkT, PyData.depth]
    refine Nat.succ_le_succ (depL_iff.mpr fun d hd => ?_)
    obtain ⟨i, _, rfl⟩ := List.mem_map.mp hd
    exact Nat.le_refl _
section
variable {P : List Def} {nx nb : Nat}
theorem nb_row (hN : P[nx]? = some dNext) (hB : P[nb]? = some (dNeigh nx nb)) {n : Nat} (hn : 3 ≤ n) {r : List Int} (hl : r.length ≤ 100000) {g : G} (hg : GS g) :
    Rs (runF P n nb [stD, mkT r] g) (fun d g' => (∃ m, d = mkT m ∧ Nb NbI r m) ∧ GS g') NoE :=
  nb_seq (e := PyData.int) (N := NbI) hN hB (by omega) hl okE_mkT (fun a _ g hg => nb_int hN hB (by omega) hg) hg
theorem nb_rows (hN : P[nx]? = some dNext) (hB : P[nb]? = some (dNeigh nx nb)) {n : Nat} (hn : 4 ≤ n) {rows : List (List Int)} (hl : rows.length ≤ 100000) (hr : ∀ r ∈ rows, r.length ≤ 100000) {g : G} (hg : GS g) :
    Rs (runF P n nb [stD, rowsD rows] g) (fun d g' => (∃ m, d = rowsD m ∧ Nb (Nb NbI) rows m) ∧ GS g') NoE :=
  nb_seq (e := mkT) (N := Nb NbI) hN hB (by omega) hl okE_rows (fun a ha g hg => nb_row hN hB (by omega) (hr a ha) hg) hg
end
/-- all numbers of rows so -/
def AllR (p : Int → Prop) (rows : List (List Int)) : Prop := ∀ r ∈ rows, ∀ x ∈ r, p x
theorem nb_bound {rows m : List (List Int)} {a b : Int} (h : Nb (Nb NbI) rows m) (hp : AllR (fun x => a ≤ x ∧ x ≤ b) rows) : AllR (fun x => a - 1 ≤ x ∧ x ≤ b + 1) m :=
  h.all (p := fun r => ∀ x ∈ r, a ≤ x ∧ x ≤ b) (q := fun r => ∀ x ∈ r, a - 1 ≤ x ∧ x ≤ b + 1) hp (fun r hr x hx => by have := hr x hx; omega) fun r s hr hN => hN.all (p := fun x => a ≤ x ∧ x ≤ b) hr (fun x hx => by omega) fun x y hx hy => by rcases hy with rfl | rfl <;> omega
theorem nb_lens {rows m : List (List Int)} {k : Nat} (h : Nb (Nb NbI) rows m) (hp : ∀ r ∈ rows, r.length ≤ k) : ∀ r ∈ m, r.length ≤ k :=
  h.all (p := fun r => r.length ≤ k) hp (fun r hr => hr) fun r s hr hN => Nat.le_trans hN.len hr
theorem nbI_bound {r m : List Int} {a b : Int} (h : Nb NbI r m) (hp : ∀ x ∈ r, a ≤ x ∧ x ≤ b) : ∀ x ∈ m, a - 1 ≤ x ∧ x ≤ b + 1 :=
  h.all (p := fun x => a ≤ x ∧ x ≤ b) hp (fun x hx => by omega) fun x y hx hy => by rcases hy with rfl | rfl <;> omega
theorem okE_str (s : String) : okE (.str (Str.ofString s)) = true := (Od.str (k := 0) (lay_ofString s)).okE (by decide)
theorem getD_lt {α : Type} {l : List α} {k : Nat} {d : α} (h : k < l.length) : l.getD k d = l[k] := by simp [List.getD, h]
theorem told2 {w : Str} {d : D} (h : told w 2 d = true) : ∃ x, d = .tuple [.str w, x] := by
  obtain ⟨r, rfl, hr⟩ := told_iff.mp h
  match r, hr with
  | [x], _ => exact ⟨x, rfl⟩
theorem told3 {w : Str} {d : D} (h : told w 3 d = true) : ∃ x y, d = .tuple [.str w, x, y] := by
  obtain ⟨r, rfl, hr⟩ := told_iff.mp h
  match r, hr with
  | [x, y], _ => exact ⟨x, y, rfl⟩
theorem told4 {w : Str} {d : D} (h : told w 4 d = true) : ∃ x y z, d = .tuple [.str w, x, y, z] := by
  obtain ⟨r, rfl, hr⟩ := told_iff.mp h
  match r, hr with
  | [x, y, z], _ => exact ⟨x, y, z, rfl⟩
theorem same_untold {w : Str} {k : Nat} {d e : D} (h : told w k d = false) (he : told w k e = true) : same d e = false := same_no fun h2 => by rw [h2, he] at h; cases h
section
variable {x y z u : D} {g : G}
@[simp] theorem ixT0 {r : List D} : ixG (.tuple (x :: r)) (.int 0) g = some x := by rw [ixG_T]; exact l0
@[simp] theorem ixT1 {r : List D} : ixG (.tuple (x :: y :: r)) (.int 1) g = some y := by rw [ixG_T]; exact l1
@[simp] theorem ixT2 {r : List D} : ixG (.tuple (x :: y :: z :: r)) (.int 2) g = some z := by rw [ixG_T]; exact l2
@[simp] theorem ixT3 {r : List D} : ixG (.tuple (x :: y :: z :: u :: r)) (.int 3) g = some u := by
  have := ixT_nat (xs := x :: y :: z :: u :: r) (k := 3) (g := g) (by simp)
  simpa using this
@[simp] theorem ixM0 {a : Int} {r : List Int} : ixG (mkT (a :: r)) (.int 0) g = some (.int a) := ixT0
@[simp] theorem ixM1 {a b : Int} {r : List Int} : ixG (mkT (a :: b :: r)) (.int 1) g = some (.int b) := ixT1
@[simp] theorem ixM2 {a b c : Int} {r : List Int} : ixG (mkT (a :: b :: c :: r)) (.int 2) g = some (.int c) := ixT2
@[simp] theorem ixM3 {a b c d : Int} {r : List Int} : ixG (mkT (a :: b :: c :: d :: r)) (.int 3) g = some (.int d) := ixT3
end
theorem ask_ok {d : D} (h : Ask d) {w : Str} {k : Nat} (ht : told w k d = true) : Oz 40 20000 d ∧ okE d = true := by
  rcases h with h | rfl
  · exact ⟨h, h.1.okE (by decide)⟩
  · simp [told] at ht
/-- a part of what is asked -/
theorem ask_part {ds : List D} (h : Ask (.tuple ds)) {x : D} (hx : x ∈ ds) : Od 39 x := by
  rcases h with h | h
  · exact (Od.tup.mp h.1).2 x hx
  · cases h
theorem nob_of_wholes {k : Nat} {d : D} (h : wholes k d = true) : nob d = true := by
  obtain ⟨r, rfl, _⟩ := wholes_iff.mp h
  exact nob_mkT r
end PT
namespace PT
open PySem

theorem repr_due {Φ : Fn} {ρ : Env} {g : G} {i j : Nat} {w : Str} {k : Nat} {d : D} {es : List D} (hd : Ask d) (ht : told w k d = true) (hi : gv ρ i = some d) (hj : gv ρ j = some (.tuple (.str w :: es))) (tol : Tol (.tuple (.str w :: es))) (hs : solL es = true) (hne : es ≠ []) :
    evE Φ (.cmp .eq (.b1 .repr (.var i)) (.b1 .repr (.var j))) ρ g = .ok (.bool (same d (.tuple (.str w :: es)))) g := by
  obtain ⟨r, rfl, _⟩ := told_iff.mp ht
  have o1 := (ask_ok hd ht).1
  have o2 : Oz 40 20000 (.tuple (.str w :: es)) := (tol.ask).elim id fun h => nomatch h
  obtain ⟨a1, a2⟩ := repr_ok o1 (by decide) (by decide)
  obtain ⟨b1, b2⟩ := repr_ok o2 (by decide) (by decide)
  have hn : nddL r = true := by
    have := oq_ndd _ o1.1.oq
    simp only [ndd, nddL, Bool.true_and] at this
    exact this
  have hc := cmp_eq ⟨a2, b2⟩
  rw [repr_cmp hn hs hne] at hc
  simp only [eB_cons, eB_nil, eS_asg, eS_iff, eS_ret, eS_ex, eS_rai, eS_aug, eS_par, eS_unp, eS_app, eS_ext, eS_asgO, eS_six, eS_brk, eE_var, eE_own, eE_int, eE_bl, eE_non, eE_str, eE_glob, eE_bin, eE_neg, eE_not, eE_and, eE_or, eE_cmp, eE_ch2, eE_isN, eE_isNN, eE_isNT, eE_ife, eE_tup, eE_lst, eE_dct0, eE_ix, eE_sl, eE_rev, eE_call, eE_b1, eE_b2, eE_isi, eE_join, eL_nil, eL_cons, eA_nil, eA_one, eA_cons, eO_nil, eO_one, eO_cons, eP_no, eP_yes, eC_no, eC_yes, eI_seq, gv_z, gv_s, sv_z, sv_s, bw_ok, bw_exc, Res.ofO_some, Option.map_some, tru_bool, tru_none, intOf_int, noneD, kB, tgD, kT, isi_n, isi_b, isi_i, isi_s, isi_t, isi_l, cutD_T, cutD_L, revD_T, revD_L, bin_add, bin_sub, cmp_lt, cmp_le, cmp_gt, cmp_ge, cmp_eqI, cmp_neI, b1_lenL, b1_lenT, b1_tupL, b1_tupT, b1_lstL, b1_lstT, b1_int, Bool.false_eq_true, if_false, if_true, Bool.not_true, Bool.not_false, decide_true, decide_false, Rs_ok, Rs_exc, lstG, lstD, bindTs, bindT, svAll, wipeE, Option.bind_some, fin_rt, fin_nx, fin_exc, hi, hj, a1, b1, hc]
theorem eq_due {Φ : Fn} {ρ : Env} {g : G} {i j : Nat} {w : Str} {k : Nat} {d e : D} (hd : Ask d) (ht : told w k d = true) (hi : gv ρ i = some d) (hj : gv ρ j = some e) (tol : Tol e) (n1 : nob d = true) (n2 : nob e = true) :
    evE Φ (.cmp .eq (.var i) (.var j)) ρ g = .ok (.bool (same d e)) g := by
  have hc := cmp_eq ⟨(ask_ok hd ht).2, tol.nq.okE (by decide)⟩
  rw [eqv_same n1 n2] at hc
  simp only [eB_cons, eB_nil, eS_asg, eS_iff, eS_ret, eS_ex, eS_rai, eS_aug, eS_par, eS_unp, eS_app, eS_ext, eS_asgO, eS_six, eS_brk, eE_var, eE_own, eE_int, eE_bl, eE_non, eE_str, eE_glob, eE_bin, eE_neg, eE_not, eE_and, eE_or, eE_cmp, eE_ch2, eE_isN, eE_isNN, eE_isNT, eE_ife, eE_tup, eE_lst, eE_dct0, eE_ix, eE_sl, eE_rev, eE_call, eE_b1, eE_b2, eE_isi, eE_join, eL_nil, eL_cons, eA_nil, eA_one, eA_cons, eO_nil, eO_one, eO_cons, eP_no, eP_yes, eC_no, eC_yes, eI_seq, gv_z, gv_s, sv_z, sv_s, bw_ok, bw_exc, Res.ofO_some, Option.map_some, tru_bool, tru_none, intOf_int, noneD, kB, tgD, kT, isi_n, isi_b, isi_i, isi_s, isi_t, isi_l, cutD_T, cutD_L, revD_T, revD_L, bin_add, bin_sub, cmp_lt, cmp_le, cmp_gt, cmp_ge, cmp_eqI, cmp_neI, b1_lenL, b1_lenT, b1_tupL, b1_tupT, b1_lstL, b1_lstT, b1_int, Bool.false_eq_true, if_false, if_true, Bool.not_true, Bool.not_false, decide_true, decide_false, Rs_ok, Rs_exc, lstG, lstD, bindTs, bindT, svAll, wipeE, Option.bind_some, fin_rt, fin_nx, fin_exc, hi, hj, hc]
section
variable {Φ : Fn} {ρ : Env} {g : G} {i j it aw : Nat} {w : Str} {d : D}
/-- told, a tuple, shown alike -/
theorem jR2 (hd : Ask d) (ht : ∀ g, Φ it [d, .str w, .int 2] g = .ok (.bool (told w 2 d)) g) (hi : gv ρ i = some d) {es : List D} (hj : gv ρ j = some (.tuple [.str w, .tuple es])) (tol : Tol (.tuple [.str w, .tuple es])) (hs : solL es = true) :
    evE Φ (.and (.call it [.var i, .str w, .int 2]) [.isi .tuple (.ix (.var i) (.int 1)), .cmp .eq (.b1 .repr (.var i)) (.b1 .repr (.var j))]) ρ g = .ok (.bool (same d (.tuple [.str w, .tuple es]))) g := by
  cases hb : told w 2 d with
  | false =>
    rw [hb] at ht
    rw [same_untold hb (told_iff.mpr ⟨_, rfl, rfl⟩)]
    simp only [eB_cons, eB_nil, eS_asg, eS_iff, eS_ret, eS_ex, eS_rai, eS_aug, eS_par, eS_unp, eS_app, eS_ext, eS_asgO, eS_six, eS_brk, eE_var, eE_own, eE_int, eE_bl, eE_non, eE_str, eE_glob, eE_bin, eE_neg, eE_not, eE_and, eE_or, eE_cmp, eE_ch2, eE_isN, eE_isNN, eE_isNT, eE_ife, eE_tup, eE_lst, eE_dct0, eE_ix, eE_sl, eE_rev, eE_call, eE_b1, eE_b2, eE_isi, eE_join, eL_nil, eL_cons, eA_nil, eA_one, eA_cons, eO_nil, eO_one, eO_cons, eP_no, eP_yes, eC_no, eC_yes, eI_seq, gv_z, gv_s, sv_z, sv_s, bw_ok, bw_exc, Res.ofO_some, Option.map_some, tru_bool, tru_none, intOf_int, noneD, kB, tgD, kT, isi_n, isi_b, isi_i, isi_s, isi_t, isi_l, cutD_T, cutD_L, revD_T, revD_L, bin_add, bin_sub, cmp_lt, cmp_le, cmp_gt, cmp_ge, cmp_eqI, cmp_neI, b1_lenL, b1_lenT, b1_tupL, b1_tupT, b1_lstL, b1_lstT, b1_int, Bool.false_eq_true, if_false, if_true, Bool.not_true, Bool.not_false, decide_true, decide_false, Rs_ok, Rs_exc, lstG, lstD, bindTs, bindT, svAll, wipeE, Option.bind_some, fin_rt, fin_nx, fin_exc, hi, ht]
  | true =>
    obtain ⟨x, rfl⟩ := told2 hb
    rw [hb] at ht
    have hk := isi_kB (kd := .tuple) (ask_part hd (x := x) (by simp)).nd
    have hc := repr_due (Φ := Φ) (g := g) hd hb hi hj tol (by simp [solL, sol, hs]) (by simp)
    by_cases hx : ∃ ys, x = .tuple ys
    · obtain ⟨ys, rfl⟩ := hx
      simp only [eE_and, eE_call, eL_cons, eL_nil, eE_var, hi, Res.ofO_some, bw_ok, eE_str, eE_int, ht, tru_bool, if_true, eA_cons, eE_isi, eE_ix, ixT1, isi_t, Option.map_some, kB, tgD, kT, eA_one, hc]
    · have e1 : same (.tuple [.str w, x]) (.tuple [.str w, .tuple es]) = false := same_no fun e => by
        injection e with e
        simp only [List.cons.injEq, and_true, true_and] at e
        exact hx ⟨_, e⟩
      have e2 : kB .tuple x = false := by
        cases x with
        | tuple ys => exact absurd ⟨ys, rfl⟩ hx
        | _ => rfl
      rw [e2] at hk
      rw [e1]
      simp only [eB_cons, eB_nil, eS_asg, eS_iff, eS_ret, eS_ex, eS_rai, eS_aug, eS_par, eS_unp, eS_app, eS_ext, eS_asgO, eS_six, eS_brk, eE_var, eE_own, eE_int, eE_bl, eE_non, eE_str, eE_glob, eE_bin, eE_neg, eE_not, eE_and, eE_or, eE_cmp, eE_ch2, eE_isN, eE_isNN, eE_isNT, eE_ife, eE_tup, eE_lst, eE_dct0, eE_ix, eE_sl, eE_rev, eE_call, eE_b1, eE_b2, eE_isi, eE_join, eL_nil, eL_cons, eA_nil, eA_one, eA_cons, eO_nil, eO_one, eO_cons, eP_no, eP_yes, eC_no, eC_yes, eI_seq, gv_z, gv_s, sv_z, sv_s, bw_ok, bw_exc, Res.ofO_some, Option.map_some, tru_bool, tru_none, intOf_int, noneD, kB, tgD, kT, isi_n, isi_b, isi_i, isi_s, isi_t, isi_l, cutD_T, cutD_L, revD_T, revD_L, bin_add, bin_sub, cmp_lt, cmp_le, cmp_gt, cmp_ge, cmp_eqI, cmp_neI, b1_lenL, b1_lenT, b1_tupL, b1_tupT, b1_lstL, b1_lstT, b1_int, Bool.false_eq_true, if_false, if_true, Bool.not_true, Bool.not_false, decide_true, decide_false, Rs_ok, Rs_exc, lstG, lstD, bindTs, bindT, svAll, wipeE, Option.bind_some, fin_rt, fin_nx, fin_exc, hi, ht, ixT1, hk]
/-- told, shown alike -/
theorem jR1 (hd : Ask d) (ht : ∀ g, Φ it [d, .str w, .int 2] g = .ok (.bool (told w 2 d)) g) (hi : gv ρ i = some d) {e : D} (hj : gv ρ j = some (.tuple [.str w, e])) (tol : Tol (.tuple [.str w, e])) (hs : sol e = true) :
    evE Φ (.and (.call it [.var i, .str w, .int 2]) [.cmp .eq (.b1 .repr (.var i)) (.b1 .repr (.var j))]) ρ g = .ok (.bool (same d (.tuple [.str w, e]))) g := by
  cases hb : told w 2 d with
  | false =>
    rw [hb] at ht
    rw [same_untold hb (told_iff.mpr ⟨_, rfl, rfl⟩)]
    simp only [eB_cons, eB_nil, eS_asg, eS_iff, eS_ret, eS_ex, eS_rai, eS_aug, eS_par, eS_unp, eS_app, eS_ext, eS_asgO, eS_six, eS_brk, eE_var, eE_own, eE_int, eE_bl, eE_non, eE_str, eE_glob, eE_bin, eE_neg, eE_not, eE_and, eE_or, eE_cmp, eE_ch2, eE_isN, eE_isNN, eE_isNT, eE_ife, eE_tup, eE_lst, eE_dct0, eE_ix, eE_sl, eE_rev, eE_call, eE_b1, eE_b2, eE_isi, eE_join, eL_nil, eL_cons, eA_nil, eA_one, eA_cons, eO_nil, eO_one, eO_cons, eP_no, eP_yes, eC_no, eC_yes, eI_seq, gv_z, gv_s, sv_z, sv_s, bw_ok, bw_exc, Res.ofO_some, Option.map_some, tru_bool, tru_none, intOf_int, noneD, kB, tgD, kT, isi_n, isi_b, isi_i, isi_s, isi_t, isi_l, cutD_T, cutD_L, revD_T, revD_L, bin_add, bin_sub, cmp_lt, cmp_le, cmp_gt, cmp_ge, cmp_eqI, cmp_neI, b1_lenL, b1_lenT, b1_tupL, b1_tupT, b1_lstL, b1_lstT, b1_int, Bool.false_eq_true, if_false, if_true, Bool.not_true, Bool.not_false, decide_true, decide_false, Rs_ok, Rs_exc, lstG, lstD, bindTs, bindT, svAll, wipeE, Option.bind_some, fin_rt, fin_nx, fin_exc, hi, ht]
  | true =>
    rw [hb] at ht
    have hc := repr_due (Φ := Φ) (g := g) hd hb hi hj tol (by simp [solL, hs]) (by simp)
    simp only [eE_and, eE_call, eL_cons, eL_nil, eE_var, hi, Res.ofO_some, bw_ok, eE_str, eE_int, ht, tru_bool, if_true, eA_one, hc]
/-- told, so many whole numbers, alike -/
theorem jW2 (hd : Ask d) (ht : ∀ g, Φ it [d, .str w, .int 2] g = .ok (.bool (told w 2 d)) g) {m : Nat} (hw : ∀ x, Aq x → ∀ g, Φ aw [x, .int m] g = .ok (.bool (wholes m x)) g) (hi : gv ρ i = some d) {r : List Int} (hr : r.length = m) (hj : gv ρ j = some (.tuple [.str w, mkT r])) (tol : Tol (.tuple [.str w, mkT r]))
    {lt : T} (hl : evE Φ lt ρ g = .ok (.int m) g) :
    evE Φ (.and (.call it [.var i, .str w, .int 2]) [.call aw [.ix (.var i) (.int 1), lt], .cmp .eq (.var i) (.var j)]) ρ g = .ok (.bool (same d (.tuple [.str w, mkT r]))) g := by
  cases hb : told w 2 d with
  | false =>
    rw [hb] at ht
    rw [same_untold hb (told_iff.mpr ⟨_, rfl, rfl⟩)]
    simp only [eB_cons, eB_nil, eS_asg, eS_iff, eS_ret, eS_ex, eS_rai, eS_aug, eS_par, eS_unp, eS_app, eS_ext, eS_asgO, eS_six, eS_brk, eE_var, eE_own, eE_int, eE_bl, eE_non, eE_str, eE_glob, eE_bin, eE_neg, eE_not, eE_and, eE_or, eE_cmp, eE_ch2, eE_isN, eE_isNN, eE_isNT, eE_ife, eE_tup, eE_lst, eE_dct0, eE_ix, eE_sl, eE_rev, eE_call, eE_b1, eE_b2, eE_isi, eE_join, eL_nil, eL_cons, eA_nil, eA_one, eA_cons, eO_nil, eO_one, eO_cons, eP_no, eP_yes, eC_no, eC_yes, eI_seq, gv_z, gv_s, sv_z, sv_s, bw_ok, bw_exc, Res.ofO_some, Option.map_some, tru_bool, tru_none, intOf_int, noneD, kB, tgD, kT, isi_n, isi_b, isi_i, isi_s, isi_t, isi_l, cutD_T, cutD_L, revD_T, revD_L, bin_add, bin_sub, cmp_lt, cmp_le, cmp_gt, cmp_ge, cmp_eqI, cmp_neI, b1_lenL, b1_lenT, b1_tupL, b1_tupT, b1_lstL, b1_lstT, b1_int, Bool.false_eq_true, if_false, if_true, Bool.not_true, Bool.not_false, decide_true, decide_false, Rs_ok, Rs_exc, lstG, lstD, bindTs, bindT, svAll, wipeE, Option.bind_some, fin_rt, fin_nx, fin_exc, hi, ht]
  | true =>
    obtain ⟨x, rfl⟩ := told2 hb
    rw [hb] at ht
    have hx := hw x (od_aq (ask_part hd (x := x) (by simp)) (by decide))
    cases h1 : wholes m x with
    | false =>
      rw [h1] at hx
      have e1 : same (.tuple [.str w, x]) (.tuple [.str w, mkT r]) = false := same_no fun e => by
        injection e with e
        simp only [List.cons.injEq, and_true, true_and] at e
        subst e
        rw [wholes_iff.mpr ⟨_, rfl, hr⟩] at h1
        cases h1
      rw [e1]
      simp only [eB_cons, eB_nil, eS_asg, eS_iff, eS_ret, eS_ex, eS_rai, eS_aug, eS_par, eS_unp, eS_app, eS_ext, eS_asgO, eS_six, eS_brk, eE_var, eE_own, eE_int, eE_bl, eE_non, eE_str, eE_glob, eE_bin, eE_neg, eE_not, eE_and, eE_or, eE_cmp, eE_ch2, eE_isN, eE_isNN, eE_isNT, eE_ife, eE_tup, eE_lst, eE_dct0, eE_ix, eE_sl, eE_rev, eE_call, eE_b1, eE_b2, eE_isi, eE_join, eL_nil, eL_cons, eA_nil, eA_one, eA_cons, eO_nil, eO_one, eO_cons, eP_no, eP_yes, eC_no, eC_yes, eI_seq, gv_z, gv_s, sv_z, sv_s, bw_ok, bw_exc, Res.ofO_some, Option.map_some, tru_bool, tru_none, intOf_int, noneD, kB, tgD, kT, isi_n, isi_b, isi_i, isi_s, isi_t, isi_l, cutD_T, cutD_L, revD_T, revD_L, bin_add, bin_sub, cmp_lt, cmp_le, cmp_gt, cmp_ge, cmp_eqI, cmp_neI, b1_lenL, b1_lenT, b1_tupL, b1_tupT, b1_lstL, b1_lstT, b1_int, Bool.false_eq_true, if_false, if_true, Bool.not_true, Bool.not_false, decide_true, decide_false, Rs_ok, Rs_exc, lstG, lstD, bindTs, bindT, svAll, wipeE, Option.bind_some, fin_rt, fin_nx, fin_exc, hi, ht, ixT1, hl, hx]
    | true =>
      rw [h1] at hx
      have hc := eq_due (Φ := Φ) (g := g) hd hb hi hj tol (by simp [nob, nobL, nob_of_wholes h1]) (by simp [nob, nobL, nob_mkT])
      simp only [eE_and, eE_call, eL_cons, eL_nil, eE_var, hi, Res.ofO_some, bw_ok, eE_str, eE_int, ht, tru_bool, if_true, eA_cons, eA_one, eE_ix, ixT1, hl, hx, hc]
/-- the first row of a judge of three parts, and its last -/
theorem jW3 (hd : Ask d) (ht : ∀ g, Φ it [d, .str w, .int 3] g = .ok (.bool (told w 3 d)) g) {m k : Nat} (hw : ∀ x, Aq x → ∀ g, Φ aw [x, .int m] g = .ok (.bool (wholes m x)) g) (hw2 : ∀ x, Aq x → ∀ g, Φ aw [x, .int k] g = .ok (.bool (wholes k x)) g) (hi : gv ρ i = some d) {r s : List Int} (hr : r.length = m) (hk : s.length = k) (hj : gv ρ j = some (.tuple [.str w, mkT r, mkT s])) (tol : Tol (.tuple [.str w, mkT r, mkT s]))
    {lt lu : T} (hl : ∀ g, evE Φ lt ρ g = .ok (.int m) g) (hu : ∀ g, evE Φ lu ρ g = .ok (.int k) g) :
    fin (evB Φ [.iff (.or (.not (.call it [.var i, .str w, .int 3])) [.not (.call aw [.ix (.var i) (.int 1), lt])]) [.ret (.bl false)] [], .ret (.and (.call aw [.ix (.var i) (.int 2), lu]) [.cmp .eq (.var i) (.var j)])] ρ g) = .ok (.bool (same d (.tuple [.str w, mkT r, mkT s]))) g := by
  cases hb : told w 3 d with
  | false =>
    rw [hb] at ht
    rw [same_untold hb (told_iff.mpr ⟨_, rfl, rfl⟩)]
    simp only [eB_cons, eB_nil, eS_asg, eS_iff, eS_ret, eS_ex, eS_rai, eS_aug, eS_par, eS_unp, eS_app, eS_ext, eS_asgO, eS_six, eS_brk, eE_var, eE_own, eE_int, eE_bl, eE_non, eE_str, eE_glob, eE_bin, eE_neg, eE_not, eE_and, eE_or, eE_cmp, eE_ch2, eE_isN, eE_isNN, eE_isNT, eE_ife, eE_tup, eE_lst, eE_dct0, eE_ix, eE_sl, eE_rev, eE_call, eE_b1, eE_b2, eE_isi, eE_join, eL_nil, eL_cons, eA_nil, eA_one, eA_cons, eO_nil, eO_one, eO_cons, eP_no, eP_yes, eC_no, eC_yes, eI_seq, gv_z, gv_s, sv_z, sv_s, bw_ok, bw_exc, Res.ofO_some, Option.map_some, tru_bool, tru_none, intOf_int, noneD, kB, tgD, kT, isi_n, isi_b, isi_i, isi_s, isi_t, isi_l, cutD_T, cutD_L, revD_T, revD_L, bin_add, bin_sub, cmp_lt, cmp_le, cmp_gt, cmp_ge, cmp_eqI, cmp_neI, b1_lenL, b1_lenT, b1_tupL, b1_tupT, b1_lstL, b1_lstT, b1_int, Bool.false_eq_true, if_false, if_true, Bool.not_true, Bool.not_false, decide_true, decide_false, Rs_ok, Rs_exc, lstG, lstD, bindTs, bindT, svAll, wipeE, Option.bind_some, fin_rt, fin_nx, fin_exc, hi, ht]
  | true =>
    obtain ⟨x, y, rfl⟩ := told3 hb
    rw [hb] at ht
    have hx := hw x (od_aq (ask_part hd (x := x) (by simp)) (by decide))
    have hy := hw2 y (od_aq (ask_part hd (x := y) (by simp)) (by decide))
    have no : wholes m x = false ∨ wholes k y = false → same (.tuple [.str w, x, y]) (.tuple [.str w, mkT r, mkT s]) = false := fun h2 => same_no fun e => by
      injection e with e
      simp only [List.cons.injEq, and_true, true_and] at e
      obtain ⟨rfl, rfl⟩ := e
      rcases h2 with h2 | h2
      · rw [wholes_iff.mpr ⟨_, rfl, hr⟩] at h2; cases h2
      · rw [wholes_iff.mpr ⟨_, rfl, hk⟩] at h2; cases h2
    cases h1 : wholes m x with
    | false =>
      rw [h1] at hx
      rw [no (.inl h1)]
      simp only [eB_cons, eB_nil, eS_asg, eS_iff, eS_ret, eS_ex, eS_rai, eS_aug, eS_par, eS_unp, eS_app, eS_ext, eS_asgO, eS_six, eS_brk, eE_var, eE_own, eE_int, eE_bl, eE_non, eE_str, eE_glob, eE_bin, eE_neg, eE_not, eE_and, eE_or, eE_cmp, eE_ch2, eE_isN, eE_isNN, eE_isNT, eE_ife, eE_tup, eE_lst, eE_dct0, eE_ix, eE_sl, eE_rev, eE_call, eE_b1, eE_b2, eE_isi, eE_join, eL_nil, eL_cons, eA_nil, eA_one, eA_cons, eO_nil, eO_one, eO_cons, eP_no, eP_yes, eC_no, eC_yes, eI_seq, gv_z, gv_s, sv_z, sv_s, bw_ok, bw_exc, Res.ofO_some, Option.map_some, tru_bool, tru_none, intOf_int, noneD, kB, tgD, kT, isi_n, isi_b, isi_i, isi_s, isi_t, isi_l, cutD_T, cutD_L, revD_T, revD_L, bin_add, bin_sub, cmp_lt, cmp_le, cmp_gt, cmp_ge, cmp_eqI, cmp_neI, b1_lenL, b1_lenT, b1_tupL, b1_tupT, b1_lstL, b1_lstT, b1_int, Bool.false_eq_true, if_false, if_true, Bool.not_true, Bool.not_false, decide_true, decide_false, Rs_ok, Rs_exc, lstG, lstD, bindTs, bindT, svAll, wipeE, Option.bind_some, fin_rt, fin_nx, fin_exc, hi, ht, ixT1, hl, hx]
    | true =>
      rw [h1] at hx
      cases h2 : wholes k y with
      | false =>
        rw [h2] at hy
        rw [no (.inr h2)]
        simp only [eB_cons, eB_nil, eS_asg, eS_iff, eS_ret, eS_ex, eS_rai, eS_aug, eS_par, eS_unp, eS_app, eS_ext, eS_asgO, eS_six, eS_brk, eE_var, eE_own, eE_int, eE_bl, eE_non, eE_str, eE_glob, eE_bin, eE_neg, eE_not, eE_and, eE_or, eE_cmp, eE_ch2, eE_isN, eE_isNN, eE_isNT, eE_ife, eE_tup, eE_lst, eE_dct0, eE_ix, eE_sl, eE_rev, eE_call, eE_b1, eE_b2, eE_isi, eE_join, eL_nil, eL_cons, eA_nil, eA_one, eA_cons, eO_nil, eO_one, eO_cons, eP_no, eP_yes, eC_no, eC_yes, eI_seq, gv_z, gv_s, sv_z, sv_s, bw_ok, bw_exc, Res.ofO_some, Option.map_some, tru_bool, tru_none, intOf_int, noneD, kB, tgD, kT, isi_n, isi_b, isi_i, isi_s, isi_t, isi_l, cutD_T, cutD_L, revD_T, revD_L, bin_add, bin_sub, cmp_lt, cmp_le, cmp_gt, cmp_ge, cmp_eqI, cmp_neI, b1_lenL, b1_lenT, b1_tupL, b1_tupT, b1_lstL, b1_lstT, b1_int, Bool.false_eq_true, if_false, if_true, Bool.not_true, Bool.not_false, decide_true, decide_false, Rs_ok, Rs_exc, lstG, lstD, bindTs, bindT, svAll, wipeE, Option.bind_some, fin_rt, fin_nx, fin_exc, hi, ht, ixT1, ixT2, hl, hu, hx, hy]
      | true =>
        rw [h2] at hy
        have hc := eq_due (Φ := Φ) (g := g) hd hb hi hj tol (by simp [nob, nobL, nob_of_wholes h1, nob_of_wholes h2]) (by simp [nob, nobL, nob_mkT])
        rw [eE_cmp] at hc
        simp only [eB_cons, eB_nil, eS_asg, eS_iff, eS_ret, eS_ex, eS_rai, eS_aug, eS_par, eS_unp, eS_app, eS_ext, eS_asgO, eS_six, eS_brk, eE_var, eE_own, eE_int, eE_bl, eE_non, eE_str, eE_glob, eE_bin, eE_neg, eE_not, eE_and, eE_or, eE_cmp, eE_ch2, eE_isN, eE_isNN, eE_isNT, eE_ife, eE_tup, eE_lst, eE_dct0, eE_ix, eE_sl, eE_rev, eE_call, eE_b1, eE_b2, eE_isi, eE_join, eL_nil, eL_cons, eA_nil, eA_one, eA_cons, eO_nil, eO_one, eO_cons, eP_no, eP_yes, eC_no, eC_yes, eI_seq, gv_z, gv_s, sv_z, sv_s, bw_ok, bw_exc, Res.ofO_some, Option.map_some, tru_bool, tru_none, intOf_int, noneD, kB, tgD, kT, isi_n, isi_b, isi_i, isi_s, isi_t, isi_l, cutD_T, cutD_L, revD_T, revD_L, bin_add, bin_sub, cmp_lt, cmp_le, cmp_gt, cmp_ge, cmp_eqI, cmp_neI, b1_lenL, b1_lenT, b1_tupL, b1_tupT, b1_lstL, b1_lstT, b1_int, Bool.false_eq_true, if_false, if_true, Bool.not_true, Bool.not_false, decide_true, decide_false, Rs_ok, Rs_exc, lstG, lstD, bindTs, bindT, svAll, wipeE, Option.bind_some, fin_rt, fin_nx, fin_exc, hi, hj] at hc
        simp only [eB_cons, eB_nil, eS_asg, eS_iff, eS_ret, eS_ex, eS_rai, eS_aug, eS_par, eS_unp, eS_app, eS_ext, eS_asgO, eS_six, eS_brk, eE_var, eE_own, eE_int, eE_bl, eE_non, eE_str, eE_glob, eE_bin, eE_neg, eE_not, eE_and, eE_or, eE_cmp, eE_ch2, eE_isN, eE_isNN, eE_isNT, eE_ife, eE_tup, eE_lst, eE_dct0, eE_ix, eE_sl, eE_rev, eE_call, eE_b1, eE_b2, eE_isi, eE_join, eL_nil, eL_cons, eA_nil, eA_one, eA_cons, eO_nil, eO_one, eO_cons, eP_no, eP_yes, eC_no, eC_yes, eI_seq, gv_z, gv_s, sv_z, sv_s, bw_ok, bw_exc, Res.ofO_some, Option.map_some, tru_bool, tru_none, intOf_int, noneD, kB, tgD, kT, isi_n, isi_b, isi_i, isi_s, isi_t, isi_l, cutD_T, cutD_L, revD_T, revD_L, bin_add, bin_sub, cmp_lt, cmp_le, cmp_gt, cmp_ge, cmp_eqI, cmp_neI, b1_lenL, b1_lenT, b1_tupL, b1_tupT, b1_lstL, b1_lstT, b1_int, Bool.false_eq_true, if_false, if_true, Bool.not_true, Bool.not_false, decide_true, decide_false, Rs_ok, Rs_exc, lstG, lstD, bindTs, bindT, svAll, wipeE, Option.bind_some, fin_rt, fin_nx, fin_exc, hi, ht, ixT1, ixT2, hl, hu, hx, hy, hj, hc]
end
/-- what same asks -/
theorem same_due {P : List Def} {s n : Nat} (hP : P[s]? = some (dSame s)) (hn : 31 ≤ n) {d e : D} (hd : Ask d) (tol : Tol e) (g : G) : runF P n s [d, e] g = .ok (.bool (same d e)) g :=
  same_run (k' := 40) hP (by decide) n 30 d e g (by omega) (by decide) (tol.nq.od (by have := tol.sz; omega)) (by
    rcases hd with hd | hd
    · exact .inl hd.1
    · exact .inr hd)
theorem cnt_sorted {p : Int → Bool} (hp : ∀ a b, a ≤ b → p b = true → p a = true) : ∀ {s : List Int}, s.Pairwise (· ≤ ·) → ∀ {j : Nat} (h : j < s.length), j < s.countP p ↔ p s[j] = true
  | [], _, j, h => absurd h (Nat.not_lt_zero _)
  | x :: s, hs, j, h => by
    have hs' := List.pairwise_cons.mp hs
    cases hx : p x with
    | false =>
      have : s.countP p = 0 := by
        rw [List.countP_eq_zero]
        intro y hy
        intro h2
        rw [hp x y (hs'.1 y hy) h2] at hx
        cases hx
      rw [List.countP_cons_of_neg (by simp [hx]), this]
      constructor
      · intro h; omega
      · intro h2
        exfalso
        have hm : (x :: s)[j] ∈ x :: s := List.getElem_mem h
        rcases List.mem_cons.mp hm with e | e
        · rw [e, hx] at h2; cases h2
        · have := hp x _ (hs'.1 _ e) h2
          rw [hx] at this; cases this
    | true =>
      rw [List.countP_cons_of_pos hx]
      cases j with
      | zero => simp [hx]
      | succ j =>
        have := cnt_sorted hp hs'.2 (j := j) (by simpa using h)
        simp only [List.getElem_cons_succ]
        rw [← this]
        omega
theorem cnt_len {α : Type} {p : α → Bool} {l : List α} : (l.filter p).length = l.countP p := (List.countP_eq_length_filter ..).symm
/-- a number's place when in order -/
theorem place_iff {l : List Int} {j : Nat} (h : j < l.length) {x : Int} : ((l.filter fun y => decide (y < x)).length ≤ j ∧ j < (l.filter fun y => decide (y ≤ x)).length) ↔ x = (sI l)[j]'(by rw [sI_len]; exact h) := by
  have hj : j < (sI l).length := by rw [sI_len]; exact h
  have c1 := cnt_sorted (p := fun y => decide (y < x)) (fun a b hab hb => by simp at *; omega) (sI_pw l) hj
  have c2 := cnt_sorted (p := fun y => decide (y ≤ x)) (fun a b hab hb => by simp at *; omega) (sI_pw l) hj
  rw [cnt_len, cnt_len, ← (sI_perm l).countP_eq, ← (sI_perm l).countP_eq]
  simp only [decide_eq_true_eq] at c1 c2
  constructor
  · rintro ⟨h1, h2⟩
    have := c2.mp h2
    have : ¬ (sI l)[j] < x := fun e => by have := c1.mpr e; omega
    omega
  · intro e
    refine ⟨?_, c2.mpr (by omega)⟩
    by_cases h3 : j < (sI l).countP fun y => decide (y < x)
    · have := c1.mp h3; omega
    · omega
theorem sol_rows (rows : List (List Int)) : sol (rowsD rows) = true := by
  simp only [rowsD, sol, solL_iff]
  intro d hd
  obtain ⟨r, _, rfl⟩ := List.mem_map.mp hd
  exact sol_mkT r
theorem nq_rows {k : Nat} {rows : List (List Int)} (h : ∀ r ∈ rows, ∀ i ∈ r, small i) : Nq (k + 2) (rowsD rows) := Nq.tup.mpr fun d hd => by
  obtain ⟨r, hr, rfl⟩ := List.mem_map.mp hd
  exact nq_mkT (h r hr)
theorem sz_rows {rows : List (List Int)} {k : Nat} (h : ∀ r ∈ rows, r.length ≤ k) : sz (rowsD rows) ≤ 1 + (1 + k) * rows.length := by
  simp only [rowsD, sz]
  have : szL (rows.map mkT) ≤ (1 + k) * rows.length := by
    induction rows with
    | nil => simp [szL]
    | cons r rows ih =>
      have := ih fun x hx => h x (List.mem_cons_of_mem _ hx)
      have := h r (List.mem_cons_self ..)
      simp only [List.map_cons, szL, sz_mkT, List.length_cons, Nat.mul_succ]
      omega
  omega
/-- the numbers of a row, each once, in order -/
def sS (r : List Int) : List Int := (dedI r).mergeSort leI
theorem ded_mem {r : List Int} {x : Int} : x ∈ dedI r ↔ x ∈ r := by unfold dedI; exact List.mem_eraseDups
theorem ded_facts : ∀ (n : Nat) (r : List Int), r.length ≤ n → (dedI r).length ≤ r.length ∧ (dedI r).Nodup
  | _, [], _ => ⟨Nat.le_refl _, List.nodup_nil⟩
  | 0, _ :: _, h => absurd h (by simp)
  | n + 1, a :: r, h => by
    have h1 : (r.filter fun b => !b == a).length ≤ r.length := List.length_filter_le _ _
    simp only [List.length_cons] at h
    obtain ⟨i1, i2⟩ := ded_facts n (r.filter fun b => !b == a) (by omega)
    unfold dedI at *
    rw [List.eraseDups_cons]
    refine ⟨by simp only [List.length_cons]; omega, List.nodup_cons.mpr ⟨fun hm => ?_, i2⟩⟩
    have := List.mem_eraseDups.mp hm
    simp at this
theorem ded_nodup (r : List Int) : (dedI r).Nodup := (ded_facts _ r (Nat.le_refl _)).2
theorem sS_nodup (r : List Int) : (sS r).Nodup := ((sI_perm _).nodup_iff).mpr (ded_nodup r)
theorem sS_pw (r : List Int) : (sS r).Pairwise (· < ·) := by
  have h1 := sI_pw (dedI r)
  have h2 := sS_nodup r
  exact (h1.and h2).imp fun ⟨a, b⟩ => by omega
theorem sS_mem {r : List Int} {x : Int} : x ∈ sS r ↔ x ∈ r := by unfold sS; rw [sI_mem, ded_mem]
theorem sS_len (r : List Int) : (sS r).length ≤ r.length := by
  unfold sS
  rw [sI_len]
  exact (ded_facts _ r (Nat.le_refl _)).1
theorem b1_sset {r : List Int} {d : D} (h : itemsD d = some (r.map .int)) (hl : r.length < 64) : b1D .sset d = some (mkL (sS r)) := by
  show (itemsD d).bind _ = _
  rw [h]
  simp only [Option.bind_some, intsD_map]
  rw [if_pos hl]
  rfl
theorem b1_lset {r : List Int} {d : D} (h : itemsD d = some (r.map .int)) (hl : r.length < 64) : b1D .lset d = some (.int (dedI r).length) := by
  show (itemsD d).bind _ = _
  rw [h]
  simp only [Option.bind_some, intsD_map]
  rw [if_pos hl]
theorem m1_count {r : List Int} {i : Int} : m1D .count (mkL r) (.int i) = some (.int (r.count i : Nat)) := by
  show (intsD (r.map .int)).map _ = _
  rw [intsD_map]
  rfl
theorem sol_told {w : Str} {es : List D} (h : ∀ e ∈ es, sol e = true) : solL es = true := solL_iff.mpr h
theorem foldl_max : ∀ (l : List Int) (a m : Int), (m = a ∨ m ∈ l) → a ≤ m → (∀ x ∈ l, x ≤ m) → l.foldl max a = m
  | [], a, m, h1, h2, _ => by
    rcases h1 with h1 | h1
    · exact h1.symm
    · cases h1
  | x :: l, a, m, h1, h2, h3 => by
    have hx := h3 x (List.mem_cons_self ..)
    refine foldl_max l (max a x) m ?_ (by omega) fun y hy => h3 y (List.mem_cons_of_mem _ hy)
    rcases h1 with h1 | h1
    · exact .inl (by omega)
    · rcases List.mem_cons.mp h1 with h1 | h1
      · exact .inl (by omega)
      · exact .inr h1
theorem maxI_eq {l : List Int} {m : Int} (h1 : m ∈ l) (h2 : ∀ x ∈ l, x ≤ m) : maxI l = some m := by
  cases l with
  | nil => cases h1
  | cons a l =>
    show some (l.foldl max a) = _
    rw [foldl_max l a m (List.mem_cons.mp h1) (h2 a (List.mem_cons_self ..)) fun x hx => h2 x (List.mem_cons_of_mem _ hx)]
theorem foldl_min : ∀ (l : List Int) (a m : Int), (m = a ∨ m ∈ l) → m ≤ a → (∀ x ∈ l, m ≤ x) → l.foldl min a = m
  | [], a, m, h1, h2, _ => by
    rcases h1 with h1 | h1
    · exact h1.symm
    · cases h1
  | x :: l, a, m, h1, h2, h3 => by
    have hx := h3 x (List.mem_cons_self ..)
    refine foldl_min l (min a x) m ?_ (by omega) fun y hy => h3 y (List.mem_cons_of_mem _ hy)
    rcases h1 with h1 | h1
    · exact .inl (by omega)
    · rcases List.mem_cons.mp h1 with h1 | h1
      · exact .inl (by omega)
      · exact .inr h1
theorem minI_eq {l : List Int} {m : Int} (h1 : m ∈ l) (h2 : ∀ x ∈ l, m ≤ x) : minI l = some m := by
  cases l with
  | nil => cases h1
  | cons a l =>
    show some (l.foldl min a) = _
    rw [foldl_min l a m (List.mem_cons.mp h1) (h2 a (List.mem_cons_self ..)) fun x hx => h2 x (List.mem_cons_of_mem _ hx)]
theorem max_ex : ∀ {l : List Int}, l ≠ [] → ∃ m, m ∈ l ∧ ∀ x ∈ l, x ≤ m
  | [], h => absurd rfl h
  | [a], _ => ⟨a, by simp, by simp⟩
  | a :: b :: l, _ => by
    obtain ⟨m, h1, h2⟩ := max_ex (l := b :: l) (by simp)
    by_cases h : m ≤ a
    · exact ⟨a, by simp, fun x hx => by
        rcases List.mem_cons.mp hx with rfl | hx
        · exact Int.le_refl _
        · exact Int.le_trans (h2 x hx) h⟩
    · exact ⟨m, List.mem_cons_of_mem _ h1, fun x hx => by
        rcases List.mem_cons.mp hx with rfl | hx
        · omega
        · exact h2 x hx⟩
theorem min_ex : ∀ {l : List Int}, l ≠ [] → ∃ m, m ∈ l ∧ ∀ x ∈ l, m ≤ x
  | [], h => absurd rfl h
  | [a], _ => ⟨a, by simp, by simp⟩
  | a :: b :: l, _ => by
    obtain ⟨m, h1, h2⟩ := min_ex (l := b :: l) (by simp)
    by_cases h : a ≤ m
    · exact ⟨a, by simp, fun x hx => by
        rcases List.mem_cons.mp hx with rfl | hx
        · exact Int.le_refl _
        · exact Int.le_trans h (h2 x hx)⟩
    · exact ⟨m, List.mem_cons_of_mem _ h1, fun x hx => by
        rcases List.mem_cons.mp hx with rfl | hx
        · omega
        · exact h2 x hx⟩
theorem eqv_refl_mkL {r : List Int} : PyData.eqv (mkL r) (mkL r) = true := by
  have : nob (mkL r) = true := by
    simp only [mkL, nob, nobL_iff]
    intro d hd
    obtain ⟨i, _, rfl⟩ := List.mem_map.mp hd
    rfl
  exact (eqv_iff _ _ this this).mpr rfl
theorem eqv_mkT_nil {r : List Int} : PyData.eqv (mkT r) (.tuple []) = r.isEmpty := by
  unfold mkT
  rw [eqv_nil]
  cases r <;> rfl
theorem gvs1 {ρ : Env} {i : Nat} {x : D} (h : gvs ρ [i] = some [x]) : gv ρ i = some x := by
  unfold gvs at h
  cases h4 : gv ρ i with
  | none => simp [h4] at h
  | some y => simp [h4] at h; rw [h]
theorem gvs2 {ρ : Env} {i j : Nat} {x y : D} (h : gvs ρ [i, j] = some [x, y]) : gv ρ i = some x ∧ gv ρ j = some y := by
  unfold gvs at h
  cases h4 : gv ρ i with
  | none => simp [h4] at h
  | some u =>
    cases h5 : gv ρ j with
    | none => simp [h4, h5] at h
    | some v => simp [h4, h5] at h; rw [h.1, h.2]; exact ⟨rfl, rfl⟩
theorem gvs3 {ρ : Env} {i j k : Nat} {x y z : D} (h : gvs ρ [i, j, k] = some [x, y, z]) : gv ρ i = some x ∧ gv ρ j = some y ∧ gv ρ k = some z := by
  unfold gvs at h
  cases h4 : gv ρ i with
  | none => simp [h4] at h
  | some u =>
    cases h5 : gv ρ j with
    | none => simp [h4, h5] at h
    | some v =>
      cases h6 : gv ρ k with
      | none => simp [h4, h5, h6] at h
      | some w => simp [h4, h5, h6] at h; rw [h.1, h.2.1, h.2.2]; exact ⟨rfl, rfl, rfl⟩
theorem okE_mkL {r : List Int} : okE (mkL r) = true := by
  unfold okE SeqAt.shaped
  simp only [Bool.and_eq_true, decide_eq_true_eq]
  constructor
  · simp only [mkL, PyData.canLay0, layL_iff]
    intro d hd
    obtain ⟨i, _, rfl⟩ := List.mem_map.mp hd
    rfl
  · simp only [mkL, PyData.depth]
    refine Nat.succ_le_of_lt (Nat.lt_of_le_of_lt (depL_iff (k := 0).mpr fun d hd => ?_) (by decide))
    obtain ⟨i, _, rfl⟩ := List.mem_map.mp hd
    exact Nat.le_refl _
theorem eqv_mkL_nil {r : List Int} : PyData.eqv (mkL r) (.list []) = r.isEmpty := by
  unfold mkL
  rw [eqv_nilL]
  cases r <;> rfl
theorem tru_mkL {r : List Int} : truD (mkL r) = some (!r.isEmpty) := by
  show some (!(r.map PyData.int).isEmpty) = _
  cases r <;> rfl
theorem tru_mkT {r : List Int} : truD (mkT r) = some (!r.isEmpty) := by
  show some (!(r.map PyData.int).isEmpty) = _
  cases r <;> rfl
section
variable {P : List Def} {nx nu cr cs po : Nat}
def dNumbers (nx : Nat) : Def := { name := "_law_numbers", ps := 4, ns := ["state", "low", "high", "span", "k"], mu := [], fr := false, body := [
    .ret (.b1 .tuple (.lc [4] (.n 4) (.rg1 (.bin .add (.var 1) (.call nx [.var 0, .bin .add (.bin .sub (.var 2) (.var 1)) (.int 1)]))) .no (.bin .sub (.call nx [.var 0, .var 3]) (.bin .fdiv (.var 3) (.int 3)))))] }
theorem numbers_ok (hN : P[nx]? = some dNext) (hU : P[nu]? = some (dNumbers nx)) {n : Nat} (hn : 2 ≤ n) {lo hi sp : Nat} (hlh : lo ≤ hi) (hhi : hi ≤ 1000) (hsp : 1 ≤ sp ∧ sp ≤ 1000) {g : G} (hg : GS g) :
    Rs (runF P n nu [stD, .int lo, .int hi, .int sp] g) (fun v g' => (∃ r : List Int, v = mkT r ∧ lo ≤ r.length ∧ r.length ≤ hi ∧ ∀ x ∈ r, -((sp : Int) / 3) ≤ x ∧ x < sp - (sp : Int) / 3) ∧ GS g') NoE := by
  obtain ⟨n, rfl⟩ : ∃ m, n = m + 1 := ⟨n - 1, by omega⟩
  rw [run_def hU rfl, Rs_fin]
  show Rs (evB (runF P n) (dNumbers nx).body [some stD, some (.int lo), some (.int hi), some (.int sp), none] g) _ _
  simp only [dNumbers, eB_cons, eB_nil, eS_asg, eS_iff, eS_ret, eS_ex, eS_rai, eS_aug, eS_par, eS_unp, eS_app, eS_ext, eS_asgO, eS_six, eS_brk, eE_var, eE_own, eE_int, eE_bl, eE_non, eE_str, eE_glob, eE_bin, eE_neg, eE_not, eE_and, eE_or, eE_cmp, eE_ch2, eE_isN, eE_isNN, eE_isNT, eE_ife, eE_tup, eE_lst, eE_dct0, eE_ix, eE_sl, eE_rev, eE_call, eE_b1, eE_b2, eE_isi, eE_join, eL_nil, eL_cons, eA_nil, eA_one, eA_cons, eO_nil, eO_one, eO_cons, eP_no, eP_yes, eC_no, eC_yes, eI_seq, gv_z, gv_s, sv_z, sv_s, bw_ok, bw_exc, Res.ofO_some, Option.map_some, tru_bool, tru_none, intOf_int, noneD, kB, tgD, kT, isi_n, isi_b, isi_i, isi_s, isi_t, isi_l, cutD_T, cutD_L, revD_T, revD_L, bin_add, bin_sub, cmp_lt, cmp_le, cmp_gt, cmp_ge, cmp_eqI, cmp_neI, b1_lenL, b1_lenT, b1_tupL, b1_tupT, b1_lstL, b1_lstT, b1_int, Bool.false_eq_true, if_false, if_true, Bool.not_true, Bool.not_false, decide_true, decide_false, Rs_ok, Rs_exc, lstG, lstD, bindTs, bindT, svAll, wipeE, Option.bind_some, fin_rt, fin_nx, fin_exc, eE_lc, eI_rg1']
  simp only [Rs_bw]
  refine next_rs hN (by omega) (by omega) (by omega) hg fun j g1 j0 j1 hg1 => ?_
  obtain ⟨j, rfl⟩ := Int.eq_ofNat_of_zero_le j0
  have hr : rgB ((lo : Int) + (j : Int)) = true := rgB_of (by omega) (by omega)
  simp only [eB_cons, eB_nil, eS_asg, eS_iff, eS_ret, eS_ex, eS_rai, eS_aug, eS_par, eS_unp, eS_app, eS_ext, eS_asgO, eS_six, eS_brk, eE_var, eE_own, eE_int, eE_bl, eE_non, eE_str, eE_glob, eE_bin, eE_neg, eE_not, eE_and, eE_or, eE_cmp, eE_ch2, eE_isN, eE_isNN, eE_isNT, eE_ife, eE_tup, eE_lst, eE_dct0, eE_ix, eE_sl, eE_rev, eE_call, eE_b1, eE_b2, eE_isi, eE_join, eL_nil, eL_cons, eA_nil, eA_one, eA_cons, eO_nil, eO_one, eO_cons, eP_no, eP_yes, eC_no, eC_yes, eI_seq, gv_z, gv_s, sv_z, sv_s, bw_ok, bw_exc, Res.ofO_some, Option.map_some, tru_bool, tru_none, intOf_int, noneD, kB, tgD, kT, isi_n, isi_b, isi_i, isi_s, isi_t, isi_l, cutD_T, cutD_L, revD_T, revD_L, bin_add, bin_sub, cmp_lt, cmp_le, cmp_gt, cmp_ge, cmp_eqI, cmp_neI, b1_lenL, b1_lenT, b1_tupL, b1_tupT, b1_lstL, b1_lstT, b1_int, Bool.false_eq_true, if_false, if_true, Bool.not_true, Bool.not_false, decide_true, decide_false, Rs_ok, Rs_exc, lstG, lstD, bindTs, bindT, svAll, wipeE, Option.bind_some, fin_rt, fin_nx, fin_exc, hr, show ((lo : Int) + (j : Int)).toNat = lo + j by omega, rgL0_map]
  refine (lc_rs (α := Nat) (l := List.range (lo + j)) (e := fun k => .int (k : Nat)) (Q := fun d => ∃ x : Int, d = .int x ∧ -((sp : Int) / 3) ≤ x ∧ x < sp - (sp : Int) / 3) (line_of (by simp; omega)) (fun k _ g hg => ?_) hg1).mono (fun d g2 ⟨ys, e, h1, h2, hg2⟩ => ?_) fun _ _ h => h
  · simp only [lcQ_eq, eB_cons, eB_nil, eS_asg, eS_iff, eS_ret, eS_ex, eS_rai, eS_aug, eS_par, eS_unp, eS_app, eS_ext, eS_asgO, eS_six, eS_brk, eE_var, eE_own, eE_int, eE_bl, eE_non, eE_str, eE_glob, eE_bin, eE_neg, eE_not, eE_and, eE_or, eE_cmp, eE_ch2, eE_isN, eE_isNN, eE_isNT, eE_ife, eE_tup, eE_lst, eE_dct0, eE_ix, eE_sl, eE_rev, eE_call, eE_b1, eE_b2, eE_isi, eE_join, eL_nil, eL_cons, eA_nil, eA_one, eA_cons, eO_nil, eO_one, eO_cons, eP_no, eP_yes, eC_no, eC_yes, eI_seq, gv_z, gv_s, sv_z, sv_s, bw_ok, bw_exc, Res.ofO_some, Option.map_some, tru_bool, tru_none, intOf_int, noneD, kB, tgD, kT, isi_n, isi_b, isi_i, isi_s, isi_t, isi_l, cutD_T, cutD_L, revD_T, revD_L, bin_add, bin_sub, cmp_lt, cmp_le, cmp_gt, cmp_ge, cmp_eqI, cmp_neI, b1_lenL, b1_lenT, b1_tupL, b1_tupT, b1_lstL, b1_lstT, b1_int, Bool.false_eq_true, if_false, if_true, Bool.not_true, Bool.not_false, decide_true, decide_false, Rs_ok, Rs_exc, lstG, lstD, bindTs, bindT, svAll, wipeE, Option.bind_some, fin_rt, fin_nx, fin_exc]
    simp only [Rs_bw]
    refine next_rs hN (by omega) (by omega) (by omega) hg fun a g3 a0 a1 hg3 => ?_
    have e1 := bin_div (i := (sp : Int)) (j := 3) (by decide)
    simp only [eB_cons, eB_nil, eS_asg, eS_iff, eS_ret, eS_ex, eS_rai, eS_aug, eS_par, eS_unp, eS_app, eS_ext, eS_asgO, eS_six, eS_brk, eE_var, eE_own, eE_int, eE_bl, eE_non, eE_str, eE_glob, eE_bin, eE_neg, eE_not, eE_and, eE_or, eE_cmp, eE_ch2, eE_isN, eE_isNN, eE_isNT, eE_ife, eE_tup, eE_lst, eE_dct0, eE_ix, eE_sl, eE_rev, eE_call, eE_b1, eE_b2, eE_isi, eE_join, eL_nil, eL_cons, eA_nil, eA_one, eA_cons, eO_nil, eO_one, eO_cons, eP_no, eP_yes, eC_no, eC_yes, eI_seq, gv_z, gv_s, sv_z, sv_s, bw_ok, bw_exc, Res.ofO_some, Option.map_some, tru_bool, tru_none, intOf_int, noneD, kB, tgD, kT, isi_n, isi_b, isi_i, isi_s, isi_t, isi_l, cutD_T, cutD_L, revD_T, revD_L, bin_add, bin_sub, cmp_lt, cmp_le, cmp_gt, cmp_ge, cmp_eqI, cmp_neI, b1_lenL, b1_lenT, b1_tupL, b1_tupT, b1_lstL, b1_lstT, b1_int, Bool.false_eq_true, if_false, if_true, Bool.not_true, Bool.not_false, decide_true, decide_false, Rs_ok, Rs_exc, lstG, lstD, bindTs, bindT, svAll, wipeE, Option.bind_some, fin_rt, fin_nx, fin_exc, e1]
    exact ⟨⟨_, rfl, _, rfl, by omega, by omega⟩, hg3⟩
  · subst e
    obtain ⟨r, rfl, hr⟩ := list_of (e := PyData.int) h2
    simp only [eB_cons, eB_nil, eS_asg, eS_iff, eS_ret, eS_ex, eS_rai, eS_aug, eS_par, eS_unp, eS_app, eS_ext, eS_asgO, eS_six, eS_brk, eE_var, eE_own, eE_int, eE_bl, eE_non, eE_str, eE_glob, eE_bin, eE_neg, eE_not, eE_and, eE_or, eE_cmp, eE_ch2, eE_isN, eE_isNN, eE_isNT, eE_ife, eE_tup, eE_lst, eE_dct0, eE_ix, eE_sl, eE_rev, eE_call, eE_b1, eE_b2, eE_isi, eE_join, eL_nil, eL_cons, eA_nil, eA_one, eA_cons, eO_nil, eO_one, eO_cons, eP_no, eP_yes, eC_no, eC_yes, eI_seq, gv_z, gv_s, sv_z, sv_s, bw_ok, bw_exc, Res.ofO_some, Option.map_some, tru_bool, tru_none, intOf_int, noneD, kB, tgD, kT, isi_n, isi_b, isi_i, isi_s, isi_t, isi_l, cutD_T, cutD_L, revD_T, revD_L, bin_add, bin_sub, cmp_lt, cmp_le, cmp_gt, cmp_ge, cmp_eqI, cmp_neI, b1_lenL, b1_lenT, b1_tupL, b1_tupT, b1_lstL, b1_lstT, b1_int, Bool.false_eq_true, if_false, if_true, Bool.not_true, Bool.not_false, decide_true, decide_false, Rs_ok, Rs_exc, lstG, lstD, bindTs, bindT, svAll, wipeE, Option.bind_some, fin_rt, fin_nx, fin_exc]
    simp only [List.length_map, List.length_range] at h1
    exact ⟨⟨r, rfl, by omega, by omega, hr⟩, hg2⟩
def dCheckRow : Def := { name := "check_row", ps := 1, ns := ["row"], mu := [], fr := false, body := [
    .iff (.cmp .gt (.b1 .len (.var 0)) (.glob "MOST_NUMBERS" 24)) [.rai .wide "there are too many numbers"] []] }
def dCheckSome (cr : Nat) : Def := { name := "check_some", ps := 1, ns := ["row"], mu := [], fr := false, body := [
    .iff (.not (.var 0)) [.rai .unfit "there are no numbers"] [],
    .ex (.call cr [.var 0])] }
theorem check_row_run (hC : P[cr]? = some dCheckRow) {n : Nat} (hn : 1 ≤ n) {d : D} {l : Nat} (hd : b1D .len d = some (.int l)) (g : G) :
    runF P n cr [d] g = if l ≤ 24 then .ok .none g else .exc .wide g := by
  obtain ⟨n, rfl⟩ : ∃ m, n = m + 1 := ⟨n - 1, by omega⟩
  rw [run_def hC rfl]
  show fin (evB (runF P n) dCheckRow.body [some d] g) = _
  by_cases h : l ≤ 24
  · have : ¬ (24 : Int) < l := by omega
    simp only [dCheckRow, eB_cons, eB_nil, eS_asg, eS_iff, eS_ret, eS_ex, eS_rai, eS_aug, eS_par, eS_unp, eS_app, eS_ext, eS_asgO, eS_six, eS_brk, eE_var, eE_own, eE_int, eE_bl, eE_non, eE_str, eE_glob, eE_bin, eE_neg, eE_not, eE_and, eE_or, eE_cmp, eE_ch2, eE_isN, eE_isNN, eE_isNT, eE_ife, eE_tup, eE_lst, eE_dct0, eE_ix, eE_sl, eE_rev, eE_call, eE_b1, eE_b2, eE_isi, eE_join, eL_nil, eL_cons, eA_nil, eA_one, eA_cons, eO_nil, eO_one, eO_cons, eP_no, eP_yes, eC_no, eC_yes, eI_seq, gv_z, gv_s, sv_z, sv_s, bw_ok, bw_exc, Res.ofO_some, Option.map_some, tru_bool, tru_none, intOf_int, noneD, kB, tgD, kT, isi_n, isi_b, isi_i, isi_s, isi_t, isi_l, cutD_T, cutD_L, revD_T, revD_L, bin_add, bin_sub, cmp_lt, cmp_le, cmp_gt, cmp_ge, cmp_eqI, cmp_neI, b1_lenL, b1_lenT, b1_tupL, b1_tupT, b1_lstL, b1_lstT, b1_int, Bool.false_eq_true, if_false, if_true, Bool.not_true, Bool.not_false, decide_true, decide_false, Rs_ok, Rs_exc, lstG, lstD, bindTs, bindT, svAll, wipeE, Option.bind_some, fin_rt, fin_nx, fin_exc, hd, this, h]
  · have : (24 : Int) < l := by omega
    simp only [dCheckRow, eB_cons, eB_nil, eS_asg, eS_iff, eS_ret, eS_ex, eS_rai, eS_aug, eS_par, eS_unp, eS_app, eS_ext, eS_asgO, eS_six, eS_brk, eE_var, eE_own, eE_int, eE_bl, eE_non, eE_str, eE_glob, eE_bin, eE_neg, eE_not, eE_and, eE_or, eE_cmp, eE_ch2, eE_isN, eE_isNN, eE_isNT, eE_ife, eE_tup, eE_lst, eE_dct0, eE_ix, eE_sl, eE_rev, eE_call, eE_b1, eE_b2, eE_isi, eE_join, eL_nil, eL_cons, eA_nil, eA_one, eA_cons, eO_nil, eO_one, eO_cons, eP_no, eP_yes, eC_no, eC_yes, eI_seq, gv_z, gv_s, sv_z, sv_s, bw_ok, bw_exc, Res.ofO_some, Option.map_some, tru_bool, tru_none, intOf_int, noneD, kB, tgD, kT, isi_n, isi_b, isi_i, isi_s, isi_t, isi_l, cutD_T, cutD_L, revD_T, revD_L, bin_add, bin_sub, cmp_lt, cmp_le, cmp_gt, cmp_ge, cmp_eqI, cmp_neI, b1_lenL, b1_lenT, b1_tupL, b1_tupT, b1_lstL, b1_lstT, b1_int, Bool.false_eq_true, if_false, if_true, Bool.not_true, Bool.not_false, decide_true, decide_false, Rs_ok, Rs_exc, lstG, lstD, bindTs, bindT, svAll, wipeE, Option.bind_some, fin_rt, fin_nx, fin_exc, hd, this, h]
theorem check_some_run (hC : P[cr]? = some dCheckRow) (hS : P[cs]? = some (dCheckSome cr)) {n : Nat} (hn : 2 ≤ n) {r : List Int} (g : G) :
    runF P n cs [mkT r] g = if r = [] then .exc .unfit g else if r.length ≤ 24 then .ok .none g else .exc .wide g := by
  obtain ⟨n, rfl⟩ : ∃ m, n = m + 1 := ⟨n - 1, by omega⟩
  rw [run_def hS rfl]
  show fin (evB (runF P n) (dCheckSome cr).body [some (mkT r)] g) = _
  have ht : truD (mkT r) = some (!(r.map PyData.int).isEmpty) := rfl
  by_cases h : r = []
  · subst h
    simp only [dCheckSome, eB_cons, eB_nil, eS_asg, eS_iff, eS_ret, eS_ex, eS_rai, eS_aug, eS_par, eS_unp, eS_app, eS_ext, eS_asgO, eS_six, eS_brk, eE_var, eE_own, eE_int, eE_bl, eE_non, eE_str, eE_glob, eE_bin, eE_neg, eE_not, eE_and, eE_or, eE_cmp, eE_ch2, eE_isN, eE_isNN, eE_isNT, eE_ife, eE_tup, eE_lst, eE_dct0, eE_ix, eE_sl, eE_rev, eE_call, eE_b1, eE_b2, eE_isi, eE_join, eL_nil, eL_cons, eA_nil, eA_one, eA_cons, eO_nil, eO_one, eO_cons, eP_no, eP_yes, eC_no, eC_yes, eI_seq, gv_z, gv_s, sv_z, sv_s, bw_ok, bw_exc, Res.ofO_some, Option.map_some, tru_bool, tru_none, intOf_int, noneD, kB, tgD, kT, isi_n, isi_b, isi_i, isi_s, isi_t, isi_l, cutD_T, cutD_L, revD_T, revD_L, bin_add, bin_sub, cmp_lt, cmp_le, cmp_gt, cmp_ge, cmp_eqI, cmp_neI, b1_lenL, b1_lenT, b1_tupL, b1_tupT, b1_lstL, b1_lstT, b1_int, Bool.false_eq_true, if_false, if_true, Bool.not_true, Bool.not_false, decide_true, decide_false, Rs_ok, Rs_exc, lstG, lstD, bindTs, bindT, svAll, wipeE, Option.bind_some, fin_rt, fin_nx, fin_exc, ht, List.map_nil, List.isEmpty_nil]
  · have he : (r.map PyData.int).isEmpty = false := by cases r <;> simp_all
    have hc := check_row_run hC (show 1 ≤ n by omega) (d := mkT r) (l := r.length) b1_lenN
    by_cases h2 : r.length ≤ 24
    · simp only [dCheckSome, eB_cons, eB_nil, eS_asg, eS_iff, eS_ret, eS_ex, eS_rai, eS_aug, eS_par, eS_unp, eS_app, eS_ext, eS_asgO, eS_six, eS_brk, eE_var, eE_own, eE_int, eE_bl, eE_non, eE_str, eE_glob, eE_bin, eE_neg, eE_not, eE_and, eE_or, eE_cmp, eE_ch2, eE_isN, eE_isNN, eE_isNT, eE_ife, eE_tup, eE_lst, eE_dct0, eE_ix, eE_sl, eE_rev, eE_call, eE_b1, eE_b2, eE_isi, eE_join, eL_nil, eL_cons, eA_nil, eA_one, eA_cons, eO_nil, eO_one, eO_cons, eP_no, eP_yes, eC_no, eC_yes, eI_seq, gv_z, gv_s, sv_z, sv_s, bw_ok, bw_exc, Res.ofO_some, Option.map_some, tru_bool, tru_none, intOf_int, noneD, kB, tgD, kT, isi_n, isi_b, isi_i, isi_s, isi_t, isi_l, cutD_T, cutD_L, revD_T, revD_L, bin_add, bin_sub, cmp_lt, cmp_le, cmp_gt, cmp_ge, cmp_eqI, cmp_neI, b1_lenL, b1_lenT, b1_tupL, b1_tupT, b1_lstL, b1_lstT, b1_int, Bool.false_eq_true, if_false, if_true, Bool.not_true, Bool.not_false, decide_true, decide_false, Rs_ok, Rs_exc, lstG, lstD, bindTs, bindT, svAll, wipeE, Option.bind_some, fin_rt, fin_nx, fin_exc, ht, he, hc, h2, h]
    · simp only [dCheckSome, eB_cons, eB_nil, eS_asg, eS_iff, eS_ret, eS_ex, eS_rai, eS_aug, eS_par, eS_unp, eS_app, eS_ext, eS_asgO, eS_six, eS_brk, eE_var, eE_own, eE_int, eE_bl, eE_non, eE_str, eE_glob, eE_bin, eE_neg, eE_not, eE_and, eE_or, eE_cmp, eE_ch2, eE_isN, eE_isNN, eE_isNT, eE_ife, eE_tup, eE_lst, eE_dct0, eE_ix, eE_sl, eE_rev, eE_call, eE_b1, eE_b2, eE_isi, eE_join, eL_nil, eL_cons, eA_nil, eA_one, eA_cons, eO_nil, eO_one, eO_cons, eP_no, eP_yes, eC_no, eC_yes, eI_seq, gv_z, gv_s, sv_z, sv_s, bw_ok, bw_exc, Res.ofO_some, Option.map_some, tru_bool, tru_none, intOf_int, noneD, kB, tgD, kT, isi_n, isi_b, isi_i, isi_s, isi_t, isi_l, cutD_T, cutD_L, revD_T, revD_L, bin_add, bin_sub, cmp_lt, cmp_le, cmp_gt, cmp_ge, cmp_eqI, cmp_neI, b1_lenL, b1_lenT, b1_tupL, b1_tupT, b1_lstL, b1_lstT, b1_int, Bool.false_eq_true, if_false, if_true, Bool.not_true, Bool.not_false, decide_true, decide_false, Rs_ok, Rs_exc, lstG, lstD, bindTs, bindT, svAll, wipeE, Option.bind_some, fin_rt, fin_nx, fin_exc, ht, he, hc, h2, h]
end
end PT
namespace PT
open PySem

theorem eqv_rows_nil {rows : List (List Int)} : PyData.eqv (rowsD rows) (.tuple []) = rows.isEmpty := by
  unfold rowsD
  rw [eqv_nil]
  cases rows <;> rfl
theorem ne_rows {rows : List (List Int)} : cmpD .ne (rowsD rows) (.tuple []) = some (!rows.isEmpty) := by
  rw [cmp_ne ⟨okE_rows, rfl⟩, eqv_rows_nil]
theorem add_rows {rows : List (List Int)} {r : List Int} (h : rows.length ≤ 1000) : binD .add (rowsD rows) (.tuple [mkT r]) = some (rowsD (rows ++ [r])) := by
  unfold rowsD
  rw [bin_addT' (by simp; omega)]
  simp
section
variable {P : List Def} {nx po cp : Nat}
def dPoints (nx : Nat) : Def := { name := "_law_points", ps := 2, ns := ["state", "high", "k"], mu := [], fr := false, body := [
    .ret (.b1 .tuple (.lc [2] (.n 2) (.rg1 (.call nx [.var 0, .bin .add (.var 1) (.int 1)])) .no (.tup [.bin .sub (.call nx [.var 0, .int 7]) (.int 2), .bin .sub (.call nx [.var 0, .int 7]) (.int 2)])))] }
/-- points that are drawn -/
def Pts (k : Nat) (rows : List (List Int)) : Prop := rows.length ≤ k ∧ ∀ r ∈ rows, ∃ a b : Int, r = [a, b] ∧ -2 ≤ a ∧ a ≤ 4 ∧ -2 ≤ b ∧ b ≤ 4
theorem points_ok (hN : P[nx]? = some dNext) (hP : P[po]? = some (dPoints nx)) {n : Nat} (hn : 2 ≤ n) {k : Nat} (hk : k ≤ 100) {g : G} (hg : GS g) :
    Rs (runF P n po [stD, .int k] g) (fun v g' => (∃ rows, v = rowsD rows ∧ Pts k rows) ∧ GS g') NoE := by
  obtain ⟨n, rfl⟩ : ∃ m, n = m + 1 := ⟨n - 1, by omega⟩
  rw [run_def hP rfl, Rs_fin]
  show Rs (evB (runF P n) (dPoints nx).body [some stD, some (.int k), none] g) _ _
  simp only [dPoints, eB_cons, eB_nil, eS_asg, eS_iff, eS_ret, eS_ex, eS_rai, eS_aug, eS_par, eS_unp, eS_app, eS_ext, eS_asgO, eS_six, eS_brk, eE_var, eE_own, eE_int, eE_bl, eE_non, eE_str, eE_glob, eE_bin, eE_neg, eE_not, eE_and, eE_or, eE_cmp, eE_ch2, eE_isN, eE_isNN, eE_isNT, eE_ife, eE_tup, eE_lst, eE_dct0, eE_ix, eE_sl, eE_rev, eE_call, eE_b1, eE_b2, eE_isi, eE_join, eL_nil, eL_cons, eA_nil, eA_one, eA_cons, eO_nil, eO_one, eO_cons, eP_no, eP_yes, eC_no, eC_yes, eI_seq, gv_z, gv_s, sv_z, sv_s, bw_ok, bw_exc, Res.ofO_some, Option.map_some, tru_bool, tru_none, intOf_int, noneD, kB, tgD, kT, isi_n, isi_b, isi_i, isi_s, isi_t, isi_l, cutD_T, cutD_L, revD_T, revD_L, bin_add, bin_sub, cmp_lt, cmp_le, cmp_gt, cmp_ge, cmp_eqI, cmp_neI, b1_lenL, b1_lenT, b1_tupL, b1_tupT, b1_lstL, b1_lstT, b1_int, Bool.false_eq_true, if_false, if_true, Bool.not_true, Bool.not_false, decide_true, decide_false, Rs_ok, Rs_exc, lstG, lstD, bindTs, bindT, svAll, wipeE, Option.bind_some, fin_rt, fin_nx, fin_exc, eE_lc, eI_rg1']
  simp only [Rs_bw]
  refine next_rs hN (by omega) (by omega) (by omega) hg fun j g1 j0 j1 hg1 => ?_
  obtain ⟨j, rfl⟩ := Int.eq_ofNat_of_zero_le j0
  have hr : rgB (j : Int) = true := rgB_of (by omega) (by omega)
  simp only [eB_cons, eB_nil, eS_asg, eS_iff, eS_ret, eS_ex, eS_rai, eS_aug, eS_par, eS_unp, eS_app, eS_ext, eS_asgO, eS_six, eS_brk, eE_var, eE_own, eE_int, eE_bl, eE_non, eE_str, eE_glob, eE_bin, eE_neg, eE_not, eE_and, eE_or, eE_cmp, eE_ch2, eE_isN, eE_isNN, eE_isNT, eE_ife, eE_tup, eE_lst, eE_dct0, eE_ix, eE_sl, eE_rev, eE_call, eE_b1, eE_b2, eE_isi, eE_join, eL_nil, eL_cons, eA_nil, eA_one, eA_cons, eO_nil, eO_one, eO_cons, eP_no, eP_yes, eC_no, eC_yes, eI_seq, gv_z, gv_s, sv_z, sv_s, bw_ok, bw_exc, Res.ofO_some, Option.map_some, tru_bool, tru_none, intOf_int, noneD, kB, tgD, kT, isi_n, isi_b, isi_i, isi_s, isi_t, isi_l, cutD_T, cutD_L, revD_T, revD_L, bin_add, bin_sub, cmp_lt, cmp_le, cmp_gt, cmp_ge, cmp_eqI, cmp_neI, b1_lenL, b1_lenT, b1_tupL, b1_tupT, b1_lstL, b1_lstT, b1_int, Bool.false_eq_true, if_false, if_true, Bool.not_true, Bool.not_false, decide_true, decide_false, Rs_ok, Rs_exc, lstG, lstD, bindTs, bindT, svAll, wipeE, Option.bind_some, fin_rt, fin_nx, fin_exc, hr, Int.toNat_natCast, rgL0_map]
  refine (lc_rs (α := Nat) (l := List.range j) (e := fun k => .int (k : Nat)) (Q := fun d => ∃ r, d = mkT r ∧ ∃ a b : Int, r = [a, b] ∧ -2 ≤ a ∧ a ≤ 4 ∧ -2 ≤ b ∧ b ≤ 4) (line_of (by simp; omega)) (fun k _ g hg => ?_) hg1).mono (fun d g2 ⟨ys, e, h1, h2, hg2⟩ => ?_) fun _ _ h => h
  · simp only [lcQ_eq, eB_cons, eB_nil, eS_asg, eS_iff, eS_ret, eS_ex, eS_rai, eS_aug, eS_par, eS_unp, eS_app, eS_ext, eS_asgO, eS_six, eS_brk, eE_var, eE_own, eE_int, eE_bl, eE_non, eE_str, eE_glob, eE_bin, eE_neg, eE_not, eE_and, eE_or, eE_cmp, eE_ch2, eE_isN, eE_isNN, eE_isNT, eE_ife, eE_tup, eE_lst, eE_dct0, eE_ix, eE_sl, eE_rev, eE_call, eE_b1, eE_b2, eE_isi, eE_join, eL_nil, eL_cons, eA_nil, eA_one, eA_cons, eO_nil, eO_one, eO_cons, eP_no, eP_yes, eC_no, eC_yes, eI_seq, gv_z, gv_s, sv_z, sv_s, bw_ok, bw_exc, Res.ofO_some, Option.map_some, tru_bool, tru_none, intOf_int, noneD, kB, tgD, kT, isi_n, isi_b, isi_i, isi_s, isi_t, isi_l, cutD_T, cutD_L, revD_T, revD_L, bin_add, bin_sub, cmp_lt, cmp_le, cmp_gt, cmp_ge, cmp_eqI, cmp_neI, b1_lenL, b1_lenT, b1_tupL, b1_tupT, b1_lstL, b1_lstT, b1_int, Bool.false_eq_true, if_false, if_true, Bool.not_true, Bool.not_false, decide_true, decide_false, Rs_ok, Rs_exc, lstG, lstD, bindTs, bindT, svAll, wipeE, Option.bind_some, fin_rt, fin_nx, fin_exc]
    simp only [Rs_bw]
    refine next_rs hN (by omega) (by decide) (by decide) hg fun a g3 a0 a1 hg3 => ?_
    simp only [eB_cons, eB_nil, eS_asg, eS_iff, eS_ret, eS_ex, eS_rai, eS_aug, eS_par, eS_unp, eS_app, eS_ext, eS_asgO, eS_six, eS_brk, eE_var, eE_own, eE_int, eE_bl, eE_non, eE_str, eE_glob, eE_bin, eE_neg, eE_not, eE_and, eE_or, eE_cmp, eE_ch2, eE_isN, eE_isNN, eE_isNT, eE_ife, eE_tup, eE_lst, eE_dct0, eE_ix, eE_sl, eE_rev, eE_call, eE_b1, eE_b2, eE_isi, eE_join, eL_nil, eL_cons, eA_nil, eA_one, eA_cons, eO_nil, eO_one, eO_cons, eP_no, eP_yes, eC_no, eC_yes, eI_seq, gv_z, gv_s, sv_z, sv_s, bw_ok, bw_exc, Res.ofO_some, Option.map_some, tru_bool, tru_none, intOf_int, noneD, kB, tgD, kT, isi_n, isi_b, isi_i, isi_s, isi_t, isi_l, cutD_T, cutD_L, revD_T, revD_L, bin_add, bin_sub, cmp_lt, cmp_le, cmp_gt, cmp_ge, cmp_eqI, cmp_neI, b1_lenL, b1_lenT, b1_tupL, b1_tupT, b1_lstL, b1_lstT, b1_int, Bool.false_eq_true, if_false, if_true, Bool.not_true, Bool.not_false, decide_true, decide_false, Rs_ok, Rs_exc, lstG, lstD, bindTs, bindT, svAll, wipeE, Option.bind_some, fin_rt, fin_nx, fin_exc]
    simp only [Rs_bw]
    refine next_rs hN (by omega) (by decide) (by decide) hg3 fun b g4 b0 b1 hg4 => ?_
    simp only [eB_cons, eB_nil, eS_asg, eS_iff, eS_ret, eS_ex, eS_rai, eS_aug, eS_par, eS_unp, eS_app, eS_ext, eS_asgO, eS_six, eS_brk, eE_var, eE_own, eE_int, eE_bl, eE_non, eE_str, eE_glob, eE_bin, eE_neg, eE_not, eE_and, eE_or, eE_cmp, eE_ch2, eE_isN, eE_isNN, eE_isNT, eE_ife, eE_tup, eE_lst, eE_dct0, eE_ix, eE_sl, eE_rev, eE_call, eE_b1, eE_b2, eE_isi, eE_join, eL_nil, eL_cons, eA_nil, eA_one, eA_cons, eO_nil, eO_one, eO_cons, eP_no, eP_yes, eC_no, eC_yes, eI_seq, gv_z, gv_s, sv_z, sv_s, bw_ok, bw_exc, Res.ofO_some, Option.map_some, tru_bool, tru_none, intOf_int, noneD, kB, tgD, kT, isi_n, isi_b, isi_i, isi_s, isi_t, isi_l, cutD_T, cutD_L, revD_T, revD_L, bin_add, bin_sub, cmp_lt, cmp_le, cmp_gt, cmp_ge, cmp_eqI, cmp_neI, b1_lenL, b1_lenT, b1_tupL, b1_tupT, b1_lstL, b1_lstT, b1_int, Bool.false_eq_true, if_false, if_true, Bool.not_true, Bool.not_false, decide_true, decide_false, Rs_ok, Rs_exc, lstG, lstD, bindTs, bindT, svAll, wipeE, Option.bind_some, fin_rt, fin_nx, fin_exc]
    exact ⟨⟨_, rfl, [a - 2, b - 2], rfl, _, _, rfl, by omega, by omega, by omega, by omega⟩, hg4⟩
  · subst e
    obtain ⟨rows, rfl, hrows⟩ := list_of (e := mkT) h2
    simp only [eB_cons, eB_nil, eS_asg, eS_iff, eS_ret, eS_ex, eS_rai, eS_aug, eS_par, eS_unp, eS_app, eS_ext, eS_asgO, eS_six, eS_brk, eE_var, eE_own, eE_int, eE_bl, eE_non, eE_str, eE_glob, eE_bin, eE_neg, eE_not, eE_and, eE_or, eE_cmp, eE_ch2, eE_isN, eE_isNN, eE_isNT, eE_ife, eE_tup, eE_lst, eE_dct0, eE_ix, eE_sl, eE_rev, eE_call, eE_b1, eE_b2, eE_isi, eE_join, eL_nil, eL_cons, eA_nil, eA_one, eA_cons, eO_nil, eO_one, eO_cons, eP_no, eP_yes, eC_no, eC_yes, eI_seq, gv_z, gv_s, sv_z, sv_s, bw_ok, bw_exc, Res.ofO_some, Option.map_some, tru_bool, tru_none, intOf_int, noneD, kB, tgD, kT, isi_n, isi_b, isi_i, isi_s, isi_t, isi_l, cutD_T, cutD_L, revD_T, revD_L, bin_add, bin_sub, cmp_lt, cmp_le, cmp_gt, cmp_ge, cmp_eqI, cmp_neI, b1_lenL, b1_lenT, b1_tupL, b1_tupT, b1_lstL, b1_lstT, b1_int, Bool.false_eq_true, if_false, if_true, Bool.not_true, Bool.not_false, decide_true, decide_false, Rs_ok, Rs_exc, lstG, lstD, bindTs, bindT, svAll, wipeE, Option.bind_some, fin_rt, fin_nx, fin_exc]
    simp only [List.length_map, List.length_range] at h1
    exact ⟨⟨rows, rfl, by omega, hrows⟩, hg2⟩
def dCheckPoints : Def := { name := "check_points", ps := 1, ns := ["rows", "row"], mu := [], fr := false, body := [
    .iff (.cmp .isin (.bl true) (.lc [1] (.n 1) (.seq (.var 0)) .no (.cmp .ne (.b1 .len (.var 1)) (.int 2)))) [.rai .unfit "points are pairs of numbers"] [],
    .iff (.cmp .gt (.b1 .len (.var 0)) (.int 20)) [.rai .wide "there are too many points"] []] }
/-- no pair -/
def nop (r : List Int) : Bool := decide (r.length ≠ 2)
theorem check_points_run (hC : P[cp]? = some dCheckPoints) {n : Nat} (hn : 1 ≤ n) {rows : List (List Int)} (hl : rows.length ≤ 100000) (g : G) :
    runF P n cp [rowsD rows] g = if rows.any nop = true then .exc .unfit g else if rows.length ≤ 20 then .ok .none g else .exc .wide g := by
  obtain ⟨n, rfl⟩ : ∃ m, n = m + 1 := ⟨n - 1, by omega⟩
  rw [run_def hC rfl]
  show fin (evB (runF P n) dCheckPoints.body [some (rowsD rows), none] g) = _
  have c1 : evE (runF P n) (.lc [1] (.n 1) (.seq (.var 0)) .no (.cmp .ne (.b1 .len (.var 1)) (.int 2))) [some (rowsD rows), none] g = .ok (.list (rows.map fun r => .bool (nop r))) g := by
    rw [eE_lc]
    simp only [eB_cons, eB_nil, eS_asg, eS_iff, eS_ret, eS_ex, eS_rai, eS_aug, eS_par, eS_unp, eS_app, eS_ext, eS_asgO, eS_six, eS_brk, eE_var, eE_own, eE_int, eE_bl, eE_non, eE_str, eE_glob, eE_bin, eE_neg, eE_not, eE_and, eE_or, eE_cmp, eE_ch2, eE_isN, eE_isNN, eE_isNT, eE_ife, eE_tup, eE_lst, eE_dct0, eE_ix, eE_sl, eE_rev, eE_call, eE_b1, eE_b2, eE_isi, eE_join, eL_nil, eL_cons, eA_nil, eA_one, eA_cons, eO_nil, eO_one, eO_cons, eP_no, eP_yes, eC_no, eC_yes, eI_seq, gv_z, gv_s, sv_z, sv_s, bw_ok, bw_exc, Res.ofO_some, Option.map_some, tru_bool, tru_none, intOf_int, noneD, kB, tgD, kT, isi_n, isi_b, isi_i, isi_s, isi_t, isi_l, cutD_T, cutD_L, revD_T, revD_L, bin_add, bin_sub, cmp_lt, cmp_le, cmp_gt, cmp_ge, cmp_eqI, cmp_neI, b1_lenL, b1_lenT, b1_tupL, b1_tupT, b1_lstL, b1_lstT, b1_int, Bool.false_eq_true, if_false, if_true, Bool.not_true, Bool.not_false, decide_true, decide_false, Rs_ok, Rs_exc, lstG, lstD, bindTs, bindT, svAll, wipeE, Option.bind_some, fin_rt, fin_nx, fin_exc, itemsD_rows]
    refine lc_val _ (line_of (by omega)) fun r _ => ?_
    by_cases h : r.length = 2
    · have h' : ((r.length : Nat) : Int) = 2 := by omega
      have : nop r = false := by simp [nop, h]
      simp only [lcQ_eq, eB_cons, eB_nil, eS_asg, eS_iff, eS_ret, eS_ex, eS_rai, eS_aug, eS_par, eS_unp, eS_app, eS_ext, eS_asgO, eS_six, eS_brk, eE_var, eE_own, eE_int, eE_bl, eE_non, eE_str, eE_glob, eE_bin, eE_neg, eE_not, eE_and, eE_or, eE_cmp, eE_ch2, eE_isN, eE_isNN, eE_isNT, eE_ife, eE_tup, eE_lst, eE_dct0, eE_ix, eE_sl, eE_rev, eE_call, eE_b1, eE_b2, eE_isi, eE_join, eL_nil, eL_cons, eA_nil, eA_one, eA_cons, eO_nil, eO_one, eO_cons, eP_no, eP_yes, eC_no, eC_yes, eI_seq, gv_z, gv_s, sv_z, sv_s, bw_ok, bw_exc, Res.ofO_some, Option.map_some, tru_bool, tru_none, intOf_int, noneD, kB, tgD, kT, isi_n, isi_b, isi_i, isi_s, isi_t, isi_l, cutD_T, cutD_L, revD_T, revD_L, bin_add, bin_sub, cmp_lt, cmp_le, cmp_gt, cmp_ge, cmp_eqI, cmp_neI, b1_lenL, b1_lenT, b1_tupL, b1_tupT, b1_lstL, b1_lstT, b1_int, Bool.false_eq_true, if_false, if_true, Bool.not_true, Bool.not_false, decide_true, decide_false, Rs_ok, Rs_exc, lstG, lstD, bindTs, bindT, svAll, wipeE, Option.bind_some, fin_rt, fin_nx, fin_exc, b1_lenN, h', this]
    · have h' : ¬ ((r.length : Nat) : Int) = 2 := by omega
      have : nop r = true := by simp [nop, h]
      simp only [lcQ_eq, eB_cons, eB_nil, eS_asg, eS_iff, eS_ret, eS_ex, eS_rai, eS_aug, eS_par, eS_unp, eS_app, eS_ext, eS_asgO, eS_six, eS_brk, eE_var, eE_own, eE_int, eE_bl, eE_non, eE_str, eE_glob, eE_bin, eE_neg, eE_not, eE_and, eE_or, eE_cmp, eE_ch2, eE_isN, eE_isNN, eE_isNT, eE_ife, eE_tup, eE_lst, eE_dct0, eE_ix, eE_sl, eE_rev, eE_call, eE_b1, eE_b2, eE_isi, eE_join, eL_nil, eL_cons, eA_nil, eA_one, eA_cons, eO_nil, eO_one, eO_cons, eP_no, eP_yes, eC_no, eC_yes, eI_seq, gv_z, gv_s, sv_z, sv_s, bw_ok, bw_exc, Res.ofO_some, Option.map_some, tru_bool, tru_none, intOf_int, noneD, kB, tgD, kT, isi_n, isi_b, isi_i, isi_s, isi_t, isi_l, cutD_T, cutD_L, revD_T, revD_L, bin_add, bin_sub, cmp_lt, cmp_le, cmp_gt, cmp_ge, cmp_eqI, cmp_neI, b1_lenL, b1_lenT, b1_tupL, b1_tupT, b1_lstL, b1_lstT, b1_int, Bool.false_eq_true, if_false, if_true, Bool.not_true, Bool.not_false, decide_true, decide_false, Rs_ok, Rs_exc, lstG, lstD, bindTs, bindT, svAll, wipeE, Option.bind_some, fin_rt, fin_nx, fin_exc, b1_lenN, h', this]
  cases hb : rows.any nop with
  | true => simp only [dCheckPoints, eB_cons, eB_nil, eS_asg, eS_iff, eS_ret, eS_ex, eS_rai, eS_aug, eS_par, eS_unp, eS_app, eS_ext, eS_asgO, eS_six, eS_brk, eE_var, eE_own, eE_int, eE_bl, eE_non, eE_str, eE_glob, eE_bin, eE_neg, eE_not, eE_and, eE_or, eE_cmp, eE_ch2, eE_isN, eE_isNN, eE_isNT, eE_ife, eE_tup, eE_lst, eE_dct0, eE_ix, eE_sl, eE_rev, eE_call, eE_b1, eE_b2, eE_isi, eE_join, eL_nil, eL_cons, eA_nil, eA_one, eA_cons, eO_nil, eO_one, eO_cons, eP_no, eP_yes, eC_no, eC_yes, eI_seq, gv_z, gv_s, sv_z, sv_s, bw_ok, bw_exc, Res.ofO_some, Option.map_some, tru_bool, tru_none, intOf_int, noneD, kB, tgD, kT, isi_n, isi_b, isi_i, isi_s, isi_t, isi_l, cutD_T, cutD_L, revD_T, revD_L, bin_add, bin_sub, cmp_lt, cmp_le, cmp_gt, cmp_ge, cmp_eqI, cmp_neI, b1_lenL, b1_lenT, b1_tupL, b1_tupT, b1_lstL, b1_lstT, b1_int, Bool.false_eq_true, if_false, if_true, Bool.not_true, Bool.not_false, decide_true, decide_false, Rs_ok, Rs_exc, lstG, lstD, bindTs, bindT, svAll, wipeE, Option.bind_some, fin_rt, fin_nx, fin_exc, c1, cmp_in, in_true, hb]
  | false =>
    by_cases h : rows.length ≤ 20
    · have h' : ¬ (20 : Int) < rows.length := by omega
      simp only [dCheckPoints, eB_cons, eB_nil, eS_asg, eS_iff, eS_ret, eS_ex, eS_rai, eS_aug, eS_par, eS_unp, eS_app, eS_ext, eS_asgO, eS_six, eS_brk, eE_var, eE_own, eE_int, eE_bl, eE_non, eE_str, eE_glob, eE_bin, eE_neg, eE_not, eE_and, eE_or, eE_cmp, eE_ch2, eE_isN, eE_isNN, eE_isNT, eE_ife, eE_tup, eE_lst, eE_dct0, eE_ix, eE_sl, eE_rev, eE_call, eE_b1, eE_b2, eE_isi, eE_join, eL_nil, eL_cons, eA_nil, eA_one, eA_cons, eO_nil, eO_one, eO_cons, eP_no, eP_yes, eC_no, eC_yes, eI_seq, gv_z, gv_s, sv_z, sv_s, bw_ok, bw_exc, Res.ofO_some, Option.map_some, tru_bool, tru_none, intOf_int, noneD, kB, tgD, kT, isi_n, isi_b, isi_i, isi_s, isi_t, isi_l, cutD_T, cutD_L, revD_T, revD_L, bin_add, bin_sub, cmp_lt, cmp_le, cmp_gt, cmp_ge, cmp_eqI, cmp_neI, b1_lenL, b1_lenT, b1_tupL, b1_tupT, b1_lstL, b1_lstT, b1_int, Bool.false_eq_true, if_false, if_true, Bool.not_true, Bool.not_false, decide_true, decide_false, Rs_ok, Rs_exc, lstG, lstD, bindTs, bindT, svAll, wipeE, Option.bind_some, fin_rt, fin_nx, fin_exc, c1, cmp_in, in_true, hb, len_rows, h', h]
    · have h' : (20 : Int) < rows.length := by omega
      simp only [dCheckPoints, eB_cons, eB_nil, eS_asg, eS_iff, eS_ret, eS_ex, eS_rai, eS_aug, eS_par, eS_unp, eS_app, eS_ext, eS_asgO, eS_six, eS_brk, eE_var, eE_own, eE_int, eE_bl, eE_non, eE_str, eE_glob, eE_bin, eE_neg, eE_not, eE_and, eE_or, eE_cmp, eE_ch2, eE_isN, eE_isNN, eE_isNT, eE_ife, eE_tup, eE_lst, eE_dct0, eE_ix, eE_sl, eE_rev, eE_call, eE_b1, eE_b2, eE_isi, eE_join, eL_nil, eL_cons, eA_nil, eA_one, eA_cons, eO_nil, eO_one, eO_cons, eP_no, eP_yes, eC_no, eC_yes, eI_seq, gv_z, gv_s, sv_z, sv_s, bw_ok, bw_exc, Res.ofO_some, Option.map_some, tru_bool, tru_none, intOf_int, noneD, kB, tgD, kT, isi_n, isi_b, isi_i, isi_s, isi_t, isi_l, cutD_T, cutD_L, revD_T, revD_L, bin_add, bin_sub, cmp_lt, cmp_le, cmp_gt, cmp_ge, cmp_eqI, cmp_neI, b1_lenL, b1_lenT, b1_tupL, b1_tupT, b1_lstL, b1_lstT, b1_int, Bool.false_eq_true, if_false, if_true, Bool.not_true, Bool.not_false, decide_true, decide_false, Rs_ok, Rs_exc, lstG, lstD, bindTs, bindT, svAll, wipeE, Option.bind_some, fin_rt, fin_nx, fin_exc, c1, cmp_in, in_true, hb, len_rows, h', h]
end
theorem zip_mem {α : Type} {l : List α} {q : α × Nat} (h : q ∈ l.zipIdx) : q.1 ∈ l := List.fst_mem_of_mem_zipIdx h
/-- walking with places, and over places -/
theorem zipIdx_range {α : Type} {l : List α} {d : α} : l.zipIdx = (List.range l.length).map fun k => (l.getD k d, k) := by
  refine List.ext_getElem (by simp) fun i h1 h2 => ?_
  simp only [List.length_zipIdx] at h1
  simp only [List.getElem_zipIdx, List.getElem_map, List.getElem_range, getD_lt h1, Nat.zero_add]
theorem zip_filter {α : Type} {l : List α} {d : α} {p : α × Nat → Bool} : l.zipIdx.filter p = ((List.range l.length).filter fun k => p (l.getD k d, k)).map fun k => (l.getD k d, k) := by
  rw [zipIdx_range (d := d), List.filter_map]
  rfl
theorem ix_rows {rows : List (List Int)} {k : Nat} (h : k < rows.length) {g : G} : ixG (rowsD rows) (.int k) g = some (mkT (rows.getD k [])) := by
  unfold rowsD
  rw [ixT_nat (by simpa using h), getD_lt h, List.getElem_map]
end PT
namespace PT
open PySem

/-- a part of what is asked -/
structure Pq (d : D) : Prop where
  nd : nd d = true
  ok : okE d = true
  tup : ∀ ds, d = .tuple ds → ds.length ≤ 100000 ∧ ∀ x ∈ ds, Od 60 x
theorem od_pq {k : Nat} {d : D} (h : Od k d) (hk : k ≤ 60) : Pq d := by
  refine ⟨h.nd, h.okE (by omega), fun ds e => ?_⟩
  subst e
  cases k with
  | zero => exact h.tup0.elim
  | succ k =>
    have := Od.tup.mp h
    exact ⟨this.1, fun x hx => (this.2 x hx).mono (by omega)⟩
theorem Pq.aq {d : D} (h : Pq d) : Aq d := ⟨h.nd, fun ds e x hx => ⟨((h.tup ds e).2 x hx).nd, ((h.tup ds e).2 x hx).okE (by decide)⟩⟩
theorem ask_pq {ds : List D} (h : Ask (.tuple ds)) {x : D} (hx : x ∈ ds) : Pq x := od_pq (ask_part h hx) (by decide)
/-- a number from 0 on below m -/
def plB (m : Int) : D → Bool
  | .int i => decide (0 ≤ i) && decide (i < m)
  | _ => false
def placesB (m : Int) : D → Bool
  | .tuple ds => ds.all (plB m)
  | _ => false
theorem placesB_iff {m : Int} {d : D} : placesB m d = true ↔ ∃ r : List Int, d = mkT r ∧ ∀ i ∈ r, 0 ≤ i ∧ i < m := by
  have key : ∀ ds : List D, ds.all (plB m) = true ↔ ∃ r : List Int, ds = r.map .int ∧ ∀ i ∈ r, 0 ≤ i ∧ i < m := by
    intro ds
    induction ds with
    | nil => simp
    | cons d ds ih =>
      rw [List.all_cons, Bool.and_eq_true, ih]
      constructor
      · rintro ⟨h, r, rfl, hr⟩
        cases d with
        | int i =>
          simp only [plB, Bool.and_eq_true, decide_eq_true_eq] at h
          exact ⟨i :: r, rfl, fun x hx => by
            rcases List.mem_cons.mp hx with rfl | hx
            · exact h
            · exact hr x hx⟩
        | _ => simp [plB] at h
      · rintro ⟨r, e, hr⟩
        cases r with
        | nil => cases e
        | cons i r =>
          simp only [List.map_cons, List.cons.injEq] at e
          have := hr i (List.mem_cons_self ..)
          exact ⟨by rw [e.1]; simp [plB, this], r, e.2, fun x hx => hr x (List.mem_cons_of_mem _ hx)⟩
  constructor
  · intro h
    cases d with
    | tuple ds =>
      obtain ⟨r, e, hr⟩ := (key ds).mp h
      exact ⟨r, by rw [e]; rfl, hr⟩
    | _ => simp [placesB] at h
  · rintro ⟨r, rfl, hr⟩
    exact (key _).mpr ⟨r, rfl, hr⟩
def dLPlace (wh : Nat) : Def := { name := "_law_is_place", ps := 2, ns := ["value", "most"], mu := [], fr := false, body := [
    .ret (.and (.call wh [.var 0]) [.ch2 .le .lt (.int 0) (.var 0) (.var 1)])] }
def dLPlaces (pl : Nat) : Def := { name := "_law_are_places", ps := 2, ns := ["value", "most", "part"], mu := [], fr := false, body := [
    .ret (.and (.isi .tuple (.var 0)) [.cmp .eq (.lc [2] (.n 2) (.seq (.var 0)) (.yes (.not (.call pl [.var 2, .var 1]))) (.var 2)) (.lst [])])] }
def dPlaces (wh : Nat) : Def := { name := "are_places", ps := 2, ns := ["value", "most", "part"], mu := [], fr := false, body := [
    .ret (.and (.isi .tuple (.var 0)) [.cmp .notin (.bl false) (.lc [2] (.n 2) (.seq (.var 0)) .no (.and (.call wh [.var 2]) [.ch2 .le .lt (.int 0) (.var 2) (.var 1)]))])] }
section
variable {P : List Def} {wh pl ps : Nat} {nm : Str} {n : Nat} {g : G} {d : D}
theorem ch2_place {Φ : Fn} {a b c : T} {i m : Int} {ρ : Env} (ha : evE Φ a ρ g = .ok (.int 0) g) (hb : evE Φ b ρ g = .ok (.int i) g) (hc : evE Φ c ρ g = .ok (.int m) g) : evE Φ (.ch2 .le .lt a b c) ρ g = .ok (.bool (decide (0 ≤ i) && decide (i < m))) g := by
  by_cases h : 0 ≤ i
  · simp only [eB_cons, eB_nil, eS_asg, eS_iff, eS_ret, eS_ex, eS_rai, eS_aug, eS_par, eS_unp, eS_app, eS_ext, eS_asgO, eS_six, eS_brk, eE_var, eE_own, eE_int, eE_bl, eE_non, eE_str, eE_glob, eE_bin, eE_neg, eE_not, eE_and, eE_or, eE_cmp, eE_ch2, eE_isN, eE_isNN, eE_isNT, eE_ife, eE_tup, eE_lst, eE_dct0, eE_ix, eE_sl, eE_rev, eE_call, eE_b1, eE_b2, eE_isi, eE_join, eL_nil, eL_cons, eA_nil, eA_one, eA_cons, eO_nil, eO_one, eO_cons, eP_no, eP_yes, eC_no, eC_yes, eI_seq, gv_z, gv_s, sv_z, sv_s, bw_ok, bw_exc, Res.ofO_some, Option.map_some, tru_bool, tru_none, intOf_int, noneD, kB, tgD, kT, isi_n, isi_b, isi_i, isi_s, isi_t, isi_l, cutD_T, cutD_L, revD_T, revD_L, bin_add, bin_sub, cmp_lt, cmp_le, cmp_gt, cmp_ge, cmp_eqI, cmp_neI, b1_lenL, b1_lenT, b1_tupL, b1_tupT, b1_lstL, b1_lstT, b1_int, Bool.false_eq_true, if_false, if_true, Bool.not_true, Bool.not_false, decide_true, decide_false, Rs_ok, Rs_exc, lstG, lstD, bindTs, bindT, svAll, wipeE, Option.bind_some, fin_rt, fin_nx, fin_exc, ha, hb, hc, h, Bool.true_and]
  · simp only [eB_cons, eB_nil, eS_asg, eS_iff, eS_ret, eS_ex, eS_rai, eS_aug, eS_par, eS_unp, eS_app, eS_ext, eS_asgO, eS_six, eS_brk, eE_var, eE_own, eE_int, eE_bl, eE_non, eE_str, eE_glob, eE_bin, eE_neg, eE_not, eE_and, eE_or, eE_cmp, eE_ch2, eE_isN, eE_isNN, eE_isNT, eE_ife, eE_tup, eE_lst, eE_dct0, eE_ix, eE_sl, eE_rev, eE_call, eE_b1, eE_b2, eE_isi, eE_join, eL_nil, eL_cons, eA_nil, eA_one, eA_cons, eO_nil, eO_one, eO_cons, eP_no, eP_yes, eC_no, eC_yes, eI_seq, gv_z, gv_s, sv_z, sv_s, bw_ok, bw_exc, Res.ofO_some, Option.map_some, tru_bool, tru_none, intOf_int, noneD, kB, tgD, kT, isi_n, isi_b, isi_i, isi_s, isi_t, isi_l, cutD_T, cutD_L, revD_T, revD_L, bin_add, bin_sub, cmp_lt, cmp_le, cmp_gt, cmp_ge, cmp_eqI, cmp_neI, b1_lenL, b1_lenT, b1_tupL, b1_tupT, b1_lstL, b1_lstT, b1_int, Bool.false_eq_true, if_false, if_true, Bool.not_true, Bool.not_false, decide_true, decide_false, Rs_ok, Rs_exc, lstG, lstD, bindTs, bindT, svAll, wipeE, Option.bind_some, fin_rt, fin_nx, fin_exc, ha, hb, h, Bool.false_and]
theorem lplace_run (hW : P[wh]? = some (dWhole nm)) (hL : P[pl]? = some (dLPlace wh)) (hn : 2 ≤ n) (hd : nd d = true) {m : Int} : runF P n pl [d, .int m] g = .ok (.bool (plB m d)) g := by
  obtain ⟨n, rfl⟩ : ∃ m, n = m + 1 := ⟨n - 1, by omega⟩
  rw [run_def hL rfl]
  show fin (evB (runF P n) (dLPlace wh).body [some d, some (.int m)] g) = _
  have w := whole_run (g := g) hW (show 1 ≤ n by omega) hd
  cases d with
  | int i =>
    have c := ch2_place (Φ := runF P n) (a := .int 0) (b := .var 0) (c := .var 1) (i := i) (m := m) (ρ := [some (.int i), some (.int m)]) (g := g) (by simp only [eB_cons, eB_nil, eS_asg, eS_iff, eS_ret, eS_ex, eS_rai, eS_aug, eS_par, eS_unp, eS_app, eS_ext, eS_asgO, eS_six, eS_brk, eE_var, eE_own, eE_int, eE_bl, eE_non, eE_str, eE_glob, eE_bin, eE_neg, eE_not, eE_and, eE_or, eE_cmp, eE_ch2, eE_isN, eE_isNN, eE_isNT, eE_ife, eE_tup, eE_lst, eE_dct0, eE_ix, eE_sl, eE_rev, eE_call, eE_b1, eE_b2, eE_isi, eE_join, eL_nil, eL_cons, eA_nil, eA_one, eA_cons, eO_nil, eO_one, eO_cons, eP_no, eP_yes, eC_no, eC_yes, eI_seq, gv_z, gv_s, sv_z, sv_s, bw_ok, bw_exc, Res.ofO_some, Option.map_some, tru_bool, tru_none, intOf_int, noneD, kB, tgD, kT, isi_n, isi_b, isi_i, isi_s, isi_t, isi_l, cutD_T, cutD_L, revD_T, revD_L, bin_add, bin_sub, cmp_lt, cmp_le, cmp_gt, cmp_ge, cmp_eqI, cmp_neI, b1_lenL, b1_lenT, b1_tupL, b1_tupT, b1_lstL, b1_lstT, b1_int, Bool.false_eq_true, if_false, if_true, Bool.not_true, Bool.not_false, decide_true, decide_false, Rs_ok, Rs_exc, lstG, lstD, bindTs, bindT, svAll, wipeE, Option.bind_some, fin_rt, fin_nx, fin_exc]) (by simp only [eB_cons, eB_nil, eS_asg, eS_iff, eS_ret, eS_ex, eS_rai, eS_aug, eS_par, eS_unp, eS_app, eS_ext, eS_asgO, eS_six, eS_brk, eE_var, eE_own, eE_int, eE_bl, eE_non, eE_str, eE_glob, eE_bin, eE_neg, eE_not, eE_and, eE_or, eE_cmp, eE_ch2, eE_isN, eE_isNN, eE_isNT, eE_ife, eE_tup, eE_lst, eE_dct0, eE_ix, eE_sl, eE_rev, eE_call, eE_b1, eE_b2, eE_isi, eE_join, eL_nil, eL_cons, eA_nil, eA_one, eA_cons, eO_nil, eO_one, eO_cons, eP_no, eP_yes, eC_no, eC_yes, eI_seq, gv_z, gv_s, sv_z, sv_s, bw_ok, bw_exc, Res.ofO_some, Option.map_some, tru_bool, tru_none, intOf_int, noneD, kB, tgD, kT, isi_n, isi_b, isi_i, isi_s, isi_t, isi_l, cutD_T, cutD_L, revD_T, revD_L, bin_add, bin_sub, cmp_lt, cmp_le, cmp_gt, cmp_ge, cmp_eqI, cmp_neI, b1_lenL, b1_lenT, b1_tupL, b1_tupT, b1_lstL, b1_lstT, b1_int, Bool.false_eq_true, if_false, if_true, Bool.not_true, Bool.not_false, decide_true, decide_false, Rs_ok, Rs_exc, lstG, lstD, bindTs, bindT, svAll, wipeE, Option.bind_some, fin_rt, fin_nx, fin_exc]) (by simp only [eB_cons, eB_nil, eS_asg, eS_iff, eS_ret, eS_ex, eS_rai, eS_aug, eS_par, eS_unp, eS_app, eS_ext, eS_asgO, eS_six, eS_brk, eE_var, eE_own, eE_int, eE_bl, eE_non, eE_str, eE_glob, eE_bin, eE_neg, eE_not, eE_and, eE_or, eE_cmp, eE_ch2, eE_isN, eE_isNN, eE_isNT, eE_ife, eE_tup, eE_lst, eE_dct0, eE_ix, eE_sl, eE_rev, eE_call, eE_b1, eE_b2, eE_isi, eE_join, eL_nil, eL_cons, eA_nil, eA_one, eA_cons, eO_nil, eO_one, eO_cons, eP_no, eP_yes, eC_no, eC_yes, eI_seq, gv_z, gv_s, sv_z, sv_s, bw_ok, bw_exc, Res.ofO_some, Option.map_some, tru_bool, tru_none, intOf_int, noneD, kB, tgD, kT, isi_n, isi_b, isi_i, isi_s, isi_t, isi_l, cutD_T, cutD_L, revD_T, revD_L, bin_add, bin_sub, cmp_lt, cmp_le, cmp_gt, cmp_ge, cmp_eqI, cmp_neI, b1_lenL, b1_lenT, b1_tupL, b1_tupT, b1_lstL, b1_lstT, b1_int, Bool.false_eq_true, if_false, if_true, Bool.not_true, Bool.not_false, decide_true, decide_false, Rs_ok, Rs_exc, lstG, lstD, bindTs, bindT, svAll, wipeE, Option.bind_some, fin_rt, fin_nx, fin_exc])
    simp only [dLPlace, eB_cons, eS_ret, eE_and, eE_call, eL_cons, eL_nil, eE_var, gv_z, Res.ofO_some, bw_ok, w, kI, tru_bool, if_true, eA_one, c, fin_rt, plB]
  | _ => simp only [dLPlace, eB_cons, eB_nil, eS_asg, eS_iff, eS_ret, eS_ex, eS_rai, eS_aug, eS_par, eS_unp, eS_app, eS_ext, eS_asgO, eS_six, eS_brk, eE_var, eE_own, eE_int, eE_bl, eE_non, eE_str, eE_glob, eE_bin, eE_neg, eE_not, eE_and, eE_or, eE_cmp, eE_ch2, eE_isN, eE_isNN, eE_isNT, eE_ife, eE_tup, eE_lst, eE_dct0, eE_ix, eE_sl, eE_rev, eE_call, eE_b1, eE_b2, eE_isi, eE_join, eL_nil, eL_cons, eA_nil, eA_one, eA_cons, eO_nil, eO_one, eO_cons, eP_no, eP_yes, eC_no, eC_yes, eI_seq, gv_z, gv_s, sv_z, sv_s, bw_ok, bw_exc, Res.ofO_some, Option.map_some, tru_bool, tru_none, intOf_int, noneD, kB, tgD, kT, isi_n, isi_b, isi_i, isi_s, isi_t, isi_l, cutD_T, cutD_L, revD_T, revD_L, bin_add, bin_sub, cmp_lt, cmp_le, cmp_gt, cmp_ge, cmp_eqI, cmp_neI, b1_lenL, b1_lenT, b1_tupL, b1_tupT, b1_lstL, b1_lstT, b1_int, Bool.false_eq_true, if_false, if_true, Bool.not_true, Bool.not_false, decide_true, decide_false, Rs_ok, Rs_exc, lstG, lstD, bindTs, bindT, svAll, wipeE, Option.bind_some, fin_rt, fin_nx, fin_exc, w, kI, plB]
theorem lplaces_run (hW : P[wh]? = some (dWhole nm)) (hL : P[pl]? = some (dLPlace wh)) (hP : P[ps]? = some (dLPlaces pl)) (hn : 3 ≤ n) (hd : Pq d) {m : Int} : runF P n ps [d, .int m] g = .ok (.bool (placesB m d)) g := by
  obtain ⟨n, rfl⟩ : ∃ m, n = m + 1 := ⟨n - 1, by omega⟩
  rw [run_def hP rfl]
  show fin (evB (runF P n) (dLPlaces pl).body [some d, some (.int m), none] g) = _
  cases d with
  | tuple ds =>
    obtain ⟨h1, h2⟩ := hd.tup _ rfl
    have hlc : evE (runF P n) (.lc [2] (.n 2) (.seq (.var 0)) (.yes (.not (.call pl [.var 2, .var 1]))) (.var 2)) [some (.tuple ds), some (.int m), none] g = .ok (.list (ds.filter fun x => !plB m x)) g := by
      rw [eE_lc]
      simp only [eB_cons, eB_nil, eS_asg, eS_iff, eS_ret, eS_ex, eS_rai, eS_aug, eS_par, eS_unp, eS_app, eS_ext, eS_asgO, eS_six, eS_brk, eE_var, eE_own, eE_int, eE_bl, eE_non, eE_str, eE_glob, eE_bin, eE_neg, eE_not, eE_and, eE_or, eE_cmp, eE_ch2, eE_isN, eE_isNN, eE_isNT, eE_ife, eE_tup, eE_lst, eE_dct0, eE_ix, eE_sl, eE_rev, eE_call, eE_b1, eE_b2, eE_isi, eE_join, eL_nil, eL_cons, eA_nil, eA_one, eA_cons, eO_nil, eO_one, eO_cons, eP_no, eP_yes, eC_no, eC_yes, eI_seq, gv_z, gv_s, sv_z, sv_s, bw_ok, bw_exc, Res.ofO_some, Option.map_some, tru_bool, tru_none, intOf_int, noneD, kB, tgD, kT, isi_n, isi_b, isi_i, isi_s, isi_t, isi_l, cutD_T, cutD_L, revD_T, revD_L, bin_add, bin_sub, cmp_lt, cmp_le, cmp_gt, cmp_ge, cmp_eqI, cmp_neI, b1_lenL, b1_lenT, b1_tupL, b1_tupT, b1_lstL, b1_lstT, b1_int, Bool.false_eq_true, if_false, if_true, Bool.not_true, Bool.not_false, decide_true, decide_false, Rs_ok, Rs_exc, lstG, lstD, bindTs, bindT, svAll, wipeE, Option.bind_some, fin_rt, fin_nx, fin_exc, itemsD_T]
      have := lc_if (f := lcQ (runF P n) [2] (.n 2) (.yes (.not (.call pl [.var 2, .var 1]))) (.var 2) [some (.tuple ds), some (.int m), none]) (g := g) (l := ds) (e := fun x => x) (fun x => !plB m x) (fun x => x) (line_of (by omega)) (fun x hx => by
        have := lplace_run (g := g) hW hL (show 2 ≤ n by omega) (h2 x hx).nd (m := m)
        cases hp : plB m x with
        | true => simp only [lcQ_eq, eB_cons, eB_nil, eS_asg, eS_iff, eS_ret, eS_ex, eS_rai, eS_aug, eS_par, eS_unp, eS_app, eS_ext, eS_asgO, eS_six, eS_brk, eE_var, eE_own, eE_int, eE_bl, eE_non, eE_str, eE_glob, eE_bin, eE_neg, eE_not, eE_and, eE_or, eE_cmp, eE_ch2, eE_isN, eE_isNN, eE_isNT, eE_ife, eE_tup, eE_lst, eE_dct0, eE_ix, eE_sl, eE_rev, eE_call, eE_b1, eE_b2, eE_isi, eE_join, eL_nil, eL_cons, eA_nil, eA_one, eA_cons, eO_nil, eO_one, eO_cons, eP_no, eP_yes, eC_no, eC_yes, eI_seq, gv_z, gv_s, sv_z, sv_s, bw_ok, bw_exc, Res.ofO_some, Option.map_some, tru_bool, tru_none, intOf_int, noneD, kB, tgD, kT, isi_n, isi_b, isi_i, isi_s, isi_t, isi_l, cutD_T, cutD_L, revD_T, revD_L, bin_add, bin_sub, cmp_lt, cmp_le, cmp_gt, cmp_ge, cmp_eqI, cmp_neI, b1_lenL, b1_lenT, b1_tupL, b1_tupT, b1_lstL, b1_lstT, b1_int, Bool.false_eq_true, if_false, if_true, Bool.not_true, Bool.not_false, decide_true, decide_false, Rs_ok, Rs_exc, lstG, lstD, bindTs, bindT, svAll, wipeE, Option.bind_some, fin_rt, fin_nx, fin_exc, this, hp]
        | false => simp only [lcQ_eq, eB_cons, eB_nil, eS_asg, eS_iff, eS_ret, eS_ex, eS_rai, eS_aug, eS_par, eS_unp, eS_app, eS_ext, eS_asgO, eS_six, eS_brk, eE_var, eE_own, eE_int, eE_bl, eE_non, eE_str, eE_glob, eE_bin, eE_neg, eE_not, eE_and, eE_or, eE_cmp, eE_ch2, eE_isN, eE_isNN, eE_isNT, eE_ife, eE_tup, eE_lst, eE_dct0, eE_ix, eE_sl, eE_rev, eE_call, eE_b1, eE_b2, eE_isi, eE_join, eL_nil, eL_cons, eA_nil, eA_one, eA_cons, eO_nil, eO_one, eO_cons, eP_no, eP_yes, eC_no, eC_yes, eI_seq, gv_z, gv_s, sv_z, sv_s, bw_ok, bw_exc, Res.ofO_some, Option.map_some, tru_bool, tru_none, intOf_int, noneD, kB, tgD, kT, isi_n, isi_b, isi_i, isi_s, isi_t, isi_l, cutD_T, cutD_L, revD_T, revD_L, bin_add, bin_sub, cmp_lt, cmp_le, cmp_gt, cmp_ge, cmp_eqI, cmp_neI, b1_lenL, b1_lenT, b1_tupL, b1_tupT, b1_lstL, b1_lstT, b1_int, Bool.false_eq_true, if_false, if_true, Bool.not_true, Bool.not_false, decide_true, decide_false, Rs_ok, Rs_exc, lstG, lstD, bindTs, bindT, svAll, wipeE, Option.bind_some, fin_rt, fin_nx, fin_exc, this, hp])
      rwa [List.map_id', List.map_id'] at this
    have ok : okE (.list (ds.filter fun x => !plB m x)) = true := (Od.lst (k := 60).mpr ⟨Nat.le_trans (List.length_filter_le _ _) h1, fun x hx => h2 x (List.mem_filter.mp hx).1⟩).okE (by decide)
    have hc := cmp_eq (x := .list (ds.filter fun x => !plB m x)) (y := .list []) ⟨ok, rfl⟩
    rw [eqv_nilL] at hc
    have e : (ds.filter fun x => !plB m x).isEmpty = ds.all (plB m) := by
      rw [Bool.eq_iff_iff, List.isEmpty_iff, List.filter_eq_nil_iff, List.all_eq_true]
      simp
    simp only [dLPlaces, eB_cons, eB_nil, eS_asg, eS_iff, eS_ret, eS_ex, eS_rai, eS_aug, eS_par, eS_unp, eS_app, eS_ext, eS_asgO, eS_six, eS_brk, eE_var, eE_own, eE_int, eE_bl, eE_non, eE_str, eE_glob, eE_bin, eE_neg, eE_not, eE_and, eE_or, eE_cmp, eE_ch2, eE_isN, eE_isNN, eE_isNT, eE_ife, eE_tup, eE_lst, eE_dct0, eE_ix, eE_sl, eE_rev, eE_call, eE_b1, eE_b2, eE_isi, eE_join, eL_nil, eL_cons, eA_nil, eA_one, eA_cons, eO_nil, eO_one, eO_cons, eP_no, eP_yes, eC_no, eC_yes, eI_seq, gv_z, gv_s, sv_z, sv_s, bw_ok, bw_exc, Res.ofO_some, Option.map_some, tru_bool, tru_none, intOf_int, noneD, kB, tgD, kT, isi_n, isi_b, isi_i, isi_s, isi_t, isi_l, cutD_T, cutD_L, revD_T, revD_L, bin_add, bin_sub, cmp_lt, cmp_le, cmp_gt, cmp_ge, cmp_eqI, cmp_neI, b1_lenL, b1_lenT, b1_tupL, b1_tupT, b1_lstL, b1_lstT, b1_int, Bool.false_eq_true, if_false, if_true, Bool.not_true, Bool.not_false, decide_true, decide_false, Rs_ok, Rs_exc, lstG, lstD, bindTs, bindT, svAll, wipeE, Option.bind_some, fin_rt, fin_nx, fin_exc, hlc, hc, e, placesB]
  | dict kvs => cases kvs with
    | nil => simp only [dLPlaces, eB_cons, eB_nil, eS_asg, eS_iff, eS_ret, eS_ex, eS_rai, eS_aug, eS_par, eS_unp, eS_app, eS_ext, eS_asgO, eS_six, eS_brk, eE_var, eE_own, eE_int, eE_bl, eE_non, eE_str, eE_glob, eE_bin, eE_neg, eE_not, eE_and, eE_or, eE_cmp, eE_ch2, eE_isN, eE_isNN, eE_isNT, eE_ife, eE_tup, eE_lst, eE_dct0, eE_ix, eE_sl, eE_rev, eE_call, eE_b1, eE_b2, eE_isi, eE_join, eL_nil, eL_cons, eA_nil, eA_one, eA_cons, eO_nil, eO_one, eO_cons, eP_no, eP_yes, eC_no, eC_yes, eI_seq, gv_z, gv_s, sv_z, sv_s, bw_ok, bw_exc, Res.ofO_some, Option.map_some, tru_bool, tru_none, intOf_int, noneD, kB, tgD, kT, isi_n, isi_b, isi_i, isi_s, isi_t, isi_l, cutD_T, cutD_L, revD_T, revD_L, bin_add, bin_sub, cmp_lt, cmp_le, cmp_gt, cmp_ge, cmp_eqI, cmp_neI, b1_lenL, b1_lenT, b1_tupL, b1_tupT, b1_lstL, b1_lstT, b1_int, Bool.false_eq_true, if_false, if_true, Bool.not_true, Bool.not_false, decide_true, decide_false, Rs_ok, Rs_exc, lstG, lstD, bindTs, bindT, svAll, wipeE, Option.bind_some, fin_rt, fin_nx, fin_exc, isi_d, placesB]
    | cons _ _ => cases hd.nd
  | _ => simp only [dLPlaces, eB_cons, eB_nil, eS_asg, eS_iff, eS_ret, eS_ex, eS_rai, eS_aug, eS_par, eS_unp, eS_app, eS_ext, eS_asgO, eS_six, eS_brk, eE_var, eE_own, eE_int, eE_bl, eE_non, eE_str, eE_glob, eE_bin, eE_neg, eE_not, eE_and, eE_or, eE_cmp, eE_ch2, eE_isN, eE_isNN, eE_isNT, eE_ife, eE_tup, eE_lst, eE_dct0, eE_ix, eE_sl, eE_rev, eE_call, eE_b1, eE_b2, eE_isi, eE_join, eL_nil, eL_cons, eA_nil, eA_one, eA_cons, eO_nil, eO_one, eO_cons, eP_no, eP_yes, eC_no, eC_yes, eI_seq, gv_z, gv_s, sv_z, sv_s, bw_ok, bw_exc, Res.ofO_some, Option.map_some, tru_bool, tru_none, intOf_int, noneD, kB, tgD, kT, isi_n, isi_b, isi_i, isi_s, isi_t, isi_l, cutD_T, cutD_L, revD_T, revD_L, bin_add, bin_sub, cmp_lt, cmp_le, cmp_gt, cmp_ge, cmp_eqI, cmp_neI, b1_lenL, b1_lenT, b1_tupL, b1_tupT, b1_lstL, b1_lstT, b1_int, Bool.false_eq_true, if_false, if_true, Bool.not_true, Bool.not_false, decide_true, decide_false, Rs_ok, Rs_exc, lstG, lstD, bindTs, bindT, svAll, wipeE, Option.bind_some, fin_rt, fin_nx, fin_exc, placesB]
theorem places_run (hW : P[wh]? = some (dWhole nm)) (hP : P[ps]? = some (dPlaces wh)) (hn : 2 ≤ n) (hd : Pq d) {m : Int} : runF P n ps [d, .int m] g = .ok (.bool (placesB m d)) g := by
  obtain ⟨n, rfl⟩ : ∃ m, n = m + 1 := ⟨n - 1, by omega⟩
  rw [run_def hP rfl]
  show fin (evB (runF P n) (dPlaces wh).body [some d, some (.int m), none] g) = _
  cases d with
  | tuple ds =>
    obtain ⟨h1, h2⟩ := hd.tup _ rfl
    have hlc : evE (runF P n) (.lc [2] (.n 2) (.seq (.var 0)) .no (.and (.call wh [.var 2]) [.ch2 .le .lt (.int 0) (.var 2) (.var 1)])) [some (.tuple ds), some (.int m), none] g = .ok (.list (ds.map fun x => .bool (plB m x))) g := by
      rw [eE_lc]
      simp only [eB_cons, eB_nil, eS_asg, eS_iff, eS_ret, eS_ex, eS_rai, eS_aug, eS_par, eS_unp, eS_app, eS_ext, eS_asgO, eS_six, eS_brk, eE_var, eE_own, eE_int, eE_bl, eE_non, eE_str, eE_glob, eE_bin, eE_neg, eE_not, eE_and, eE_or, eE_cmp, eE_ch2, eE_isN, eE_isNN, eE_isNT, eE_ife, eE_tup, eE_lst, eE_dct0, eE_ix, eE_sl, eE_rev, eE_call, eE_b1, eE_b2, eE_isi, eE_join, eL_nil, eL_cons, eA_nil, eA_one, eA_cons, eO_nil, eO_one, eO_cons, eP_no, eP_yes, eC_no, eC_yes, eI_seq, gv_z, gv_s, sv_z, sv_s, bw_ok, bw_exc, Res.ofO_some, Option.map_some, tru_bool, tru_none, intOf_int, noneD, kB, tgD, kT, isi_n, isi_b, isi_i, isi_s, isi_t, isi_l, cutD_T, cutD_L, revD_T, revD_L, bin_add, bin_sub, cmp_lt, cmp_le, cmp_gt, cmp_ge, cmp_eqI, cmp_neI, b1_lenL, b1_lenT, b1_tupL, b1_tupT, b1_lstL, b1_lstT, b1_int, Bool.false_eq_true, if_false, if_true, Bool.not_true, Bool.not_false, decide_true, decide_false, Rs_ok, Rs_exc, lstG, lstD, bindTs, bindT, svAll, wipeE, Option.bind_some, fin_rt, fin_nx, fin_exc, itemsD_T]
      have := lc_val (f := lcQ (runF P n) [2] (.n 2) .no (.and (.call wh [.var 2]) [.ch2 .le .lt (.int 0) (.var 2) (.var 1)]) [some (.tuple ds), some (.int m), none]) (g := g) (l := ds) (e := fun x => x) (fun x => .bool (plB m x)) (line_of (by omega)) (fun x hx => by
        have w := whole_run (g := g) hW (show 1 ≤ n by omega) (h2 x hx).nd
        cases x with
        | int i =>
          have c := ch2_place (Φ := runF P n) (a := .int 0) (b := .var 2) (c := .var 1) (i := i) (m := m) (ρ := [some (.tuple ds), some (.int m), some (.int i)]) (g := g) (by simp only [eB_cons, eB_nil, eS_asg, eS_iff, eS_ret, eS_ex, eS_rai, eS_aug, eS_par, eS_unp, eS_app, eS_ext, eS_asgO, eS_six, eS_brk, eE_var, eE_own, eE_int, eE_bl, eE_non, eE_str, eE_glob, eE_bin, eE_neg, eE_not, eE_and, eE_or, eE_cmp, eE_ch2, eE_isN, eE_isNN, eE_isNT, eE_ife, eE_tup, eE_lst, eE_dct0, eE_ix, eE_sl, eE_rev, eE_call, eE_b1, eE_b2, eE_isi, eE_join, eL_nil, eL_cons, eA_nil, eA_one, eA_cons, eO_nil, eO_one, eO_cons, eP_no, eP_yes, eC_no, eC_yes, eI_seq, gv_z, gv_s, sv_z, sv_s, bw_ok, bw_exc, Res.ofO_some, Option.map_some, tru_bool, tru_none, intOf_int, noneD, kB, tgD, kT, isi_n, isi_b, isi_i, isi_s, isi_t, isi_l, cutD_T, cutD_L, revD_T, revD_L, bin_add, bin_sub, cmp_lt, cmp_le, cmp_gt, cmp_ge, cmp_eqI, cmp_neI, b1_lenL, b1_lenT, b1_tupL, b1_tupT, b1_lstL, b1_lstT, b1_int, Bool.false_eq_true, if_false, if_true, Bool.not_true, Bool.not_false, decide_true, decide_false, Rs_ok, Rs_exc, lstG, lstD, bindTs, bindT, svAll, wipeE, Option.bind_some, fin_rt, fin_nx, fin_exc]) (by simp only [eB_cons, eB_nil, eS_asg, eS_iff, eS_ret, eS_ex, eS_rai, eS_aug, eS_par, eS_unp, eS_app, eS_ext, eS_asgO, eS_six, eS_brk, eE_var, eE_own, eE_int, eE_bl, eE_non, eE_str, eE_glob, eE_bin, eE_neg, eE_not, eE_and, eE_or, eE_cmp, eE_ch2, eE_isN, eE_isNN, eE_isNT, eE_ife, eE_tup, eE_lst, eE_dct0, eE_ix, eE_sl, eE_rev, eE_call, eE_b1, eE_b2, eE_isi, eE_join, eL_nil, eL_cons, eA_nil, eA_one, eA_cons, eO_nil, eO_one, eO_cons, eP_no, eP_yes, eC_no, eC_yes, eI_seq, gv_z, gv_s, sv_z, sv_s, bw_ok, bw_exc, Res.ofO_some, Option.map_some, tru_bool, tru_none, intOf_int, noneD, kB, tgD, kT, isi_n, isi_b, isi_i, isi_s, isi_t, isi_l, cutD_T, cutD_L, revD_T, revD_L, bin_add, bin_sub, cmp_lt, cmp_le, cmp_gt, cmp_ge, cmp_eqI, cmp_neI, b1_lenL, b1_lenT, b1_tupL, b1_tupT, b1_lstL, b1_lstT, b1_int, Bool.false_eq_true, if_false, if_true, Bool.not_true, Bool.not_false, decide_true, decide_false, Rs_ok, Rs_exc, lstG, lstD, bindTs, bindT, svAll, wipeE, Option.bind_some, fin_rt, fin_nx, fin_exc]) (by simp only [eB_cons, eB_nil, eS_asg, eS_iff, eS_ret, eS_ex, eS_rai, eS_aug, eS_par, eS_unp, eS_app, eS_ext, eS_asgO, eS_six, eS_brk, eE_var, eE_own, eE_int, eE_bl, eE_non, eE_str, eE_glob, eE_bin, eE_neg, eE_not, eE_and, eE_or, eE_cmp, eE_ch2, eE_isN, eE_isNN, eE_isNT, eE_ife, eE_tup, eE_lst, eE_dct0, eE_ix, eE_sl, eE_rev, eE_call, eE_b1, eE_b2, eE_isi, eE_join, eL_nil, eL_cons, eA_nil, eA_one, eA_cons, eO_nil, eO_one, eO_cons, eP_no, eP_yes, eC_no, eC_yes, eI_seq, gv_z, gv_s, sv_z, sv_s, bw_ok, bw_exc, Res.ofO_some, Option.map_some, tru_bool, tru_none, intOf_int, noneD, kB, tgD, kT, isi_n, isi_b, isi_i, isi_s, isi_t, isi_l, cutD_T, cutD_L, revD_T, revD_L, bin_add, bin_sub, cmp_lt, cmp_le, cmp_gt, cmp_ge, cmp_eqI, cmp_neI, b1_lenL, b1_lenT, b1_tupL, b1_tupT, b1_lstL, b1_lstT, b1_int, Bool.false_eq_true, if_false, if_true, Bool.not_true, Bool.not_false, decide_true, decide_false, Rs_ok, Rs_exc, lstG, lstD, bindTs, bindT, svAll, wipeE, Option.bind_some, fin_rt, fin_nx, fin_exc])
          simp only [lcQ_eq, wipeE, bindT, sv_s, sv_z, Res.ofO_some, bw_ok, eC_no, if_true, eE_and, eE_call, eL_cons, eL_nil, eE_var, gv_s, gv_z, w, kI, tru_bool, eA_one, c, plB]
        | _ => simp only [lcQ_eq, eB_cons, eB_nil, eS_asg, eS_iff, eS_ret, eS_ex, eS_rai, eS_aug, eS_par, eS_unp, eS_app, eS_ext, eS_asgO, eS_six, eS_brk, eE_var, eE_own, eE_int, eE_bl, eE_non, eE_str, eE_glob, eE_bin, eE_neg, eE_not, eE_and, eE_or, eE_cmp, eE_ch2, eE_isN, eE_isNN, eE_isNT, eE_ife, eE_tup, eE_lst, eE_dct0, eE_ix, eE_sl, eE_rev, eE_call, eE_b1, eE_b2, eE_isi, eE_join, eL_nil, eL_cons, eA_nil, eA_one, eA_cons, eO_nil, eO_one, eO_cons, eP_no, eP_yes, eC_no, eC_yes, eI_seq, gv_z, gv_s, sv_z, sv_s, bw_ok, bw_exc, Res.ofO_some, Option.map_some, tru_bool, tru_none, intOf_int, noneD, kB, tgD, kT, isi_n, isi_b, isi_i, isi_s, isi_t, isi_l, cutD_T, cutD_L, revD_T, revD_L, bin_add, bin_sub, cmp_lt, cmp_le, cmp_gt, cmp_ge, cmp_eqI, cmp_neI, b1_lenL, b1_lenT, b1_tupL, b1_tupT, b1_lstL, b1_lstT, b1_int, Bool.false_eq_true, if_false, if_true, Bool.not_true, Bool.not_false, decide_true, decide_false, Rs_ok, Rs_exc, lstG, lstD, bindTs, bindT, svAll, wipeE, Option.bind_some, fin_rt, fin_nx, fin_exc, w, kI, plB])
      rwa [List.map_id'] at this
    simp only [dPlaces, eB_cons, eB_nil, eS_asg, eS_iff, eS_ret, eS_ex, eS_rai, eS_aug, eS_par, eS_unp, eS_app, eS_ext, eS_asgO, eS_six, eS_brk, eE_var, eE_own, eE_int, eE_bl, eE_non, eE_str, eE_glob, eE_bin, eE_neg, eE_not, eE_and, eE_or, eE_cmp, eE_ch2, eE_isN, eE_isNN, eE_isNT, eE_ife, eE_tup, eE_lst, eE_dct0, eE_ix, eE_sl, eE_rev, eE_call, eE_b1, eE_b2, eE_isi, eE_join, eL_nil, eL_cons, eA_nil, eA_one, eA_cons, eO_nil, eO_one, eO_cons, eP_no, eP_yes, eC_no, eC_yes, eI_seq, gv_z, gv_s, sv_z, sv_s, bw_ok, bw_exc, Res.ofO_some, Option.map_some, tru_bool, tru_none, intOf_int, noneD, kB, tgD, kT, isi_n, isi_b, isi_i, isi_s, isi_t, isi_l, cutD_T, cutD_L, revD_T, revD_L, bin_add, bin_sub, cmp_lt, cmp_le, cmp_gt, cmp_ge, cmp_eqI, cmp_neI, b1_lenL, b1_lenT, b1_tupL, b1_tupT, b1_lstL, b1_lstT, b1_int, Bool.false_eq_true, if_false, if_true, Bool.not_true, Bool.not_false, decide_true, decide_false, Rs_ok, Rs_exc, lstG, lstD, bindTs, bindT, svAll, wipeE, Option.bind_some, fin_rt, fin_nx, fin_exc, hlc, cmp_notin, in_false, Bool.not_not, placesB]
  | dict kvs => cases kvs with
    | nil => simp only [dPlaces, eB_cons, eB_nil, eS_asg, eS_iff, eS_ret, eS_ex, eS_rai, eS_aug, eS_par, eS_unp, eS_app, eS_ext, eS_asgO, eS_six, eS_brk, eE_var, eE_own, eE_int, eE_bl, eE_non, eE_str, eE_glob, eE_bin, eE_neg, eE_not, eE_and, eE_or, eE_cmp, eE_ch2, eE_isN, eE_isNN, eE_isNT, eE_ife, eE_tup, eE_lst, eE_dct0, eE_ix, eE_sl, eE_rev, eE_call, eE_b1, eE_b2, eE_isi, eE_join, eL_nil, eL_cons, eA_nil, eA_one, eA_cons, eO_nil, eO_one, eO_cons, eP_no, eP_yes, eC_no, eC_yes, eI_seq, gv_z, gv_s, sv_z, sv_s, bw_ok, bw_exc, Res.ofO_some, Option.map_some, tru_bool, tru_none, intOf_int, noneD, kB, tgD, kT, isi_n, isi_b, isi_i, isi_s, isi_t, isi_l, cutD_T, cutD_L, revD_T, revD_L, bin_add, bin_sub, cmp_lt, cmp_le, cmp_gt, cmp_ge, cmp_eqI, cmp_neI, b1_lenL, b1_lenT, b1_tupL, b1_tupT, b1_lstL, b1_lstT, b1_int, Bool.false_eq_true, if_false, if_true, Bool.not_true, Bool.not_false, decide_true, decide_false, Rs_ok, Rs_exc, lstG, lstD, bindTs, bindT, svAll, wipeE, Option.bind_some, fin_rt, fin_nx, fin_exc, isi_d, placesB]
    | cons _ _ => cases hd.nd
  | _ => simp only [dPlaces, eB_cons, eB_nil, eS_asg, eS_iff, eS_ret, eS_ex, eS_rai, eS_aug, eS_par, eS_unp, eS_app, eS_ext, eS_asgO, eS_six, eS_brk, eE_var, eE_own, eE_int, eE_bl, eE_non, eE_str, eE_glob, eE_bin, eE_neg, eE_not, eE_and, eE_or, eE_cmp, eE_ch2, eE_isN, eE_isNN, eE_isNT, eE_ife, eE_tup, eE_lst, eE_dct0, eE_ix, eE_sl, eE_rev, eE_call, eE_b1, eE_b2, eE_isi, eE_join, eL_nil, eL_cons, eA_nil, eA_one, eA_cons, eO_nil, eO_one, eO_cons, eP_no, eP_yes, eC_no, eC_yes, eI_seq, gv_z, gv_s, sv_z, sv_s, bw_ok, bw_exc, Res.ofO_some, Option.map_some, tru_bool, tru_none, intOf_int, noneD, kB, tgD, kT, isi_n, isi_b, isi_i, isi_s, isi_t, isi_l, cutD_T, cutD_L, revD_T, revD_L, bin_add, bin_sub, cmp_lt, cmp_le, cmp_gt, cmp_ge, cmp_eqI, cmp_neI, b1_lenL, b1_lenT, b1_tupL, b1_tupT, b1_lstL, b1_lstT, b1_int, Bool.false_eq_true, if_false, if_true, Bool.not_true, Bool.not_false, decide_true, decide_false, Rs_ok, Rs_exc, lstG, lstD, bindTs, bindT, svAll, wipeE, Option.bind_some, fin_rt, fin_nx, fin_exc, placesB]
end
end PT
namespace PTL
open PySem PT

def d0 : Def := { name := "is_told", ps := 3, ns := ["told", "word", "count"], mu := [], fr := false, body := [
    .iff (.or (.not (.isi .tuple (.var 0))) [.cmp .ne (.b1 .len (.var 0)) (.var 2)]) [.ret (.bl false)] [],
    .ret (.and (.isi .str (.ix (.var 0) (.int 0))) [.cmp .eq (.ix (.var 0) (.int 0)) (.var 1)])] }
def d1 : Def := { name := "quarters", ps := 1, ns := ["rows", "size", "row"], mu := [], fr := false, body := [
    .asg 1 (.b1 .len (.var 0)),
    .iff (.or (.cmp .notin (.var 1) (.tup [.int 1, .int 2, .int 4, .int 8])) [.cmp .isin (.bl true) (.lc [2] (.n 2) (.seq (.var 0)) .no (.cmp .ne (.b1 .len (.var 2)) (.var 1)))]) [.rai .unfit "there must be 1, 2, 4 or 8 rows as long"] [],
    .ret (.tup [.str "tree", .call 2 [.var 0, .int 0, .int 0, .var 1]])] }
def d2 : Def := { name := "quartered", ps := 4, ns := ["rows", "row", "column", "size", "numbers", "half", "corners", "line", "number", "first", "second"], mu := [], fr := false, body := [
    .asg 4 (.lc2 [7, 8] [8] (.n 7) (.seq (.sl (.var 0) (.yes (.var 1)) (.yes (.bin .add (.var 1) (.var 3))))) (.n 8) (.seq (.sl (.var 7) (.yes (.var 2)) (.yes (.bin .add (.var 2) (.var 3))))) (.var 8)),
    .iff (.cmp .eq (.b1 .lset (.var 4)) (.int 1)) [.ret (.ix (.var 4) (.int 0))] [],
    .asg 5 (.bin .fdiv (.var 3) (.int 2)),
    .asg 6 (.lst [.tup [.var 1, .var 2], .tup [.var 1, .bin .add (.var 2) (.var 5)], .tup [.bin .add (.var 1) (.var 5), .var 2], .tup [.bin .add (.var 1) (.var 5), .bin .add (.var 2) (.var 5)]]),
    .ret (.b1 .tuple (.lc [9, 10] (.tup [.n 9, .n 10]) (.seq (.var 6)) .no (.call 2 [.var 0, .var 9, .var 10, .var 5])))] }
def d3 : Def := { name := "judge_quarters", ps := 2, ns := ["rows", "told", "due"], mu := [], fr := false, body := [
    .asg 2 (.call 1 [.var 0]),
    .ret (.and (.call 0 [.var 1, .str "tree", .int 2]) [.cmp .eq (.b1 .repr (.var 1)) (.b1 .repr (.var 2))])] }
def d4 : Def := { name := "_law_next", ps := 2, ns := ["state", "limit", "cell", "value"], mu := [], fr := false, body := [
    .iff (.and (.cmp .eq (.ix (.var 0) (.int 2)) (.int 0)) [.cmp .lt (.ix (.var 0) (.int 1)) (.b1 .len (.ix (.var 0) (.int 0)))]) [.asg 2 (.ix (.ix (.var 0) (.int 0)) (.ix (.var 0) (.int 1))), .stA 0 1 .add (.int 1), .iff (.cmp .ge (.var 2) (.bin .pow (.int 10) (.int 18))) [.stS 0 2 (.var 2)] [.stS 0 3 (.bin .mod (.b1 .int (.bin .add (.bin .add (.bin .mul (.ix (.var 0) (.int 3)) (.int 48271)) (.bin .mod (.b1 .int (.var 2)) (.int 2147483647))) (.int 7))) (.int 2147483647))]] [],
    .iff (.cmp .gt (.ix (.var 0) (.int 2)) (.int 0)) [.asg 3 (.bin .mod (.b1 .int (.ix (.var 0) (.int 2))) (.var 1)), .stS 0 2 (.bin .fdiv (.ix (.var 0) (.int 2)) (.var 1)), .ret (.var 3)] [],
    .stS 0 3 (.bin .mod (.b1 .int (.bin .add (.bin .mul (.ix (.var 0) (.int 3)) (.int 69621)) (.int 12345))) (.int 2147483647)),
    .ret (.bin .mod (.b1 .int (.bin .fdiv (.ix (.var 0) (.int 3)) (.int 7))) (.var 1))] }
def d5 : Def := { name := "_law_same", ps := 2, ns := ["actual", "expected", "k"], mu := [], fr := false, body := [
    .iff (.isN (.var 1)) [.ret (.isN (.var 0))] [],
    .iff (.isi .bool (.var 1)) [.ret (.and (.isi .bool (.var 0)) [.cmp .eq (.var 0) (.var 1)])] [],
    .iff (.isi .int (.var 1)) [.ret (.and (.isi .int (.var 0)) [.not (.isi .bool (.var 0)), .cmp .eq (.var 0) (.var 1)])] [],
    .iff (.isi .str (.var 1)) [.ret (.and (.isi .str (.var 0)) [.cmp .eq (.var 0) (.var 1)])] [],
    .iff (.and (.isi .tuple (.var 1)) [.not (.isi .tuple (.var 0))]) [.ret (.bl false)] [],
    .iff (.and (.isi .list (.var 1)) [.not (.isi .list (.var 0))]) [.ret (.bl false)] [],
    .iff (.cmp .ne (.b1 .len (.var 0)) (.b1 .len (.var 1))) [.ret (.bl false)] [],
    .fr (.n 2) (.rg1 (.b1 .len (.var 1))) [.iff (.not (.call 5 [.ix (.var 0) (.var 2), .ix (.var 1) (.var 2)])) [.ret (.bl false)] []],
    .ret (.bl true)] }
def d6 : Def := { name := "_law_changed", ps := 2, ns := ["state", "value", "k", "j", "more", "others", "turn"], mu := [], fr := false, body := [
    .iff (.isi .bool (.var 1)) [.ret (.ix (.lst [.not (.var 1), .b1 .int (.var 1)]) (.call 4 [.var 0, .int 2]))] [],
    .iff (.or (.isN (.var 1)) [.isi .int (.var 1)]) [.ret (.ix (.lst [.bin .add (.or (.var 1) [.int 0]) (.int 1), .bin .sub (.or (.var 1) [.int 0]) (.int 1), .int 0, .non, .cmp .eq (.var 1) (.int 1), .b1 .str (.var 1), .bin .mul (.int 2) (.or (.var 1) [.int 1])]) (.call 4 [.var 0, .int 7]))] [],
    .iff (.isi .str (.var 1)) [.asg 5 (.lst [.sl (.var 1) (.yes (.int 1)) .no, .bin .add (.var 1) (.str "a"), .rev (.var 1), .bin .add (.str "b") (.var 1), .str "", .sl (.var 1) .no (.yes (.neg (.int 1))), .str "left", .int 3, .str "in"]), .ret (.ix (.var 5) (.call 4 [.var 0, .b1 .len (.var 5)]))] [],
    .iff (.and (.isi .tuple (.var 1)) [.cmp .ne (.var 1) (.tup []), .cmp .gt (.call 4 [.var 0, .int 4]) (.int 0)]) [.asg 2 (.call 4 [.var 0, .b1 .len (.var 1)]), .ret (.bin .add (.bin .add (.sl (.var 1) .no (.yes (.var 2))) (.tup [.call 6 [.var 0, .ix (.var 1) (.var 2)]])) (.sl (.var 1) (.yes (.bin .add (.var 2) (.int 1))) .no))] [],
    .iff (.not (.isi .tuple (.var 1))) [.ret (.tup [])] [],
    .asg 2 (.call 4 [.var 0, .bin .add (.b1 .len (.var 1)) (.int 1)]),
    .asg 3 (.call 4 [.var 0, .bin .add (.b1 .len (.var 1)) (.int 1)]),
    .asg 4 (.lst [.bin .add (.sl (.var 1) .no (.yes (.var 2))) (.sl (.var 1) (.yes (.bin .add (.var 2) (.int 1))) .no), .bin .add (.var 1) (.sl (.var 1) .no (.yes (.int 1))), .rev (.var 1), .bin .add (.sl (.var 1) (.yes (.var 2)) .no) (.sl (.var 1) .no (.yes (.var 2))), .b1 .list (.var 1), .sl (.var 1) .no (.yes (.var 2)), .tup [], .bin .add (.var 1) (.tup [.int 0])]),
    .iff (.ch2 .lt .lt (.var 2) (.var 3) (.b1 .len (.var 1))) [.asg 4 (.bin .add (.var 4) (.lc [6] (.n 6) (.rg1 (.int 3)) .no (.bin .add (.bin .add (.bin .add (.bin .add (.sl (.var 1) .no (.yes (.var 2))) (.sl (.var 1) (.yes (.var 3)) (.yes (.bin .add (.var 3) (.int 1))))) (.sl (.var 1) (.yes (.bin .add (.var 2) (.int 1))) (.yes (.var 3)))) (.sl (.var 1) (.yes (.var 2)) (.yes (.bin .add (.var 2) (.int 1))))) (.sl (.var 1) (.yes (.bin .add (.var 3) (.int 1))) .no))))] [],
    .ret (.ix (.var 4) (.call 4 [.var 0, .b1 .len (.var 4)]))] }
def d7 : Def := { name := "_law_ints", ps := 1, ns := ["value", "found", "part", "number"], mu := [], fr := false, body := [
    .iff (.or (.isi .bool (.var 0)) [.not (.isi .intTuple (.var 0))]) [.ret (.lst [])] [],
    .iff (.isi .int (.var 0)) [.ret (.lst [.var 0])] [],
    .asg 1 (.lst []),
    .fr (.n 2) (.seq (.var 0)) [.asg 1 (.bin .add (.var 1) (.lc [3] (.n 3) (.seq (.call 7 [.var 2])) (.yes (.cmp .notin (.var 3) (.var 1))) (.var 3)))],
    .ret (.var 1)] }
def d8 : Def := { name := "_law_exchanged", ps := 3, ns := ["value", "one", "other", "part"], mu := [], fr := false, body := [
    .iff (.or (.isi .bool (.var 0)) [.not (.isi .intTuple (.var 0))]) [.ret (.var 0)] [],
    .iff (.isi .int (.var 0)) [.ret (.ife (.cmp .eq (.var 0) (.var 1)) (.var 2) (.ife (.cmp .eq (.var 0) (.var 2)) (.var 1) (.var 0)))] [],
    .ret (.b1 .tuple (.lc [3] (.n 3) (.seq (.var 0)) .no (.call 8 [.var 3, .var 1, .var 2])))] }
def d9 : Def := { name := "_law_cut", ps := 2, ns := ["state", "value", "k", "at", "ways", "part"], mu := [], fr := false, body := [
    .iff (.or (.not (.isi .tuple (.var 1))) [.cmp .eq (.var 1) (.tup [])]) [.ret (.var 1)] [],
    .iff (.cmp .ne (.lc [5] (.n 5) (.seq (.var 1)) (.yes (.not (.isi .str (.var 5)))) (.var 5)) (.lst [])) [.asg 2 (.call 4 [.var 0, .b1 .len (.var 1)]), .ret (.bin .add (.bin .add (.sl (.var 1) .no (.yes (.var 2))) (.tup [.call 9 [.var 0, .ix (.var 1) (.var 2)]])) (.sl (.var 1) (.yes (.bin .add (.var 2) (.int 1))) .no))] [],
    .asg 2 (.call 4 [.var 0, .b1 .len (.var 1)]),
    .asg 3 (.call 4 [.var 0, .bin .add (.b1 .len (.ix (.var 1) (.var 2))) (.int 1)]),
    .asg 4 (.lst [.bin .add (.bin .add (.sl (.var 1) .no (.yes (.var 2))) (.tup [.sl (.ix (.var 1) (.var 2)) .no (.yes (.var 3)), .sl (.ix (.var 1) (.var 2)) (.yes (.var 3)) .no])) (.sl (.var 1) (.yes (.bin .add (.var 2) (.int 1))) .no), .bin .add (.bin .add (.sl (.var 1) .no (.yes (.var 2))) (.tup [.join (.sl (.var 1) (.yes (.var 2)) (.yes (.bin .add (.var 2) (.int 2))))])) (.sl (.var 1) (.yes (.bin .add (.var 2) (.int 2))) .no)]),
    .asg 4 (.bin .add (.var 4) (.lst [.tup [.join (.var 1)], .b1 .tuple (.join (.var 1)), .bin .add (.bin .add (.sl (.var 1) .no (.yes (.var 2))) (.tup [.str ""])) (.sl (.var 1) (.yes (.var 2)) .no), .bin .add (.bin .add (.sl (.var 1) .no (.yes (.var 2))) (.rev (.sl (.var 1) (.yes (.var 2)) (.yes (.bin .add (.var 2) (.int 2)))))) (.sl (.var 1) (.yes (.bin .add (.var 2) (.int 2))) .no)])),
    .ret (.ix (.var 4) (.call 4 [.var 0, .b1 .len (.var 4)]))] }
def d10 : Def := { name := "_law_turned_about", ps := 2, ns := ["state", "told", "numbers", "pick", "one", "other", "k", "j", "part"], mu := [], fr := false, body := [
    .asg 2 (.call 7 [.var 1]),
    .asg 3 (.call 4 [.var 0, .int 5]),
    .iff (.and (.cmp .lt (.var 3) (.int 3)) [.cmp .ne (.var 2) (.lst [])]) [.asg 4 (.ix (.var 2) (.call 4 [.var 0, .b1 .len (.var 2)])), .asg 5 (.ife (.cmp .eq (.var 3) (.int 0)) (.bin .add (.var 4) (.int 1)) (.ix (.var 2) (.call 4 [.var 0, .b1 .len (.var 2)]))), .ret (.call 8 [.var 1, .var 4, .var 5])] [],
    .iff (.cmp .eq (.var 3) (.int 3)) [.ret (.bin .add (.sl (.var 1) .no (.yes (.int 1))) (.ife (.cmp .gt (.b1 .len (.var 1)) (.int 2)) (.call 9 [.var 0, .sl (.var 1) (.yes (.int 1)) .no]) (.b1 .tuple (.lc [8] (.n 8) (.seq (.sl (.var 1) (.yes (.int 1)) .no)) .no (.call 9 [.var 0, .var 8])))))] [],
    .par [(6, false), (7, false)] [.call 4 [.var 0, .b1 .len (.var 1)], .call 4 [.var 0, .b1 .len (.var 1)]],
    .iff (.and (.cmp .eq (.b1 .len (.var 1)) (.int 2)) [.isi .tuple (.ix (.var 1) (.int 1)), .cmp .ne (.ix (.var 1) (.int 1)) (.tup [])]) [.par [(6, false), (7, false)] [.call 4 [.var 0, .b1 .len (.ix (.var 1) (.int 1))], .call 4 [.var 0, .b1 .len (.ix (.var 1) (.int 1))]], .ret (.tup [.ix (.var 1) (.int 0), .bin .add (.bin .add (.sl (.ix (.var 1) (.int 1)) .no (.yes (.var 6))) (.sl (.ix (.var 1) (.int 1)) (.yes (.var 7)) (.yes (.bin .add (.var 7) (.int 1))))) (.sl (.ix (.var 1) (.int 1)) (.yes (.bin .add (.var 6) (.int 1))) .no)])] [],
    .ret (.ife (.and (.cmp .gt (.var 6) (.int 0)) [.cmp .gt (.var 7) (.int 0)]) (.bin .add (.bin .add (.sl (.var 1) .no (.yes (.var 6))) (.sl (.var 1) (.yes (.var 7)) (.yes (.bin .add (.var 7) (.int 1))))) (.sl (.var 1) (.yes (.bin .add (.var 6) (.int 1))) .no)) (.var 1))] }
def d11 : Def := { name := "_law_odd", ps := 2, ns := ["state", "told", "odd", "pick"], mu := [], fr := false, body := [
    .asg 2 (.lst [.non, .str "", .str "yes", .dct0, .tup [], .sl (.var 1) .no (.yes (.int 1)), .b1 .list (.var 1), .bin .add (.var 1) (.tup [.int 0]), .bin .add (.tup [.lst [.ix (.var 1) (.int 0)]]) (.sl (.var 1) (.yes (.int 1)) .no), .bin .add (.tup [.str "none such"]) (.sl (.var 1) (.yes (.int 1)) .no), .int 7]),
    .asg 3 (.call 4 [.var 0, .int 9]),
    .iff (.cmp .gt (.var 3) (.int 4)) [.ret (.call 10 [.var 0, .var 1])] [],
    .ret (.ife (.cmp .eq (.var 3) (.int 0)) (.ix (.var 2) (.call 4 [.var 0, .b1 .len (.var 2)])) (.call 6 [.var 0, .var 1]))] }
def d12 : Def := { name := "_law_neighbour", ps := 2, ns := ["state", "value", "step", "k"], mu := [], fr := false, body := [
    .asg 2 (.ix (.lst [.int 1, .neg (.int 1)]) (.call 4 [.var 0, .int 2])),
    .iff (.isi .str (.var 1)) [.ret (.var 1)] [],
    .iff (.isi .int (.var 1)) [.ret (.bin .add (.var 1) (.var 2))] [],
    .iff (.cmp .eq (.var 1) (.tup [])) [.ret (.var 1)] [],
    .asg 3 (.call 4 [.var 0, .b1 .len (.var 1)]),
    .iff (.and (.cmp .eq (.call 4 [.var 0, .int 3]) (.int 0)) [.cmp .gt (.b1 .len (.var 1)) (.int 1)]) [.ret (.bin .add (.sl (.var 1) .no (.yes (.var 3))) (.sl (.var 1) (.yes (.bin .add (.var 3) (.int 1))) .no))] [],
    .ret (.bin .add (.bin .add (.sl (.var 1) .no (.yes (.var 3))) (.tup [.call 12 [.var 0, .ix (.var 1) (.var 3)]])) (.sl (.var 1) (.yes (.bin .add (.var 3) (.int 1))) .no))] }
def d13 : Def := { name := "_law_tree", ps := 1, ns := ["rows", "every", "row", "half", "corners", "upper", "lower", "corner"], mu := [], fr := false, body := [
    .asg 1 (.lst []),
    .fr (.n 2) (.seq (.var 0)) [.asg 1 (.bin .add (.var 1) (.b1 .list (.var 2)))],
    .iff (.cmp .eq (.b1 .lset (.var 1)) (.int 1)) [.ret (.ix (.var 1) (.int 0))] [],
    .asg 3 (.bin .fdiv (.b1 .len (.var 0)) (.int 2)),
    .par [(5, false), (6, false)] [.sl (.var 0) .no (.yes (.var 3)), .sl (.var 0) (.yes (.var 3)) .no],
    .asg 4 (.lst [.lc [2] (.n 2) (.seq (.var 5)) .no (.sl (.var 2) .no (.yes (.var 3))), .lc [2] (.n 2) (.seq (.var 5)) .no (.sl (.var 2) (.yes (.var 3)) .no), .lc [2] (.n 2) (.seq (.var 6)) .no (.sl (.var 2) .no (.yes (.var 3))), .lc [2] (.n 2) (.seq (.var 6)) .no (.sl (.var 2) (.yes (.var 3)) .no)]),
    .ret (.b1 .tuple (.lc [7] (.n 7) (.seq (.var 4)) .no (.call 13 [.var 7])))] }
def d14 : Def := { name := "_law_accepts", ps := 2, ns := ["rows", "told"], mu := [], fr := false, body := [
    .ret (.call 5 [.var 1, .tup [.str "tree", .call 13 [.b1 .list (.var 0)]]])] }
def d15 : Def := { name := "_law_told_near", ps := 2, ns := ["state", "rows", "things", "pick", "error"], mu := [2], fr := false, body := [
    .asgO 2 (.lst [.var 1]),
    .asg 3 (.call 4 [.var 0, .int 1]),
    .six 2 (.var 3) (.call 12 [.var 0, .ix (.own 2) (.var 3)]),
    .tryR (.call 1 [.ix (.own 2) (.int 0)]) 4] }
def d16 : Def := { name := "_law_unfit", ps := 1, ns := ["rows", "judged", "error"], mu := [], fr := false, body := [
    .fr (.n 1) (.seq (.lst [.bl false, .bl true])) [.tryU 1 (.call 3 [.var 0, .non]) (.call 1 [.var 0]) 2],
    .ret (.bl true)] }
def dL : Def := { name := "law", ps := 1, ns := ["script", "state", "seen", "turn", "size", "rows", "told", "near_told", "k", "asked", "j"], mu := [], fr := false, body := [
    .asg 2 (.lst []),
    .fr (.n 3) (.rg1 (.int 3)) [.asg 4 (.ix (.lst [.int 1, .int 2, .int 4]) (.call 4 [.var 1, .int 3])), .asg 5 (.b1 .tuple (.lc [10] (.n 10) (.rg1 (.var 4)) .no (.b1 .tuple (.lc [8] (.n 8) (.rg1 (.var 4)) .no (.bin .fdiv (.call 4 [.var 1, .int 3]) (.int 2)))))), .asg 6 (.call 1 [.var 5]), .asg 7 (.call 15 [.var 1, .var 5]), .iff (.or (.not (.call 14 [.var 5, .var 6])) [.isNT (.call 3 [.var 5, .var 6])]) [.ret (.bl false)] [], .iff (.or (.not (.call 16 [.bin .add (.var 5) (.tup [.tup [.int 1]])])) [.not (.call 16 [.tup [.tup [.int 1, .int 2]]])]) [.ret (.bl false)] [], .asg 2 (.bin .add (.sl (.var 2) (.yes (.neg (.int 3))) .no) (.lst [.var 6, .var 7])), .fr (.n 8) (.rg1 (.bin .add (.int 8) (.b1 .len (.var 2)))) [.asg 9 (.ife (.cmp .lt (.var 8) (.int 8)) (.call 11 [.var 1, .var 6]) (.ix (.var 2) (.bin .sub (.var 8) (.int 8)))), .iff (.not (.call 5 [.call 3 [.var 5, .var 9], .call 14 [.var 5, .var 9]])) [.ret (.bl false)] []]],
    .ret (.bl true)] }
def P : List Def := [d0, d1, d2, d3, d4, d5, d6, d7, d8, d9, d10, d11, d12, d13, d14, d15, d16]
def nm : List (Str × Nat) := [("is_told", 5), ("quarters", 7), ("quartered", 8), ("judge_quarters", 9), ("_law_next", 11), ("_law_same", 12), ("_law_changed", 13), ("_law_ints", 14), ("_law_exchanged", 15), ("_law_cut", 16), ("_law_turned_about", 17), ("_law_odd", 18), ("_law_neighbour", 19), ("_law_tree", 20), ("_law_accepts", 21), ("_law_told_near", 22), ("_law_unfit", 23)]
def cs : List (Str × Int) := []
def bl : List Str := ["ValueError", "bool", "int", "isinstance", "len", "list", "range", "repr", "set", "str", "tuple"]
def fuel : Nat := 200
theorem p_is_told : P[0]? = some (dTold) := rfl
theorem p_quarters : P[1]? = some (d1) := rfl
theorem p_quartered : P[2]? = some (d2) := rfl
theorem p_judge_quarters : P[3]? = some (d3) := rfl
theorem p_law_next : P[4]? = some (dNext) := rfl
theorem p_law_same : P[5]? = some (dSame 5) := rfl
theorem p_law_changed : P[6]? = some (dChanged 4 6) := rfl
theorem p_law_ints : P[7]? = some (dInts 7) := rfl
theorem p_law_exchanged : P[8]? = some (dExch 8) := rfl
theorem p_law_cut : P[9]? = some (dCut 4 9) := rfl
theorem p_law_turned_about : P[10]? = some (dTurned 4 7 8 9) := rfl
theorem p_law_odd : P[11]? = some (dOdd 4 6 10) := rfl
theorem p_law_neighbour : P[12]? = some (dNeigh 4 12) := rfl
theorem p_law_tree : P[13]? = some (d13) := rfl
theorem p_law_accepts : P[14]? = some (d14) := rfl
theorem p_law_told_near : P[15]? = some (dNear1 "_law_told_near" ["state", "rows", "things", "pick", "error"] 4 12 1) := rfl
theorem p_law_unfit : P[16]? = some (dUnfit1 "_law_unfit" ["rows", "judged", "error"] 3 1) := rfl
theorem od_spec {v : D} (hv : Tol v) {g : G} (hg : GS g) {n : Nat} (hn : 50 ≤ n) : Rs (runF P n 11 [stD, v] g) (fun d g' => Ask d ∧ GS g') NoE := odd_ok p_law_next p_law_ints p_law_exchanged p_law_cut p_law_turned_about p_law_changed p_law_odd hn hv hg
theorem sa_spec {s t : Bool} {g : G} {n : Nat} (hn : 1 ≤ n) : runF P n 5 [.bool s, .bool t] g = .ok (.bool (decide (s = t))) g := by
  rw [same_run p_law_same (k' := 0) (by decide) n 0 _ _ g (by omega) (by decide) Od.bool (.inl Od.bool), same_bool]
def B1 : Bk := { st := 1, tl := 6, nr := 7, sn := 2, k := 8, as := 9, args := [5], f := 1, ne := 15, ac := 14, j := 3, od := 11, sa := 5, c := 8 }
theorem B1_ok : B1.Ok := Bk.ok_of (by decide)
def draw1 : List S := [.asg 4 (.ix (.lst [.int 1, .int 2, .int 4]) (.call 4 [.var 1, .int 3])), .asg 5 (.b1 .tuple (.lc [10] (.n 10) (.rg1 (.var 4)) .no (.b1 .tuple (.lc [8] (.n 8) (.rg1 (.var 4)) .no (.bin .fdiv (.call 4 [.var 1, .int 3]) (.int 2))))))]
def mid1 : List S := [.iff (.or (.not (.call 16 [.bin .add (.var 5) (.tup [.tup [.int 1]])])) [.not (.call 16 [.tup [.tup [.int 1, .int 2]]])]) [.ret (.bl false)] []]
def turn : List S := (draw1 ++ (B1.pre ++ (mid1 ++ (B1.post ++ []))))
theorem body_eq : dL.body = [.asg 2 (.lst []), .fr (.n 3) (.rg1 (.int 3)) turn, .ret (.bl true)] := rfl
end PTL
namespace PTL
open PySem PT

def fl (t : List (List Int)) : List Int := t.flatMap id
def one (t : List (List Int)) : Bool := decide ((dedI (fl t)).length = 1)
def qt : Nat → List (List Int) → D
  | 0, t => .int ((fl t).getD 0 0)
  | f + 1, t => if one t = true then .int ((fl t).getD 0 0) else .tuple [qt f ((t.take (2 ^ f)).map (List.take (2 ^ f))), qt f ((t.take (2 ^ f)).map (List.drop (2 ^ f))), qt f ((t.drop (2 ^ f)).map (List.take (2 ^ f))), qt f ((t.drop (2 ^ f)).map (List.drop (2 ^ f)))]
def Sq (f : Nat) (t : List (List Int)) : Prop := t.length = 2 ^ f ∧ ∀ r ∈ t, r.length = 2 ^ f
theorem Sq.q {f : Nat} {t : List (List Int)} (h : Sq (f + 1) t) : Sq f ((t.take (2 ^ f)).map (List.take (2 ^ f))) ∧ Sq f ((t.take (2 ^ f)).map (List.drop (2 ^ f))) ∧ Sq f ((t.drop (2 ^ f)).map (List.take (2 ^ f))) ∧ Sq f ((t.drop (2 ^ f)).map (List.drop (2 ^ f))) := by
  obtain ⟨h1, h2⟩ := h
  rw [Nat.pow_succ] at h1 h2
  refine ⟨⟨by simp; omega, fun r hr => ?_⟩, ⟨by simp; omega, fun r hr => ?_⟩, ⟨by simp; omega, fun r hr => ?_⟩, ⟨by simp; omega, fun r hr => ?_⟩⟩ <;>
    obtain ⟨s, hs, rfl⟩ := List.mem_map.mp hr
  · have := h2 s (List.mem_of_mem_take hs); simp; omega
  · have := h2 s (List.mem_of_mem_take hs); simp; omega
  · have := h2 s (List.mem_of_mem_drop hs); simp; omega
  · have := h2 s (List.mem_of_mem_drop hs); simp; omega
theorem fl_len {b : Nat} : ∀ {t : List (List Int)}, (∀ r ∈ t, r.length = b) → (fl t).length = t.length * b
  | [], _ => by simp [fl]
  | r :: t, h => by
    have := fl_len (t := t) fun s hs => h s (List.mem_cons_of_mem _ hs)
    unfold fl at this ⊢
    rw [List.flatMap_cons, List.length_append, this, List.length_cons, Nat.succ_mul]
    have := h r (List.mem_cons_self ..)
    simp only [id_eq, this]
    omega
theorem Sq.fl {f : Nat} {t : List (List Int)} (h : Sq f t) (hf : f ≤ 2) : 1 ≤ (fl t).length ∧ (PTL.fl t).length ≤ 16 := by
  rw [fl_len h.2, h.1]
  have : f = 0 ∨ f = 1 ∨ f = 2 := by omega
  rcases this with rfl | rfl | rfl <;> decide
theorem one0 {t : List (List Int)} (h : Sq 0 t) : one t = true := by
  have hl := fl_len h.2
  rw [h.1] at hl
  unfold one
  match hf : fl t, hl with
  | [x], _ => rfl
theorem qt_one {f : Nat} {t : List (List Int)} (h : one t = true) : qt f t = .int ((fl t).getD 0 0) := by
  cases f with
  | zero => rfl
  | succ f => show (if one t = true then _ else _) = _; rw [if_pos h]
def lrows (t : List (List Int)) : D := .list (t.map mkT)
theorem p2 {f : Nat} (h : f ≤ 2) : 1 ≤ 2 ^ f ∧ 2 ^ f ≤ 4 := by
  have : f = 0 ∨ f = 1 ∨ f = 2 := by omega
  rcases this with rfl | rfl | rfl <;> decide
theorem tree_run : ∀ (f n : Nat) (t : List (List Int)) (g : G), f ≤ 2 → Sq f t → f < n → runF P n 13 [lrows t] g = .ok (qt f t) g
  | f, 0, _, _, _, _, hn => by omega
  | f, n + 1, t, g, hf, h, hn => by
    rw [run_def p_law_tree rfl]
    show fin (evB (runF P n) d13.body [some (lrows t), none, none, none, none, none, none, none] g) = _
    obtain ⟨f1, f2⟩ := h.fl hf
    have pf := p2 hf
    have tl := h.1
    obtain ⟨ρ', l1, done, x2, a1, rfl⟩ := fr_eq (α := List Int) (g := g) (e := mkT) (f := frF (runF P n) (.n 2) [.asg 1 (.bin .add (.var 1) (.b1 .list (.var 2)))])
      (I := fun l ρ => ∃ (done : List (List Int)) (x2 : Option D), done ++ l = t ∧ ρ = [some (lrows t), some (mkL (fl done)), x2, none, none, none, none, none]) (fun r l ρ ⟨done, x2, a1, a2⟩ => by
        subst a2
        have e1 : binD .add (mkL (fl done)) (mkL r) = some (mkL (fl (done ++ [r]))) := by
          have h3 : (fl t).length = (fl done).length + r.length + (fl l).length := by
            rw [← a1]
            unfold fl
            simp [List.flatMap_append]
            omega
          unfold mkL
          rw [bin_addL' (by simp; omega)]
          unfold fl
          simp [List.flatMap_append]
        refine ⟨[some (lrows t), some (mkL (fl (done ++ [r]))), some (mkT r), none, none, none, none, none], ?_, done ++ [r], _, by rw [List.append_assoc]; exact a1, rfl⟩
        simp only [frF_n, eB_cons, eB_nil, eS_asg, eS_iff, eS_ret, eS_ex, eS_rai, eS_aug, eS_par, eS_unp, eS_app, eS_ext, eS_asgO, eS_six, eS_brk, eE_var, eE_own, eE_int, eE_bl, eE_non, eE_str, eE_glob, eE_bin, eE_neg, eE_not, eE_and, eE_or, eE_cmp, eE_ch2, eE_isN, eE_isNN, eE_isNT, eE_ife, eE_tup, eE_lst, eE_dct0, eE_ix, eE_sl, eE_rev, eE_call, eE_b1, eE_b2, eE_isi, eE_join, eL_nil, eL_cons, eA_nil, eA_one, eA_cons, eO_nil, eO_one, eO_cons, eP_no, eP_yes, eC_no, eC_yes, eI_seq, gv_z, gv_s, sv_z, sv_s, bw_ok, bw_exc, Res.ofO_some, Option.map_some, tru_bool, tru_none, intOf_int, noneD, kB, tgD, kT, isi_n, isi_b, isi_i, isi_s, isi_t, isi_l, cutD_T, cutD_L, revD_T, revD_L, bin_add, bin_sub, cmp_lt, cmp_le, cmp_gt, cmp_ge, cmp_eqI, cmp_neI, b1_lenL, b1_lenT, b1_tupL, b1_tupT, b1_lstL, b1_lstT, b1_int, Bool.false_eq_true, if_false, if_true, Bool.not_true, Bool.not_false, decide_true, decide_false, Rs_ok, Rs_exc, lstG, lstD, bindTs, bindT, svAll, wipeE, Option.bind_some, fin_rt, fin_nx, fin_exc, b1_lstN, e1]) t [some (lrows t), some (mkL []), none, none, none, none, none, none] ⟨[], none, rfl, rfl⟩
    rw [List.append_nil] at a1
    subst a1
    have it : itemsD (lrows done) = some (done.map mkT) := rfl
    have m0 : PyData.list [] = mkL [] := rfl
    have ls := b1_lset (r := fl done) (d := mkL (fl done)) rfl (by omega)
    have i0 : ∀ g, ixG (mkL (fl done)) (.int 0) g = some (.int ((fl done).getD 0 0)) := fun g => by
      have := ix_mkL (r := fl done) (k := 0) (g := g) (by omega)
      rw [getD_lt (by omega)]
      exact this
    cases ho : one done with
    | true =>
      have hd : ((dedI (fl done)).length : Int) = 1 := by
        have := of_decide_eq_true ho
        omega
      rw [qt_one ho]
      simp only [d13, eB_cons, eB_nil, eS_asg, eS_iff, eS_ret, eS_ex, eS_rai, eS_aug, eS_par, eS_unp, eS_app, eS_ext, eS_asgO, eS_six, eS_brk, eE_var, eE_own, eE_int, eE_bl, eE_non, eE_str, eE_glob, eE_bin, eE_neg, eE_not, eE_and, eE_or, eE_cmp, eE_ch2, eE_isN, eE_isNN, eE_isNT, eE_ife, eE_tup, eE_lst, eE_dct0, eE_ix, eE_sl, eE_rev, eE_call, eE_b1, eE_b2, eE_isi, eE_join, eL_nil, eL_cons, eA_nil, eA_one, eA_cons, eO_nil, eO_one, eO_cons, eP_no, eP_yes, eC_no, eC_yes, eI_seq, gv_z, gv_s, sv_z, sv_s, bw_ok, bw_exc, Res.ofO_some, Option.map_some, tru_bool, tru_none, intOf_int, noneD, kB, tgD, kT, isi_n, isi_b, isi_i, isi_s, isi_t, isi_l, cutD_T, cutD_L, revD_T, revD_L, bin_add, bin_sub, cmp_lt, cmp_le, cmp_gt, cmp_ge, cmp_eqI, cmp_neI, b1_lenL, b1_lenT, b1_tupL, b1_tupT, b1_lstL, b1_lstT, b1_int, Bool.false_eq_true, if_false, if_true, Bool.not_true, Bool.not_false, decide_true, decide_false, Rs_ok, Rs_exc, lstG, lstD, bindTs, bindT, svAll, wipeE, Option.bind_some, fin_rt, fin_nx, fin_exc, eS_fr, it, m0, l1, ls, hd, i0]
    | false =>
      have hd : ¬ ((dedI (fl done)).length : Int) = 1 := by
        have := of_decide_eq_false ho
        omega
      cases f with
      | zero => rw [one0 h] at ho; cases ho
      | succ f =>
        have ll : b1D .len (lrows done) = some (.int done.length) := by unfold lrows; simp
        have half : binD .fdiv (.int done.length) (.int 2) = some (.int ((2 ^ f : Nat) : Int)) := by
          rw [tl, Nat.pow_succ]
          rw [bin_div (by decide)]
          congr 2
          omega
        have cu : cutD none (some ((2 ^ f : Nat) : Int)) (lrows done) = some (lrows (done.take (2 ^ f))) := by
          unfold lrows
          rw [cutD_L, cut_take, List.map_take]
        have cl : cutD (some ((2 ^ f : Nat) : Int)) none (lrows done) = some (lrows (done.drop (2 ^ f))) := by
          unfold lrows
          rw [cutD_L, cut_drop, List.map_drop]
        have ct : ∀ r : List Int, cutD none (some ((2 ^ f : Nat) : Int)) (mkT r) = some (mkT (r.take (2 ^ f))) := fun r => by
          unfold mkT
          rw [cutD_T, cut_take, List.map_take]
        have cd : ∀ r : List Int, cutD (some ((2 ^ f : Nat) : Int)) none (mkT r) = some (mkT (r.drop (2 ^ f))) := fun r => by
          unfold mkT
          rw [cutD_T, cut_drop, List.map_drop]
        have its : ∀ t, itemsD (lrows t) = some (t.map mkT) := fun t => rfl
        have q1 := fun (s : Nat) (ρ : PT.Env) (t : List (List Int)) (g : G) (h1 : gv ρ s = some (lrows t)) (h2 : gv ρ 3 = some (.int ((2 ^ f : Nat) : Int))) (h3 : t.length ≤ 100) (h4 : 2 < ρ.length) => show evE (runF P n) (.lc [2] (.n 2) (.seq (.var s)) .no (.sl (.var 2) .no (.yes (.var 3)))) ρ g = .ok (lrows (t.map (List.take (2 ^ f)))) g by
          rw [eE_lc]
          simp only [eB_cons, eB_nil, eS_asg, eS_iff, eS_ret, eS_ex, eS_rai, eS_aug, eS_par, eS_unp, eS_app, eS_ext, eS_asgO, eS_six, eS_brk, eE_var, eE_own, eE_int, eE_bl, eE_non, eE_str, eE_glob, eE_bin, eE_neg, eE_not, eE_and, eE_or, eE_cmp, eE_ch2, eE_isN, eE_isNN, eE_isNT, eE_ife, eE_tup, eE_lst, eE_dct0, eE_ix, eE_sl, eE_rev, eE_call, eE_b1, eE_b2, eE_isi, eE_join, eL_nil, eL_cons, eA_nil, eA_one, eA_cons, eO_nil, eO_one, eO_cons, eP_no, eP_yes, eC_no, eC_yes, eI_seq, gv_z, gv_s, sv_z, sv_s, bw_ok, bw_exc, Res.ofO_some, Option.map_some, tru_bool, tru_none, intOf_int, noneD, kB, tgD, kT, isi_n, isi_b, isi_i, isi_s, isi_t, isi_l, cutD_T, cutD_L, revD_T, revD_L, bin_add, bin_sub, cmp_lt, cmp_le, cmp_gt, cmp_ge, cmp_eqI, cmp_neI, b1_lenL, b1_lenT, b1_tupL, b1_tupT, b1_lstL, b1_lstT, b1_int, Bool.false_eq_true, if_false, if_true, Bool.not_true, Bool.not_false, decide_true, decide_false, Rs_ok, Rs_exc, lstG, lstD, bindTs, bindT, svAll, wipeE, Option.bind_some, fin_rt, fin_nx, fin_exc, h1, its]
          rw [lc_val (fun r => mkT (r.take (2 ^ f))) (line_of (by omega))]
          · unfold lrows; rw [List.map_map]; rfl
          · intro r _
            have a3 : gv (sv (sv ρ 2 none) 2 (some (mkT r))) 3 = some (.int ((2 ^ f : Nat) : Int)) := by rw [gv_sv_ne (by decide), gv_sv_ne (by decide)]; exact h2
            have a2 : gv (sv (sv ρ 2 none) 2 (some (mkT r))) 2 = some (mkT r) := gv_sv_eq (by rw [len_sv']; exact h4)
            simp only [lcQ_eq, eB_cons, eB_nil, eS_asg, eS_iff, eS_ret, eS_ex, eS_rai, eS_aug, eS_par, eS_unp, eS_app, eS_ext, eS_asgO, eS_six, eS_brk, eE_var, eE_own, eE_int, eE_bl, eE_non, eE_str, eE_glob, eE_bin, eE_neg, eE_not, eE_and, eE_or, eE_cmp, eE_ch2, eE_isN, eE_isNN, eE_isNT, eE_ife, eE_tup, eE_lst, eE_dct0, eE_ix, eE_sl, eE_rev, eE_call, eE_b1, eE_b2, eE_isi, eE_join, eL_nil, eL_cons, eA_nil, eA_one, eA_cons, eO_nil, eO_one, eO_cons, eP_no, eP_yes, eC_no, eC_yes, eI_seq, gv_z, gv_s, sv_z, sv_s, bw_ok, bw_exc, Res.ofO_some, Option.map_some, tru_bool, tru_none, intOf_int, noneD, kB, tgD, kT, isi_n, isi_b, isi_i, isi_s, isi_t, isi_l, cutD_T, cutD_L, revD_T, revD_L, bin_add, bin_sub, cmp_lt, cmp_le, cmp_gt, cmp_ge, cmp_eqI, cmp_neI, b1_lenL, b1_lenT, b1_tupL, b1_tupT, b1_lstL, b1_lstT, b1_int, Bool.false_eq_true, if_false, if_true, Bool.not_true, Bool.not_false, decide_true, decide_false, Rs_ok, Rs_exc, lstG, lstD, bindTs, bindT, svAll, wipeE, Option.bind_some, fin_rt, fin_nx, fin_exc, a2, a3, ct]
        have q2 := fun (s : Nat) (ρ : PT.Env) (t : List (List Int)) (g : G) (h1 : gv ρ s = some (lrows t)) (h2 : gv ρ 3 = some (.int ((2 ^ f : Nat) : Int))) (h3 : t.length ≤ 100) (h4 : 2 < ρ.length) => show evE (runF P n) (.lc [2] (.n 2) (.seq (.var s)) .no (.sl (.var 2) (.yes (.var 3)) .no)) ρ g = .ok (lrows (t.map (List.drop (2 ^ f)))) g by
          rw [eE_lc]
          simp only [eB_cons, eB_nil, eS_asg, eS_iff, eS_ret, eS_ex, eS_rai, eS_aug, eS_par, eS_unp, eS_app, eS_ext, eS_asgO, eS_six, eS_brk, eE_var, eE_own, eE_int, eE_bl, eE_non, eE_str, eE_glob, eE_bin, eE_neg, eE_not, eE_and, eE_or, eE_cmp, eE_ch2, eE_isN, eE_isNN, eE_isNT, eE_ife, eE_tup, eE_lst, eE_dct0, eE_ix, eE_sl, eE_rev, eE_call, eE_b1, eE_b2, eE_isi, eE_join, eL_nil, eL_cons, eA_nil, eA_one, eA_cons, eO_nil, eO_one, eO_cons, eP_no, eP_yes, eC_no, eC_yes, eI_seq, gv_z, gv_s, sv_z, sv_s, bw_ok, bw_exc, Res.ofO_some, Option.map_some, tru_bool, tru_none, intOf_int, noneD, kB, tgD, kT, isi_n, isi_b, isi_i, isi_s, isi_t, isi_l, cutD_T, cutD_L, revD_T, revD_L, bin_add, bin_sub, cmp_lt, cmp_le, cmp_gt, cmp_ge, cmp_eqI, cmp_neI, b1_lenL, b1_lenT, b1_tupL, b1_tupT, b1_lstL, b1_lstT, b1_int, Bool.false_eq_true, if_false, if_true, Bool.not_true, Bool.not_false, decide_true, decide_false, Rs_ok, Rs_exc, lstG, lstD, bindTs, bindT, svAll, wipeE, Option.bind_some, fin_rt, fin_nx, fin_exc, h1, its]
          rw [lc_val (fun r => mkT (r.drop (2 ^ f))) (line_of (by omega))]
          · unfold lrows; rw [List.map_map]; rfl
          · intro r _
            have a3 : gv (sv (sv ρ 2 none) 2 (some (mkT r))) 3 = some (.int ((2 ^ f : Nat) : Int)) := by rw [gv_sv_ne (by decide), gv_sv_ne (by decide)]; exact h2
            have a2 : gv (sv (sv ρ 2 none) 2 (some (mkT r))) 2 = some (mkT r) := gv_sv_eq (by rw [len_sv']; exact h4)
            simp only [lcQ_eq, eB_cons, eB_nil, eS_asg, eS_iff, eS_ret, eS_ex, eS_rai, eS_aug, eS_par, eS_unp, eS_app, eS_ext, eS_asgO, eS_six, eS_brk, eE_var, eE_own, eE_int, eE_bl, eE_non, eE_str, eE_glob, eE_bin, eE_neg, eE_not, eE_and, eE_or, eE_cmp, eE_ch2, eE_isN, eE_isNN, eE_isNT, eE_ife, eE_tup, eE_lst, eE_dct0, eE_ix, eE_sl, eE_rev, eE_call, eE_b1, eE_b2, eE_isi, eE_join, eL_nil, eL_cons, eA_nil, eA_one, eA_cons, eO_nil, eO_one, eO_cons, eP_no, eP_yes, eC_no, eC_yes, eI_seq, gv_z, gv_s, sv_z, sv_s, bw_ok, bw_exc, Res.ofO_some, Option.map_some, tru_bool, tru_none, intOf_int, noneD, kB, tgD, kT, isi_n, isi_b, isi_i, isi_s, isi_t, isi_l, cutD_T, cutD_L, revD_T, revD_L, bin_add, bin_sub, cmp_lt, cmp_le, cmp_gt, cmp_ge, cmp_eqI, cmp_neI, b1_lenL, b1_lenT, b1_tupL, b1_tupT, b1_lstL, b1_lstT, b1_int, Bool.false_eq_true, if_false, if_true, Bool.not_true, Bool.not_false, decide_true, decide_false, Rs_ok, Rs_exc, lstG, lstD, bindTs, bindT, svAll, wipeE, Option.bind_some, fin_rt, fin_nx, fin_exc, a2, a3, cd]
        obtain ⟨s1, s2, s3, s4⟩ := h.q
        have hq : qt (f + 1) done = .tuple [qt f ((done.take (2 ^ f)).map (List.take (2 ^ f))), qt f ((done.take (2 ^ f)).map (List.drop (2 ^ f))), qt f ((done.drop (2 ^ f)).map (List.take (2 ^ f))), qt f ((done.drop (2 ^ f)).map (List.drop (2 ^ f)))] := by
          show (if one done = true then _ else _) = _
          rw [if_neg (by rw [ho]; decide)]
        have lu : (done.take (2 ^ f)).length ≤ 100 := by simp; omega
        have ld : (done.drop (2 ^ f)).length ≤ 100 := by simp; omega
        generalize done.take (2 ^ f) = tu at *
        generalize done.drop (2 ^ f) = td at *
        have A1 := fun (x : Option D) g => q1 5 [some (lrows done), some (mkL (fl done)), x2, some (.int ((2 ^ f : Nat) : Int)), x, some (lrows tu), some (lrows td), none] tu g rfl rfl lu (by simp)
        have A2 := fun (x : Option D) g => q2 5 [some (lrows done), some (mkL (fl done)), x2, some (.int ((2 ^ f : Nat) : Int)), x, some (lrows tu), some (lrows td), none] tu g rfl rfl lu (by simp)
        have A3 := fun (x : Option D) g => q1 6 [some (lrows done), some (mkL (fl done)), x2, some (.int ((2 ^ f : Nat) : Int)), x, some (lrows tu), some (lrows td), none] td g rfl rfl ld (by simp)
        have A4 := fun (x : Option D) g => q2 6 [some (lrows done), some (mkL (fl done)), x2, some (.int ((2 ^ f : Nat) : Int)), x, some (lrows tu), some (lrows td), none] td g rfl rfl ld (by simp)
        generalize tu.map (List.take (2 ^ f)) = t1 at *
        generalize tu.map (List.drop (2 ^ f)) = t2 at *
        generalize td.map (List.take (2 ^ f)) = t3 at *
        generalize td.map (List.drop (2 ^ f)) = t4 at *
        have hlc : ∀ (ρ : PT.Env) (g : G), ρ.length = 8 → gv ρ 4 = some (.list ([t1, t2, t3, t4].map lrows)) → evE (runF P n) (.lc [7] (.n 7) (.seq (.var 4)) .no (.call 13 [.var 7])) ρ g = .ok (.list ([t1, t2, t3, t4].map (qt f))) g := by
          intro ρ g hρ h4
          rw [eE_lc]
          simp only [eI_seq, eE_var, h4, Res.ofO_some, bw_ok, itemsD_L]
          refine lc_val (qt f) (line_of (by simp)) fun t ht => ?_
          have hs : Sq f t := by
            simp only [List.mem_cons, List.not_mem_nil, or_false] at ht
            rcases ht with rfl | rfl | rfl | rfl <;> assumption
          have a7 : gv (sv (sv ρ 7 none) 7 (some (lrows t))) 7 = some (lrows t) := gv_sv_eq (by rw [len_sv', hρ]; decide)
          have ih := fun g => tree_run f n t g (by omega) hs (by omega)
          simp only [lcQ_eq, eB_cons, eB_nil, eS_asg, eS_iff, eS_ret, eS_ex, eS_rai, eS_aug, eS_par, eS_unp, eS_app, eS_ext, eS_asgO, eS_six, eS_brk, eE_var, eE_own, eE_int, eE_bl, eE_non, eE_str, eE_glob, eE_bin, eE_neg, eE_not, eE_and, eE_or, eE_cmp, eE_ch2, eE_isN, eE_isNN, eE_isNT, eE_ife, eE_tup, eE_lst, eE_dct0, eE_ix, eE_sl, eE_rev, eE_call, eE_b1, eE_b2, eE_isi, eE_join, eL_nil, eL_cons, eA_nil, eA_one, eA_cons, eO_nil, eO_one, eO_cons, eP_no, eP_yes, eC_no, eC_yes, eI_seq, gv_z, gv_s, sv_z, sv_s, bw_ok, bw_exc, Res.ofO_some, Option.map_some, tru_bool, tru_none, intOf_int, noneD, kB, tgD, kT, isi_n, isi_b, isi_i, isi_s, isi_t, isi_l, cutD_T, cutD_L, revD_T, revD_L, bin_add, bin_sub, cmp_lt, cmp_le, cmp_gt, cmp_ge, cmp_eqI, cmp_neI, b1_lenL, b1_lenT, b1_tupL, b1_tupT, b1_lstL, b1_lstT, b1_int, Bool.false_eq_true, if_false, if_true, Bool.not_true, Bool.not_false, decide_true, decide_false, Rs_ok, Rs_exc, lstG, lstD, bindTs, bindT, svAll, wipeE, Option.bind_some, fin_rt, fin_nx, fin_exc, a7, ih]
        rw [hq]
        have hm : PyData.list [lrows t1, lrows t2, lrows t3, lrows t4] = .list ([t1, t2, t3, t4].map lrows) := rfl
        have hl2 := fun g => hlc [some (lrows done), some (mkL (fl done)), x2, some (.int ((2 ^ f : Nat) : Int)), some (.list ([t1, t2, t3, t4].map lrows)), some (lrows tu), some (lrows td), none] g rfl rfl
        have bt : b1D .tuple (.list ([t1, t2, t3, t4].map (qt f))) = some (.tuple [qt f t1, qt f t2, qt f t3, qt f t4]) := rfl
        simp only [d13, eB_cons, eB_nil, eS_asg, eS_iff, eS_ret, eS_ex, eS_rai, eS_aug, eS_par, eS_unp, eS_app, eS_ext, eS_asgO, eS_six, eS_brk, eE_var, eE_own, eE_int, eE_bl, eE_non, eE_str, eE_glob, eE_bin, eE_neg, eE_not, eE_and, eE_or, eE_cmp, eE_ch2, eE_isN, eE_isNN, eE_isNT, eE_ife, eE_tup, eE_lst, eE_dct0, eE_ix, eE_sl, eE_rev, eE_call, eE_b1, eE_b2, eE_isi, eE_join, eL_nil, eL_cons, eA_nil, eA_one, eA_cons, eO_nil, eO_one, eO_cons, eP_no, eP_yes, eC_no, eC_yes, eI_seq, gv_z, gv_s, sv_z, sv_s, bw_ok, bw_exc, Res.ofO_some, Option.map_some, tru_bool, tru_none, intOf_int, noneD, kB, tgD, kT, isi_n, isi_b, isi_i, isi_s, isi_t, isi_l, cutD_T, cutD_L, revD_T, revD_L, bin_add, bin_sub, cmp_lt, cmp_le, cmp_gt, cmp_ge, cmp_eqI, cmp_neI, b1_lenL, b1_lenT, b1_tupL, b1_tupT, b1_lstL, b1_lstT, b1_int, Bool.false_eq_true, if_false, if_true, Bool.not_true, Bool.not_false, decide_true, decide_false, Rs_ok, Rs_exc, lstG, lstD, bindTs, bindT, svAll, wipeE, Option.bind_some, fin_rt, fin_nx, fin_exc, eS_fr, it, m0, l1, ls, hd, ll, half, cu, cl, A1, A2, A3, A4, hm, hl2, bt]
end PTL
namespace PTL
open PySem PT

def win (t : List (List Int)) (r c s : Nat) : List (List Int) := ((t.drop r).take s).map fun l => (l.drop c).take s
theorem tk {α : Type} {l : List α} {a h : Nat} : ((l.drop a).take (h * 2)).take h = (l.drop a).take h := by
  rw [List.take_take]; congr 1; omega
theorem td {α : Type} {l : List α} {a h : Nat} : ((l.drop a).take (h * 2)).drop h = (l.drop (a + h)).take h := by
  rw [List.drop_take, List.drop_drop]; congr 1; omega
theorem win_q {t : List (List Int)} {r c h : Nat} : ((win t r c (h * 2)).take h).map (List.take h) = win t r c h ∧ ((win t r c (h * 2)).take h).map (List.drop h) = win t r (c + h) h ∧ ((win t r c (h * 2)).drop h).map (List.take h) = win t (r + h) c h ∧ ((win t r c (h * 2)).drop h).map (List.drop h) = win t (r + h) (c + h) h := by
  unfold win
  refine ⟨?_, ?_, ?_, ?_⟩
  · rw [← List.map_take, tk, List.map_map]
    exact List.map_congr_left fun l _ => tk
  · rw [← List.map_take, tk, List.map_map]
    exact List.map_congr_left fun l _ => td
  · rw [← List.map_drop, td, List.map_map]
    exact List.map_congr_left fun l _ => tk
  · rw [← List.map_drop, td, List.map_map]
    exact List.map_congr_left fun l _ => td
theorem win_sq {t : List (List Int)} {r c f F : Nat} (h : Sq F t) (hr : r + 2 ^ f ≤ 2 ^ F) (hc : c + 2 ^ f ≤ 2 ^ F) : Sq f (win t r c (2 ^ f)) := by
  obtain ⟨h1, h2⟩ := h
  refine ⟨by unfold win; simp; omega, fun x hx => ?_⟩
  obtain ⟨l, hl, rfl⟩ := List.mem_map.mp hx
  have := h2 l (List.mem_of_mem_drop (List.mem_of_mem_take hl))
  simp; omega
theorem win_all {t : List (List Int)} {F : Nat} (h : Sq F t) : win t 0 0 (2 ^ F) = t := by
  obtain ⟨h1, h2⟩ := h
  unfold win
  rw [List.drop_zero, List.take_of_length_le (by omega)]
  have : ∀ l ∈ t, (l.drop 0).take (2 ^ F) = id l := fun l hl => by
    rw [List.drop_zero, List.take_of_length_le (by rw [h2 l hl]; exact Nat.le_refl _)]; rfl
  rw [List.map_congr_left this, List.map_id]
theorem quart_run {T : List (List Int)} {F : Nat} (hF : F ≤ 2) (hT : Sq F T) : ∀ (f n r c : Nat) (g : G), r + 2 ^ f ≤ 2 ^ F → c + 2 ^ f ≤ 2 ^ F → f ≤ 2 → f < n → runF P n 2 [rowsD T, .int r, .int c, .int ((2 ^ f : Nat) : Int)] g = .ok (qt f (win T r c (2 ^ f))) g
  | f, 0, _, _, _, _, _, _, hn => by omega
  | f, n + 1, r, c, g, hr, hc, hf, hn => by
    rw [run_def p_quartered rfl]
    show fin (evB (runF P n) d2.body [some (rowsD T), some (.int r), some (.int c), some (.int ((2 ^ f : Nat) : Int)), none, none, none, none, none, none, none] g) = _
    have h := win_sq hT hr hc
    obtain ⟨f1, f2⟩ := h.fl hf
    have pf := p2 hf
    have er : (r : Int) + ((2 ^ f : Nat) : Int) = ((r + 2 ^ f : Nat) : Int) := by omega
    have ec : (c : Int) + ((2 ^ f : Nat) : Int) = ((c + 2 ^ f : Nat) : Int) := by omega
    generalize hs : 2 ^ f = s at *
    have cr : cutD (some (r : Int)) (some ((r + s : Nat) : Int)) (rowsD T) = some (rowsD ((T.drop r).take s)) := by
      unfold rowsD
      rw [cutD_T, cut_mid, List.map_take, List.map_drop, Nat.add_sub_cancel_left]
    have cc : ∀ l : List Int, cutD (some (c : Int)) (some ((c + s : Nat) : Int)) (mkT l) = some (mkT ((l.drop c).take s)) := fun l => by
      unfold mkT
      rw [cutD_T, cut_mid, List.map_take, List.map_drop, Nat.add_sub_cancel_left]
    have nums : ∀ g, evE (runF P n) (.lc2 [7, 8] [8] (.n 7) (.seq (.sl (.var 0) (.yes (.var 1)) (.yes (.bin .add (.var 1) (.var 3))))) (.n 8) (.seq (.sl (.var 7) (.yes (.var 2)) (.yes (.bin .add (.var 2) (.var 3))))) (.var 8)) [some (rowsD T), some (.int r), some (.int c), some (.int (s : Int)), none, none, none, none, none, none, none] g = .ok (mkL (fl (win T r c s))) g := by
      intro g
      rw [eE_lc2]
      have ef : (((T.drop r).take s).flatMap fun l => ((l.drop c).take s).map PyData.int) = (fl (win T r c s)).map .int := by
        unfold fl win
        rw [List.flatMap_map, List.map_flatMap]
        rfl
      simp only [eB_cons, eB_nil, eS_asg, eS_iff, eS_ret, eS_ex, eS_rai, eS_aug, eS_par, eS_unp, eS_app, eS_ext, eS_asgO, eS_six, eS_brk, eE_var, eE_own, eE_int, eE_bl, eE_non, eE_str, eE_glob, eE_bin, eE_neg, eE_not, eE_and, eE_or, eE_cmp, eE_ch2, eE_isN, eE_isNN, eE_isNT, eE_ife, eE_tup, eE_lst, eE_dct0, eE_ix, eE_sl, eE_rev, eE_call, eE_b1, eE_b2, eE_isi, eE_join, eL_nil, eL_cons, eA_nil, eA_one, eA_cons, eO_nil, eO_one, eO_cons, eP_no, eP_yes, eC_no, eC_yes, eI_seq, gv_z, gv_s, sv_z, sv_s, bw_ok, bw_exc, Res.ofO_some, Option.map_some, tru_bool, tru_none, intOf_int, noneD, kB, tgD, kT, isi_n, isi_b, isi_i, isi_s, isi_t, isi_l, cutD_T, cutD_L, revD_T, revD_L, bin_add, bin_sub, cmp_lt, cmp_le, cmp_gt, cmp_ge, cmp_eqI, cmp_neI, b1_lenL, b1_lenT, b1_tupL, b1_tupT, b1_lstL, b1_lstT, b1_int, Bool.false_eq_true, if_false, if_true, Bool.not_true, Bool.not_false, decide_true, decide_false, Rs_ok, Rs_exc, lstG, lstD, bindTs, bindT, svAll, wipeE, Option.bind_some, fin_rt, fin_nx, fin_exc, er, cr, itemsD_rows]
      rw [lc_flat (fun l : List Int => ((l.drop c).take s).map PyData.int) (line_of (by rw [ef, List.length_map]; omega)), ef]
      · rfl
      · intro l _
        have go := lc_go (f := lcQi (runF P n) [8] (.n 8) (.var 8) [some (rowsD T), some (.int r), some (.int c), some (.int (s : Int)), none, none, none, some (mkT l), none, none, none]) (g := g) PyData.int (fun x => [.int x]) ((l.drop c).take s) [] (fun x _ => by simp only [lcQi_eq, eB_cons, eB_nil, eS_asg, eS_iff, eS_ret, eS_ex, eS_rai, eS_aug, eS_par, eS_unp, eS_app, eS_ext, eS_asgO, eS_six, eS_brk, eE_var, eE_own, eE_int, eE_bl, eE_non, eE_str, eE_glob, eE_bin, eE_neg, eE_not, eE_and, eE_or, eE_cmp, eE_ch2, eE_isN, eE_isNN, eE_isNT, eE_ife, eE_tup, eE_lst, eE_dct0, eE_ix, eE_sl, eE_rev, eE_call, eE_b1, eE_b2, eE_isi, eE_join, eL_nil, eL_cons, eA_nil, eA_one, eA_cons, eO_nil, eO_one, eO_cons, eP_no, eP_yes, eC_no, eC_yes, eI_seq, gv_z, gv_s, sv_z, sv_s, bw_ok, bw_exc, Res.ofO_some, Option.map_some, tru_bool, tru_none, intOf_int, noneD, kB, tgD, kT, isi_n, isi_b, isi_i, isi_s, isi_t, isi_l, cutD_T, cutD_L, revD_T, revD_L, bin_add, bin_sub, cmp_lt, cmp_le, cmp_gt, cmp_ge, cmp_eqI, cmp_neI, b1_lenL, b1_lenT, b1_tupL, b1_tupT, b1_lstL, b1_lstT, b1_int, Bool.false_eq_true, if_false, if_true, Bool.not_true, Bool.not_false, decide_true, decide_false, Rs_ok, Rs_exc, lstG, lstD, bindTs, bindT, svAll, wipeE, Option.bind_some, fin_rt, fin_nx, fin_exc])
        simp only [lcQ2_eq, eB_cons, eB_nil, eS_asg, eS_iff, eS_ret, eS_ex, eS_rai, eS_aug, eS_par, eS_unp, eS_app, eS_ext, eS_asgO, eS_six, eS_brk, eE_var, eE_own, eE_int, eE_bl, eE_non, eE_str, eE_glob, eE_bin, eE_neg, eE_not, eE_and, eE_or, eE_cmp, eE_ch2, eE_isN, eE_isNN, eE_isNT, eE_ife, eE_tup, eE_lst, eE_dct0, eE_ix, eE_sl, eE_rev, eE_call, eE_b1, eE_b2, eE_isi, eE_join, eL_nil, eL_cons, eA_nil, eA_one, eA_cons, eO_nil, eO_one, eO_cons, eP_no, eP_yes, eC_no, eC_yes, eI_seq, gv_z, gv_s, sv_z, sv_s, bw_ok, bw_exc, Res.ofO_some, Option.map_some, tru_bool, tru_none, intOf_int, noneD, kB, tgD, kT, isi_n, isi_b, isi_i, isi_s, isi_t, isi_l, cutD_T, cutD_L, revD_T, revD_L, bin_add, bin_sub, cmp_lt, cmp_le, cmp_gt, cmp_ge, cmp_eqI, cmp_neI, b1_lenL, b1_lenT, b1_tupL, b1_tupT, b1_lstL, b1_lstT, b1_int, Bool.false_eq_true, if_false, if_true, Bool.not_true, Bool.not_false, decide_true, decide_false, Rs_ok, Rs_exc, lstG, lstD, bindTs, bindT, svAll, wipeE, Option.bind_some, fin_rt, fin_nx, fin_exc, ec, cc, itemsD_mkT]
        rw [go, List.nil_append]
        congr 1
        generalize (l.drop c).take s = m
        induction m with
        | nil => rfl
        | cons x m ih => rw [List.flatMap_cons, ih]; rfl
    have ls := b1_lset (r := fl (win T r c s)) (d := mkL (fl (win T r c s))) rfl (by omega)
    have i0 : ∀ g, ixG (mkL (fl (win T r c s))) (.int 0) g = some (.int ((fl (win T r c s)).getD 0 0)) := fun g => by
      have := ix_mkL (r := fl (win T r c s)) (k := 0) (g := g) (by omega)
      rw [getD_lt (by omega)]
      exact this
    cases ho : one (win T r c s) with
    | true =>
      have hd : ((dedI (fl (win T r c s))).length : Int) = 1 := by
        have := of_decide_eq_true ho
        omega
      rw [qt_one ho]
      simp only [d2, eB_cons, eB_nil, eS_asg, eS_iff, eS_ret, eS_ex, eS_rai, eS_aug, eS_par, eS_unp, eS_app, eS_ext, eS_asgO, eS_six, eS_brk, eE_var, eE_own, eE_int, eE_bl, eE_non, eE_str, eE_glob, eE_bin, eE_neg, eE_not, eE_and, eE_or, eE_cmp, eE_ch2, eE_isN, eE_isNN, eE_isNT, eE_ife, eE_tup, eE_lst, eE_dct0, eE_ix, eE_sl, eE_rev, eE_call, eE_b1, eE_b2, eE_isi, eE_join, eL_nil, eL_cons, eA_nil, eA_one, eA_cons, eO_nil, eO_one, eO_cons, eP_no, eP_yes, eC_no, eC_yes, eI_seq, gv_z, gv_s, sv_z, sv_s, bw_ok, bw_exc, Res.ofO_some, Option.map_some, tru_bool, tru_none, intOf_int, noneD, kB, tgD, kT, isi_n, isi_b, isi_i, isi_s, isi_t, isi_l, cutD_T, cutD_L, revD_T, revD_L, bin_add, bin_sub, cmp_lt, cmp_le, cmp_gt, cmp_ge, cmp_eqI, cmp_neI, b1_lenL, b1_lenT, b1_tupL, b1_tupT, b1_lstL, b1_lstT, b1_int, Bool.false_eq_true, if_false, if_true, Bool.not_true, Bool.not_false, decide_true, decide_false, Rs_ok, Rs_exc, lstG, lstD, bindTs, bindT, svAll, wipeE, Option.bind_some, fin_rt, fin_nx, fin_exc, nums, ls, hd, i0]
    | false =>
      have hd : ¬ ((dedI (fl (win T r c s))).length : Int) = 1 := by
        have := of_decide_eq_false ho
        omega
      cases f with
      | zero => rw [one0 h] at ho; cases ho
      | succ f =>
        rw [Nat.pow_succ] at hs
        subst hs
        have half : binD .fdiv (.int ((2 ^ f * 2 : Nat) : Int)) (.int 2) = some (.int ((2 ^ f : Nat) : Int)) := by
          rw [bin_div (by decide)]
          congr 2
          omega
        obtain ⟨w1, w2, w3, w4⟩ := win_q (t := T) (r := r) (c := c) (h := 2 ^ f)
        have hq : qt (f + 1) (win T r c (2 ^ f * 2)) = .tuple [qt f (win T r c (2 ^ f)), qt f (win T r (c + 2 ^ f) (2 ^ f)), qt f (win T (r + 2 ^ f) c (2 ^ f)), qt f (win T (r + 2 ^ f) (c + 2 ^ f) (2 ^ f))] := by
          show (if one (win T r c (2 ^ f * 2)) = true then _ else _) = _
          rw [if_neg (by rw [ho]; decide), w1, w2, w3, w4]
        have e1 : (r : Int) + ((2 ^ f : Nat) : Int) = ((r + 2 ^ f : Nat) : Int) := by omega
        have e2 : (c : Int) + ((2 ^ f : Nat) : Int) = ((c + 2 ^ f : Nat) : Int) := by omega
        have hlc : ∀ (ρ : PT.Env) (g : G), ρ.length = 11 → gv ρ 0 = some (rowsD T) → gv ρ 5 = some (.int ((2 ^ f : Nat) : Int)) → gv ρ 6 = some (.list ([(r, c), (r, c + 2 ^ f), (r + 2 ^ f, c), (r + 2 ^ f, c + 2 ^ f)].map fun p : Nat × Nat => .tuple [.int (p.1 : Int), .int (p.2 : Int)])) → evE (runF P n) (.lc [9, 10] (.tup [.n 9, .n 10]) (.seq (.var 6)) .no (.call 2 [.var 0, .var 9, .var 10, .var 5])) ρ g = .ok (.list ([(r, c), (r, c + 2 ^ f), (r + 2 ^ f, c), (r + 2 ^ f, c + 2 ^ f)].map fun p => qt f (win T p.1 p.2 (2 ^ f)))) g := by
          intro ρ g hρ h0 h5 h6
          rw [eE_lc]
          simp only [eI_seq, eE_var, h6, Res.ofO_some, bw_ok, itemsD_L]
          refine lc_val (fun p : Nat × Nat => qt f (win T p.1 p.2 (2 ^ f))) (line_of (by simp)) fun p hp => ?_
          have hb : p.1 + 2 ^ f ≤ 2 ^ F ∧ p.2 + 2 ^ f ≤ 2 ^ F := by
            simp only [List.mem_cons, List.not_mem_nil, or_false] at hp
            rcases hp with rfl | rfl | rfl | rfl <;> simp only <;> omega
          obtain ⟨a, b⟩ := p
          have ih := fun g => quart_run hF hT f n a b g hb.1 hb.2 (by omega) (by omega)
          have lens : (sv (sv ρ 9 none) 10 none).length = 11 := by rw [len_sv', len_sv', hρ]
          have b9 : gv (sv (sv (sv (sv ρ 9 none) 10 none) 9 (some (.int (a : Int)))) 10 (some (.int (b : Int)))) 9 = some (.int (a : Int)) := by rw [gv_sv_ne (by decide), gv_sv_eq (by rw [lens]; decide)]
          have b10 : gv (sv (sv (sv (sv ρ 9 none) 10 none) 9 (some (.int (a : Int)))) 10 (some (.int (b : Int)))) 10 = some (.int (b : Int)) := gv_sv_eq (by rw [len_sv', lens]; decide)
          have b0 : gv (sv (sv (sv (sv ρ 9 none) 10 none) 9 (some (.int (a : Int)))) 10 (some (.int (b : Int)))) 0 = some (rowsD T) := by rw [gv_sv_ne (by decide), gv_sv_ne (by decide), gv_sv_ne (by decide), gv_sv_ne (by decide)]; exact h0
          have b5 : gv (sv (sv (sv (sv ρ 9 none) 10 none) 9 (some (.int (a : Int)))) 10 (some (.int (b : Int)))) 5 = some (.int ((2 ^ f : Nat) : Int)) := by rw [gv_sv_ne (by decide), gv_sv_ne (by decide), gv_sv_ne (by decide), gv_sv_ne (by decide)]; exact h5
          have c9 : gv (sv (sv (sv (sv ρ 10 none) 9 none) 9 (some (.int (a : Int)))) 10 (some (.int (b : Int)))) 9 = some (.int (a : Int)) := by rw [gv_sv_ne (by decide), gv_sv_eq (by rw [len_sv', len_sv', hρ]; decide)]
          have c10 : gv (sv (sv (sv (sv ρ 10 none) 9 none) 9 (some (.int (a : Int)))) 10 (some (.int (b : Int)))) 10 = some (.int (b : Int)) := gv_sv_eq (by rw [len_sv', len_sv', len_sv', hρ]; decide)
          have c0 : gv (sv (sv (sv (sv ρ 10 none) 9 none) 9 (some (.int (a : Int)))) 10 (some (.int (b : Int)))) 0 = some (rowsD T) := by rw [gv_sv_ne (by decide), gv_sv_ne (by decide), gv_sv_ne (by decide), gv_sv_ne (by decide)]; exact h0
          have c5 : gv (sv (sv (sv (sv ρ 10 none) 9 none) 9 (some (.int (a : Int)))) 10 (some (.int (b : Int)))) 5 = some (.int ((2 ^ f : Nat) : Int)) := by rw [gv_sv_ne (by decide), gv_sv_ne (by decide), gv_sv_ne (by decide), gv_sv_ne (by decide)]; exact h5
          simp only [lcQ_eq, eB_cons, eB_nil, eS_asg, eS_iff, eS_ret, eS_ex, eS_rai, eS_aug, eS_par, eS_unp, eS_app, eS_ext, eS_asgO, eS_six, eS_brk, eE_var, eE_own, eE_int, eE_bl, eE_non, eE_str, eE_glob, eE_bin, eE_neg, eE_not, eE_and, eE_or, eE_cmp, eE_ch2, eE_isN, eE_isNN, eE_isNT, eE_ife, eE_tup, eE_lst, eE_dct0, eE_ix, eE_sl, eE_rev, eE_call, eE_b1, eE_b2, eE_isi, eE_join, eL_nil, eL_cons, eA_nil, eA_one, eA_cons, eO_nil, eO_one, eO_cons, eP_no, eP_yes, eC_no, eC_yes, eI_seq, gv_z, gv_s, sv_z, sv_s, bw_ok, bw_exc, Res.ofO_some, Option.map_some, tru_bool, tru_none, intOf_int, noneD, kB, tgD, kT, isi_n, isi_b, isi_i, isi_s, isi_t, isi_l, cutD_T, cutD_L, revD_T, revD_L, bin_add, bin_sub, cmp_lt, cmp_le, cmp_gt, cmp_ge, cmp_eqI, cmp_neI, b1_lenL, b1_lenT, b1_tupL, b1_tupT, b1_lstL, b1_lstT, b1_int, Bool.false_eq_true, if_false, if_true, Bool.not_true, Bool.not_false, decide_true, decide_false, Rs_ok, Rs_exc, lstG, lstD, bindTs, bindT, svAll, wipeE, Option.bind_some, fin_rt, fin_nx, fin_exc, b0, b5, b9, b10, c0, c5, c9, c10, ih]
        rw [hq]
        have hm : PyData.list [.tuple [.int (r : Int), .int (c : Int)], .tuple [.int (r : Int), .int ((c + 2 ^ f : Nat) : Int)], .tuple [.int ((r + 2 ^ f : Nat) : Int), .int (c : Int)], .tuple [.int ((r + 2 ^ f : Nat) : Int), .int ((c + 2 ^ f : Nat) : Int)]] = .list ([(r, c), (r, c + 2 ^ f), (r + 2 ^ f, c), (r + 2 ^ f, c + 2 ^ f)].map fun p : Nat × Nat => .tuple [.int (p.1 : Int), .int (p.2 : Int)]) := rfl
        have hl2 := fun g => hlc [some (rowsD T), some (.int r), some (.int c), some (.int ((2 ^ f * 2 : Nat) : Int)), some (mkL (fl (win T r c (2 ^ f * 2)))), some (.int ((2 ^ f : Nat) : Int)), some (.list ([(r, c), (r, c + 2 ^ f), (r + 2 ^ f, c), (r + 2 ^ f, c + 2 ^ f)].map fun p : Nat × Nat => .tuple [.int (p.1 : Int), .int (p.2 : Int)])), none, none, none, none] g rfl rfl rfl rfl
        have bt : b1D .tuple (.list ([(r, c), (r, c + 2 ^ f), (r + 2 ^ f, c), (r + 2 ^ f, c + 2 ^ f)].map fun p => qt f (win T p.1 p.2 (2 ^ f)))) = some (.tuple [qt f (win T r c (2 ^ f)), qt f (win T r (c + 2 ^ f) (2 ^ f)), qt f (win T (r + 2 ^ f) c (2 ^ f)), qt f (win T (r + 2 ^ f) (c + 2 ^ f) (2 ^ f))]) := rfl
        simp only [d2, eB_cons, eB_nil, eS_asg, eS_iff, eS_ret, eS_ex, eS_rai, eS_aug, eS_par, eS_unp, eS_app, eS_ext, eS_asgO, eS_six, eS_brk, eE_var, eE_own, eE_int, eE_bl, eE_non, eE_str, eE_glob, eE_bin, eE_neg, eE_not, eE_and, eE_or, eE_cmp, eE_ch2, eE_isN, eE_isNN, eE_isNT, eE_ife, eE_tup, eE_lst, eE_dct0, eE_ix, eE_sl, eE_rev, eE_call, eE_b1, eE_b2, eE_isi, eE_join, eL_nil, eL_cons, eA_nil, eA_one, eA_cons, eO_nil, eO_one, eO_cons, eP_no, eP_yes, eC_no, eC_yes, eI_seq, gv_z, gv_s, sv_z, sv_s, bw_ok, bw_exc, Res.ofO_some, Option.map_some, tru_bool, tru_none, intOf_int, noneD, kB, tgD, kT, isi_n, isi_b, isi_i, isi_s, isi_t, isi_l, cutD_T, cutD_L, revD_T, revD_L, bin_add, bin_sub, cmp_lt, cmp_le, cmp_gt, cmp_ge, cmp_eqI, cmp_neI, b1_lenL, b1_lenT, b1_tupL, b1_tupT, b1_lstL, b1_lstT, b1_int, Bool.false_eq_true, if_false, if_true, Bool.not_true, Bool.not_false, decide_true, decide_false, Rs_ok, Rs_exc, lstG, lstD, bindTs, bindT, svAll, wipeE, Option.bind_some, fin_rt, fin_nx, fin_exc, nums, ls, hd, half, e1, e2, hm, hl2, bt]
end PTL
namespace PTL
open PySem PT

def Sm_ (t : List (List Int)) : Prop := ∀ r ∈ t, ∀ x ∈ r, small x
theorem Sm_.tk {t : List (List Int)} (h : Sm_ t) {a : Nat} : Sm_ (t.take a) := fun r hr => h r (List.mem_of_mem_take hr)
theorem Sm_.dr {t : List (List Int)} (h : Sm_ t) {a : Nat} : Sm_ (t.drop a) := fun r hr => h r (List.mem_of_mem_drop hr)
theorem Sm_.mt {t : List (List Int)} (h : Sm_ t) {a : Nat} : Sm_ (t.map (List.take a)) := fun r hr x hx => by
  obtain ⟨s, hs, rfl⟩ := List.mem_map.mp hr
  exact h s hs x (List.mem_of_mem_take hx)
theorem Sm_.md {t : List (List Int)} (h : Sm_ t) {a : Nat} : Sm_ (t.map (List.drop a)) := fun r hr x hx => by
  obtain ⟨s, hs, rfl⟩ := List.mem_map.mp hr
  exact h s hs x (List.mem_of_mem_drop hx)
theorem Sm_.hd {t : List (List Int)} (h : Sm_ t) : small ((fl t).getD 0 0) := by
  cases hf : fl t with
  | nil => exact small_of (by decide)
  | cons x l =>
    rw [List.getD_cons_zero]
    have : x ∈ fl t := by rw [hf]; simp
    unfold fl at this
    obtain ⟨r, hr, hx⟩ := List.mem_flatMap.mp this
    exact h r hr x hx
theorem qt_facts : ∀ (f : Nat) (t : List (List Int)), Sm_ t → sol (qt f t) = true ∧ Nq f (qt f t) ∧ sz (qt f t) + 1 ≤ 2 * 5 ^ f
  | 0, t, h => ⟨rfl, Nq.int h.hd, by show 1 + 1 ≤ 2 * 5 ^ 0; decide⟩
  | f + 1, t, h => by
    have p5 : 1 ≤ 5 ^ f := Nat.pow_pos (by decide)
    show sol (if one t = true then _ else _) = true ∧ Nq (f + 1) (if one t = true then _ else _) ∧ sz (if one t = true then _ else _) + 1 ≤ _
    split
    · exact ⟨rfl, Nq.int h.hd, by simp only [sz]; rw [Nat.pow_succ]; omega⟩
    · obtain ⟨a1, a2, a3⟩ := qt_facts f _ ((h.tk (a := 2 ^ f)).mt (a := 2 ^ f))
      obtain ⟨b1, b2, b3⟩ := qt_facts f _ ((h.tk (a := 2 ^ f)).md (a := 2 ^ f))
      obtain ⟨c1, c2, c3⟩ := qt_facts f _ ((h.dr (a := 2 ^ f)).mt (a := 2 ^ f))
      obtain ⟨d1, d2, d3⟩ := qt_facts f _ ((h.dr (a := 2 ^ f)).md (a := 2 ^ f))
      refine ⟨by simp only [sol, solL, a1, b1, c1, d1, Bool.and_self], Nq.tup.mpr fun d hd => ?_, ?_⟩
      · simp only [List.mem_cons, List.not_mem_nil, or_false] at hd
        rcases hd with rfl | rfl | rfl | rfl
        · exact a2
        · exact b2
        · exact c2
        · exact d2
      · simp only [sz, szL]
        rw [Nat.pow_succ]
        omega
def tell (F : Nat) (t : List (List Int)) : D := .tuple [.str "tree", qt F t]
theorem tell_tol {F : Nat} (hF : F ≤ 2) {t : List (List Int)} (h : Sm_ t) : Tol (tell F t) := by
  obtain ⟨h1, h2, h3⟩ := qt_facts F t h
  refine ⟨⟨_, _, _, rfl⟩, Nq.tup.mpr fun d hd => ?_, ?_⟩
  · simp only [List.mem_cons, List.not_mem_nil, or_false] at hd
    rcases hd with rfl | rfl
    · exact Nq.str (lay_ofString _)
    · exact h2.mono (by omega)
  · have h4 : 5 ^ F ≤ 5 ^ 2 := Nat.pow_le_pow_right (by decide) hF
    unfold tell
    simp only [sz, szL, len_ofString]
    have : ("tree" : String).length = 4 := rfl
    omega
theorem sizes_tup : PyData.tuple [.int 1, .int 2, .int 4, .int 8] = mkT [1, 2, 4, 8] := rfl
theorem len_lc {Φ : Fn} {m : List (List Int)} (hl : m.length ≤ 100) {k : Nat} {x : Option D} {g : G} : evE Φ (.lc [2] (.n 2) (.seq (.var 0)) .no (.cmp .ne (.b1 .len (.var 2)) (.var 1))) [some (rowsD m), some (.int (k : Int)), x] g = .ok (.list (m.map fun r => .bool (!decide ((r.length : Int) = (k : Int))))) g := by
  rw [eE_lc]
  simp only [eB_cons, eB_nil, eS_asg, eS_iff, eS_ret, eS_ex, eS_rai, eS_aug, eS_par, eS_unp, eS_app, eS_ext, eS_asgO, eS_six, eS_brk, eE_var, eE_own, eE_int, eE_bl, eE_non, eE_str, eE_glob, eE_bin, eE_neg, eE_not, eE_and, eE_or, eE_cmp, eE_ch2, eE_isN, eE_isNN, eE_isNT, eE_ife, eE_tup, eE_lst, eE_dct0, eE_ix, eE_sl, eE_rev, eE_call, eE_b1, eE_b2, eE_isi, eE_join, eL_nil, eL_cons, eA_nil, eA_one, eA_cons, eO_nil, eO_one, eO_cons, eP_no, eP_yes, eC_no, eC_yes, eI_seq, gv_z, gv_s, sv_z, sv_s, bw_ok, bw_exc, Res.ofO_some, Option.map_some, tru_bool, tru_none, intOf_int, noneD, kB, tgD, kT, isi_n, isi_b, isi_i, isi_s, isi_t, isi_l, cutD_T, cutD_L, revD_T, revD_L, bin_add, bin_sub, cmp_lt, cmp_le, cmp_gt, cmp_ge, cmp_eqI, cmp_neI, b1_lenL, b1_lenT, b1_tupL, b1_tupT, b1_lstL, b1_lstT, b1_int, Bool.false_eq_true, if_false, if_true, Bool.not_true, Bool.not_false, decide_true, decide_false, Rs_ok, Rs_exc, lstG, lstD, bindTs, bindT, svAll, wipeE, Option.bind_some, fin_rt, fin_nx, fin_exc, itemsD_rows]
  refine lc_val _ (line_of (by omega)) fun r _ => ?_
  simp only [lcQ_eq, eB_cons, eB_nil, eS_asg, eS_iff, eS_ret, eS_ex, eS_rai, eS_aug, eS_par, eS_unp, eS_app, eS_ext, eS_asgO, eS_six, eS_brk, eE_var, eE_own, eE_int, eE_bl, eE_non, eE_str, eE_glob, eE_bin, eE_neg, eE_not, eE_and, eE_or, eE_cmp, eE_ch2, eE_isN, eE_isNN, eE_isNT, eE_ife, eE_tup, eE_lst, eE_dct0, eE_ix, eE_sl, eE_rev, eE_call, eE_b1, eE_b2, eE_isi, eE_join, eL_nil, eL_cons, eA_nil, eA_one, eA_cons, eO_nil, eO_one, eO_cons, eP_no, eP_yes, eC_no, eC_yes, eI_seq, gv_z, gv_s, sv_z, sv_s, bw_ok, bw_exc, Res.ofO_some, Option.map_some, tru_bool, tru_none, intOf_int, noneD, kB, tgD, kT, isi_n, isi_b, isi_i, isi_s, isi_t, isi_l, cutD_T, cutD_L, revD_T, revD_L, bin_add, bin_sub, cmp_lt, cmp_le, cmp_gt, cmp_ge, cmp_eqI, cmp_neI, b1_lenL, b1_lenT, b1_tupL, b1_tupT, b1_lstL, b1_lstT, b1_int, Bool.false_eq_true, if_false, if_true, Bool.not_true, Bool.not_false, decide_true, decide_false, Rs_ok, Rs_exc, lstG, lstD, bindTs, bindT, svAll, wipeE, Option.bind_some, fin_rt, fin_nx, fin_exc, b1_lenN]
theorem f_run {F : Nat} (hF : F ≤ 2) {t : List (List Int)} (h : Sq F t) {n : Nat} (hn : 5 ≤ n) (g : G) : runF P n 1 [rowsD t] g = .ok (tell F t) g := by
  obtain ⟨n, rfl⟩ : ∃ m, n = m + 1 := ⟨n - 1, by omega⟩
  rw [run_def p_quarters rfl]
  show fin (evB (runF P n) d1.body [some (rowsD t), none, none] g) = _
  have pf := p2 hF
  have tl := h.1
  have q := quart_run hF h F n 0 0 g (by omega) (by omega) hF (by omega)
  rw [win_all h, ← tl] at q
  have c1 := fun (x : Option D) g => len_lc (Φ := runF P n) (m := t) (by omega) (k := t.length) (x := x) (g := g)
  have hm : decide (((t.length : Nat) : Int) ∈ [1, 2, 4, 8]) = true := by
    rw [tl]
    have : F = 0 ∨ F = 1 ∨ F = 2 := by omega
    rcases this with rfl | rfl | rfl <;> decide
  have ha : t.any (fun r => !decide ((r.length : Int) = (t.length : Int))) = false := by
    rw [List.any_eq_false]
    intro r hr
    have := h.2 r hr
    rw [tl, this]
    simp
  rw [show ((0 : Nat) : Int) = 0 from rfl] at q
  simp only [d1, eB_cons, eB_nil, eS_asg, eS_iff, eS_ret, eS_ex, eS_rai, eS_aug, eS_par, eS_unp, eS_app, eS_ext, eS_asgO, eS_six, eS_brk, eE_var, eE_own, eE_int, eE_bl, eE_non, eE_str, eE_glob, eE_bin, eE_neg, eE_not, eE_and, eE_or, eE_cmp, eE_ch2, eE_isN, eE_isNN, eE_isNT, eE_ife, eE_tup, eE_lst, eE_dct0, eE_ix, eE_sl, eE_rev, eE_call, eE_b1, eE_b2, eE_isi, eE_join, eL_nil, eL_cons, eA_nil, eA_one, eA_cons, eO_nil, eO_one, eO_cons, eP_no, eP_yes, eC_no, eC_yes, eI_seq, gv_z, gv_s, sv_z, sv_s, bw_ok, bw_exc, Res.ofO_some, Option.map_some, tru_bool, tru_none, intOf_int, noneD, kB, tgD, kT, isi_n, isi_b, isi_i, isi_s, isi_t, isi_l, cutD_T, cutD_L, revD_T, revD_L, bin_add, bin_sub, cmp_lt, cmp_le, cmp_gt, cmp_ge, cmp_eqI, cmp_neI, b1_lenL, b1_lenT, b1_tupL, b1_tupT, b1_lstL, b1_lstT, b1_int, Bool.false_eq_true, if_false, if_true, Bool.not_true, Bool.not_false, decide_true, decide_false, Rs_ok, Rs_exc, lstG, lstD, bindTs, bindT, svAll, wipeE, Option.bind_some, fin_rt, fin_nx, fin_exc, len_rows, sizes_tup, cmp_notin, in_mkT, hm, c1, cmp_in, in_true, ha, q]
  rfl
theorem f_exc {m : List (List Int)} (hl : m.length ≤ 7) (h : ∀ F, F ≤ 2 → ¬ Sq F m) {n : Nat} (hn : 2 ≤ n) (g : G) : runF P n 1 [rowsD m] g = .exc .unfit g := by
  obtain ⟨n, rfl⟩ : ∃ m, n = m + 1 := ⟨n - 1, by omega⟩
  rw [run_def p_quarters rfl]
  show fin (evB (runF P n) d1.body [some (rowsD m), none, none] g) = _
  have c1 := fun (x : Option D) g => len_lc (Φ := runF P n) (m := m) (by omega) (k := m.length) (x := x) (g := g)
  by_cases hm : m.length = 1 ∨ m.length = 2 ∨ m.length = 4
  · have h1 : decide (((m.length : Nat) : Int) ∈ [1, 2, 4, 8]) = true := by
      rcases hm with e | e | e <;> rw [e] <;> decide
    have ha : m.any (fun r => !decide ((r.length : Int) = (m.length : Int))) = true := by
      cases hc : m.any (fun r => !decide ((r.length : Int) = (m.length : Int))) with
      | true => rfl
      | false =>
        exfalso
        have hall : ∀ r ∈ m, r.length = m.length := fun r hr => by
          have := List.any_eq_false.mp hc r hr
          simp at this
          omega
        rcases hm with e | e | e
        · exact h 0 (by decide) ⟨e, fun r hr => by rw [hall r hr, e]⟩
        · exact h 1 (by decide) ⟨e, fun r hr => by rw [hall r hr, e]⟩
        · exact h 2 (by decide) ⟨e, fun r hr => by rw [hall r hr, e]⟩
    simp only [d1, eB_cons, eB_nil, eS_asg, eS_iff, eS_ret, eS_ex, eS_rai, eS_aug, eS_par, eS_unp, eS_app, eS_ext, eS_asgO, eS_six, eS_brk, eE_var, eE_own, eE_int, eE_bl, eE_non, eE_str, eE_glob, eE_bin, eE_neg, eE_not, eE_and, eE_or, eE_cmp, eE_ch2, eE_isN, eE_isNN, eE_isNT, eE_ife, eE_tup, eE_lst, eE_dct0, eE_ix, eE_sl, eE_rev, eE_call, eE_b1, eE_b2, eE_isi, eE_join, eL_nil, eL_cons, eA_nil, eA_one, eA_cons, eO_nil, eO_one, eO_cons, eP_no, eP_yes, eC_no, eC_yes, eI_seq, gv_z, gv_s, sv_z, sv_s, bw_ok, bw_exc, Res.ofO_some, Option.map_some, tru_bool, tru_none, intOf_int, noneD, kB, tgD, kT, isi_n, isi_b, isi_i, isi_s, isi_t, isi_l, cutD_T, cutD_L, revD_T, revD_L, bin_add, bin_sub, cmp_lt, cmp_le, cmp_gt, cmp_ge, cmp_eqI, cmp_neI, b1_lenL, b1_lenT, b1_tupL, b1_tupT, b1_lstL, b1_lstT, b1_int, Bool.false_eq_true, if_false, if_true, Bool.not_true, Bool.not_false, decide_true, decide_false, Rs_ok, Rs_exc, lstG, lstD, bindTs, bindT, svAll, wipeE, Option.bind_some, fin_rt, fin_nx, fin_exc, len_rows, sizes_tup, cmp_notin, in_mkT, h1, c1, cmp_in, in_true, ha]
  · have h1 : decide (((m.length : Nat) : Int) ∈ [1, 2, 4, 8]) = false := by
      rw [decide_eq_false_iff_not]
      simp only [List.mem_cons, List.not_mem_nil, or_false]
      omega
    simp only [d1, eB_cons, eB_nil, eS_asg, eS_iff, eS_ret, eS_ex, eS_rai, eS_aug, eS_par, eS_unp, eS_app, eS_ext, eS_asgO, eS_six, eS_brk, eE_var, eE_own, eE_int, eE_bl, eE_non, eE_str, eE_glob, eE_bin, eE_neg, eE_not, eE_and, eE_or, eE_cmp, eE_ch2, eE_isN, eE_isNN, eE_isNT, eE_ife, eE_tup, eE_lst, eE_dct0, eE_ix, eE_sl, eE_rev, eE_call, eE_b1, eE_b2, eE_isi, eE_join, eL_nil, eL_cons, eA_nil, eA_one, eA_cons, eO_nil, eO_one, eO_cons, eP_no, eP_yes, eC_no, eC_yes, eI_seq, gv_z, gv_s, sv_z, sv_s, bw_ok, bw_exc, Res.ofO_some, Option.map_some, tru_bool, tru_none, intOf_int, noneD, kB, tgD, kT, isi_n, isi_b, isi_i, isi_s, isi_t, isi_l, cutD_T, cutD_L, revD_T, revD_L, bin_add, bin_sub, cmp_lt, cmp_le, cmp_gt, cmp_ge, cmp_eqI, cmp_neI, b1_lenL, b1_lenT, b1_tupL, b1_tupT, b1_lstL, b1_lstT, b1_int, Bool.false_eq_true, if_false, if_true, Bool.not_true, Bool.not_false, decide_true, decide_false, Rs_ok, Rs_exc, lstG, lstD, bindTs, bindT, svAll, wipeE, Option.bind_some, fin_rt, fin_nx, fin_exc, len_rows, sizes_tup, cmp_notin, in_mkT, h1]
theorem judge_run {F : Nat} (hF : F ≤ 2) {t : List (List Int)} (h : Sq F t) (hs : Sm_ t) {d : D} (hd : Ask d) {n : Nat} (hn : 6 ≤ n) (g : G) : runF P n 3 [rowsD t, d] g = .ok (.bool (same d (tell F t))) g := by
  obtain ⟨n, rfl⟩ : ∃ m, n = m + 1 := ⟨n - 1, by omega⟩
  rw [run_def p_judge_quarters rfl]
  show fin (evB (runF P n) d3.body [some (rowsD t), some d, none] g) = _
  have hf := f_run hF h (show 5 ≤ n by omega)
  have ht := fun g => told_run (g := g) p_is_told (show 1 ≤ n by omega) (w := "tree") (k := 2) (okE_str _) (by decide) (ask_aq hd)
  rw [show ((2 : Nat) : Int) = 2 from rfl] at ht
  have hj := jR1 (Φ := runF P n) (ρ := [some (rowsD t), some d, some (tell F t)]) (g := g) (i := 1) (j := 2) hd ht rfl rfl (tell_tol hF hs) (qt_facts F t hs).1
  rw [eE_and] at hj
  simp only [eB_cons, eB_nil, eS_asg, eS_iff, eS_ret, eS_ex, eS_rai, eS_aug, eS_par, eS_unp, eS_app, eS_ext, eS_asgO, eS_six, eS_brk, eE_var, eE_own, eE_int, eE_bl, eE_non, eE_str, eE_glob, eE_bin, eE_neg, eE_not, eE_and, eE_or, eE_cmp, eE_ch2, eE_isN, eE_isNN, eE_isNT, eE_ife, eE_tup, eE_lst, eE_dct0, eE_ix, eE_sl, eE_rev, eE_call, eE_b1, eE_b2, eE_isi, eE_join, eL_nil, eL_cons, eA_nil, eA_one, eA_cons, eO_nil, eO_one, eO_cons, eP_no, eP_yes, eC_no, eC_yes, eI_seq, gv_z, gv_s, sv_z, sv_s, bw_ok, bw_exc, Res.ofO_some, Option.map_some, tru_bool, tru_none, intOf_int, noneD, kB, tgD, kT, isi_n, isi_b, isi_i, isi_s, isi_t, isi_l, cutD_T, cutD_L, revD_T, revD_L, bin_add, bin_sub, cmp_lt, cmp_le, cmp_gt, cmp_ge, cmp_eqI, cmp_neI, b1_lenL, b1_lenT, b1_tupL, b1_tupT, b1_lstL, b1_lstT, b1_int, Bool.false_eq_true, if_false, if_true, Bool.not_true, Bool.not_false, decide_true, decide_false, Rs_ok, Rs_exc, lstG, lstD, bindTs, bindT, svAll, wipeE, Option.bind_some, fin_rt, fin_nx, fin_exc] at hj
  simp only [d3, eB_cons, eB_nil, eS_asg, eS_iff, eS_ret, eS_ex, eS_rai, eS_aug, eS_par, eS_unp, eS_app, eS_ext, eS_asgO, eS_six, eS_brk, eE_var, eE_own, eE_int, eE_bl, eE_non, eE_str, eE_glob, eE_bin, eE_neg, eE_not, eE_and, eE_or, eE_cmp, eE_ch2, eE_isN, eE_isNN, eE_isNT, eE_ife, eE_tup, eE_lst, eE_dct0, eE_ix, eE_sl, eE_rev, eE_call, eE_b1, eE_b2, eE_isi, eE_join, eL_nil, eL_cons, eA_nil, eA_one, eA_cons, eO_nil, eO_one, eO_cons, eP_no, eP_yes, eC_no, eC_yes, eI_seq, gv_z, gv_s, sv_z, sv_s, bw_ok, bw_exc, Res.ofO_some, Option.map_some, tru_bool, tru_none, intOf_int, noneD, kB, tgD, kT, isi_n, isi_b, isi_i, isi_s, isi_t, isi_l, cutD_T, cutD_L, revD_T, revD_L, bin_add, bin_sub, cmp_lt, cmp_le, cmp_gt, cmp_ge, cmp_eqI, cmp_neI, b1_lenL, b1_lenT, b1_tupL, b1_tupT, b1_lstL, b1_lstT, b1_int, Bool.false_eq_true, if_false, if_true, Bool.not_true, Bool.not_false, decide_true, decide_false, Rs_ok, Rs_exc, lstG, lstD, bindTs, bindT, svAll, wipeE, Option.bind_some, fin_rt, fin_nx, fin_exc, hf, hj]
  rfl
theorem acc_run {F : Nat} (hF : F ≤ 2) {t : List (List Int)} (h : Sq F t) (hs : Sm_ t) {d : D} (hd : Ask d) {n : Nat} (hn : 40 ≤ n) (g : G) : runF P n 14 [rowsD t, d] g = .ok (.bool (same d (tell F t))) g := by
  obtain ⟨n, rfl⟩ : ∃ m, n = m + 1 := ⟨n - 1, by omega⟩
  rw [run_def p_law_accepts rfl]
  show fin (evB (runF P n) d14.body [some (rowsD t), some d] g) = _
  have tr := fun g => tree_run F n t g hF h (by omega)
  have bl : b1D .list (rowsD t) = some (lrows t) := rfl
  have hs := same_due p_law_same (n := n) (by omega) hd (tell_tol hF hs)
  unfold tell at hs ⊢
  simp only [d14, eB_cons, eB_nil, eS_asg, eS_iff, eS_ret, eS_ex, eS_rai, eS_aug, eS_par, eS_unp, eS_app, eS_ext, eS_asgO, eS_six, eS_brk, eE_var, eE_own, eE_int, eE_bl, eE_non, eE_str, eE_glob, eE_bin, eE_neg, eE_not, eE_and, eE_or, eE_cmp, eE_ch2, eE_isN, eE_isNN, eE_isNT, eE_ife, eE_tup, eE_lst, eE_dct0, eE_ix, eE_sl, eE_rev, eE_call, eE_b1, eE_b2, eE_isi, eE_join, eL_nil, eL_cons, eA_nil, eA_one, eA_cons, eO_nil, eO_one, eO_cons, eP_no, eP_yes, eC_no, eC_yes, eI_seq, gv_z, gv_s, sv_z, sv_s, bw_ok, bw_exc, Res.ofO_some, Option.map_some, tru_bool, tru_none, intOf_int, noneD, kB, tgD, kT, isi_n, isi_b, isi_i, isi_s, isi_t, isi_l, cutD_T, cutD_L, revD_T, revD_L, bin_add, bin_sub, cmp_lt, cmp_le, cmp_gt, cmp_ge, cmp_eqI, cmp_neI, b1_lenL, b1_lenT, b1_tupL, b1_tupT, b1_lstL, b1_lstT, b1_int, Bool.false_eq_true, if_false, if_true, Bool.not_true, Bool.not_false, decide_true, decide_false, Rs_ok, Rs_exc, lstG, lstD, bindTs, bindT, svAll, wipeE, Option.bind_some, fin_rt, fin_nx, fin_exc, bl, tr, hs]
theorem judge_exc {m : List (List Int)} (hl : m.length ≤ 7) (h : ∀ F, F ≤ 2 → ¬ Sq F m) {n : Nat} (hn : 3 ≤ n) (g : G) : runF P n 3 [rowsD m, .none] g = .exc .unfit g := by
  obtain ⟨n, rfl⟩ : ∃ m, n = m + 1 := ⟨n - 1, by omega⟩
  rw [run_def p_judge_quarters rfl]
  show fin (evB (runF P n) d3.body [some (rowsD m), some .none, none] g) = _
  simp only [d3, eB_cons, eB_nil, eS_asg, eS_iff, eS_ret, eS_ex, eS_rai, eS_aug, eS_par, eS_unp, eS_app, eS_ext, eS_asgO, eS_six, eS_brk, eE_var, eE_own, eE_int, eE_bl, eE_non, eE_str, eE_glob, eE_bin, eE_neg, eE_not, eE_and, eE_or, eE_cmp, eE_ch2, eE_isN, eE_isNN, eE_isNT, eE_ife, eE_tup, eE_lst, eE_dct0, eE_ix, eE_sl, eE_rev, eE_call, eE_b1, eE_b2, eE_isi, eE_join, eL_nil, eL_cons, eA_nil, eA_one, eA_cons, eO_nil, eO_one, eO_cons, eP_no, eP_yes, eC_no, eC_yes, eI_seq, gv_z, gv_s, sv_z, sv_s, bw_ok, bw_exc, Res.ofO_some, Option.map_some, tru_bool, tru_none, intOf_int, noneD, kB, tgD, kT, isi_n, isi_b, isi_i, isi_s, isi_t, isi_l, cutD_T, cutD_L, revD_T, revD_L, bin_add, bin_sub, cmp_lt, cmp_le, cmp_gt, cmp_ge, cmp_eqI, cmp_neI, b1_lenL, b1_lenT, b1_tupL, b1_tupT, b1_lstL, b1_lstT, b1_int, Bool.false_eq_true, if_false, if_true, Bool.not_true, Bool.not_false, decide_true, decide_false, Rs_ok, Rs_exc, lstG, lstD, bindTs, bindT, svAll, wipeE, Option.bind_some, fin_rt, fin_nx, fin_exc, f_exc hl h (show 2 ≤ n by omega)]
theorem unfit_run {m : List (List Int)} (hl : m.length ≤ 7) (h : ∀ F, F ≤ 2 → ¬ Sq F m) {n : Nat} (hn : 5 ≤ n) (g : G) : runF P n 16 [rowsD m] g = .ok (.bool true) g :=
  unfit1_ok p_law_unfit rfl (by omega) (fun g => f_exc hl h (by omega) g) (fun g => judge_exc hl h (by omega) g) g
/-- what is drawn -/
def Dr (F : Nat) (t : List (List Int)) : Prop := F ≤ 2 ∧ Sq F t ∧ ∀ r ∈ t, ∀ x ∈ r, 0 ≤ x ∧ x ≤ 1
theorem Dr.sm {F : Nat} {t : List (List Int)} (h : Dr F t) : Sm_ t := fun r hr x hx => small_of (by have := h.2.2 r hr x hx; omega)
theorem near_run {F : Nat} {t : List (List Int)} (h : Dr F t) {n : Nat} (hn : 10 ≤ n) {g : G} (hg : GS g) : Rs (runF P n 15 [stD, rowsD t] g) (fun v g' => Ask v ∧ GS g') NoE := by
  have pf := p2 h.1
  have tl := h.2.1.1
  refine near1_ok (N0 := fun d => ∃ m, d = rowsD m ∧ Nb (Nb NbI) t m) p_law_next p_law_told_near rfl (by omega) (fun g hg => nb_rows p_law_next p_law_neighbour (by omega) (by omega) (fun r hr => by rw [h.2.1.2 r hr]; omega) hg) (fun d ⟨m, e, hm⟩ g => ?_) hg
  subst e
  have l1 := hm.len
  have hall := nb_bound (a := 0) (b := 1) hm h.2.2
  have sm : Sm_ m := fun r hr x hx => small_of (by have := hall r hr x hx; omega)
  by_cases hc : ∃ F, F ≤ 2 ∧ Sq F m
  · obtain ⟨F', hF', hs⟩ := hc
    exact .inl ⟨_, f_run hF' hs (by omega) g, (tell_tol hF' sm).ask⟩
  · exact .inr ⟨_, f_exc (by omega) (fun F hF hs => hc ⟨F, hF, hs⟩) (by omega) g⟩
theorem b1_do {F : Nat} {t : List (List Int)} (h : Dr F t) : B1.Do (runF P fuel) [rowsD t] (tell F t) := by
  have tol := tell_tol h.1 h.sm
  have J := fun (a : D) (ha : Ask a) (g : G) => judge_run h.1 h.2.1 h.sm ha (n := fuel) (by decide) g
  have A := fun (a : D) (ha : Ask a) (g : G) => acc_run h.1 h.2.1 h.sm ha (n := fuel) (by decide) g
  refine ⟨fun g => f_run h.1 h.2.1 (by decide) g, tol, fun g hg => near_run h (by decide) hg, fun g => ?_, fun a ha => ⟨same a (tell F t), fun g => ⟨A a ha g, J a ha g⟩⟩, fun g hg => od_spec tol hg (by decide), fun s t g => sa_spec (by decide)⟩
  have e1 := A _ tol.ask g
  have e2 := J _ tol.ask g
  rw [same_refl] at e1 e2
  exact ⟨e1, e2⟩
theorem no_sq1 {F : Nat} {t : List (List Int)} (h : Dr F t) : ∀ F', F' ≤ 2 → ¬ Sq F' (t ++ [[1]]) := by
  intro F' hF' hs
  have h1 := hs.1
  have h2 := hs.2 [1] (by simp)
  rw [List.length_append, h.2.1.1] at h1
  have pf := p2 h.1
  simp at h1 h2
  omega
theorem no_sq2 : ∀ F', F' ≤ 2 → ¬ Sq F' [[1, 2]] := by
  intro F' hF' hs
  have h1 := hs.1
  have h2 := hs.2 [1, 2] (by simp)
  simp at h1 h2
  omega
theorem mid_ok {F : Nat} {t : List (List Int)} (h : Dr F t) (ρ : PT.Env) (g : G) (ha : gvs ρ [5] = some [rowsD t]) : evB (runF P fuel) mid1 ρ g = .ok (.nx ρ) g := by
  have h5 := gvs1 ha
  have pf := p2 h.1
  have tl := h.2.1.1
  have a1 : binD .add (rowsD t) (.tuple [.tuple [.int 1]]) = some (rowsD (t ++ [[1]])) := add_rows (rows := t) (r := [1]) (by omega)
  have u1 := unfit_run (m := t ++ [[1]]) (by simp; omega) (no_sq1 h) (n := fuel) (by decide) g
  have u2 := unfit_run (m := [[1, 2]]) (by simp) no_sq2 (n := fuel) (by decide) g
  have hm : PyData.tuple [.tuple [.int 1, .int 2]] = rowsD [[1, 2]] := rfl
  simp only [mid1, eB_cons, eB_nil, eS_asg, eS_iff, eS_ret, eS_ex, eS_rai, eS_aug, eS_par, eS_unp, eS_app, eS_ext, eS_asgO, eS_six, eS_brk, eE_var, eE_own, eE_int, eE_bl, eE_non, eE_str, eE_glob, eE_bin, eE_neg, eE_not, eE_and, eE_or, eE_cmp, eE_ch2, eE_isN, eE_isNN, eE_isNT, eE_ife, eE_tup, eE_lst, eE_dct0, eE_ix, eE_sl, eE_rev, eE_call, eE_b1, eE_b2, eE_isi, eE_join, eL_nil, eL_cons, eA_nil, eA_one, eA_cons, eO_nil, eO_one, eO_cons, eP_no, eP_yes, eC_no, eC_yes, eI_seq, gv_z, gv_s, sv_z, sv_s, bw_ok, bw_exc, Res.ofO_some, Option.map_some, tru_bool, tru_none, intOf_int, noneD, kB, tgD, kT, isi_n, isi_b, isi_i, isi_s, isi_t, isi_l, cutD_T, cutD_L, revD_T, revD_L, bin_add, bin_sub, cmp_lt, cmp_le, cmp_gt, cmp_ge, cmp_eqI, cmp_neI, b1_lenL, b1_lenT, b1_tupL, b1_tupT, b1_lstL, b1_lstT, b1_int, Bool.false_eq_true, if_false, if_true, Bool.not_true, Bool.not_false, decide_true, decide_false, Rs_ok, Rs_exc, lstG, lstD, bindTs, bindT, svAll, wipeE, Option.bind_some, fin_rt, fin_nx, fin_exc, h5, a1, u1, hm, u2]
theorem yes : LawYes P fuel dL := by
  refine yes1 body_eq rfl (by decide) (by decide) fun ρ g hI => ?_
  rw [turn, draw1]
  have hst := hI.st
  simp only [List.cons_append, List.nil_append, eB_cons, eB_nil, eS_asg, eS_iff, eS_ret, eS_ex, eS_rai, eS_aug, eS_par, eS_unp, eS_app, eS_ext, eS_asgO, eS_six, eS_brk, eE_var, eE_own, eE_int, eE_bl, eE_non, eE_str, eE_glob, eE_bin, eE_neg, eE_not, eE_and, eE_or, eE_cmp, eE_ch2, eE_isN, eE_isNN, eE_isNT, eE_ife, eE_tup, eE_lst, eE_dct0, eE_ix, eE_sl, eE_rev, eE_call, eE_b1, eE_b2, eE_isi, eE_join, eL_nil, eL_cons, eA_nil, eA_one, eA_cons, eO_nil, eO_one, eO_cons, eP_no, eP_yes, eC_no, eC_yes, eI_seq, gv_z, gv_s, sv_z, sv_s, bw_ok, bw_exc, Res.ofO_some, Option.map_some, tru_bool, tru_none, intOf_int, noneD, kB, tgD, kT, isi_n, isi_b, isi_i, isi_s, isi_t, isi_l, cutD_T, cutD_L, revD_T, revD_L, bin_add, bin_sub, cmp_lt, cmp_le, cmp_gt, cmp_ge, cmp_eqI, cmp_neI, b1_lenL, b1_lenT, b1_tupL, b1_tupT, b1_lstL, b1_lstT, b1_int, Bool.false_eq_true, if_false, if_true, Bool.not_true, Bool.not_false, decide_true, decide_false, Rs_ok, Rs_exc, lstG, lstD, bindTs, bindT, svAll, wipeE, Option.bind_some, fin_rt, fin_nx, fin_exc, hst]
  simp only [Rs_bw]
  refine next_rs p_law_next (by decide) (by decide) (by decide) hI.gs fun q g1 q0 q1 hg1 => ?_
  simp only [ixG_L]
  refine pick2 q0 q1 fun y hy => ?_
  simp only [Rs_ok]
  obtain ⟨F, rfl, hF⟩ : ∃ F : Nat, y = .int ((2 ^ F : Nat) : Int) ∧ F ≤ 2 := by
    simp only [List.mem_cons, List.not_mem_nil, or_false] at hy
    rcases hy with rfl | rfl | rfl
    · exact ⟨0, rfl, by decide⟩
    · exact ⟨1, rfl, by decide⟩
    · exact ⟨2, rfl, by decide⟩
  have pf := p2 hF
  have hI1 : TurnI [2] 11 (sv ρ 4 (some (.int ((2 ^ F : Nat) : Int)))) g1 := TurnI.sv ⟨hg1, hI.len, hI.st, hI.sn⟩ (by decide) (by decide)
  have h4 : gv (sv ρ 4 (some (.int ((2 ^ F : Nat) : Int)))) 4 = some (.int ((2 ^ F : Nat) : Int)) := gv_sv_eq (by rw [hI.len]; decide)
  generalize sv ρ 4 (some (.int ((2 ^ F : Nat) : Int))) = ρ1 at *
  have hst1 := hI1.st
  have hr : rgB ((2 ^ F : Nat) : Int) = true := rgB_of (by omega) (by omega)
  simp only [eB_cons, eS_asg, eE_b1, eE_lc, eI_rg1', eE_var, h4, Res.ofO_some, bw_ok, intOf_int, hr, if_true, Int.toNat_natCast, rgL0_map]
  simp only [Rs_bw]
  refine (lc_rs (α := Nat) (l := List.range (2 ^ F)) (e := fun k => .int (k : Nat)) (Q := fun d => ∃ r : List Int, d = mkT r ∧ r.length = 2 ^ F ∧ ∀ x ∈ r, 0 ≤ x ∧ x ≤ 1) (line_of (by simp; omega)) (fun k _ g hg => ?_) hg1).mono (fun d g3 ⟨ys, e, y1, y2, hg3⟩ => ?_) fun _ _ h => h
  · have a1 : gv (sv (sv ρ1 10 none) 10 (some (.int k))) 1 = some stD := by rw [gv_sv_ne (by decide), gv_sv_ne (by decide)]; exact hst1
    have a4 : gv (sv (sv ρ1 10 none) 10 (some (.int k))) 4 = some (.int ((2 ^ F : Nat) : Int)) := by rw [gv_sv_ne (by decide), gv_sv_ne (by decide)]; exact h4
    simp only [lcQ_eq, wipeE, bindT, Res.ofO_some, bw_ok, eC_no, if_true]
    generalize sv (sv ρ1 10 none) 10 (some (.int (k : Int))) = ρ2 at *
    simp only [eE_b1, eE_lc, eI_rg1', eE_var, a4, Res.ofO_some, bw_ok, intOf_int, hr, if_true, Int.toNat_natCast, rgL0_map]
    simp only [Rs_bw]
    refine (lc_rs (α := Nat) (l := List.range (2 ^ F)) (e := fun k => .int (k : Nat)) (Q := fun d => ∃ x : Int, d = .int x ∧ 0 ≤ x ∧ x ≤ 1) (line_of (by simp; omega)) (fun j _ g hg => ?_) hg).mono (fun d g3 ⟨ys, e, y1, y2, hg3⟩ => ?_) fun _ _ h => h
    · have b1 : gv (sv (sv ρ2 8 none) 8 (some (.int j))) 1 = some stD := by rw [gv_sv_ne (by decide), gv_sv_ne (by decide)]; exact a1
      simp only [lcQ_eq, eB_cons, eB_nil, eS_asg, eS_iff, eS_ret, eS_ex, eS_rai, eS_aug, eS_par, eS_unp, eS_app, eS_ext, eS_asgO, eS_six, eS_brk, eE_var, eE_own, eE_int, eE_bl, eE_non, eE_str, eE_glob, eE_bin, eE_neg, eE_not, eE_and, eE_or, eE_cmp, eE_ch2, eE_isN, eE_isNN, eE_isNT, eE_ife, eE_tup, eE_lst, eE_dct0, eE_ix, eE_sl, eE_rev, eE_call, eE_b1, eE_b2, eE_isi, eE_join, eL_nil, eL_cons, eA_nil, eA_one, eA_cons, eO_nil, eO_one, eO_cons, eP_no, eP_yes, eC_no, eC_yes, eI_seq, gv_z, gv_s, sv_z, sv_s, bw_ok, bw_exc, Res.ofO_some, Option.map_some, tru_bool, tru_none, intOf_int, noneD, kB, tgD, kT, isi_n, isi_b, isi_i, isi_s, isi_t, isi_l, cutD_T, cutD_L, revD_T, revD_L, bin_add, bin_sub, cmp_lt, cmp_le, cmp_gt, cmp_ge, cmp_eqI, cmp_neI, b1_lenL, b1_lenT, b1_tupL, b1_tupT, b1_lstL, b1_lstT, b1_int, Bool.false_eq_true, if_false, if_true, Bool.not_true, Bool.not_false, decide_true, decide_false, Rs_ok, Rs_exc, lstG, lstD, bindTs, bindT, svAll, wipeE, Option.bind_some, fin_rt, fin_nx, fin_exc, b1]
      simp only [Rs_bw]
      refine next_rs p_law_next (by decide) (by decide) (by decide) hg fun a g4 a0 a1 hg4 => ?_
      have e1 := bin_div (i := a) (j := 2) (by decide)
      simp only [eB_cons, eB_nil, eS_asg, eS_iff, eS_ret, eS_ex, eS_rai, eS_aug, eS_par, eS_unp, eS_app, eS_ext, eS_asgO, eS_six, eS_brk, eE_var, eE_own, eE_int, eE_bl, eE_non, eE_str, eE_glob, eE_bin, eE_neg, eE_not, eE_and, eE_or, eE_cmp, eE_ch2, eE_isN, eE_isNN, eE_isNT, eE_ife, eE_tup, eE_lst, eE_dct0, eE_ix, eE_sl, eE_rev, eE_call, eE_b1, eE_b2, eE_isi, eE_join, eL_nil, eL_cons, eA_nil, eA_one, eA_cons, eO_nil, eO_one, eO_cons, eP_no, eP_yes, eC_no, eC_yes, eI_seq, gv_z, gv_s, sv_z, sv_s, bw_ok, bw_exc, Res.ofO_some, Option.map_some, tru_bool, tru_none, intOf_int, noneD, kB, tgD, kT, isi_n, isi_b, isi_i, isi_s, isi_t, isi_l, cutD_T, cutD_L, revD_T, revD_L, bin_add, bin_sub, cmp_lt, cmp_le, cmp_gt, cmp_ge, cmp_eqI, cmp_neI, b1_lenL, b1_lenT, b1_tupL, b1_tupT, b1_lstL, b1_lstT, b1_int, Bool.false_eq_true, if_false, if_true, Bool.not_true, Bool.not_false, decide_true, decide_false, Rs_ok, Rs_exc, lstG, lstD, bindTs, bindT, svAll, wipeE, Option.bind_some, fin_rt, fin_nx, fin_exc, e1]
      exact ⟨⟨_, rfl, _, rfl, by omega, by omega⟩, hg4⟩
    · subst e
      obtain ⟨r, rfl, hrr⟩ := list_of (e := PyData.int) y2
      simp only [List.length_map, List.length_range] at y1
      simp only [eB_cons, eB_nil, eS_asg, eS_iff, eS_ret, eS_ex, eS_rai, eS_aug, eS_par, eS_unp, eS_app, eS_ext, eS_asgO, eS_six, eS_brk, eE_var, eE_own, eE_int, eE_bl, eE_non, eE_str, eE_glob, eE_bin, eE_neg, eE_not, eE_and, eE_or, eE_cmp, eE_ch2, eE_isN, eE_isNN, eE_isNT, eE_ife, eE_tup, eE_lst, eE_dct0, eE_ix, eE_sl, eE_rev, eE_call, eE_b1, eE_b2, eE_isi, eE_join, eL_nil, eL_cons, eA_nil, eA_one, eA_cons, eO_nil, eO_one, eO_cons, eP_no, eP_yes, eC_no, eC_yes, eI_seq, gv_z, gv_s, sv_z, sv_s, bw_ok, bw_exc, Res.ofO_some, Option.map_some, tru_bool, tru_none, intOf_int, noneD, kB, tgD, kT, isi_n, isi_b, isi_i, isi_s, isi_t, isi_l, cutD_T, cutD_L, revD_T, revD_L, bin_add, bin_sub, cmp_lt, cmp_le, cmp_gt, cmp_ge, cmp_eqI, cmp_neI, b1_lenL, b1_lenT, b1_tupL, b1_tupT, b1_lstL, b1_lstT, b1_int, Bool.false_eq_true, if_false, if_true, Bool.not_true, Bool.not_false, decide_true, decide_false, Rs_ok, Rs_exc, lstG, lstD, bindTs, bindT, svAll, wipeE, Option.bind_some, fin_rt, fin_nx, fin_exc]
      exact ⟨⟨_, rfl, r, rfl, y1, hrr⟩, hg3⟩
  · subst e
    obtain ⟨t, rfl, htt⟩ := list_of (e := mkT) y2
    simp only [List.length_map, List.length_range] at y1
    have hmt : PyData.tuple (t.map mkT) = rowsD t := rfl
    have dr : Dr F t := ⟨hF, ⟨y1, fun r hr => (htt r hr).1⟩, fun r hr => (htt r hr).2⟩
    simp only [eB_cons, eB_nil, eS_asg, eS_iff, eS_ret, eS_ex, eS_rai, eS_aug, eS_par, eS_unp, eS_app, eS_ext, eS_asgO, eS_six, eS_brk, eE_var, eE_own, eE_int, eE_bl, eE_non, eE_str, eE_glob, eE_bin, eE_neg, eE_not, eE_and, eE_or, eE_cmp, eE_ch2, eE_isN, eE_isNN, eE_isNT, eE_ife, eE_tup, eE_lst, eE_dct0, eE_ix, eE_sl, eE_rev, eE_call, eE_b1, eE_b2, eE_isi, eE_join, eL_nil, eL_cons, eA_nil, eA_one, eA_cons, eO_nil, eO_one, eO_cons, eP_no, eP_yes, eC_no, eC_yes, eI_seq, gv_z, gv_s, sv_z, sv_s, bw_ok, bw_exc, Res.ofO_some, Option.map_some, tru_bool, tru_none, intOf_int, noneD, kB, tgD, kT, isi_n, isi_b, isi_i, isi_s, isi_t, isi_l, cutD_T, cutD_L, revD_T, revD_L, bin_add, bin_sub, cmp_lt, cmp_le, cmp_gt, cmp_ge, cmp_eqI, cmp_neI, b1_lenL, b1_lenT, b1_tupL, b1_tupT, b1_lstL, b1_lstT, b1_int, Bool.false_eq_true, if_false, if_true, Bool.not_true, Bool.not_false, decide_true, decide_false, Rs_ok, Rs_exc, lstG, lstD, bindTs, bindT, svAll, wipeE, Option.bind_some, fin_rt, fin_nx, fin_exc, hmt]
    have hI2 : TurnI [2] 11 (sv ρ1 5 (some (rowsD t))) g3 := TurnI.sv ⟨hg3, hI1.len, hI1.st, hI1.sn⟩ (by decide) (by decide)
    have h5 : gv (sv ρ1 5 (some (rowsD t))) 5 = some (rowsD t) := gv_sv_eq (by rw [hI1.len]; decide)
    refine blk_ok B1_ok (b1_do dr) hI2 rfl (by decide) (by decide) (by decide) (show gvs _ [5] = _ by unfold gvs; simp [h5]) (fun ρ' g' h' => mid_ok dr ρ' g' h') fun ρ' g' hI' _ => ?_
    rw [eB_nil]
    exact ⟨ρ', rfl, hI'⟩
end PTL
set_option maxHeartbeats 0
namespace PTL
open PySem PySem.Spec PyProof.Rows L2 PT
def b : List Stmt := PySem.Challenge.pw_heapwhole_k69_trees_of_quarters.main.body
theorem hc : chkAll P cs bl b nm = true := by decide +kernel
theorem hcl : chkLaw P cs bl dL (defArgs (stP b 24)) (defScope (stP b 24)) (defBody (stP b 24)) = true := by decide +kernel
abbrev R : PySem.W.OpenRow := PySem.W.OpenLaw.row PySem.Challenge.rw_heapwhole_k69_trees_of_quarters
def fa : List He.Fa := faOf (nm ++ [(dL.name, 24)]) cs bl
def fn : List He.DefD := (nm ++ [(dL.name, 24)]).map (dfD b)
abbrev hk : PySem.W.Hook := He.hookX 5 fa fn [] [] exB
def ob (s : PySem.W.SharedT) : He.AlX := He.obsX 5 fa fn [] [] exB (HandSHeadRun.getT s)
theorem ob_eq (s : PySem.W.SharedT) : ob s = hk.obs s.abs := He.obsX_eq (HandSHeadRun.getT_eq s)
def loose : List Str := ["HeapwholeError", "UnfitHeap", "TooWide", "is_told", "quarters", "quartered", "judge_quarters", "_law_next", "_law_same", "_law_changed", "_law_ints", "_law_exchanged", "_law_cut", "_law_turned_about", "_law_odd", "_law_neighbour", "_law_tree", "_law_accepts", "_law_told_near", "_law_unfit"]
theorem run (w : World) : HandSHeadRun.RunEq R (PySem.W.view R.prog [24]) hk ob 4000 loose w := by
  intro os
  kernel_rfl
end PTL
open PySem PySem.W PySem.Calls PyProof.Rows
theorem PySem.Challenge.cw_heapwhole_k69_trees_of_quarters_holds : PySem.Challenge.rw_heapwhole_k69_trees_of_quarters.Holds := by
  w_on; o_law
  refine HandSHeadRun.head_any (r := OpenLaw.row PySem.Challenge.rw_heapwhole_k69_trees_of_quarters) (q := view (OpenLaw.row PySem.Challenge.rw_heapwhole_k69_trees_of_quarters).prog [24]) (H := PTL.hk) (ob := PTL.ob) (M := 4000) (loose := PTL.loose) (d := HandSHeadRun.topDef (OpenLaw.row PySem.Challenge.rw_heapwhole_k69_trees_of_quarters).prog 24) (kwd := []) PTL.ob_eq
    (by kernel_rfl) (fun s => by kernel_rfl) PTL.run (by kernel_rfl) (by kernel_rfl) (by kernel_rfl) (by rfl) (by first | assumption | decide +kernel) (by decide +kernel) ⟨rfl, rfl, rfl, rfl, rfl, by decide +kernel⟩ ?hw ?hc
  case hw => w_witness2
  case hc =>
    refine PT.walk_G (l := PySem.Challenge.rw_heapwhole_k69_trees_of_quarters) (n := 63) (k := PTL.fuel + 1) (x := "script") rfl (by decide) (by kernel_rfl) ⟨rfl, by decide, by decide⟩ ?F
    intro w mg fa h Y G hmg
    obtain ⟨K, X, c⟩ := Y
    have hmg' : mg PTL.dL.name = some (.ref fa) := hmg
    exact PT.law_end X G c rfl PTL.hc PTL.hcl rfl PTL.yes hmg'
