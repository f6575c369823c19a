import PyProof.Rows.All
import HandS.ForExc
import HandS.Lambda
import HandS.HotCalls
import HandS.Comp
import HandS.TupAny
import HandS.TupMul
import HandS.IsInst
import KE.KTupSum
import KE.DataMinMax
import PyProof.Rows.IntBool
import HandS.SortRule
import HandS.Style
import KE.KSortedM
import HandS.Iter
import HandS.Walk
import KE.GoesNew
import HandS.More
import HandS.Defaults
import HandS.Conv
import HandS.ExcInit
import HandS.ExcCtx
import OpenK.KCls
import HandS.HeadWalk
import HandS.ExcIs
import HandS.ExcField
import HandS.Nested
import HandS.Codes
import HandS.EndTab
import PySem.Challenge.RW_fitqueue_k13_whole_evenings
set_option Elab.async false
set_option maxRecDepth 10000
/-! ML: values, store, terms and the evaluator (plain Lean). -/
namespace ML
open PySem (Str)

inductive PV where
  | non
  | bl (b : Bool)
  | int (i : Int)
  | str (s : Str)
  | tup (xs : List PV)
  | lst (xs : List PV)
  | loc (l : Nat)
  | fn (f : Nat)
  | clo (c : Nat) (xs : List PV)
  | exn (c : Nat) (xs : List PV)
instance : Inhabited PV := ⟨.non⟩

mutual
/-- no place of the store within -/
def noloc : PV → Bool
  | .non => true | .bl _ => true | .int _ => true | .str _ => true | .fn _ => true
  | .tup xs => nolocs xs
  | .lst xs => nolocs xs
  | .loc _ => false
  | .clo _ _ => false
  | .exn _ _ => false
def nolocs : List PV → Bool
  | [] => true
  | x :: r => noloc x && nolocs r
end
mutual
/-- all places within lie below n -/
def below (n : Nat) : PV → Bool
  | .non => true | .bl _ => true | .int _ => true | .str _ => true | .fn _ => true
  | .tup xs => belows n xs
  | .lst xs => belows n xs
  | .loc l => decide (l < n)
  | .clo _ _ => false
  | .exn _ _ => false
def belows (n : Nat) : List PV → Bool
  | [] => true
  | x :: r => below n x && belows n r
end
mutual
/-- equality as Python's == over plain data -/
def veq : PV → PV → Bool
  | .non, .non => true
  | .bl a, .bl b => a == b
  | .bl a, .int j => (if a then 1 else 0) == j
  | .int i, .bl b => i == (if b then 1 else 0)
  | .int i, .int j => i == j
  | .str x, .str y => x == y
  | .lst xs, .lst ys => veqs xs ys
  | .tup xs, .tup ys => veqs xs ys
  | _, _ => false
def veqs : List PV → List PV → Bool
  | [], [] => true
  | x :: xs, y :: ys => veq x y && veqs xs ys
  | _, _ => false
end
mutual
/-- plain data (no place, def, exception), nested at most d deep -/
def dat : Nat → PV → Bool
  | _, .non => true
  | _, .bl _ => true
  | _, .int _ => true
  | _, .str s => s.cps.all fun c => decide (c < 1114112)
  | 0, _ => false
  | d + 1, .tup xs => dats d xs
  | d + 1, .lst xs => dats d xs
  | _ + 1, _ => false
def dats : Nat → List PV → Bool
  | _, [] => true
  | d, x :: r => dat d x && dats d r
end

inductive Obj where
  | lst (xs : List PV)
abbrev Store := List Obj
abbrev Env := List (Option PV)

inductive Res (α : Type) where
  | ok (a : α) (s : Store)
  | exc (e : PV) (s : Store)
  | bad
def Res.bind {α β : Type} (r : Res α) (f : α → Store → Res β) : Res β := match r with
  | .ok a s => f a s
  | .exc e s => .exc e s
  | .bad => .bad
@[simp] theorem Res.bind_ok {α β : Type} (a : α) (s : Store) (f : α → Store → Res β) : (Res.ok a s).bind f = f a s := rfl
@[simp] theorem Res.bind_exc {α β : Type} (a : PV) (s : Store) (f : α → Store → Res β) : (Res.exc a s : Res α).bind f = .exc a s := rfl
@[simp] theorem Res.bind_bad {α β : Type} (f : α → Store → Res β) : (Res.bad : Res α).bind f = .bad := rfl
/-- no exception may leave -/
def noX {α : Type} : Res α → Res α
  | .ok a s => .ok a s
  | .exc _ _ => .bad
  | .bad => .bad
@[simp] theorem noX_ok {α : Type} (a : α) (s : Store) : noX (.ok a s) = .ok a s := rfl
def lift (o : Option PV) (s : Store) : Res PV := match o with
  | some v => .ok v s
  | none => .bad
@[simp] theorem lift_some (v : PV) (s : Store) : lift (some v) s = .ok v s := rfl
@[simp] theorem lift_none (s : Store) : lift none s = .bad := rfl

inductive BOp where | add | sub | mul | fdiv | mod | pow
inductive COp where | lt | le | gt | ge | eq | ne | isn | notn | isin | notin
inductive BI where
  | len | int1 | sum | min1 | max1 | min2 | max2 | tuple | list | all | sorted
  | isint | isbool | isstr | istuple | islist
inductive It1 where | seq | enum
mutual
inductive E where
  | var (i : Nat) | int (i : Int) | bl (b : Bool) | non | str (s : Str) | gint (x : Str) (i : Int) | fn (f : Nat)
  | bin (o : BOp) (a b : E)
  | neg (a : E)
  | cmp (o : COp) (a b : E)
  | chain (o o' : COp) (a b c : E)
  | and_ (a b : E) | or_ (a b : E) | not_ (a : E)
  | ite (c a b : E)
  | tup (es : Es)
  | lst (es : Es) | newl (es : Es)
  | ix (a b : E)
  | slice (a : E) (lo hi : Oe)
  | call (f : Nat) (es : Es) (kw : Oe)
  | frz (a : E)
  | mutc (a : E)
  | bi (b : BI) (es : Es)
  | append (a b : E)
  | insert (a b c : E)
  | lrange (a : E)
  | att (e : E)
  | bor (i : Nat) (a : E)
  | lend (m : Nat) (a : E)
  | trange (a : E)
  | cmpl (neg : Bool) (a b : E)
  | callv (fs : List (Nat × Bool)) (i : Nat) (es : Es) (kw : Oe)
  | lamv (f : Nat)
  | compP (own : List Nat) (tg : List Nat) (one : Bool) (e : E) (cond : Oe) (elt : E)
  | comp (m : Bool) (own : List Nat) (tg : List Nat) (one : Bool) (it : I) (cond : Oe) (elt : E)
inductive Es where
  | nil | cons (e : E) (r : Es)
inductive Oe where
  | no | yes (e : E) | dfl
inductive I where
  | seq (e : E)
  | range1 (a : E) | range2 (a b : E)
  | enum (e : E)
  | zip (a b : E) | zip3 (a b c : E)
end
mutual
inductive S where
  | set (i : Nat) (e : E)
  | sets (is : List Nat) (es : Es)
  | unp (is : List Nat) (e : E)
  | aug (i : Nat) (sub : Bool) (e : E)
  | augl (i : Nat) (e : E)
  | seti (a i e : E)
  | expr (e : E)
  | ret (e : E)
  | pass
  | ifs (c : E) (a b : Ss)
  | forP (tg : List Nat) (one : Bool) (e : E) (b : Ss)
  | for_ (tg : List Nat) (one : Bool) (it : I) (b : Ss)
  | while_ (c : E) (b : Ss)
  | raise (c : Nat)
  | rtm (e : E)
  | never
inductive Ss where
  | nil | cons (s : S) (r : Ss)
end

/-! ### operations on values -/
def big : Nat := 1000000
def pow64 : Nat := 18446744073709551616
def opB : BOp → PV → PV → Option PV
  | .add, .int i, .int j => some (.int (i + j))
  | .sub, .int i, .int j => some (.int (i - j))
  | .mul, .int i, .int j => if i.natAbs < pow64 then some (.int (i * j)) else none
  | .fdiv, .int i, .int j => if 0 < j ∧ j < 1073741824 then some (.int (i / j)) else none
  | .mod, .int i, .int j => if 0 < j then some (.int (i % j)) else none
  | .pow, .int i, .int j => if 0 ≤ j ∧ j ≤ 100 ∧ i.natAbs < pow64 then some (.int (i ^ j.toNat)) else none
  | .add, .tup xs, .tup ys => if xs.length + ys.length ≤ big then some (.tup (xs ++ ys)) else none
  | .add, .lst xs, .lst ys => if xs.length + ys.length ≤ big then some (.lst (xs ++ ys)) else none
  | .add, .bl b, .int j => some (.int ((if b = true then 1 else 0) + j))
  | .sub, .bl b, .int j => some (.int ((if b = true then 1 else 0) - j))
  | .mul, .tup xs, .int j => if 1 ≤ xs.length ∧ xs.length ≤ 1000 ∧ 2 ≤ j ∧ j ≤ 1000 then some (.tup (List.replicate j.toNat xs).flatten) else none
  | _, _, _ => none
/-- may stand at the left or right of in -/
def flat : PV → Bool
  | .non => true | .bl _ => true | .int _ => true | .str _ => true
  | _ => false
def seqOf : PV → Option (List PV)
  | .tup xs => some xs
  | .lst xs => some xs
  | _ => none
def inS (x : PV) (ys : List PV) : Option Bool := if flat x && ys.all flat then some (ys.any fun y => veq y x) else none
def isnon : PV → Bool
  | .non => true
  | _ => false
def opC : COp → PV → PV → Option Bool
  | .lt, .int i, .int j => some (decide (i < j))
  | .le, .int i, .int j => some (decide (i ≤ j))
  | .gt, .int i, .int j => some (decide (j < i))
  | .ge, .int i, .int j => some (decide (j ≤ i))
  | .eq, x, y => if dat 8 x && dat 8 y then some (veq x y) else none
  | .ne, x, y => if dat 8 x && dat 8 y then some (!veq x y) else none
  | .isn, x, .non => some (isnon x)
  | .notn, x, .non => some (!isnon x)
  | .isin, x, y => (seqOf y).bind fun ys => inS x ys
  | .notin, x, y => (seqOf y).bind fun ys => (inS x ys).map (!·)
  | _, _, _ => none
/-- the place that an index of any sign means -/
def place (n : Nat) (i : Int) : Option Nat := if 0 ≤ i then (if i < n then some i.toNat else none) else if -(n : Int) ≤ i then some (i + n).toNat else none
def getN (xs : List PV) (i : Int) : Option PV := (place xs.length i).bind fun j => xs[j]?
/-- a slice's place -/
def clipN (n d : Nat) : Option Int → Nat
  | none => d
  | some i => if i < 0 then (i + n).toNat else min i.toNat n
def cutN (xs : List PV) (lo hi : Option Int) : List PV := (xs.drop (clipN xs.length 0 lo)).take (clipN xs.length xs.length hi - clipN xs.length 0 lo)
def slV (x : PV) (lo hi : Option Int) : Option PV := match x with
  | .tup xs => some (.tup (cutN xs lo hi))
  | .lst xs => some (.lst (cutN xs lo hi))
  | _ => none
def intsOf : List PV → Option (List Int)
  | [] => some []
  | .int i :: r => (intsOf r).map (i :: ·)
  | _ => none
def boolsOf : List PV → Option (List Bool)
  | [] => some []
  | .bl b :: r => (boolsOf r).map (b :: ·)
  | _ => none
def maxL (m : Int) (r : List Int) : Int := r.foldl max m
def minL (m : Int) (r : List Int) : Int := r.foldl min m
def insI (x : Int) : List Int → List Int
  | [] => [x]
  | y :: r => if x ≤ y then x :: y :: r else y :: insI x r
def sortI : List Int → List Int
  | [] => []
  | x :: r => insI x (sortI r)
/-- a plain list or tuple, or the list at a place -/
def items (s : Store) : PV → Option (List PV)
  | .tup xs => some xs
  | .lst xs => some xs
  | .loc l => match s[l]? with
    | some (.lst xs) => some xs
    | none => none
  | _ => none
def oLen (s : Store) : List PV → Option PV
  | [x] => (items s x).map fun xs => .int xs.length
  | _ => none
def oInt : List PV → Option PV
  | [.int i] => some (.int i)
  | [.bl b] => some (.int (if b then 1 else 0))
  | _ => none
def oSum : List PV → Option PV
  | [.lst xs] => (intsOf xs).map fun ns => .int ns.sum
  | [.tup xs] => (intsOf xs).map fun ns => .int ns.sum
  | _ => none
def leastI : List Int → Option PV
  | [] => none
  | m :: r => some (.int (minL m r))
def greatI : List Int → Option PV
  | [] => none
  | m :: r => some (.int (maxL m r))
def oMin1 : List PV → Option PV
  | [.lst xs] => (intsOf xs).bind leastI
  | _ => none
def oMax1 : List PV → Option PV
  | [.lst xs] => (intsOf xs).bind greatI
  | [.tup xs] => (intsOf xs).bind greatI
  | _ => none
def oMin2 : List PV → Option PV
  | [.int i, .int j] => some (.int (if j < i then j else i))
  | _ => none
def oMax2 : List PV → Option PV
  | [.int i, .int j] => some (.int (if j > i then j else i))
  | _ => none
def oTuple (s : Store) : List PV → Option PV
  | [x] => (items s x).map .tup
  | _ => none
def oList : List PV → Option PV
  | [x] => (seqOf x).map .lst
  | _ => none
def oAll : List PV → Option PV
  | [.lst xs] => (boolsOf xs).map fun bs => .bl (bs.all id)
  | _ => none
def sort64 (ns : List Int) : Option PV := if ns.length < 64 then some (.lst ((sortI ns).map PV.int)) else none
/-- the int of a pair of an int and a text -/
def fstI : PV → Option Int
  | .tup [.int i, .str _] => some i
  | _ => none
def fstsI : List PV → Option (List Int)
  | [] => some []
  | x :: r => match fstI x, fstsI r with
    | some i, some is => some (i :: is)
    | _, _ => none
def sortT (xs : List PV) (is : List Int) : List PV := (sortI is).map fun i => ((is.zip xs).lookup i).getD .non
def oSorted : List PV → Option PV
  | [.lst xs] => match intsOf xs with
    | some ns => sort64 ns
    | none => match fstsI xs with
      | some is => if is.Nodup then some (.lst (sortT xs is)) else none
      | none => none
  | _ => none
inductive Ty where | int | bool | str | tuple | list | none | other
  deriving DecidableEq
def tyOf : PV → Ty
  | .int _ => .int | .bl _ => .bool | .str _ => .str | .tup _ => .tuple | .lst _ => .list | .loc _ => .list | .non => .none | _ => .other
def isT (t : Ty) : Ty → Bool
  | .int => decide (t = .int) || decide (t = .bool)
  | u => decide (t = u)
def oIs (u : Ty) : List PV → Option PV
  | [x] => if tyOf x = .other then none else some (.bl (isT (tyOf x) u))
  | _ => none
def opI (s : Store) (b : BI) (vs : List PV) : Option PV := match b with
  | .len => oLen s vs
  | .int1 => oInt vs
  | .sum => oSum vs
  | .min1 => oMin1 vs
  | .max1 => oMax1 vs
  | .min2 => oMin2 vs
  | .max2 => oMax2 vs
  | .tuple => oTuple s vs
  | .list => oList vs
  | .all => oAll vs
  | .sorted => oSorted vs
  | .isint => oIs .int vs
  | .isbool => oIs .bool vs
  | .isstr => oIs .str vs
  | .istuple => oIs .tuple vs
  | .islist => oIs .list vs

/-- behind a call: the new places are dropped; a new list that came back becomes a plain one (k = true) or the one new place -/
def fin (k : Bool) (n : Nat) (v : PV) (s : Store) : Res PV := match v with
  | .loc l => if l < n then .ok (.loc l) (s.take n) else match s[l]? with
    | some (.lst xs) => if k then .ok (.lst xs) (s.take n) else .ok (.loc n) (s.take n ++ [.lst xs])
    | none => .bad
  | v => if below n v then .ok v (s.take n) else .bad

abbrev Calls := Nat → List PV → Store → Res PV

def wipeN (r : Env) : List Nat → Env
  | [] => r
  | v :: vs => (wipeN r vs).set v none
def setAllE : List Nat → List PV → Env → Option Env
  | [], [], r => some r
  | i :: is, x :: xs, r => setAllE is xs (r.set i (some x))
  | _, _, _ => none
/-- one item to the targets: one name, or names in order -/
def bindT (tg : List Nat) (one : Bool) (v : PV) (r : Env) : Option Env := if one then setAllE tg [v] r else match v with
  | .tup xs => setAllE tg xs r
  | _ => none
def rangeL (lo : Int) : Nat → List PV
  | 0 => []
  | n + 1 => .int lo :: rangeL (lo + 1) n
def enumL (i : Nat) : List PV → List PV
  | [] => []
  | x :: r => .tup [.int i, x] :: enumL (i + 1) r
def zipL : List PV → List PV → List PV
  | x :: xs, y :: ys => .tup [x, y] :: zipL xs ys
  | _, _ => []
def zipL3 : List PV → List PV → List PV → List PV
  | x :: xs, y :: ys, z :: zs => .tup [x, y, z] :: zipL3 xs ys zs
  | _, _, _ => []
def small62 (i : Int) : Bool := decide (-4611686018427387904 ≤ i) && decide (i < 4611686018427387904)
/-- a comprehension's loop: items, what is made so far -/
def compL (bind : PV → Option Env) (test : Env → Store → Res Bool) (elt : Env → Store → Res PV) : List PV → List PV → Store → Res (List PV)
  | [], acc, s => .ok acc s
  | x :: r, acc, s => match bind x with
    | none => .bad
    | some e => (test e s).bind fun b s => if b then (elt e s).bind fun y s => compL bind test elt r (acc ++ [y]) s else compL bind test elt r acc s
def turns : Nat := 5000
/-- a comprehension over a list at a place, as the list stands at each turn -/
def compP (l : Nat) (bind : PV → Option Env) (test : Env → Store → Res Bool) (elt : Env → Store → Res PV) : Nat → Nat → List PV → Store → Res (List PV)
  | 0, _, _, _ => .bad
  | n + 1, i, acc, s => match s[l]? with
    | some (.lst xs) => match xs[i]? with
      | none => .ok acc s
      | some x => match bind x with
        | none => .bad
        | some e => (test e s).bind fun b s => if b then (elt e s).bind fun y s => compP l bind test elt n (i + 1) (acc ++ [y]) s else compP l bind test elt n (i + 1) acc s
    | none => .bad
def truth (r : Res PV) : Res Bool := r.bind fun v s => match v with
  | .bl b => .ok b s
  | _ => .bad
def setL (s : Store) (l : Nat) (f : List PV → Option (List PV)) : Option Store := match s[l]? with
  | some (.lst xs) => (f xs).map fun ys => s.set l (.lst ys)
  | none => none
def liftS (o : Option Store) : Res PV := match o with
  | some s => .ok .non s
  | none => .bad
/-- a new list -/
def made (m : Bool) (xs : List PV) (s : Store) : Res PV := if m then (if nolocs xs then .ok (.loc s.length) (s ++ [.lst xs]) else .bad) else .ok (.lst xs) s

mutual
/-- no list within -/
def noLst : PV → Bool
  | .clo _ _ => false
  | .lst _ => false
  | .loc _ => false
  | .tup xs => noLsts xs
  | _ => true
def noLsts : List PV → Bool
  | [] => true
  | x :: r => noLst x && noLsts r
end
mutual
/-- the lists at the places from l0 on as plain ones -/
def lendV (s : Store) (l0 : Nat) : PV → PV
  | .loc l => if l0 ≤ l then (match s[l]? with
    | some (.lst xs) => .lst xs
    | none => .loc l) else .loc l
  | .tup xs => .tup (lendVs s l0 xs)
  | .lst xs => .lst (lendVs s l0 xs)
  | v => v
def lendVs (s : Store) (l0 : Nat) : List PV → List PV
  | [] => []
  | x :: r => lendV s l0 x :: lendVs s l0 r
end
def noLstO : Obj → Bool
  | .lst xs => noLsts xs
def belowE (l : Nat) (r : Env) : Bool := r.all fun o => match o with
  | some v => below l v
  | none => true
/-- is (or is not) the list at a place that value -/
def opCl (n : Bool) (s : Store) (x y : PV) : Option Bool := match x with
  | .loc l => match s[l]? with
    | some (.lst xs) => opC (if n then .ne else .eq) (.lst xs) y
    | none => none
  | _ => none
/-- how a raised exception is told -/
def xcTold : List Str := ["Parties+", "Seats+", "Patience+", "Index+", "Place+", "Size+", "Set+", "Seen+", "Unknown+", "Undo+"]
/-- how TooMany with its limit is told -/
def manyS (i : Int) : Str := ("Many+" : Str) ++ (toString i : Str)
def attR (x : Res PV) : Res PV := match x with
  | .ok v s => .ok (.tup [.str "told", v]) s
  | .exc (.exn c []) s => match xcTold[c]? with
    | some w => .ok (.str w) s
    | none => .bad
  | .exc (.exn c [.int i]) s => if c = 10 ∧ 0 ≤ i ∧ i < 1000 then .ok (.str (manyS i)) s else .bad
  | _ => .bad

mutual
def evE (C : Calls) : E → Env → Store → Res PV
  | .var i, r, s => match r[i]? with
    | some (some v) => .ok v s
    | _ => .bad
  | .int i, _, s => .ok (.int i) s
  | .bl b, _, s => .ok (.bl b) s
  | .non, _, s => .ok .non s
  | .str x, _, s => .ok (.str x) s
  | .gint _ i, _, s => .ok (.int i) s
  | .fn f, _, s => .ok (.fn f) s
  | .bin o a b, r, s => (evE C a r s).bind fun x s => (evE C b r s).bind fun y s => lift (opB o x y) s
  | .neg a, r, s => (evE C a r s).bind fun x s => match x with
    | .int i => .ok (.int (-i)) s
    | _ => .bad
  | .cmp o a b, r, s => (evE C a r s).bind fun x s => (evE C b r s).bind fun y s => lift ((opC o x y).map PV.bl) s
  | .bor i a, r, s => match r[i]? with
    | some (some (.loc l)) => match s[l]? with
      | some (.lst xs) => if (decide (l + 1 = s.length) && belowE l (r.set i none)) = true then (noX (evE C a (r.set i (some (.lst xs))) (s.take l))).bind fun v s' => if (noLst v && decide (s'.length = l) && s'.all noLstO) = true then .ok v (s' ++ [.lst xs]) else .bad else .bad
      | none => .bad
    | _ => .bad
  | .lend m a, r, s => if m ≤ s.length then (noX (evE C a (r.map (Option.map (lendV s (s.length - m)))) (s.take (s.length - m)))).bind fun v s' => if (noLst v && decide (s'.length = s.length - m) && s'.all noLstO) = true then .ok v (s' ++ s.drop (s.length - m)) else .bad else .bad
  | .trange a, r, s => (evE C a r s).bind fun v s => match v with
    | .int j => if small62 j && decide (j.toNat ≤ big) then .ok (.tup (rangeL 0 j.toNat)) s else .bad
    | _ => .bad
  | .cmpl n a b, r, s => (evE C a r s).bind fun x s => (evE C b r s).bind fun y s => lift ((opCl n s x y).map PV.bl) s
  | .chain o o' a b c, r, s => (evE C a r s).bind fun x s => (evE C b r s).bind fun y s => match opC o x y with
    | some true => (evE C c r s).bind fun z s => lift ((opC o' y z).map PV.bl) s
    | some false => .ok (.bl false) s
    | none => .bad
  | .and_ a b, r, s => (truth (evE C a r s)).bind fun c s => if c then evE C b r s else .ok (.bl false) s
  | .or_ a b, r, s => (truth (evE C a r s)).bind fun c s => if c then .ok (.bl true) s else evE C b r s
  | .not_ a, r, s => (truth (evE C a r s)).bind fun c s => .ok (.bl (!c)) s
  | .ite c a b, r, s => (truth (evE C c r s)).bind fun c s => if c then evE C a r s else evE C b r s
  | .tup es, r, s => (evEs C es r s).bind fun vs s => .ok (.tup vs) s
  | .lst es, r, s => (evEs C es r s).bind fun vs s => .ok (.lst vs) s
  | .newl es, r, s => (evEs C es r s).bind fun vs s => made true vs s
  | .ix a b, r, s => (evE C a r s).bind fun x s => (evE C b r s).bind fun y s => match y with
    | .int i => lift ((items s x).bind fun xs => getN xs i) s
    | _ => .bad
  | .slice a lo hi, r, s => (evE C a r s).bind fun x s => (evO C lo r s).bind fun l s => (evO C hi r s).bind fun h s => lift (slV x l h) s
  | .call f es kw, r, s => (evEs C es r s).bind fun vs s => (evK C kw r s).bind fun ks s => C f (vs ++ ks) s
  | .frz a, r, s => (evE C a r s).bind fun v s' => fin true s.length v s'
  | .mutc a, r, s => (evE C a r s).bind fun v s' => fin false s.length v s'
  | .bi b es, r, s => (evEs C es r s).bind fun vs s => lift (opI s b vs) s
  | .append a b, r, s => (evE C a r s).bind fun x s => match x with
    | .loc l => (evE C b r s).bind fun y s => if noloc y then liftS (setL s l fun xs => if xs.length < big then some (xs ++ [y]) else none) else .bad
    | _ => .bad
  | .insert a b c, r, s => (evE C a r s).bind fun x s => match x with
    | .loc l => (evE C b r s).bind fun y s => (evE C c r s).bind fun z s => match y with
      | .int i => if noloc z then liftS (setL s l fun xs => if xs.length < big ∧ 0 ≤ i ∧ i < 1000000 then some (xs.take i.toNat ++ [z] ++ xs.drop i.toNat) else none) else .bad
      | _ => .bad
    | _ => .bad
  | .lrange a, r, s => (evE C a r s).bind fun v s => match v with
    | .int j => if small62 j && decide (j.toNat ≤ big) then .ok (.lst (rangeL 0 j.toNat)) s else .bad
    | _ => .bad
  | .att e, r, s => attR (evE C e r s)
  | .callv fs i es kw, r, s => match r[i]? with
    | some (some (.fn f)) => match fs.lookup f with
      | some b => (evEs C es r s).bind fun vs s => (evK C kw r s).bind fun ks s => C f (vs ++ (ks ++ if b then [.non] else [])) s
      | none => .bad
    | some (some (.clo f [])) => match kw with
      | .no => (evEs C es r s).bind fun vs s => C f vs s
      | _ => .bad
    | _ => .bad
  | .lamv f, _, s => .ok (.clo f []) s
  | .compP own tg one e cond elt, r, s => (evE C e r s).bind fun v s => match v with
    | .loc l => (noX (compP l (fun x => bindT tg one x (wipeN r own)) (fun e s => evT C cond e s) (fun e s => evE C elt e s) turns 0 [] s)).bind fun ys s => .ok (.lst ys) s
    | _ => .bad
  | .comp m own tg one it cond elt, r, s => (evI C it r s).bind fun xs s => if big < xs.length then .bad else
      (noX (compL (fun x => bindT tg one x (wipeN r own)) (fun e s => evT C cond e s) (fun e s => evE C elt e s) xs [] s)).bind fun ys s => made m ys s
def evEs (C : Calls) : Es → Env → Store → Res (List PV)
  | .nil, _, s => .ok [] s
  | .cons e es, r, s => (evE C e r s).bind fun v s => (evEs C es r s).bind fun vs s => .ok (v :: vs) s
/-- an optional part of a slice -/
def evO (C : Calls) : Oe → Env → Store → Res (Option Int)
  | .no, _, s => .ok none s
  | .yes e, r, s => (evE C e r s).bind fun v s => match v with
    | .int i => .ok (some i) s
    | _ => .bad
  | .dfl, _, _ => .bad
/-- the keyword's value, or None -/
def evK (C : Calls) : Oe → Env → Store → Res (List PV)
  | .no, _, s => .ok [] s
  | .yes e, r, s => (evE C e r s).bind fun v s => .ok [v] s
  | .dfl, _, s => .ok [.non] s
/-- an optional test -/
def evT (C : Calls) : Oe → Env → Store → Res Bool
  | .no, _, s => .ok true s
  | .yes e, r, s => truth (evE C e r s)
  | .dfl, _, _ => .bad
def evI (C : Calls) : I → Env → Store → Res (List PV)
  | .seq e, r, s => (evE C e r s).bind fun v s => match seqOf v with
    | some xs => .ok xs s
    | none => .bad
  | .range1 a, r, s => (evE C a r s).bind fun v s => match v with
    | .int j => if small62 j then .ok (rangeL 0 j.toNat) s else .bad
    | _ => .bad
  | .range2 a b, r, s => (evE C a r s).bind fun v s => (evE C b r s).bind fun w s => match v, w with
    | .int i, .int j => if small62 i && small62 j then .ok (rangeL i (j - i).toNat) s else .bad
    | _, _ => .bad
  | .enum e, r, s => (evE C e r s).bind fun v s => match seqOf v with
    | some xs => .ok (enumL 0 xs) s
    | none => .bad
  | .zip a b, r, s => (evE C a r s).bind fun v s => (evE C b r s).bind fun w s => match seqOf v, seqOf w with
    | some xs, some ys => .ok (zipL xs ys) s
    | _, _ => .bad
  | .zip3 a b c, r, s => (evE C a r s).bind fun v s => (evE C b r s).bind fun w s => (evE C c r s).bind fun z s => match seqOf v, seqOf w, seqOf z with
    | some xs, some ys, some zs => .ok (zipL3 xs ys zs) s
    | _, _, _ => .bad
end

inductive Flow where
  | nx (r : Env) | rt (v : PV)
def goOn (o : Option Env) (s : Store) : Res Flow := match o with
  | some r => .ok (.nx r) s
  | none => .bad
def thenS (r : Res Flow) (f : Env → Store → Res Flow) : Res Flow := r.bind fun x s => match x with
  | .nx r => f r s
  | .rt v => .ok (.rt v) s
@[simp] theorem thenS_nx (r : Env) (s : Store) (f : Env → Store → Res Flow) : thenS (.ok (.nx r) s) f = f r s := rfl
@[simp] theorem thenS_rt (v : PV) (s : Store) (f : Env → Store → Res Flow) : thenS (.ok (.rt v) s) f = .ok (.rt v) s := rfl
@[simp] theorem thenS_exc (v : PV) (s : Store) (f : Env → Store → Res Flow) : thenS (.exc v s) f = .exc v s := rfl
@[simp] theorem thenS_bad (f : Env → Store → Res Flow) : thenS .bad f = .bad := rfl
def forL (bind : PV → Env → Option Env) (body : Env → Store → Res Flow) : List PV → Env → Store → Res Flow
  | [], r, s => .ok (.nx r) s
  | x :: xs, r, s => match bind x r with
    | none => .bad
    | some r => thenS (body r s) fun r s => forL bind body xs r s
/-- a walk over the list at a place, as it stands at each turn -/
def forPL (l : Nat) (bind : PV → Env → Option Env) (body : Env → Store → Res Flow) : Nat → Nat → Env → Store → Res Flow
  | 0, _, _, _ => .bad
  | n + 1, i, r, s => match s[l]? with
    | some (.lst xs) => match xs[i]? with
      | none => .ok (.nx r) s
      | some x => match bind x r with
        | none => .bad
        | some r => thenS (body r s) fun r s => forPL l bind body n (i + 1) r s
    | none => .bad
def whileL (test : Env → Store → Res Bool) (body : Env → Store → Res Flow) : Nat → Env → Store → Res Flow
  | 0, _, _ => .bad
  | n + 1, r, s => (test r s).bind fun b s => if b then thenS (body r s) fun r s => whileL test body n r s else .ok (.nx r) s
mutual
def exS (C : Calls) : S → Env → Store → Res Flow
  | .set i e, r, s => (evE C e r s).bind fun v s => .ok (.nx (r.set i (some v))) s
  | .sets is es, r, s => (evEs C es r s).bind fun vs s => goOn (setAllE is vs r) s
  | .unp is e, r, s => (evE C e r s).bind fun v s => match v with
    | .tup xs => goOn (setAllE is xs r) s
    | _ => .bad
  | .aug i sub e, r, s => match r[i]? with
    | some (some (.int x)) => (evE C e r s).bind fun v s => match v with
      | .int y => .ok (.nx (r.set i (some (.int (if sub then x - y else x + y))))) s
      | _ => .bad
    | _ => .bad
  | .augl i e, r, s => match r[i]? with
    | some (some (.loc l)) => (evE C e r s).bind fun v s => match v with
      | .lst ys => if nolocs ys then (match setL s l fun xs => if xs.length + ys.length ≤ big then some (xs ++ ys) else none with
        | some s => .ok (.nx r) s
        | none => .bad) else .bad
      | _ => .bad
    | _ => .bad
  | .seti a i e, r, s => (evE C e r s).bind fun v s => (evE C a r s).bind fun x s => (evE C i r s).bind fun y s => match x, y with
    | .loc l, .int k => if noloc v then (match setL s l fun xs => (place xs.length k).map fun j => xs.set j v with
      | some s => .ok (.nx r) s
      | none => .bad) else .bad
    | _, _ => .bad
  | .expr e, r, s => (evE C e r s).bind fun _ s => .ok (.nx r) s
  | .ret e, r, s => (evE C e r s).bind fun v s => .ok (.rt v) s
  | .pass, r, s => .ok (.nx r) s
  | .ifs c a b, r, s => (truth (evE C c r s)).bind fun c s => if c then exSs C a r s else exSs C b r s
  | .forP tg one e b, r, s => (evE C e r s).bind fun v s => match v with
    | .loc l => forPL l (fun x r => bindT tg one x r) (fun r s => exSs C b r s) turns 0 r s
    | _ => .bad
  | .for_ tg one it b, r, s => (evI C it r s).bind fun xs s => forL (fun x r => bindT tg one x r) (fun r s => exSs C b r s) xs r s
  | .while_ c b, r, s => whileL (fun r s => truth (evE C c r s)) (fun r s => exSs C b r s) turns r s
  | .raise c, _, s => .exc (.exn c []) s
  | .rtm e, r, s => (evE C e r s).bind fun v s => match v with
    | .int i => .exc (.exn 10 [.int i]) s
    | _ => .bad
  | .never, _, _ => .bad
def exSs (C : Calls) : Ss → Env → Store → Res Flow
  | .nil, r, s => .ok (.nx r) s
  | .cons a b, r, s => thenS (exS C a r s) fun r s => exSs C b r s
end

/-- a def: how many parameters, how many names, the body -/
structure Def where
  np : Nat
  nn : Nat
  body : Ss
def runD (C : Calls) (d : Def) (vs : List PV) (s : Store) : Res PV :=
  if vs.length = d.np then (exSs C d.body (vs.map some ++ List.replicate (d.nn - d.np) none) s).bind fun f s => match f with
    | .nx _ => .ok .non s
    | .rt v => .ok v s
  else .bad
/-- calls at most k deep -/
def evF (T : Nat → Option Def) : Nat → Calls
  | 0 => fun _ _ _ => .bad
  | k + 1 => fun f vs s => match T f with
    | some d => runD (evF T k) d vs s
    | none => .bad
end ML

set_option Elab.async false
set_option maxRecDepth 100000
set_option linter.all false
set_option maxHeartbeats 2000000
/-! ML: words for lambdas, for the exceptions' classes and their names. -/
namespace ML
open PySem PySem.Spec PyProof.Rows L2 HotX LamX
def xcNames : List Str := ["InvalidParties", "InvalidSeats", "InvalidPatience", "InvalidIndex", "InvalidPlace", "InvalidSize", "InvalidSet", "InvalidSeen", "UnknownParty", "NothingToUndo", "TooMany"]
def xcWords : List Str := ["Parties", "Seats", "Patience", "Index", "Place", "Size", "Set", "Seen", "Unknown", "Undo", "Many"]
def vTail : List Value := [.type "ValueError", .type "Exception", .type "BaseException", .type "object"]
def xcAllN : List Str := xcNames ++ [("ValueError" : Str)]
def xcAllW : List Str := xcWords ++ [("+" : Str)]
def isOne (i j : Nat) : Bool := decide (j = 11) || decide (i = j)
/-- the word that names the i-th class -/
def xcWs (i : Nat) : List Str := (xcAllW.zipIdx.filter fun p => isOne i p.2).map (·.1)
def xcWord (i : Nat) : Str := Txt.join "" (xcWs i)
/-- what the making of a lambda leaves: all but the tables stays, nothing goes -/
def ExtT (H H' : Hp) : Prop := ExtN H H' ∧ ∀ b, H' b = none → H b = none
/-- the context of the lambda's body -/
def lamN (X : Cx) (A : Around) (outer : List PySem.Env) (s : Shared) (H : Hp) (E : XK) (scope : Scope) (f c' : Addr) : Cx :=
  { lamCx X A outer s H E scope f c' with xe := fun e s' => wpAny (model X.prog X.w) (A.deeper (lamEnv X scope s.heap.objs.size f c')) (leaving (lamEnv X scope s.heap.objs.size f c') e) (fun _ s'' => L2N.CX X.prog X.w outer H s E e s'') (fun e' s'' => L2N.CX X.prog X.w outer H s E e' s'') s' }
def tLamN (T : List (Addr × Str)) (TT : (XK → Hp → VK → Prop) → Hp → VK → Prop) (t : XK → TE) : TE := fun σ H Q => Tabs T H ∧ ∀ H1, ExtT H H1 → Tabs T H1 → TT (fun E H' Q' => t E σ H' Q') H1 Q
/-- told: the value, or the name of what was raised -/
def TTry (cs : List Addr) : (XK → Hp → VK → Prop) → Hp → VK → Prop := fun tl H Q =>
  tl (fun cls d H' => (d = none ∧ ∃ i C, cs[i]? = some C ∧ i < 10 ∧ cls = .ref C ∧ ∀ H'', (∀ b o, H' b = some o → H'' b = some o) → Q (.str (xcWord i)) H'') ∨
    ∃ dx C n, d = some dx ∧ cs[10]? = some C ∧ cls = .ref C ∧ H' dx = some (.xd [("limit", .int n)]) ∧ 0 ≤ n ∧ n < 1000 ∧ ∀ H'', (∀ b o, H' b = some o → H'' b = some o) → Q (.str (manyS n)) H'') H (fun v H' => [V.str "told", v].length ≤ sizeLine ∧ ∀ p, H' p = none → Q (.ref p) (upd H' p (.tup [.str "told", v])))
theorem many_word : xcWord 10 = ("Many+" : Str) := by decide +kernel
theorem many_len (n : Int) (h : 0 ≤ n ∧ n < 1000) : (("Many+" : Str)).length + (toString n : Str).length ≤ sizeLine := by
  have : ∀ m : Fin 1000, (("Many+" : Str)).length + (toString ((m.val : Nat) : Int) : Str).length ≤ 100 := by decide +kernel
  obtain ⟨m, rfl⟩ : ∃ m : Nat, n = (m : Int) := ⟨n.toNat, by omega⟩
  have q := this ⟨m, by omega⟩
  rw [sizeLine_eq]
  have q : (("Many+" : Str)).length + (toString ((m : Nat) : Int) : Str).length ≤ 100 := q
  omega
theorem told_word : ∀ (c : Nat) (w : Str), xcTold[c]? = some w → c < 10 ∧ w = xcWord c := fun c w h => by
  have hc : c < 10 := by
    have := (List.getElem?_eq_some_iff.mp h).1
    exact this
  refine ⟨hc, ?_⟩
  have : ∀ c : Fin 10, xcTold[c.val]? = some (xcWord c.val) := by decide +kernel
  have e := this ⟨c, hc⟩
  rw [h] at e
  exact Option.some.inj e
end ML

set_option Elab.async false
set_option maxRecDepth 10000
set_option linter.all false
/-! ML: how its values lie in the abstract heap; the readings; their laws. -/
namespace ML
open PySem PySem.Spec PyProof.Rows L2

/-- the places' addresses; what is hidden: addresses that nothing names yet -/
structure Nm where
  at_ : Nat → Addr
  hid : Addr → Prop
  tab : List (Addr × Str)
instance : CoeFun Nm (fun _ => Nat → Addr) := ⟨Nm.at_⟩
/-- the words of a lambda with one parameter, nothing captured -/
structure LamW where
  x : Str
  p : Pos
  body : Expr
  scope : Scope
abbrev LamW.params (W : LamW) : Arguments := ⟨[], [⟨W.x, none, W.p⟩], none, [], [], none, []⟩
abbrev lamQ : Str := "law.<locals>.<lambda>"
/-- the object at a is that lambda -/
def LamO (a : Addr) (W : LamW) (c' : Addr) : HO := .ext fun h => ∃ (od : Option Addr) (sl : Array (Option Value)) (pm ctv : Value), h.get? a = some (⟨.type "function", od, .func (PySem.W.kla_fn "<lambda>" lamQ W.params W.body W.scope [] pm (.ref c') ctv), sl⟩ : PySem.Obj)
theorem lamO_tbl {a c' : Addr} {W : LamW} (ps : Array Value) : LamO a W c' ≠ .tbl ps := fun z => by
  unfold LamO at z
  cases z
theorem lamO_lst {a c' : Addr} {W : LamW} (vs : List V) : LamO a W c' ≠ .lst vs := fun z => by
  unfold LamO at z
  cases z
theorem codeO_lst {c : Addr} {q : Str} (vs : List V) : LamX.CodeO c q ≠ .lst vs := fun z => by
  unfold LamX.CodeO at z
  cases z
/-- what is the same throughout: the defs' addresses, the tables of code objects, the exceptions' classes, the lambdas' words -/
structure Gv where
  fn : Nat → Option Addr
  tab : List (Addr × Str)
  cs : List Addr
  lm : Nat → LamW → Bool
instance : CoeFun Gv (fun _ => Nat → Option Addr) := ⟨Gv.fn⟩
/-- no place of the store, not hidden -/
def Ap (L : Nm) (n : Nat) (a : Addr) : Prop := (∀ l, l < n → L l ≠ a) ∧ ¬ L.hid a

section
variable (FA : Gv) (L : Nm) (n : Nat) (H : Hp)
mutual
inductive Rep : PV → V → Prop where
  | non : Rep .non .non
  | bl (b : Bool) : Rep (.bl b) (.bl b)
  | int (i : Int) : Rep (.int i) (.int i)
  | str (x : Str) : Rep (.str x) (.str x)
  | tup {a : Addr} {xs : List PV} {vs : List V} : H a = some (.tup vs) → Reps xs vs → Rep (.tup xs) (.ref a)
  | lst {a : Addr} {xs : List PV} {vs : List V} : Rd H a (.lst vs) → Ap L n a → Reps xs vs → Rep (.lst xs) (.ref a)
  | loc {l : Nat} : l < n → Rep (.loc l) (.ref (L l))
  | fn {f : Nat} {a : Addr} : FA f = some a → Rep (.fn f) (.ref a)
  | clo {f : Nat} {a c' : Addr} {W : LamW} : FA.lm f W = true → H a = some (LamO a W c') → H c' = some (LamX.CodeO c' lamQ) → (∀ l, l < n → L l ≠ a) → (∀ l, l < n → L l ≠ c') → Rep (.clo f []) (.ref a)
inductive Reps : List PV → List V → Prop where
  | nil : Reps [] []
  | cons {p : PV} {v : V} {ps : List PV} {vs : List V} : Rep p v → Reps ps vs → Reps (p :: ps) (v :: vs)
end
end

/-- from one heap and naming of places to a later one -/
structure Step (L : Nm) (n : Nat) (H : Hp) (L' : Nm) (n' : Nat) (H' : Hp) : Prop where
  le : n ≤ n'
  same : ∀ l, l < n → L' l = L l
  new : ∀ l, n ≤ l → l < n' → H (L' l) = none
  keep : ∀ a o, H a = some o → (∀ l, l < n → L l ≠ a) → (∀ ps, o ≠ .tbl ps) → H' a = some o
  tups : ∀ a vs, H a = some (.tup vs) → H' a = some (.tup vs)
  there : ∀ a, H' a = none → H a = none
  hid : ∀ a o, H a = some o → L'.hid a → L.hid a
  hidk : ∀ a, L.hid a → L'.hid a
  tab : L'.tab = L.tab
  tabs : LamX.Tabs L.tab H → LamX.Tabs L.tab H'

section
variable {FA : Gv} {L L' L'' : Nm} {n n' n'' : Nat} {H H' H'' : Hp}
theorem Step.refl : Step L n H L n H :=
  ⟨Nat.le_refl _, fun _ _ => rfl, fun _ h1 h2 => absurd h2 (Nat.not_lt.mpr h1), fun _ _ h _ _ => h, fun _ _ h => h, fun _ h => h, fun _ _ _ h => h, fun _ h => h, rfl, fun h => h⟩
theorem Step.trans (a : Step L n H L' n' H') (b : Step L' n' H' L'' n'' H'') : Step L n H L'' n'' H'' where
  le := Nat.le_trans a.le b.le
  same := fun l h => (b.same l (Nat.lt_of_lt_of_le h a.le)).trans (a.same l h)
  new := fun l h1 h2 => by
    by_cases h : l < n'
    · rw [b.same l h]; exact a.new l h1 h
    · exact a.there _ (b.new l (Nat.not_lt.mp h) h2)
  keep := fun x o e ap nt => b.keep x o (a.keep x o e ap nt) (fun l hl z => by
    by_cases h : l < n
    · exact ap l h (by rw [← a.same l h]; exact z)
    · have q := a.new l (Nat.not_lt.mp h) hl
      rw [z, e] at q; cases q) nt
  tups := fun x vs e => b.tups x vs (a.tups x vs e)
  there := fun x e => a.there x (b.there x e)
  hid := fun x o e h => a.hid x o e (by
    cases q : H' x with
    | none => rw [a.there x q] at e; cases e
    | some u => exact b.hid x u q h)
  hidk := fun x h => b.hidk x (a.hidk x h)
  tab := b.tab.trans a.tab
  tabs := fun h => by
    have := b.tabs (by rw [a.tab]; exact a.tabs h)
    rw [a.tab] at this
    exact this
/-- a new object at a free place -/
theorem Step.alloc {p : Addr} {o : HO} (h : H p = none) : Step L n H L n (upd H p o) :=
  ⟨Nat.le_refl _, fun _ _ => rfl, fun _ h1 h2 => absurd h2 (Nat.not_lt.mpr h1), fun a u e _ _ => by rw [upd_ne (ne_of_none e h)]; exact e,
    fun a vs e => by rw [upd_ne (ne_of_none e h)]; exact e, fun a e => by
      by_cases q : a = p
      · rw [q]; exact h
      · rw [upd_ne q] at e; exact e, fun _ _ _ h => h, fun _ h => h, rfl, fun z => z.ext fun b o e => by rw [upd_ne (ne_of_none e h)]; exact e⟩
theorem Step.cut {m : Nat} (a : Step L n H L' n' H') (h1 : n ≤ m) (h2 : m ≤ n') : Step L n H L' m H' :=
  ⟨h1, a.same, fun l h3 h4 => a.new l h3 (Nat.lt_of_lt_of_le h4 h2), a.keep, a.tups, a.there, a.hid, a.hidk, a.tab, a.tabs⟩

theorem Rd.step {a : Addr} {vs : List V} (st : Step L n H L' n' H') (h : Rd H a (.lst vs)) (ap : Ap L n a) : Rd H' a (.lst vs) ∧ Ap L' n' a := by
  have so : ∃ o, H a = some o := by
    rcases h with h | ⟨o, h⟩
    · exact ⟨_, h⟩
    · exact ⟨_, h⟩
  refine ⟨?_, fun l hl z => ?_, fun z => ?_⟩
  · rcases h with h | ⟨o, h⟩
    · exact .inl (st.keep _ _ h ap.1 (fun _ z => nomatch z))
    · exact .inr ⟨o, st.keep _ _ h ap.1 (fun _ z => nomatch z)⟩
  · by_cases q : l < n
    · exact ap.1 l q (by rw [← st.same l q]; exact z)
    · have e := st.new l (Nat.not_lt.mp q) hl
      obtain ⟨o, eo⟩ := so
      rw [z, eo] at e; cases e
  · obtain ⟨o, eo⟩ := so
    exact ap.2 (st.hid a o eo z)
theorem n1_up {a : Addr} {o : HO} (st : Step L n H L' n' H') (e : H a = some o) (h : ∀ l, l < n → L l ≠ a) : ∀ l, l < n' → L' l ≠ a := fun l hl z => by
  by_cases q : l < n
  · exact h l q (by rw [← st.same l q]; exact z)
  · have e2 := st.new l (Nat.not_lt.mp q) hl
    rw [z, e] at e2; cases e2
mutual
theorem Rep.step (st : Step L n H L' n' H') : ∀ (p : PV) (v : V), Rep FA L n H p v → Rep FA L' n' H' p v
  | .non, _, h => by cases h; exact .non
  | .bl _, _, h => by cases h; exact .bl _
  | .int _, _, h => by cases h; exact .int _
  | .str _, _, h => by cases h; exact .str _
  | .tup xs, _, h => by
    cases h with
    | tup e r => exact .tup (st.tups _ _ e) (Reps.step st xs _ r)
  | .lst xs, _, h => by
    cases h with
    | lst e ap r =>
      obtain ⟨e', ap'⟩ := Rd.step st e ap
      exact .lst e' ap' (Reps.step st xs _ r)
  | .loc l, _, h => by
    cases h with
    | loc hl =>
      have e := st.same l hl
      have q : Rep FA L' n' H' (.loc l) (.ref (L' l)) := .loc (Nat.lt_of_lt_of_le hl st.le)
      rw [e] at q
      exact q
  | .fn f, _, h => by
    cases h with
    | fn e => exact .fn e
  | .clo _ _, _, h => by
    cases h with
    | clo hm ha hc n1 n2 => exact .clo hm (st.keep _ _ ha n1 lamO_tbl) (st.keep _ _ hc n2 LamX.codeO_ne) (fun l hl z => n1_up st ha n1 l hl z) fun l hl z => n1_up st hc n2 l hl z
  | .exn _ _, _, h => by cases h
theorem Reps.step (st : Step L n H L' n' H') : ∀ (ps : List PV) (vs : List V), Reps FA L n H ps vs → Reps FA L' n' H' ps vs
  | [], _, h => by cases h; exact .nil
  | p :: ps, _, h => by
    cases h with
    | cons h1 h2 => exact .cons (Rep.step st p _ h1) (Reps.step st ps _ h2)
end
theorem Rep.up (st : Step L n H L' n' H') {p : PV} {v : V} (h : Rep FA L n H p v) : Rep FA L' n' H' p v := Rep.step st p v h
theorem Reps.up (st : Step L n H L' n' H') {p : List PV} {v : List V} (h : Reps FA L n H p v) : Reps FA L' n' H' p v := Reps.step st p v h
mutual
theorem Rep.cutn {m : Nat} (hm : m ≤ n) : ∀ (p : PV) (v : V), Rep FA L n H p v → below m p = true → Rep FA L m H p v
  | .non, _, h, _ => by cases h; exact .non
  | .bl _, _, h, _ => by cases h; exact .bl _
  | .int _, _, h, _ => by cases h; exact .int _
  | .str _, _, h, _ => by cases h; exact .str _
  | .tup xs, _, h, b => by
    cases h with
    | tup e r => exact .tup e (Reps.cutn hm xs _ r (by simpa [below] using b))
  | .lst xs, _, h, b => by
    cases h with
    | lst e ap r => exact .lst e ⟨fun l hl => ap.1 l (Nat.lt_of_lt_of_le hl hm), ap.2⟩ (Reps.cutn hm xs _ r (by simpa [below] using b))
  | .loc l, _, h, b => by
    cases h with
    | loc hl => exact .loc (by simpa [below] using b)
  | .fn f, _, h, _ => by
    cases h with
    | fn e => exact .fn e
  | .clo _ _, _, h, b => by simp [below] at b
  | .exn _ _, _, h, _ => by cases h
theorem Reps.cutn {m : Nat} (hm : m ≤ n) : ∀ (ps : List PV) (vs : List V), Reps FA L n H ps vs → belows m ps = true → Reps FA L m H ps vs
  | [], _, h, _ => by cases h; exact .nil
  | p :: ps, _, h, b => by
    cases h with
    | cons h1 h2 =>
      have q : below m p = true ∧ belows m ps = true := by simpa [belows] using b
      exact .cons (Rep.cutn hm p _ h1 q.1) (Reps.cutn hm ps _ h2 q.2)
end
mutual
theorem below_noloc {m : Nat} : ∀ p : PV, noloc p = true → below m p = true
  | .non, _ => by simp [below]
  | .bl _, _ => by simp [below]
  | .int _, _ => by simp [below]
  | .str _, _ => by simp [below]
  | .tup xs, h => by simp only [below]; exact belows_nolocs xs (by simpa [noloc] using h)
  | .lst xs, h => by simp only [below]; exact belows_nolocs xs (by simpa [noloc] using h)
  | .loc _, h => by simp [noloc] at h
  | .fn _, _ => by simp [below]
  | .clo _ _, h => by simp [noloc] at h
  | .exn _ _, h => by simp [noloc] at h
theorem belows_nolocs {m : Nat} : ∀ ps : List PV, nolocs ps = true → belows m ps = true
  | [], _ => by simp [belows]
  | p :: ps, h => by
    have q : noloc p = true ∧ nolocs ps = true := by simpa [nolocs] using h
    simp only [belows, below_noloc p q.1, belows_nolocs ps q.2, Bool.and_self]
end

theorem Reps.length : ∀ {ps : List PV} {vs : List V}, Reps FA L n H ps vs → ps.length = vs.length
  | _, _, .nil => rfl
  | _, _, .cons _ r => by rw [List.length_cons, List.length_cons, Reps.length r]
theorem Reps.get : ∀ {ps : List PV} {vs : List V} {i : Nat} {p : PV}, Reps FA L n H ps vs → ps[i]? = some p → ∃ v, vs[i]? = some v ∧ Rep FA L n H p v
  | _, _, _, _, .nil, e => by simp at e
  | _, _, 0, _, .cons h _, e => by
    simp at e
    subst e
    exact ⟨_, rfl, h⟩
  | _, _, i + 1, p, .cons _ r, e => by
    obtain ⟨v, h1, h2⟩ := Reps.get (i := i) r (by simpa using e)
    exact ⟨v, by simpa using h1, h2⟩
theorem Reps.back : ∀ {ps : List PV} {vs : List V} {i : Nat} {v : V}, Reps FA L n H ps vs → vs[i]? = some v → ∃ p, ps[i]? = some p ∧ Rep FA L n H p v
  | _, _, _, _, .nil, e => by simp at e
  | _, _, 0, _, .cons h _, e => by
    simp at e
    subst e
    exact ⟨_, rfl, h⟩
  | _, _, i + 1, p, .cons _ r, e => by
    obtain ⟨v, h1, h2⟩ := Reps.back (i := i) r (by simpa using e)
    exact ⟨v, by simpa using h1, h2⟩
theorem Reps.app : ∀ {ps qs : List PV} {vs ws : List V}, Reps FA L n H ps vs → Reps FA L n H qs ws → Reps FA L n H (ps ++ qs) (vs ++ ws)
  | _, _, _, _, .nil, h => h
  | _, _, _, _, .cons h r, s => .cons h (Reps.app r s)
theorem Reps.take : ∀ {ps : List PV} {vs : List V} (k : Nat), Reps FA L n H ps vs → Reps FA L n H (ps.take k) (vs.take k)
  | _, _, 0, _ => .nil
  | _, _, _ + 1, .nil => .nil
  | _, _, k + 1, .cons h r => .cons h (Reps.take k r)
theorem Reps.drop : ∀ {ps : List PV} {vs : List V} (k : Nat), Reps FA L n H ps vs → Reps FA L n H (ps.drop k) (vs.drop k)
  | _, _, 0, r => r
  | _, _, _ + 1, .nil => .nil
  | _, _, k + 1, .cons _ r => Reps.drop k r
theorem Reps.set {p : PV} {v : V} (h : Rep FA L n H p v) : ∀ {ps : List PV} {vs : List V} (i : Nat), Reps FA L n H ps vs → Reps FA L n H (ps.set i p) (vs.set i v)
  | _, _, _, .nil => .nil
  | _, _, 0, .cons _ r => .cons h r
  | _, _, i + 1, .cons q r => .cons q (Reps.set h i r)
theorem Reps.rep {ps : List PV} {vs : List V} (h : Reps FA L n H ps vs) : ∀ k : Nat, Reps FA L n H (List.replicate k ps).flatten (List.replicate k vs).flatten
  | 0 => .nil
  | k + 1 => by
    rw [List.replicate_succ, List.replicate_succ, List.flatten_cons, List.flatten_cons]
    exact Reps.app h (Reps.rep h k)

/-- the store's lists as they lie -/
structure Sim (FA : Gv) (L : Nm) (H : Hp) (s : Store) : Prop where
  obj : ∀ l xs, s[l]? = some (.lst xs) → ∃ vs, H (L l) = some (.lst vs) ∧ Reps FA L s.length H xs vs ∧ nolocs xs = true
  inj : ∀ l l', l < s.length → l' < s.length → L l = L l' → l = l'
  hid : ∀ a, L.hid a → ∃ o, H a = some o
  vis : ∀ l, l < s.length → ¬ L.hid (L l)
  tab : L.tab = FA.tab
  tabs : LamX.Tabs L.tab H
theorem Sim.at {s : Store} (h : Sim FA L H s) {l : Nat} (hl : l < s.length) : ∃ xs vs, s[l]? = some (.lst xs) ∧ H (L l) = some (.lst vs) ∧ Reps FA L s.length H xs vs ∧ nolocs xs = true := by
  cases e : s[l]'hl with
  | lst xs =>
    have q : s[l]? = some (.lst xs) := by rw [List.getElem?_eq_getElem hl, e]
    obtain ⟨vs, h1, h2⟩ := h.obj l xs q
    exact ⟨xs, vs, q, h1, h2⟩
theorem Sim.nil {L : Nm} (h : ∀ a, ¬ L.hid a) (h1 : L.tab = FA.tab) (h2 : LamX.Tabs L.tab H) : Sim FA L H [] := ⟨fun l xs e => by simp at e, fun l l' h => absurd h (Nat.not_lt_zero _), fun a z => absurd z (h a), fun l h => absurd h (Nat.not_lt_zero _), h1, h2⟩
theorem hid_up {s : Store} (h : Sim FA L H s) {n' : Nat} (st : Step L n H L n' H') : ∀ a, L.hid a → ∃ o, H' a = some o := fun a z => by
  obtain ⟨o, e⟩ := h.hid a z
  cases q : H' a with
  | none => rw [st.there a q] at e; cases e
  | some u => exact ⟨u, rfl⟩
/-- the store untouched -/
theorem Sim.up {s : Store} (h : Sim FA L H s) (st : Step L s.length H L s.length H') (k : ∀ l, l < s.length → H' (L l) = H (L l)) : Sim FA L H' s := by
  refine ⟨fun l xs e => ?_, h.inj, hid_up h st, h.vis, h.tab, st.tabs h.tabs⟩
  obtain ⟨vs, h1, h2, h3⟩ := h.obj l xs e
  have hl : l < s.length := (List.getElem?_eq_some_iff.mp e).1
  exact ⟨vs, (k l hl).trans h1, h2.up st, h3⟩
theorem Sim.alloc {s : Store} {p : Addr} {o : HO} (h : Sim FA L H s) (hp : H p = none) : Sim FA L (upd H p o) s :=
  h.up (Step.alloc hp) fun l hl => by
    obtain ⟨xs, vs, _, e, _⟩ := h.at hl
    rw [upd_ne (ne_of_none e hp)]
theorem Sim.free {s : Store} {p : Addr} (h : Sim FA L H s) (hp : H p = none) : Ap L s.length p := by
  refine ⟨fun l hl z => ?_, fun z => ?_⟩
  · obtain ⟨xs, vs, _, e, _⟩ := h.at hl
    rw [z, hp] at e
    cases e
  · obtain ⟨o, e⟩ := h.hid p z
    rw [hp] at e
    cases e
theorem tabs_wr {T : List (Addr × Str)} {D : Addr} {vs : List V} {o : HO} (z : LamX.Tabs T H) (e : H D = some (.lst vs)) : LamX.Tabs T (upd H D o) := fun q hq => by
  obtain ⟨ps, h1, h2, h3⟩ := z q hq
  have n1 : q.1 ≠ D := fun y => by rw [y, e] at h1; cases h1
  refine ⟨ps, (upd_ne n1).trans h1, h2, fun pos cv hc => ?_⟩
  obtain ⟨c, e1, e2⟩ := h3 pos cv hc
  exact ⟨c, e1, (upd_ne fun y => by
    rw [y, e] at e2
    unfold LamX.CodeO at e2
    cases e2).trans e2⟩
/-- a list of the store written -/
theorem Sim.step_write {s : Store} {l : Nat} {vs ws : List V} (h : Sim FA L H s) (hl : l < s.length) (e : H (L l) = some (.lst vs)) : Step L s.length H L s.length (upd H (L l) (.lst ws)) where
  le := Nat.le_refl _
  same := fun _ _ => rfl
  new := fun _ h1 h2 => absurd h2 (Nat.not_lt.mpr h1)
  keep := fun a o q ap _ => by rw [upd_ne (fun z => ap l hl z.symm)]; exact q
  tups := fun a us q => by
    rw [upd_ne (fun z => by rw [z, e] at q; cases q)]
    exact q
  there := fun a q => by
    by_cases z : a = L l
    · rw [z, upd_same] at q; cases q
    · rw [upd_ne z] at q; exact q
  hid := fun _ _ _ h => h
  hidk := fun _ h => h
  tab := rfl
  tabs := fun z => tabs_wr z e
theorem Sim.write {s : Store} {l : Nat} {vs ws : List V} {ys : List PV} (h : Sim FA L H s) (hl : l < s.length) (e : H (L l) = some (.lst vs)) (r : Reps FA L s.length H ys ws) (hn : nolocs ys = true) :
    Sim FA L (upd H (L l) (.lst ws)) (s.set l (.lst ys)) := by
  have st := h.step_write (ws := ws) hl e
  refine ⟨fun l' xs q => ?_, fun a b ha hb z => h.inj a b (by simpa using ha) (by simpa using hb) z, hid_up h st, fun l hl => h.vis l (by simpa using hl), h.tab, st.tabs h.tabs⟩
  rw [List.length_set]
  by_cases z : l = l'
  · subst z
    rw [List.getElem?_set_self hl] at q
    cases q
    exact ⟨ws, upd_same, r.up st, hn⟩
  · rw [List.getElem?_set_ne z] at q
    obtain ⟨us, h1, h2, h3⟩ := h.obj l' xs q
    have hl' : l' < s.length := (List.getElem?_eq_some_iff.mp q).1
    refine ⟨us, ?_, h2.up st, h3⟩
    rw [upd_ne fun y => z (h.inj l l' hl hl' y.symm)]
    exact h1
/-- the naming with one more place -/
def ext (L : Nm) (n : Nat) (p : Addr) : Nm := ⟨fun l => if l = n then p else L l, L.hid, L.tab⟩
theorem ext_ne {p : Addr} {l : Nat} (h : l ≠ n) : ext L n p l = L l := by
  show (if l = n then p else L l) = L l
  rw [if_neg h]
theorem ext_at {p : Addr} : ext L n p n = p := by
  show (if n = n then p else L n) = p
  rw [if_pos rfl]
theorem Step.grow {p : Addr} {o : HO} (hp : H p = none) : Step L n H (ext L n p) (n + 1) (upd H p o) where
  le := Nat.le_succ _
  same := fun l h => ext_ne (Nat.ne_of_lt h)
  new := fun l h1 h2 => by
    have e : l = n := by omega
    rw [e, ext_at]; exact hp
  keep := fun a u e _ _ => by rw [upd_ne (ne_of_none e hp)]; exact e
  tups := fun a vs e => by rw [upd_ne (ne_of_none e hp)]; exact e
  there := fun a e => by
    by_cases q : a = p
    · rw [q]; exact hp
    · rw [upd_ne q] at e; exact e
  hid := fun _ _ _ h => h
  hidk := fun _ h => h
  tab := rfl
  tabs := fun z => z.ext fun b o e => by rw [upd_ne (ne_of_none e hp)]; exact e
theorem Sim.grow {s : Store} {p : Addr} {ws : List V} {ys : List PV} (h : Sim FA L H s) (hp : H p = none) (r : Reps FA L s.length H ys ws) (hn : nolocs ys = true) :
    Sim FA (ext L s.length p) (upd H p (.lst ws)) (s ++ [.lst ys]) := by
  have st : Step L s.length H (ext L s.length p) (s.length + 1) (upd H p (.lst ws)) := Step.grow hp
  refine ⟨fun l xs q => ?_, fun a b ha hb z => ?_, fun a z => ?_, fun l hl => ?_, h.tab, st.tabs h.tabs⟩
  · rw [List.length_append]
    show ∃ vs, _ ∧ Reps FA _ (s.length + 1) _ xs vs ∧ _
    by_cases hl : l < s.length
    · rw [List.getElem?_append_left hl] at q
      obtain ⟨vs, h1, h2, h3⟩ := h.obj l xs q
      refine ⟨vs, ?_, h2.up st, h3⟩
      rw [ext_ne (Nat.ne_of_lt hl), upd_ne (ne_of_none h1 hp)]
      exact h1
    · have hl2 : l = s.length := by
        have := (List.getElem?_eq_some_iff.mp q).1
        rw [List.length_append] at this
        simp only [List.length_cons, List.length_nil] at this
        omega
      subst hl2
      rw [List.getElem?_append_right (Nat.le_refl _), Nat.sub_self] at q
      cases q
      exact ⟨ws, by rw [ext_at, upd_same], r.up st, hn⟩
  · rw [List.length_append] at ha hb
    simp only [List.length_cons, List.length_nil] at ha hb
    have fr := (h.free hp).1
    by_cases h1 : a = s.length
    · by_cases h2 : b = s.length
      · omega
      · rw [h1, ext_at, ext_ne h2] at z
        exact absurd z.symm (fr b (by omega))
    · by_cases h2 : b = s.length
      · rw [h2, ext_at, ext_ne h1] at z
        exact absurd z (fr a (by omega))
      · rw [ext_ne h1, ext_ne h2] at z
        exact h.inj a b (by omega) (by omega) z
  · obtain ⟨o, e⟩ := h.hid a z
    exact ⟨o, by rw [upd_ne (ne_of_none e hp)]; exact e⟩
  · rw [List.length_append] at hl
    simp only [List.length_cons, List.length_nil] at hl
    by_cases z : l = s.length
    · rw [z, ext_at]
      exact (h.free hp).2
    · rw [ext_ne z]
      exact h.vis l (by omega)

/-- the names' values -/
structure RepE (FA : Gv) (L : Nm) (n : Nat) (H : Hp) (σ : L2.St) (r : Env) : Prop where
  len : σ.length = r.length
  at_ : ∀ (i : Nat) (p : PV), r[i]? = some (some p) → ∃ v, σ[i]? = some (some v) ∧ Rep FA L n H p v
theorem RepE.up {σ : L2.St} {r : Env} (st : Step L n H L' n' H') (h : RepE FA L n H σ r) : RepE FA L' n' H' σ r :=
  ⟨h.len, fun i p e => let ⟨v, h1, h2⟩ := h.at_ i p e; ⟨v, h1, h2.up st⟩⟩
theorem RepE.set {σ : L2.St} {r : Env} {i : Nat} {p : PV} {v : V} (h : RepE FA L n H σ r) (hv : Rep FA L n H p v) : RepE FA L n H (σ.set i (some v)) (r.set i (some p)) := by
  refine ⟨by rw [List.length_set, List.length_set, h.len], fun j q e => ?_⟩
  by_cases z : i = j
  · subst z
    by_cases hi : i < r.length
    · rw [List.getElem?_set_self hi] at e
      cases e
      exact ⟨v, List.getElem?_set_self (by rw [h.len]; exact hi), hv⟩
    · rw [List.getElem?_eq_none (by rw [List.length_set]; omega)] at e; cases e
  · rw [List.getElem?_set_ne z] at e
    rw [List.getElem?_set_ne z]
    exact h.at_ j q e
theorem RepE.clear {σ : L2.St} {r : Env} {i : Nat} (h : RepE FA L n H σ r) : RepE FA L n H (σ.set i none) (r.set i none) := by
  refine ⟨by rw [List.length_set, List.length_set, h.len], fun j q e => ?_⟩
  by_cases z : i = j
  · subst z
    by_cases hi : i < r.length
    · rw [List.getElem?_set_self hi] at e; cases e
    · rw [List.getElem?_eq_none (by rw [List.length_set]; omega)] at e; cases e
  · rw [List.getElem?_set_ne z] at e
    rw [List.getElem?_set_ne z]
    exact h.at_ j q e
theorem RepE.wipe {σ : L2.St} {r : Env} (h : RepE FA L n H σ r) : ∀ vs : List Nat, RepE FA L n H (L2.wipe σ vs) (wipeN r vs)
  | [] => h
  | v :: vs => by
    unfold L2.wipe wipeN
    exact (RepE.wipe h vs).clear
end

/-! ### readings -/
abbrev XW := PV → Store → (Nm) → Hp → Prop
abbrev KW (α : Type) := α → Store → (Nm) → Hp → Prop
section
variable (FA : Gv) (Ex : XW)
def okA {α : Type} (L : Nm) (n : Nat) (H : Hp) (K : KW α) : Res α → Prop
  | .ok a s => ∀ L' H', Step L n H L' s.length H' → Sim FA L' H' s → K a s L' H'
  | .exc e s => ∀ L' H', Step L n H L' s.length H' → Sim FA L' H' s → Ex e s L' H'
  | .bad => False
/-- a value is wanted -/
def kV (Q : VK) : KW PV := fun p s L H => ∀ v, Rep FA L s.length H p v → Q v H
def kB (Q : Bool → Hp → Prop) : KW Bool := fun b _ _ H => Q b H
def kL (Q : List V → Hp → Prop) : KW (List PV) := fun ps s L H => ∀ vs, Reps FA L s.length H ps vs → Q vs H
/-- from the names and the store as they lie -/
def from_ {α : Type} (f : Env → Store → Res α) (K : KW α) (σ : L2.St) (H : Hp) : Prop :=
  ∃ L r s, RepE FA L s.length H σ r ∧ Sim FA L H s ∧ okA FA Ex L s.length H K (f r s)
def tE (C : Calls) (e : E) : TE := fun σ H Q => from_ FA Ex (evE C e) (kV FA Q) σ H
def tT (C : Calls) (e : E) : TT := fun σ H Q => from_ FA Ex (fun r s => truth (evE C e r s)) (kB Q) σ H
def tA (C : Calls) (es : Es) : TA := fun σ H Q => from_ FA Ex (evEs C es) (kL FA Q) σ H
end
section
variable {FA : Gv} {Ex : XW} {L L' : Nm} {n n' : Nat} {H H' : Hp} {α β : Type}
theorem okA.step {K : KW α} {x : Res α} (h : okA FA Ex L n H K x) (st : Step L n H L' n' H') : okA FA Ex L' n' H' K x := by
  cases x with
  | ok a s => exact fun L2 H2 st2 sm => h L2 H2 (st.trans st2) sm
  | exc e s => exact fun L2 H2 st2 sm => h L2 H2 (st.trans st2) sm
  | bad => exact h
theorem okA.mono {K K' : KW α} {x : Res α} (h : okA FA Ex L n H K x) (hk : ∀ a s L' H', Step L n H L' s.length H' → Sim FA L' H' s → K a s L' H' → K' a s L' H') : okA FA Ex L n H K' x := by
  cases x with
  | ok a s => exact fun L2 H2 st2 sm => hk a s L2 H2 st2 sm (h L2 H2 st2 sm)
  | exc e s => exact h
  | bad => exact h
theorem okA.bind {K : KW β} {x : Res α} {f : α → Store → Res β} (h : okA FA Ex L n H K (x.bind f)) : okA FA Ex L n H (fun a s L' H' => okA FA Ex L' s.length H' K (f a s)) x := by
  cases x with
  | ok a s => exact fun L2 H2 st2 _ => h.step st2
  | exc e s => exact h
  | bad => exact h
theorem okA.bind0 {K : KW β} {x : Res α} {f : α → Store → Res β} (h : okA FA Ex L n H K (x.bind f)) : okA FA Ex L n H (fun a s _ _ => okA FA Ex L n H K (f a s)) x := by
  cases x with
  | ok a s => exact fun _ _ _ _ => h
  | exc e s => exact h
  | bad => exact h
theorem okA.at {K : KW α} {a : α} {s : Store} (h : okA FA Ex L s.length H K (.ok a s)) (sm : Sim FA L H s) : K a s L H := h L H Step.refl sm
/-- what is dropped names nothing that stays -/
theorem Sim.cut {s : Store} (h : Sim FA L H s) {m : Nat} (hm : m ≤ s.length) : Sim FA L H (s.take m) := by
  have el : (s.take m).length = m := by rw [List.length_take]; omega
  refine ⟨fun l xs e => ?_, fun a b ha hb z => h.inj a b (by omega) (by omega) z, h.hid, fun l hl => h.vis l (by omega), h.tab, h.tabs⟩
  rw [el]
  have hl : l < m := by
    have := (List.getElem?_eq_some_iff.mp e).1
    omega
  rw [List.getElem?_take_of_lt hl] at e
  obtain ⟨vs, h1, h2, h3⟩ := h.obj l xs e
  exact ⟨vs, h1, Reps.cutn hm xs vs h2 (belows_nolocs xs h3), h3⟩
/-- the part e first, then the rest -/
theorem first_E {C : Calls} {e : E} {K : KW β} {f : PV → Store → Res β} {σ : L2.St} {r : Env} {s : Store} {R : VK} (hE : RepE FA L s.length H σ r) (hS : Sim FA L H s)
    (h : okA FA Ex L s.length H K ((evE C e r s).bind f))
    (go : ∀ p s1 L1 H1 v, RepE FA L1 s1.length H1 σ r → Sim FA L1 H1 s1 → Step L s.length H L1 s1.length H1 → Rep FA L1 s1.length H1 p v → okA FA Ex L1 s1.length H1 K (f p s1) → R v H1) : tE FA Ex C e σ H R :=
  ⟨L, r, s, hE, hS, h.bind.mono fun p s1 L1 H1 st sm q v rv => go p s1 L1 H1 v (hE.up st) sm st rv q⟩
theorem first_T {C : Calls} {e : E} {K : KW β} {f : Bool → Store → Res β} {σ : L2.St} {r : Env} {s : Store} {R : Bool → Hp → Prop} (hE : RepE FA L s.length H σ r) (hS : Sim FA L H s)
    (h : okA FA Ex L s.length H K ((truth (evE C e r s)).bind f))
    (go : ∀ b s1 L1 H1, RepE FA L1 s1.length H1 σ r → Sim FA L1 H1 s1 → Step L s.length H L1 s1.length H1 → okA FA Ex L1 s1.length H1 K (f b s1) → R b H1) : tT FA Ex C e σ H R :=
  ⟨L, r, s, hE, hS, h.bind.mono fun p s1 L1 H1 st sm q => go p s1 L1 H1 (hE.up st) sm st q⟩
theorem first_A {C : Calls} {es : Es} {K : KW β} {f : List PV → Store → Res β} {σ : L2.St} {r : Env} {s : Store} {R : List V → Hp → Prop} (hE : RepE FA L s.length H σ r) (hS : Sim FA L H s)
    (h : okA FA Ex L s.length H K ((evEs C es r s).bind f))
    (go : ∀ p s1 L1 H1 v, RepE FA L1 s1.length H1 σ r → Sim FA L1 H1 s1 → Step L s.length H L1 s1.length H1 → Reps FA L1 s1.length H1 p v → okA FA Ex L1 s1.length H1 K (f p s1) → R v H1) : tA FA Ex C es σ H R :=
  ⟨L, r, s, hE, hS, h.bind.mono fun p s1 L1 H1 st sm q v rv => go p s1 L1 H1 v (hE.up st) sm st rv q⟩
end
section
variable {X : Cx}
theorem pe_imp {e : Expr} {t t' : TE} (h : PE X e t) (i : ∀ σ H Q, t' σ H Q → t σ H Q) : PE X e t' := ⟨fun pins s σ H Q I q => h.run pins s σ H Q I (i σ H Q q)⟩
theorem pt_imp {e : Expr} {t t' : TT} (h : PT X e t) (i : ∀ σ H Q, t' σ H Q → t σ H Q) : PT X e t' := ⟨fun pins s σ H Q I q => h.run pins s σ H Q I (i σ H Q q)⟩
theorem pw_imp {e : Expr} {t t' : TT} (h : PW X e t) (i : ∀ σ H Q, t' σ H Q → t σ H Q) : PW X e t' := ⟨fun w pins s σ H Q I q => h.run w pins s σ H Q I (i σ H Q q)⟩
theorem pa_imp {e : List Expr} {t t' : TA} (h : PA X e t) (i : ∀ σ H Q, t' σ H Q → t σ H Q) : PA X e t' := ⟨fun p pins s σ H Q I q => h.run p pins s σ H Q I (i σ H Q q)⟩
theorem ps_imp {e : Stmt} {t t' : TS} (h : PS X e t) (i : ∀ D σ H, t' D σ H → t D σ H) : PS X e t' := ⟨fun pins s σ H D I q => h.run pins s σ H D I (i D σ H q)⟩
theorem pss_imp {e : List Stmt} {t t' : TS} (h : PSs X e t) (i : ∀ D σ H, t' D σ H → t D σ H) : PSs X e t' := ⟨fun pins s σ H D I q => h.run pins s σ H D I (i D σ H q)⟩
end
end ML

set_option Elab.async false
set_option maxRecDepth 10000
set_option linter.all false
set_option maxHeartbeats 2000000
/-! ML: the operators' rules. -/
namespace ML
open PySem PySem.Spec PyProof.Rows L2
section
variable {FA : Gv} {Ex : XW} {X : Cx}

theorem bigLine {k : Nat} (h : k ≤ big) : k ≤ sizeLine := by
  rw [sizeLine_eq]
  have : big = 1000000 := rfl
  omega
theorem pow64_eq : pow64 = 2 ^ 64 := by decide
theorem natAbs64 {i : Int} (h : i.natAbs < pow64) : -(2 ^ 64) < i ∧ i < 2 ^ 64 := by
  have e : pow64 = 18446744073709551616 := rfl
  have e2 : (2 : Int) ^ 64 = 18446744073709551616 := by decide
  rw [e2]
  omega
/-- xs + ys, lists that may be read -/
theorem op_catL {K : PySem.W.Frag} (hK : X.K = K) : OpR X (binaryOp .Add) (fun x y H Q => ∃ l b xs zs, x = .ref l ∧ y = .ref b ∧ SqL K H l xs ∧ SqL K H b zs ∧ xs.length + zs.length ≤ sizeLine ∧ ∀ p, H p = none → Q (.ref p) (upd H p (.lst (xs ++ zs)))) := by
  subst hK
  intro pins s σ H x y v u Q I rx ry h
  obtain ⟨l, b, xs, zs, rfl, rfl, hl, hb, hz, q⟩ := h
  cases rx
  cases ry
  obtain ⟨its, r1, ⟨⟨c1, d1, t1, s1⟩, n1, g1, hc1, hd1, hs1⟩, z1⟩ := I.list hl
  obtain ⟨its2, r2, ⟨⟨c2, d2, t2, s2⟩, n2, g2, hc2, hd2, hs2⟩, z2⟩ := I.list hb
  simp only at hc1 hd1 hs1 hc2 hd2 hs2
  subst hc1 hd1 hs1 hc2 hd2 hs2
  have l1 := r1.length
  have l2 := r2.length
  have e : its.toArray ++ its2.toArray = (its ++ its2).toArray := by simp
  refine concat_meets ⟨_, g1, rfl⟩ ⟨_, g2, rfl⟩ noFill_list_add seq_list_add PySem.F.slot_list_add PySem.F.entry_list_add (PySem.F.args_list_add_2 _ _)
    (list_addW l b its.toArray its2.toArray n1 n2 none none s1 s2 (by simp only [List.size_toArray]; omega)) ⟨g1, g2, ?_⟩
  rw [e]
  exact ⟨.ref _, _, I.lnew (t' := s.toks) (r1.append r2) (by rw [List.length_append]; omega), rfl, q _ I.fresh⟩

def opOf : BOp → Operator
  | .add => .Add | .sub => .Sub | .mul => .Mult | .fdiv => .FloorDiv | .mod => .Mod | .pow => .Pow
def rB (FA : Gv) (Ex : XW) (o : BOp) : R2 := fun x y H Q => ∃ L s p q, Sim FA L H s ∧ Rep FA L s.length H p x ∧ Rep FA L s.length H q y ∧ okA FA Ex L s.length H (kV FA Q) (lift (opB o p q) s)
theorem rep_int {L : Nm} {n : Nat} {H : Hp} {i : Int} {x : V} (h : Rep FA L n H (.int i) x) : x = .int i := by
  cases h; rfl
theorem rep_bl {L : Nm} {n : Nat} {H : Hp} {i : Bool} {x : V} (h : Rep FA L n H (.bl i) x) : x = .bl i := by
  cases h; rfl
theorem op_B (o : BOp) : OpR X (binaryOp (opOf o)) (rB FA Ex o) := by
  intro pins s σ H x y v u Q I rx ry h
  obtain ⟨L, st, p, q, sm, rp, rq, h⟩ := h
  have sT : ∀ {a : Addr} {vs : List V}, H a = some (.tup vs) → SqT X.K H a vs := fun e => .inl (.inl e)
  unfold opB at h
  split at h
  · cases rp; cases rq
    exact op_add pins s σ H _ _ v u Q I rx ry ⟨_, _, rfl, rfl, h.at sm _ (.int _)⟩
  · cases rp; cases rq
    exact op_sub pins s σ H _ _ v u Q I rx ry ⟨_, _, rfl, rfl, h.at sm _ (.int _)⟩
  · split at h
    · rename_i hc
      cases rp; cases rq
      exact op_mul pins s σ H _ _ v u Q I rx ry ⟨_, _, rfl, rfl, .inl (natAbs64 hc), h.at sm _ (.int _)⟩
    · exact h.elim
  · split at h
    · rename_i hc
      cases rp; cases rq
      exact op_fdiv pins s σ H _ _ v u Q I rx ry ⟨_, _, rfl, rfl, hc, h.at sm _ (.int _)⟩
    · exact h.elim
  · split at h
    · rename_i hc
      cases rp; cases rq
      exact op_mod pins s σ H _ _ v u Q I rx ry ⟨_, _, rfl, rfl, hc, h.at sm _ (.int _)⟩
    · exact h.elim
  · split at h
    · rename_i hc
      cases rp; cases rq
      refine op_pow pins s σ H _ _ v u Q I rx ry ⟨_, _, rfl, rfl, ⟨hc.1, by omega, ?_⟩, h.at sm _ (.int _)⟩
      have := hc.2.2
      rw [pow64_eq] at this
      exact this
    · exact h.elim
  · split at h
    · rename_i xs ys hc
      cases rp with
      | tup e1 r1 =>
        cases rq with
        | tup e2 r2 =>
          refine op_catA pins s σ H _ _ v u Q I rx ry ⟨_, _, _, _, rfl, rfl, sT e1, sT e2, ?_, fun z => ?_, fun _ z => ?_, fun _ _ p hp => ?_⟩
          · rw [← r1.length, ← r2.length]
            exact bigLine hc
          · subst z
            cases r1
            exact h.at sm _ (.tup e2 r2)
          · subst z
            cases r2
            rw [List.append_nil] at h
            exact h.at sm _ (.tup e1 r1)
          · exact h _ _ (Step.alloc hp) (sm.alloc hp) _ (.tup upd_same ((r1.app r2).up (Step.alloc hp)))
    · exact h.elim
  · split at h
    · rename_i xs ys hc
      cases rp with
      | lst e1 a1 r1 =>
        cases rq with
        | lst e2 a2 r2 =>
          refine op_catL rfl pins s σ H _ _ v u Q I rx ry ⟨_, _, _, _, rfl, rfl, .inl e1, .inl e2, ?_, fun p hp => ?_⟩
          · rw [← r1.length, ← r2.length]
            exact bigLine hc
          · exact h _ _ (Step.alloc hp) (sm.alloc hp) _ (.lst (.inl upd_same) (sm.free hp) ((r1.app r2).up (Step.alloc hp)))
    · exact h.elim
  · rename_i b j
    cases rp; cases rq
    obtain ⟨t, rfl⟩ := ry
    cases rx
    exact PySem.IntBool.add_bool_int ⟨.int ((if b = true then 1 else 0) + j), H, I.tok _, ⟨_, rfl⟩, h.at sm _ (.int _)⟩
  · rename_i b j
    cases rp; cases rq
    obtain ⟨t, rfl⟩ := ry
    cases rx
    exact PySem.IntBool.sub_bool_int ⟨.int ((if b = true then 1 else 0) - j), H, I.tok _, ⟨_, rfl⟩, h.at sm _ (.int _)⟩
  · split at h
    · rename_i xs j hc
      cases rp with
      | tup e1 r1 =>
        cases rq
        have hl := r1.length
        refine op_repT pins s σ H _ _ v u Q I rx ry ⟨_, _, _, rfl, rfl, sT e1, fun z => ?_, hc.2.2.1, hc.2.2.2, by omega, fun p hp => ?_⟩
        · rw [z] at hl
          simp only [List.length_nil] at hl
          omega
        · exact h _ _ (Step.alloc hp) (sm.alloc hp) _ (.tup upd_same ((r1.rep _).up (Step.alloc hp)))
    · exact h.elim
  · exact h.elim

/-! ### comparisons -/
mutual
def toD : PV → PyData
  | .bl b => .bool b
  | .int i => .int i
  | .str x => .str x
  | .tup xs => .tuple (toDs xs)
  | .lst xs => .list (toDs xs)
  | _ => .none
def toDs : List PV → List PyData
  | [] => []
  | p :: ps => toD p :: toDs ps
end
mutual
theorem dat_of {K : PySem.W.Frag} {L : Nm} {n : Nat} {H : Hp} : ∀ (d : Nat) (p : PV) (v : V), Rep FA L n H p v → dat d p = true →
    Dp K H v (toD p) ∧ (toD p).canLay0 = true ∧ (toD p).depth ≤ d
  | d, .non, _, h, _ => by cases h; exact ⟨.non, by simp [toD, PyData.canLay0], by simp [toD, PyData.depth]⟩
  | d, .bl b, _, h, _ => by cases h; exact ⟨.bl b, by simp [toD, PyData.canLay0], by simp [toD, PyData.depth]⟩
  | d, .int i, _, h, _ => by cases h; exact ⟨.int i, by simp [toD, PyData.canLay0], by simp [toD, PyData.depth]⟩
  | d, .str x, _, h, e => by
    cases h
    refine ⟨.str x, ?_, by simp [toD, PyData.depth]⟩
    simp only [toD, PyData.canLay0]
    have e' : x.cps.all (fun c => decide (c < 1114112)) = true := by cases d <;> simpa [dat] using e
    exact e'
  | 0, .tup _, _, _, e => by simp [dat] at e
  | 0, .lst _, _, _, e => by simp [dat] at e
  | d + 1, .tup xs, _, h, e => by
    cases h with
    | tup e1 r =>
      obtain ⟨h1, h2, h3⟩ := dats_of (K := K) d xs _ r (by simpa [dat] using e)
      exact ⟨.tup (.inl (.inl e1)) h1, by simpa [toD, PyData.canLay0] using h2, by simp only [toD, PyData.depth]; omega⟩
  | d + 1, .lst xs, _, h, e => by
    cases h with
    | lst e1 _ r =>
      obtain ⟨h1, h2, h3⟩ := dats_of (K := K) d xs _ r (by simpa [dat] using e)
      exact ⟨.lst (.inl e1) h1, by simpa [toD, PyData.canLay0] using h2, by simp only [toD, PyData.depth]; omega⟩
  | d, .loc _, _, _, e => by cases d <;> simp [dat] at e
  | d, .fn _, _, _, e => by cases d <;> simp [dat] at e
  | d, .clo _ _, _, _, e => by cases d <;> simp [dat] at e
  | d, .exn _ _, _, h, _ => by cases h
theorem dats_of {K : PySem.W.Frag} {L : Nm} {n : Nat} {H : Hp} : ∀ (d : Nat) (ps : List PV) (vs : List V), Reps FA L n H ps vs → dats d ps = true →
    DpAll K H vs (toDs ps) ∧ PyData.canLayAll0 (toDs ps) = true ∧ PyData.depthAll (toDs ps) ≤ d
  | d, [], _, h, _ => by cases h; exact ⟨.nil, by simp [toDs, PyData.canLayAll0], by simp [toDs, PyData.depthAll]⟩
  | d, p :: ps, _, h, e => by
    cases h with
    | cons h1 h2 =>
      have q : dat d p = true ∧ dats d ps = true := by simpa [dats] using e
      obtain ⟨a1, a2, a3⟩ := dat_of (K := K) d p _ h1 q.1
      obtain ⟨b1, b2, b3⟩ := dats_of (K := K) d ps _ h2 q.2
      exact ⟨.cons a1 b1, by simp [toDs, PyData.canLayAll0, a2, b2], by simp only [toDs, PyData.depthAll]; omega⟩
end
mutual
theorem eqv_toD : ∀ (d e : Nat) (p q : PV), dat d p = true → dat e q = true → PyData.eqv (toD p) (toD q) = veq p q
  | d, e, .non, q, _, h => by cases q <;> (try cases e) <;> simp_all [toD, PyData.eqv, veq, dat]
  | d, e, .bl _, q, _, h => by cases q <;> (try cases e) <;> simp_all [toD, PyData.eqv, veq, dat]
  | d, e, .int _, q, _, h => by cases q <;> (try cases e) <;> simp_all [toD, PyData.eqv, veq, dat]
  | d, e, .str _, q, _, h => by cases q <;> (try cases e) <;> simp_all [toD, PyData.eqv, veq, dat]
  | d, e, .tup xs, q, g, h => by
    cases d with
    | zero => simp [dat] at g
    | succ d =>
      cases q with
      | tup ys =>
        cases e with
        | zero => simp [dat] at h
        | succ e =>
          simp only [toD, PyData.eqv, veq]
          exact eqv_toDs d e xs ys (by simpa [dat] using g) (by simpa [dat] using h)
      | _ => cases e <;> simp_all [toD, PyData.eqv, veq, dat]
  | d, e, .lst xs, q, g, h => by
    cases d with
    | zero => simp [dat] at g
    | succ d =>
      cases q with
      | lst ys =>
        cases e with
        | zero => simp [dat] at h
        | succ e =>
          simp only [toD, PyData.eqv, veq]
          exact eqv_toDs d e xs ys (by simpa [dat] using g) (by simpa [dat] using h)
      | _ => cases e <;> simp_all [toD, PyData.eqv, veq, dat]
  | d, _, .loc _, _, g, _ => by cases d <;> simp [dat] at g
  | d, _, .fn _, _, g, _ => by cases d <;> simp [dat] at g
  | d, _, .clo _ _, _, g, _ => by cases d <;> simp [dat] at g
  | d, _, .exn _ _, _, g, _ => by cases d <;> simp [dat] at g
theorem eqv_toDs : ∀ (d e : Nat) (ps qs : List PV), dats d ps = true → dats e qs = true → PyData.eqvAll (toDs ps) (toDs qs) = veqs ps qs
  | _, _, [], [], _, _ => by simp [toDs, PyData.eqvAll, veqs]
  | _, _, [], _ :: _, _, _ => by simp [toDs, PyData.eqvAll, veqs]
  | _, _, _ :: _, [], _, _ => by simp [toDs, PyData.eqvAll, veqs]
  | d, e, p :: ps, q :: qs, g, h => by
    have g' : dat d p = true ∧ dats d ps = true := by simpa [dats] using g
    have h' : dat e q = true ∧ dats e qs = true := by simpa [dats] using h
    simp only [toDs, PyData.eqvAll, veqs]
    rw [eqv_toD d e p q g'.1 h'.1, eqv_toDs d e ps qs g'.2 h'.2]
end

def cOf : COp → CmpOp
  | .lt => .Lt | .le => .LtE | .gt => .Gt | .ge => .GtE | .eq => .Eq | .ne => .NotEq | .isn => .Is | .notn => .IsNot | .isin => .In | .notin => .NotIn
def rC (FA : Gv) (Ex : XW) (o : COp) : R2 := fun x y H Q => ∃ L s p q, Sim FA L H s ∧ Rep FA L s.length H p x ∧ Rep FA L s.length H q y ∧ okA FA Ex L s.length H (kV FA Q) (lift ((opC o p q).map PV.bl) s)
theorem flatV_of {L : Nm} {n : Nat} {H : Hp} {p : PV} {v : V} (h : Rep FA L n H p v) (f : flat p = true) : flatV v = true := by
  cases h <;> simp_all [flat, flatV]
theorem eqV_of {L : Nm} {n : Nat} {H : Hp} {p q : PV} {v w : V} (h : Rep FA L n H p v) (g : Rep FA L n H q w) (f1 : flat p = true) (f2 : flat q = true) : eqV v w = veq p q := by
  cases h <;> cases g <;> simp_all [flat, eqV, veq]
theorem flats_of {L : Nm} {n : Nat} {H : Hp} : ∀ {ps : List PV} {vs : List V}, Reps FA L n H ps vs → ps.all flat = true → vs.all flatV = true
  | _, _, .nil, _ => rfl
  | _, _, .cons h r, f => by
    rw [List.all_cons, Bool.and_eq_true] at f
    rw [List.all_cons, flatV_of h f.1, flats_of r f.2]
    rfl
theorem inV_of {L : Nm} {n : Nat} {H : Hp} {p : PV} {v : V} (h : Rep FA L n H p v) (f : flat p = true) : ∀ {ps : List PV} {vs : List V}, Reps FA L n H ps vs → ps.all flat = true → inV v vs = ps.any fun y => veq y p
  | _, _, .nil, _ => rfl
  | _, _, .cons g r, fs => by
    rw [List.all_cons, Bool.and_eq_true] at fs
    rw [List.any_cons, ← inV_of h f r fs.2, ← eqV_of g h fs.1 f]
    rfl
theorem isnon_of {L : Nm} {n : Nat} {H : Hp} {p : PV} {v : V} (h : Rep FA L n H p v) : decide (v = .non) = isnon p := by
  cases h <;> simp [isnon]
theorem seq_of {K : PySem.W.Frag} {L : Nm} {n : Nat} {H : Hp} {p : PV} {v : V} {ps : List PV} (h : Rep FA L n H p v) (e : seqOf p = some ps) : ∃ a vs, v = .ref a ∧ (SqL K H a vs ∨ SqT K H a vs) ∧ Reps FA L n H ps vs := by
  cases h <;> simp [seqOf] at e
  · rename_i a xs vs e1 r
    subst e
    exact ⟨a, vs, rfl, .inr (.inl (.inl e1)), r⟩
  · rename_i a xs vs e1 _ r
    subst e
    exact ⟨a, vs, rfl, .inl (.inl e1), r⟩
theorem op_C (hu : X.A.units + 64 < cLine) (o : COp) : OpR X (compareOp (cOf o)) (rC FA Ex o) := by
  intro pins s σ H x y v u Q I rx ry h
  obtain ⟨L, st, p, q, sm, rp, rq, h⟩ := h
  have dd : ∀ {d : PyData}, d.canLay0 = true → d.depth ≤ 8 → SeqAt.shaped d = true := fun a b => by
    unfold SeqAt.shaped
    rw [a, Bool.true_and]
    exact decide_eq_true (by omega)
  unfold opC at h
  split at h
  · cases rp; cases rq
    exact op_lt pins s σ H _ _ v u Q I rx ry ⟨_, _, rfl, rfl, h.at sm _ (.bl _)⟩
  · cases rp; cases rq
    exact op_le pins s σ H _ _ v u Q I rx ry ⟨_, _, rfl, rfl, h.at sm _ (.bl _)⟩
  · cases rp; cases rq
    exact op_gt pins s σ H _ _ v u Q I rx ry ⟨_, _, rfl, rfl, h.at sm _ (.bl _)⟩
  · cases rp; cases rq
    exact op_ge pins s σ H _ _ v u Q I rx ry ⟨_, _, rfl, rfl, h.at sm _ (.bl _)⟩
  · split at h
    · rename_i hc
      rw [Bool.and_eq_true] at hc
      obtain ⟨a1, a2, a3⟩ := dat_of (K := X.K) 8 p x rp hc.1
      obtain ⟨b1, b2, b3⟩ := dat_of (K := X.K) 8 q y rq hc.2
      refine op_eqD hu pins s σ H x y v u Q I rx ry ⟨_, _, a1, b1, dd a2 a3, dd b2 b3, ?_⟩
      rw [eqv_toD 8 8 p q hc.1 hc.2]
      exact h.at sm _ (.bl _)
    · exact h.elim
  · split at h
    · rename_i hc
      rw [Bool.and_eq_true] at hc
      obtain ⟨a1, a2, a3⟩ := dat_of (K := X.K) 8 p x rp hc.1
      obtain ⟨b1, b2, b3⟩ := dat_of (K := X.K) 8 q y rq hc.2
      refine op_neD hu pins s σ H x y v u Q I rx ry ⟨_, _, a1, b1, dd a2 a3, dd b2 b3, ?_⟩
      rw [eqv_toD 8 8 p q hc.1 hc.2]
      exact h.at sm _ (.bl _)
    · exact h.elim
  · cases rq
    refine op_isN pins s σ H _ _ v u Q I rx ry ⟨rfl, ?_⟩
    rw [isnon_of rp]
    exact h.at sm _ (.bl _)
  · cases rq
    refine op_notN pins s σ H _ _ v u Q I rx ry ⟨rfl, ?_⟩
    rw [isnon_of rp]
    exact h.at sm _ (.bl _)
  · cases e : seqOf q with
    | none => rw [e] at h; exact h.elim
    | some ys =>
      rw [e] at h
      obtain ⟨a, vs, rfl, hs, r⟩ := seq_of (K := X.K) rq e
      have h' : okA FA Ex L st.length H (kV FA Q) (lift ((inS p ys).map PV.bl) st) := h
      unfold inS at h'
      split at h'
      · rename_i hc
        rw [Bool.and_eq_true] at hc
        refine op_in_seq pins s σ H _ _ v u Q I rx ry ⟨a, vs, rfl, hs, flatV_of rp hc.1, flats_of r hc.2, ?_⟩
        rw [if_neg Bool.false_ne_true, inV_of rp hc.1 r hc.2]
        exact h'.at sm _ (.bl _)
      · exact h'.elim
  · cases e : seqOf q with
    | none => rw [e] at h; exact h.elim
    | some ys =>
      rw [e] at h
      obtain ⟨a, vs, rfl, hs, r⟩ := seq_of (K := X.K) rq e
      have h' : okA FA Ex L st.length H (kV FA Q) (lift (((inS p ys).map (!·)).map PV.bl) st) := h
      unfold inS at h'
      split at h'
      · rename_i hc
        rw [Bool.and_eq_true] at hc
        refine op_notIn_seq pins s σ H _ _ v u Q I rx ry ⟨a, vs, rfl, hs, flatV_of rp hc.1, flats_of r hc.2, ?_⟩
        rw [if_pos rfl, inV_of rp hc.1 r hc.2]
        exact h'.at sm _ (.bl _)
      · exact h'.elim
  · exact h.elim

def rCl (FA : Gv) (Ex : XW) (n : Bool) : R2 := fun x y H Q => ∃ L s p q, Sim FA L H s ∧ Rep FA L s.length H p x ∧ Rep FA L s.length H q y ∧ okA FA Ex L s.length H (kV FA Q) (lift ((opCl n s p q).map PV.bl) s)
theorem op_Cl (hu : X.A.units + 64 < cLine) (n : Bool) : OpR X (compareOp (cOf (if n then .ne else .eq))) (rCl FA Ex n) := by
  intro pins s σ H x y v u Q I rx ry h
  obtain ⟨L, st, p, q, sm, rp, rq, h⟩ := h
  have dd : ∀ {d : PyData}, d.canLay0 = true → d.depth ≤ 8 → SeqAt.shaped d = true := fun a b => by
    unfold SeqAt.shaped
    rw [a, Bool.true_and]
    exact decide_eq_true (by omega)
  unfold opCl at h
  split at h
  · rename_i l
    cases rp with
    | loc hl =>
      split at h
      · rename_i xs e0
        obtain ⟨vs, k1, k2, k3⟩ := sm.obj l xs e0
        have key : ∀ b : Bool, okA FA Ex L st.length H (kV FA Q) (lift ((opC (if b then .ne else .eq) (.lst xs) q).map PV.bl) st) → (dat 8 (.lst xs) && dat 8 q) = true ∧ Q (.bl (if b then !veq (.lst xs) q else veq (.lst xs) q)) H := fun b h => by
          cases b with
          | false =>
            have h : okA FA Ex L st.length H (kV FA Q) (lift ((if (dat 8 (.lst xs) && dat 8 q) = true then some (veq (.lst xs) q) else none).map PV.bl) st) := h
            split at h
            · rename_i hc
              exact ⟨hc, h.at sm _ (.bl _)⟩
            · exact h.elim
          | true =>
            have h : okA FA Ex L st.length H (kV FA Q) (lift ((if (dat 8 (.lst xs) && dat 8 q) = true then some (!veq (.lst xs) q) else none).map PV.bl) st) := h
            split at h
            · rename_i hc
              exact ⟨hc, h.at sm _ (.bl _)⟩
            · exact h.elim
        have la : dat 8 (.lst xs) = true → Dp X.K H (.ref (L l)) (toD (.lst xs)) ∧ (toD (.lst xs)).canLay0 = true ∧ (toD (.lst xs)).depth ≤ 8 := fun e => by
          obtain ⟨h1, h2, h3⟩ := dats_of (K := X.K) 7 xs _ k2 (by simpa [dat] using e)
          exact ⟨.lst (.inl (.inl k1)) h1, by simpa [toD, PyData.canLay0] using h2, by simp only [toD, PyData.depth]; omega⟩
        cases n with
        | true =>
          obtain ⟨hc, hq⟩ := key true h
          rw [Bool.and_eq_true] at hc
          obtain ⟨a1, a2, a3⟩ := la hc.1
          obtain ⟨b1, b2, b3⟩ := dat_of (K := X.K) 8 q y rq hc.2
          refine op_neD hu pins s σ H _ y v u Q I rx ry ⟨_, _, a1, b1, dd a2 a3, dd b2 b3, ?_⟩
          rw [eqv_toD 8 8 _ q hc.1 hc.2]
          exact hq
        | false =>
          obtain ⟨hc, hq⟩ := key false h
          rw [Bool.and_eq_true] at hc
          obtain ⟨a1, a2, a3⟩ := la hc.1
          obtain ⟨b1, b2, b3⟩ := dat_of (K := X.K) 8 q y rq hc.2
          refine op_eqD hu pins s σ H _ y v u Q I rx ry ⟨_, _, a1, b1, dd a2 a3, dd b2 b3, ?_⟩
          rw [eqv_toD 8 8 _ q hc.1 hc.2]
          exact hq
      · exact h.elim
  · exact h.elim

/-! ### places, slices -/
theorem place_ix {k : Nat} {i : Int} : place k i = ixN k i := rfl
theorem items_of {K : PySem.W.Frag} {L : Nm} {st : Store} {H : Hp} {p : PV} {v : V} {ps : List PV} (sm : Sim FA L H st) (h : Rep FA L st.length H p v) (e : items st p = some ps) : ∃ a vs, v = .ref a ∧ (SqL K H a vs ∨ SqT K H a vs) ∧ Reps FA L st.length H ps vs := by
  cases h <;> simp [items] at e
  · rename_i a xs vs e1 r
    subst e
    exact ⟨a, vs, rfl, .inr (.inl (.inl e1)), r⟩
  · rename_i a xs vs e1 _ r
    subst e
    exact ⟨a, vs, rfl, .inl (.inl e1), r⟩
  · rename_i l hl
    obtain ⟨xs, vs, e1, e2, r, _⟩ := sm.at hl
    rw [e1] at e
    simp at e
    subst e
    exact ⟨L l, vs, rfl, .inl (.inl (.inl e2)), r⟩
def rI2 (FA : Gv) (Ex : XW) : R2 := fun x y H Q => ∃ L s p i, Sim FA L H s ∧ Rep FA L s.length H p x ∧ y = .int i ∧ okA FA Ex L s.length H (kV FA Q) (lift ((items s p).bind fun xs => getN xs i) s)
theorem getN_of {L : Nm} {n : Nat} {H : Hp} {ps : List PV} {vs : List V} {i : Int} {p : PV} (r : Reps FA L n H ps vs) (h : getN ps i = some p) : ∃ v, atI vs i = some v ∧ Rep FA L n H p v := by
  unfold getN at h
  rw [r.length, place_ix] at h
  unfold atI
  cases e : ixN vs.length i with
  | none => rw [e] at h; cases h
  | some j =>
    rw [e] at h
    obtain ⟨v, h1, h2⟩ := r.get (show ps[j]? = some p from h)
    exact ⟨v, h1, h2⟩
theorem ix_I : IxR X (rI2 FA Ex) := by
  intro value slice pins s σ H x y v u Q I rx ry h hs
  obtain ⟨L, st, p, i, sm, rp, rfl, h⟩ := h
  cases e : items st p with
  | none => rw [e] at h; exact h.elim
  | some ps =>
    rw [e] at h
    obtain ⟨a, vs, rfl, hq, r⟩ := items_of (K := X.K) sm rp e
    have h' : okA FA Ex L st.length H (kV FA Q) (lift (getN ps i) st) := h
    cases e2 : getN ps i with
    | none => rw [e2] at h'; exact h'.elim
    | some z =>
      rw [e2] at h'
      obtain ⟨w, e3, rz⟩ := getN_of r e2
      have q : Q w H := h'.at sm _ rz
      rcases hq with hq | hq
      · exact ix_seq value slice pins s σ H _ _ v u Q I rx ry (.inl ⟨a, vs, i, w, rfl, rfl, hq, e3, q⟩) hs
      · exact ix_seq value slice pins s σ H _ _ v u Q I rx ry (.inr (.inl ⟨a, vs, i, w, rfl, rfl, hq, e3, q⟩)) hs
theorem clip_of {k d : Nat} {o : Option Int} : clipN k d o = HT.sIx k d o := by
  cases o <;> rfl
theorem cut_of {L : Nm} {n : Nat} {H : Hp} {ps : List PV} {vs : List V} (lo hi : Option Int) (r : Reps FA L n H ps vs) : Reps FA L n H (cutN ps lo hi) (cutV vs lo hi) := by
  unfold cutN cutV
  rw [r.length, clip_of, clip_of]
  exact (r.drop _).take _
def rSl (FA : Gv) (Ex : XW) : V → Option Int → Option Int → Hp → VK → Prop := fun x lo hi H Q => ∃ L s p, Sim FA L H s ∧ Rep FA L s.length H p x ∧ okA FA Ex L s.length H (kV FA Q) (lift (slV p lo hi) s)
theorem sl_I : SlR X (rSl FA Ex) := by
  intro pins s σ H x v vl vu lo hi sl Q I rx hs pl pu h
  obtain ⟨L, st, p, sm, rp, h⟩ := h
  unfold slV at h
  split at h
  · cases rp with
    | tup e r =>
      rename_i a us
      refine sl_tupA pins s σ H _ v vl vu lo hi sl Q I rx hs pl pu ⟨_, _, rfl, .inl (.inl e), fun z => ?_, fun _ p hp => ?_⟩
      · have w := h.at sm
        refine w _ (.tup e ?_)
        have c := cut_of lo hi r
        have e2 : cutV us lo hi = us := by
          unfold cutV
          rw [z.1, z.2, List.drop_zero, Nat.sub_zero]
          exact List.take_length
        rw [e2] at c
        exact c
      · exact h _ _ (Step.alloc hp) (sm.alloc hp) _ (.tup upd_same ((cut_of lo hi r).up (Step.alloc hp)))
  · cases rp with
    | lst e ap r =>
      refine sl_list pins s σ H _ v vl vu lo hi sl Q I rx hs pl pu ⟨_, _, rfl, .inl e, fun p hp => ?_⟩
      exact h _ _ (Step.alloc hp) (sm.alloc hp) _ (.lst (.inl upd_same) (sm.free hp) ((cut_of lo hi r).up (Step.alloc hp)))
  · exact h.elim
end
end ML

set_option Elab.async false
set_option maxRecDepth 100000
set_option linter.all false
set_option maxHeartbeats 4000000
/-! ML: sorted of pairs of an int and a text, the ints distinct. -/
namespace SrtO
open PySem PySem.Spec PyProof.Rows PySem.Builtin
section
variable {prog : Program} {w : World} {A : Around} {s : Shared} {E : Value → Shared → Prop}
def IsIS (h : Heap) (v : Value) (x : Int) : Prop := ∃ a o t y u n, v = .ref a ∧ h.get? a = some o ∧ o.cls = .type "tuple" ∧ o.data = .seq #[.int x t, .str y u] n
theorem IsIS.keeps {h h' : Heap} {v : Value} {x : Int} (p : IsIS h v x) (k : ∀ b o, h.get? b = some o → o.cls = .type "tuple" → h'.get? b = some o) : IsIS h' v x := by
  obtain ⟨a, o, t, y, u, n, e, ho, hc, hd⟩ := p
  exact ⟨a, o, t, y, u, n, e, k _ _ ho hc, hc, hd⟩
theorem firsts_ofIS {h : Heap} : ∀ {vs : List Value}, (∀ v ∈ vs, ∃ x, IsIS h v x) → ∃ fs : List Value, PySem.W.KatTups h vs fs ∧ fs.length = vs.length ∧ ∀ f ∈ fs, ∃ x t, f = Value.int x t
  | [], _ => ⟨[], PySem.W.KatTups.nil, rfl, fun _ hm => by simp at hm⟩
  | v :: vs, hp => by
    obtain ⟨fs, h1, h2, h3⟩ := firsts_ofIS (vs := vs) fun v' hm => hp v' (List.mem_cons_of_mem _ hm)
    obtain ⟨x, a, o, t, y, u, n, e, ho, hc, hd⟩ := hp v (List.mem_cons_self ..)
    subst e
    refine ⟨.int x t :: fs, PySem.W.KatTups.cons ho hc hd rfl h1, by rw [List.length_cons, List.length_cons, h2], fun f hm => ?_⟩
    rcases List.mem_cons.mp hm with rfl | hm
    · exact ⟨x, t, rfl⟩
    · exact h3 f hm
theorem swo_key {α : Type} (k : α → Int) : Swo fun v u => decide (k v < k u) := by
  refine ⟨fun x y h => ?_, fun x y z h1 h2 => ?_⟩
  · have := of_decide_eq_true h
    exact decide_eq_false (by omega)
  · have := of_decide_eq_false h1
    have := of_decide_eq_false h2
    exact decide_eq_false (by omega)
theorem is_cmp {vs : List Value} {k : Value → Int} (hp : ∀ v ∈ vs, IsIS s.heap v (k v)) (hi : ∀ v ∈ vs, ∀ u ∈ vs, k v = k u → v = u) : Cmp prog w A s (tuples' true) (fun p => p.1 ∈ vs) (lt2 fun v u => decide (k v < k u)) := by
  intro p q hm hm'
  have h1 := hp _ hm
  have h2 := hp _ hm'
  have h3 := hi _ hm _ hm'
  show wpAny (model prog w) A (keyLt' (tuples' true) p.1 q.1) (fun r s' => s' = s ∧ r = decide (k p.1 < k q.1)) (fun _ _ => False) s
  generalize k p.1 = x at h1 h3 ⊢
  generalize k q.1 = x' at h2 h3 ⊢
  obtain ⟨a, o, t, y, u, n, e, ho, hc, hd⟩ := h1
  obtain ⟨a', o', t', y', u', n', e', ho', hc', hd'⟩ := h2
  rw [e, e'] at h3 ⊢
  refine PySem.W.kat_lt ho hd ho' hd' ?_
  show PySem.W.KatLex prog w A true (decide (2 < 2)) _ [(.int x t, .int x' t'), (.str y u, .str y' u')] 0 s
  refine PySem.W.kat_cons (SeqAt.EqAt.int_int x t x' t' prog w _ _ ?_)
  refine PySem.W.kat_go (fun e1 => ?_) (fun e1 => ?_)
  · have ex : x = x' := by simpa using e1
    have ea := Value.ref.inj (h3 ex)
    subst ea
    rw [ho] at ho'
    cases ho'
    rw [hd] at hd'
    have hd2 := (Data.seq.inj hd').1
    have hy : Value.str y u = Value.str y' u' := by
      have := congrArg (fun z : Array Value => z[1]?) hd2
      simpa using this
    obtain ⟨hy1, hu1⟩ := Value.str.inj hy
    subst hy1
    subst hu1
    refine PySem.W.kat_yes (PySem.W.kat_cons (SeqAt.EqAt.str_str y u y u prog w _ _ ?_))
    refine PySem.W.kat_go (fun e2 => ?_) (fun e2 => ?_)
    · have e3 : decide (x < x') = false := decide_eq_false (by omega)
      exact PySem.W.kat_yes (PySem.W.kat_nil ⟨rfl, e3.symm⟩)
    · simp at e2
  · have ex : ¬ x = x' := by simpa using e1
    exact PySem.W.kat_no (oneLt_int ⟨rfl, rfl⟩)
theorem is_sortable {a : Addr} {vs : List Value} {k : Value → Int} (h0 : 0 < vs.length) (hp : ∀ v ∈ vs, IsIS s.heap v (k v)) (hi : ∀ v ∈ vs, ∀ u ∈ vs, k v = k u → v = u) (ha : ∀ o, s.heap.get? a = some o → o.cls ≠ .type "tuple") : SortableO prog w A s a vs fun v u => decide (k v < k u) := by
  intro h' keep
  have hp' : ∀ v ∈ vs, IsIS h' v (k v) := fun v hm => (hp v hm).keeps fun b o e c => keep b o (fun z => by subst z; exact ha o e c) e
  obtain ⟨fs, h1, h2, h3⟩ := firsts_ofIS fun v hm => ⟨_, hp' v hm⟩
  refine ⟨tuples' true, fun Q E hq => ?_, is_cmp hp' hi⟩
  refine PySem.W.kat_kind (T := .type "int") h1 (by omega) (fun f hm => ?_) (by rfl) ?_
  · obtain ⟨x, t, rfl⟩ := h3 f hm
    exact PySem.W.Looks.now
  · have e : (Value.type "int" != Value.type "tuple") = true := by first | decide +kernel | rfl | decide
    rw [e]
    exact hq
theorem sorted_is {l : Addr} {vs : List Value} {k : Value → Int} {Q : Value → Shared → Prop} (hl : s.heap.IsList l vs.toArray) (hz : vs.length ≤ sizeLine) (hp : ∀ v ∈ vs, IsIS s.heap v (k v)) (hi : ∀ v ∈ vs, ∀ u ∈ vs, k v = k u → v = u)
    (h : ∀ (h' : Heap) (d : Addr) (out : List Value), Srtd (fun v u => decide (k v < k u)) out → out.Perm vs → (∀ b o, s.heap.get? b = some o → h'.get? b = some o) → s.heap.objs.size ≤ d → (∃ n, h'.get? d = some (seqObj "list" out.toArray n)) → Q (.ref d) { s with heap := h' }) :
    wpAny (model prog w) A (call (.builtin "sorted") [.ref l]) Q E s := by
  refine sorted_ord (swo_key k) hl hz (fun h2 h₁ a ha kk => ?_) fun out hs hb => ?_
  · refine is_sortable (s := { s with heap := h₁ }) (by omega) (fun v hm => (hp v hm).keeps fun b o e _ => (kk b o e).2) hi fun o e => ?_
    have e' : some o = some (seqObj "list" vs.toArray 0) := e.symm.trans ha
    cases e'
    intro c
    exact absurd (Value.type.inj c) (by decide)
  · exact h _ _ out hs hb.perm (fun b o e => sortedAll_old e) (Nat.le_succ _) (sortedAll_at s.heap vs out.toArray)
end
end SrtO
namespace ML
open PySem PySem.Spec PyProof.Rows L2
/-- sorted(xs), xs a list of pairs of an int and a text, the ints (k says which) distinct -/
def rSortedIS (K : PySem.W.Frag) : List V → Hp → VK → Prop := fun vs H Q => ∃ (a : Addr) (xs : List V) (k : V → Int), vs = [V.ref a] ∧ SqL K H a xs ∧ (∀ x ∈ xs, ∃ t y, x = V.ref t ∧ H t = some (.tup [.int (k x), .str y])) ∧ (∀ x ∈ xs, ∀ y ∈ xs, k x = k y → x = y) ∧
  ∀ ys p, (ys.map k).Pairwise (· ≤ ·) → ys.Perm xs → H p = none → Q (.ref p) (upd H p (.lst ys))
theorem cr_sortedIS {X : Cx} : CallR X (.builtin "sorted") (rSortedIS X.K) := by
  intro pins s σ H vs us Q I r h
  obtain ⟨a, xs, k, rfl, hs, hx, hi, q⟩ := h
  obtain ⟨its, rv, hl, hz⟩ := I.list hs
  obtain ⟨u, rfl, ru⟩ := vals1 r
  obtain rfl : u = Value.ref a := ru
  obtain ⟨e1, e2⟩ := refs_back rv fun x m => by
    obtain ⟨t, _, e, _⟩ := hx x m
    exact ⟨t, e⟩
  refine SrtO.sorted_is (k := fun u => k (backV u)) hl.isList (by rw [← rv.length]; exact hz) (fun v hv => ?_) (fun v hv u hu e => ?_) fun h' d out h1 h2 kp hd hn => ?_
  · obtain ⟨t, rfl⟩ := e2 v hv
    have hm : V.ref t ∈ xs := by rw [e1]; exact List.mem_map.mpr ⟨_, hv, rfl⟩
    obtain ⟨t', y, e, ht⟩ := hx _ hm
    cases e
    obtain ⟨_, its2, r2, o, ho, hc, n, hd⟩ := I.hok _ _ ht
    obtain ⟨u1, u2, rfl, ri, rj⟩ := vals2 r2
    obtain ⟨t1, rfl⟩ := ri
    obtain ⟨t2, rfl⟩ := rj
    exact ⟨t, o, t1, y, t2, n, rfl, ho, hc, hd⟩
  · obtain ⟨t, rfl⟩ := e2 v hv
    obtain ⟨t', rfl⟩ := e2 u hu
    have m1 : V.ref t ∈ xs := by rw [e1]; exact List.mem_map.mpr ⟨_, hv, rfl⟩
    have m2 : V.ref t' ∈ xs := by rw [e1]; exact List.mem_map.mpr ⟨_, hu, rfl⟩
    have := V.ref.inj (hi _ m1 _ m2 e)
    rw [this]
  · have h3 : ∀ u ∈ out, ∃ a, u = Value.ref a := fun u hu => e2 u (h2.mem_iff.mp hu)
    obtain ⟨n, hn⟩ := hn
    have hb : (out.map backV).Perm xs := by
      rw [e1]
      exact h2.map backV
    refine ⟨.ref d, upd H d (.lst (out.map backV)), I.laid (t' := s.toks) kp hd ⟨?_, out, n, vals_back h3, hn⟩, rfl, q _ d ?_ hb (I.hok.fresh hd)⟩
    · rw [hb.length_eq]
      exact hz
    · rw [List.map_map]
      refine List.pairwise_map.mpr (List.Pairwise.imp (fun {x y} z => ?_) h1)
      have := of_decide_eq_false z
      show k (backV x) ≤ k (backV y)
      omega
end ML

set_option Elab.async false
set_option maxRecDepth 100000
set_option linter.all false
set_option maxHeartbeats 4000000
/-! ML: xs += ys, ys a list that may be read. -/
namespace ML
open PySem PySem.Spec PyProof.Rows L2
theorem list_iaddW (l : Addr) (items : Array Value) (n : Nat) (b : Addr) (items2 : Array Value) (n2 : Nat) (dd2 : Option Addr) (sl2 : Array (Option Value)) (hs0 : ¬(!items.isEmpty && Builtin.List.listTooLong (items.size + items2.size)) = true) (hs1 : items.size ≤ sizeLine) (hs2 : items.size + items2.size ≤ sizeLine + 1) :
    Meets (Builtin.«list.__iadd__» ⟨[.ref l, .ref b], []⟩) (fun _ R s => s.heap.get? l = some { cls := .type "list", dict := none, data := .seq items n, slots := #[] } ∧ s.heap.get? b = some { cls := .type "list", dict := dd2, data := .seq items2 n2, slots := sl2 } ∧ R (.ok (.ret (Value.ref l))) { s with heap := s.heap.update l (Obj.mapSeq fun x => x ++ items2), toks := s.toks }) :=
  .of_wp fun prog w A R s h => by
    obtain ⟨hp, g, d, tk, os⟩ := s; obtain ⟨hl, hb, h⟩ := h; have f1 := AutoSeq1.idx_int; have f2 := AutoSeq1.sub_tuple_tuple; have f3 := AutoSeq1.sub_list_list; have f4 := AutoSeq1.sub_tuple_list; have f5 := AutoSeq1.sub_list_tuple;
    have hz' : (items ++ items2).size ≤ sizeLine + 1 := by rw [Array.size_append]; exact hs2
    wp_walk using (wpAny_updateSeq hl rfl (hz := hs1) (_hz' := hz')), wpAny_loadPart' hl, wpAny_loadPart' hb; exact ⟨_, rfl, h⟩
/-- xs += ys -/
def ipL (K : PySem.W.Frag) : TIp := fun x y H Q => ∃ l b xs zs, x = .ref l ∧ y = .ref b ∧ H l = some (.lst xs) ∧ SqL K H b zs ∧ xs.length + zs.length ≤ sizeLine ∧ Q (.ref l) (upd H l (.lst (xs ++ zs)))
theorem ip_ext {X : Cx} : PIp X .Add (ipL X.K) := by
  intro pins s σ H x y v u Q I rx ry h
  obtain ⟨l, b, xs, zs, rfl, rfl, hH, hB, hz, q⟩ := h
  cases rx
  cases ry
  obtain ⟨z, its, n, r, hl, e⟩ := I.lstM hH
  obtain ⟨its2, r2, ⟨⟨c2, d2, t2, s2⟩, n2, g2, hc2, hd2, hs2⟩, z2⟩ := I.list hB
  simp only at hc2 hd2 hs2
  subst hc2 hd2 hs2
  have hl2 := r2.length
  have hsz : its.toArray.size + its2.toArray.size ≤ sizeLine := by rw [List.size_toArray, List.size_toArray]; omega
  have hlong : ¬ (!its.toArray.isEmpty && Builtin.List.listTooLong (its.toArray.size + its2.toArray.size)) = true := by
    rw [notLongL hsz, Bool.and_false]
    exact Bool.false_ne_true
  refine iadd_road ⟨_, e, rfl⟩ ⟨_, g2, rfl⟩ (call_meets PySem.F.slot_list_iadd ⟨_, e, rfl⟩ PySem.F.entry_list_iadd (PySem.F.args_list_iadd_2 _ _)
    (list_iaddW l its.toArray n b its2.toArray n2 none s2 hlong (by rw [List.size_toArray]; omega) (by omega)) ⟨e, g2, ?_⟩)
  refine ⟨.ref l, _, I.lset (its' := its ++ its2) (t' := s.toks) hH e (by simp) (r.append r2) ?_, rfl, q⟩
  rw [List.length_append]
  omega
end ML

set_option Elab.async false
set_option maxRecDepth 10000
set_option linter.all false
set_option maxHeartbeats 2000000
/-! ML: the built-ins' rules. -/
namespace ML
open PySem PySem.Spec PyProof.Rows L2
section
variable {FA : Gv} {Ex : XW} {X : Cx}

theorem ints_of {L : Nm} {n : Nat} {H : Hp} : ∀ {ps : List PV} {vs : List V} {ns : List Int}, Reps FA L n H ps vs → intsOf ps = some ns → vs = ns.map V.int
  | _, _, _, .nil, e => by
    simp [intsOf] at e
    subst e
    rfl
  | _, _, _, .cons (p := p) (ps := ps) h r, e => by
    cases h <;> simp [intsOf] at e
    obtain ⟨ms, e1, e2⟩ := e
    subst e2
    rw [ints_of r e1]
    rfl
theorem bools_of {L : Nm} {n : Nat} {H : Hp} : ∀ {ps : List PV} {vs : List V} {ns : List Bool}, Reps FA L n H ps vs → boolsOf ps = some ns → vs = ns.map V.bl
  | _, _, _, .nil, e => by
    simp [boolsOf] at e
    subst e
    rfl
  | _, _, _, .cons (p := p) (ps := ps) h r, e => by
    cases h <;> simp [boolsOf] at e
    obtain ⟨ms, e1, e2⟩ := e
    subst e2
    rw [bools_of r e1]
    rfl
theorem reps_ints {L : Nm} {n : Nat} {H : Hp} : ∀ ns : List Int, Reps FA L n H (ns.map PV.int) (ns.map V.int)
  | [] => .nil
  | i :: r => .cons (.int i) (reps_ints r)
theorem nolocs_ints : ∀ ns : List Int, nolocs (ns.map PV.int) = true
  | [] => rfl
  | _ :: r => by
    show (true && nolocs (r.map PV.int)) = true
    rw [nolocs_ints r]
    rfl
theorem foldMax_ge : ∀ (r : List Int) (m : Int), m ≤ r.foldl max m ∧ (∀ y, y ∈ r → y ≤ r.foldl max m) ∧ (r.foldl max m = m ∨ r.foldl max m ∈ r)
  | [], m => ⟨Int.le_refl _, (fun y h => nomatch h), .inl rfl⟩
  | x :: r, m => by
    obtain ⟨h1, h2, h3⟩ := foldMax_ge r (max m x)
    rw [List.foldl_cons]
    refine ⟨by omega, fun y hy => ?_, ?_⟩
    · rcases List.mem_cons.mp hy with e | hy
      · rw [e]; omega
      · exact h2 y hy
    · rcases h3 with e | e
      · rw [e]
        by_cases q : m ≤ x
        · exact .inr (by rw [Int.max_eq_right q]; exact List.mem_cons_self)
        · exact .inl (by omega)
      · exact .inr (List.mem_cons_of_mem _ e)
theorem foldMin_le : ∀ (r : List Int) (m : Int), r.foldl min m ≤ m ∧ (∀ y, y ∈ r → r.foldl min m ≤ y) ∧ (r.foldl min m = m ∨ r.foldl min m ∈ r)
  | [], m => ⟨Int.le_refl _, (fun y h => nomatch h), .inl rfl⟩
  | x :: r, m => by
    obtain ⟨h1, h2, h3⟩ := foldMin_le r (min m x)
    rw [List.foldl_cons]
    refine ⟨by omega, fun y hy => ?_, ?_⟩
    · rcases List.mem_cons.mp hy with e | hy
      · rw [e]; omega
      · exact h2 y hy
    · rcases h3 with e | e
      · rw [e]
        by_cases q : x ≤ m
        · exact .inr (by rw [Int.min_eq_right q]; exact List.mem_cons_self)
        · exact .inl (by omega)
      · exact .inr (List.mem_cons_of_mem _ e)
theorem max_is {m z : Int} {r : List Int} (h1 : z ∈ m :: r) (h2 : ∀ y, y ∈ m :: r → y ≤ z) : z = maxL m r := by
  obtain ⟨a, b, c⟩ := foldMax_ge r m
  unfold maxL
  have u : r.foldl max m ≤ z := by
    rcases c with c | c
    · rw [c]; exact h2 m List.mem_cons_self
    · exact h2 _ (List.mem_cons_of_mem _ c)
  rcases List.mem_cons.mp h1 with e | e
  · subst e; omega
  · have := b z e; omega
theorem min_is {m z : Int} {r : List Int} (h1 : z ∈ m :: r) (h2 : ∀ y, y ∈ m :: r → z ≤ y) : z = minL m r := by
  obtain ⟨a, b, c⟩ := foldMin_le r m
  unfold minL
  have u : z ≤ r.foldl min m := by
    rcases c with c | c
    · rw [c]; exact h2 m List.mem_cons_self
    · exact h2 _ (List.mem_cons_of_mem _ c)
  rcases List.mem_cons.mp h1 with e | e
  · subst e; omega
  · have := b z e; omega
theorem insI_perm (x : Int) : ∀ l : List Int, (insI x l).Perm (x :: l)
  | [] => .refl _
  | y :: r => by
    unfold insI
    split
    · exact .refl _
    · exact ((insI_perm x r).cons y).trans (.swap x y r)
theorem sortI_perm : ∀ l : List Int, (sortI l).Perm l
  | [] => .refl _
  | x :: r => (insI_perm x (sortI r)).trans ((sortI_perm r).cons x)
theorem insI_sorted (x : Int) : ∀ l : List Int, l.Pairwise (· ≤ ·) → (insI x l).Pairwise (· ≤ ·)
  | [], _ => List.pairwise_singleton _ _
  | y :: r, h => by
    unfold insI
    obtain ⟨h1, h2⟩ := List.pairwise_cons.mp h
    split
    · rename_i c
      refine List.pairwise_cons.mpr ⟨fun z hz => ?_, h⟩
      rcases List.mem_cons.mp hz with e | hz
      · rw [e]; exact c
      · exact Int.le_trans c (h1 z hz)
    · rename_i c
      refine List.pairwise_cons.mpr ⟨fun z hz => ?_, insI_sorted x r h2⟩
      rcases List.mem_cons.mp ((insI_perm x r).mem_iff.mp hz) with e | hz
      · rw [e]; omega
      · exact h1 z hz
theorem sortI_sorted : ∀ l : List Int, (sortI l).Pairwise (· ≤ ·)
  | [] => .nil
  | x :: r => insI_sorted x _ (sortI_sorted r)
theorem sortI_len (l : List Int) : (sortI l).length = l.length := (sortI_perm l).length_eq

/-- sum of a tuple of ints -/
theorem cr_sumT (hc : X.calm = true) : CallR X (.builtin "sum") (fun vs H Q => ∃ (a : Addr) (ns : List Int), vs = [V.ref a] ∧ SqT X.K H a (ns.map V.int) ∧ Q (.int ns.sum) H) := by
  intro pins s σ H vs us Q I r h
  obtain ⟨a, ns, rfl, hs, q⟩ := h
  obtain ⟨its, rv, ht, _⟩ := I.tuple hs
  rw [Vals.ref1 r]
  have hi := rv.ints
  obtain ⟨xs, e⟩ := hi.allInts.items
  have hn : numsOf (intItems xs).toList = ns := by rw [← e]; exact hi.numsOf
  rw [nums_intItems] at hn
  have ht2 : s.heap.IsTuple a (intItems xs) := by rw [← e]; exact ht
  refine PySem.W.ktm_sumG (I.ok.hd hc) ht2 fun h' tk t' hk => ?_
  rw [preSum_eq, List.take_of_length_le (by simp), hn]
  exact ⟨.int _, H, I.kept hk, ⟨_, rfl⟩, q⟩
theorem alike_ints (ns : List Int) : PySem.W.AlikeAll (ns.map PyData.int) := by
  refine ⟨fun x hx y hy => ?_, fun x hx => ?_⟩
  · obtain ⟨i, _, rfl⟩ := List.mem_map.mp hx
    obtain ⟨j, _, rfl⟩ := List.mem_map.mp hy
    rfl
  · obtain ⟨i, _, rfl⟩ := List.mem_map.mp hx
    intro z
    cases z
theorem depth_ints : ∀ ns : List Int, PyData.depthAll (ns.map PyData.int) = 0
  | [] => by simp [PyData.depthAll]
  | i :: r => by
    rw [List.map_cons]
    simp only [PyData.depthAll, PyData.depth, depth_ints r]
    rfl
theorem reads_ints {h : Heap} : ∀ {us : List Value} {ns : List Int}, Vals (ns.map V.int) us → ∃ as, ReadsAll h us (ns.map PyData.int) as
  | [], [], _ => ⟨_, .nil⟩
  | [], _ :: _, r => nomatch r
  | _ :: _, [], r => nomatch r
  | u :: us, n :: ns, .cons r t => by
    obtain ⟨tk, rfl⟩ := r
    obtain ⟨as, q⟩ := reads_ints t
    exact ⟨_, .cons (.int n tk) q⟩
/-- max of a tuple of ints -/
theorem cr_maxT (hc : X.calm = true) (hu : X.A.units + 64 < cLine) : CallR X (.builtin "max") (fun vs H Q => ∃ (a : Addr) (m : Int) (ns : List Int), vs = [V.ref a] ∧ SqT X.K H a ((m :: ns).map V.int) ∧ Q (.int (maxL m ns)) H) := by
  intro pins s σ H vs us Q I r h
  obtain ⟨a, m, ns, rfl, hs, q⟩ := h
  obtain ⟨its, rv, ht, _⟩ := I.tuple hs
  rw [Vals.ref1 r]
  obtain ⟨as, hr⟩ := reads_ints (h := s.heap) rv
  refine PySem.W.max_tuple_data (vs := its.toArray) (x := .int m) (xs := ns.map .int) (I.ok.hd hc) ht hr (alike_ints (m :: ns)) ?_ fun i v h' tk bs _ hb hk => ?_
  · have := depth_ints (m :: ns)
    rw [List.map_cons] at this
    rw [this]
    omega
  · rw [PySem.W.maxD_ints] at hb
    cases hb
    exact ⟨.int _, H, I.kept hk, ⟨_, rfl⟩, q⟩

def rBI (FA : Gv) (Ex : XW) (b : BI) : List V → Hp → VK → Prop := fun vs H Q => ∃ L s ps, Sim FA L H s ∧ Reps FA L s.length H ps vs ∧ okA FA Ex L s.length H (kV FA Q) (lift (opI s b ps) s)
theorem reps1 {L : Nm} {n : Nat} {H : Hp} {p : PV} {vs : List V} (r : Reps FA L n H [p] vs) : ∃ v, vs = [v] ∧ Rep FA L n H p v := by
  cases r with
  | cons h r => cases r; exact ⟨_, rfl, h⟩
theorem reps2 {L : Nm} {n : Nat} {H : Hp} {p q : PV} {vs : List V} (r : Reps FA L n H [p, q] vs) : ∃ v w, vs = [v, w] ∧ Rep FA L n H p v ∧ Rep FA L n H q w := by
  cases r with
  | cons h r =>
    obtain ⟨w, rfl, h2⟩ := reps1 r
    exact ⟨_, _, rfl, h, h2⟩
theorem bi_len : CallR X (.builtin "len") (rBI FA Ex .len) := by
  intro pins s σ H vs us Q I rx h
  obtain ⟨L, st, ps, sm, r, h⟩ := h
  simp only [opI] at h
  unfold oLen at h
  split at h
  · rename_i p
    obtain ⟨v, rfl, rp⟩ := reps1 r
    cases e : items st p with
    | none => rw [e] at h; exact h.elim
    | some xs =>
      rw [e] at h
      obtain ⟨a, ws, rfl, hs, r2⟩ := items_of (K := X.K) sm rp e
      refine call_len_seq pins s σ H _ us Q I rx ⟨a, ws, rfl, hs, ?_⟩
      have := okA.at h sm _ (.int _)
      rw [r2.length] at this
      exact this
  · exact h.elim
theorem bi_int1 : CallR X (.type "int") (rBI FA Ex .int1) := by
  intro pins s σ H vs us Q I rx h
  obtain ⟨L, st, ps, sm, r, h⟩ := h
  simp only [opI] at h
  unfold oInt at h
  split at h
  · obtain ⟨v, rfl, rp⟩ := reps1 r
    cases rp
    exact call_int1 pins s σ H _ us Q I rx (.inl ⟨_, rfl, h.at sm _ (.int _)⟩)
  · obtain ⟨v, rfl, rp⟩ := reps1 r
    cases rp
    exact call_int1 pins s σ H _ us Q I rx (.inr ⟨_, rfl, h.at sm _ (.int _)⟩)
  · exact h.elim
theorem bi_sum (hc : X.calm = true) : CallR X (.builtin "sum") (rBI FA Ex .sum) := by
  intro pins s σ H vs us Q I rx h
  obtain ⟨L, st, ps, sm, r, h⟩ := h
  simp only [opI] at h
  unfold oSum at h
  split at h
  · rename_i xs
    obtain ⟨v, rfl, rp⟩ := reps1 r
    cases e : intsOf xs with
    | none => rw [e] at h; exact h.elim
    | some ns =>
      rw [e] at h
      cases rp with
      | lst e1 _ r2 =>
        have e2 := ints_of r2 e
        subst e2
        exact cr_sum hc pins s σ H _ us Q I rx ⟨_, ns, rfl, .inl e1, okA.at h sm _ (.int _)⟩
  · rename_i xs
    obtain ⟨v, rfl, rp⟩ := reps1 r
    cases e : intsOf xs with
    | none => rw [e] at h; exact h.elim
    | some ns =>
      rw [e] at h
      cases rp with
      | tup e1 r2 =>
        have e2 := ints_of r2 e
        subst e2
        exact cr_sumT hc pins s σ H _ us Q I rx ⟨_, ns, rfl, .inl (.inl e1), okA.at h sm _ (.int _)⟩
  · exact h.elim
theorem bi_min1 (hc : X.calm = true) : CallR X (.builtin "min") (rBI FA Ex .min1) := by
  intro pins s σ H vs us Q I rx h
  obtain ⟨L, st, ps, sm, r, h⟩ := h
  simp only [opI] at h
  unfold oMin1 at h
  split at h
  · rename_i xs
    obtain ⟨v, rfl, rp⟩ := reps1 r
    cases e : intsOf xs with
    | none => rw [e] at h; exact h.elim
    | some ns =>
      rw [e] at h
      cases rp with
      | lst e1 _ r2 =>
        have e2 := ints_of r2 e
        subst e2
        cases ns with
        | nil => exact h.elim
        | cons m ms =>
          refine cr_min hc pins s σ H _ us Q I rx ⟨_, m :: ms, rfl, .inl e1, by simp, fun z z1 z2 => ?_⟩
          rw [min_is z1 z2]
          exact okA.at h sm _ (.int _)
  · exact h.elim
theorem bi_max1 (hc : X.calm = true) (hu : X.A.units + 64 < cLine) : CallR X (.builtin "max") (rBI FA Ex .max1) := by
  intro pins s σ H vs us Q I rx h
  obtain ⟨L, st, ps, sm, r, h⟩ := h
  simp only [opI] at h
  unfold oMax1 at h
  split at h
  · rename_i xs
    obtain ⟨v, rfl, rp⟩ := reps1 r
    cases e : intsOf xs with
    | none => rw [e] at h; exact h.elim
    | some ns =>
      rw [e] at h
      cases rp with
      | lst e1 _ r2 =>
        have e2 := ints_of r2 e
        subst e2
        cases ns with
        | nil => exact h.elim
        | cons m ms =>
          refine cr_max hc pins s σ H _ us Q I rx ⟨_, m :: ms, rfl, .inl e1, by simp, fun z z1 z2 => ?_⟩
          rw [max_is z1 z2]
          exact okA.at h sm _ (.int _)
  · rename_i xs
    obtain ⟨v, rfl, rp⟩ := reps1 r
    cases e : intsOf xs with
    | none => rw [e] at h; exact h.elim
    | some ns =>
      rw [e] at h
      cases rp with
      | tup e1 r2 =>
        have e2 := ints_of r2 e
        subst e2
        cases ns with
        | nil => exact h.elim
        | cons m ms => exact cr_maxT hc hu pins s σ H _ us Q I rx ⟨_, m, ms, rfl, .inl (.inl e1), okA.at h sm _ (.int _)⟩
  · exact h.elim
theorem bi_min2 (hc : X.calm = true) : CallR X (.builtin "min") (rBI FA Ex .min2) := by
  intro pins s σ H vs us Q I rx h
  obtain ⟨L, st, ps, sm, r, h⟩ := h
  simp only [opI] at h
  unfold oMin2 at h
  split at h
  · obtain ⟨v, w, rfl, r1, r2⟩ := reps2 r
    cases r1; cases r2
    exact call_min2 hc pins s σ H _ us Q I rx ⟨_, _, rfl, h.at sm _ (.int _)⟩
  · exact h.elim
theorem bi_max2 (hc : X.calm = true) : CallR X (.builtin "max") (rBI FA Ex .max2) := by
  intro pins s σ H vs us Q I rx h
  obtain ⟨L, st, ps, sm, r, h⟩ := h
  simp only [opI] at h
  unfold oMax2 at h
  split at h
  · obtain ⟨v, w, rfl, r1, r2⟩ := reps2 r
    cases r1; cases r2
    exact call_max2 hc pins s σ H _ us Q I rx ⟨_, _, rfl, h.at sm _ (.int _)⟩
  · exact h.elim
theorem bi_tuple : CallR X (.type "tuple") (rBI FA Ex .tuple) := by
  intro pins s σ H vs us Q I rx h
  obtain ⟨L, st, ps, sm, r, h⟩ := h
  simp only [opI] at h
  unfold oTuple at h
  split at h
  · rename_i p
    obtain ⟨v, rfl, rp⟩ := reps1 r
    cases e : items st p with
    | none => rw [e] at h; exact h.elim
    | some xs =>
      rw [e] at h
      cases rp <;> simp [items] at e
      · rename_i a ys ws e1 r2
        subst e
        exact call_tuple_of pins s σ H _ us Q I rx ⟨a, ws, rfl, .inr ⟨.inl (.inl e1), okA.at h sm _ (.tup e1 r2)⟩⟩
      · rename_i a ys ws e1 ap r2
        subst e
        exact call_tuple_of pins s σ H _ us Q I rx ⟨a, ws, rfl, .inl ⟨.inl e1, fun l hl => h _ _ (Step.alloc hl) (sm.alloc hl) _ (.tup upd_same (r2.up (Step.alloc hl)))⟩⟩
      · rename_i l hl
        obtain ⟨ys, ws, e1, e2, r2, _⟩ := sm.at hl
        rw [e1] at e
        simp at e
        subst e
        exact call_tuple_of pins s σ H _ us Q I rx ⟨L l, ws, rfl, .inl ⟨.inl (.inl e2), fun l hl => h _ _ (Step.alloc hl) (sm.alloc hl) _ (.tup upd_same (r2.up (Step.alloc hl)))⟩⟩
  · exact h.elim
theorem bi_list : CallR X (.type "list") (rBI FA Ex .list) := by
  intro pins s σ H vs us Q I rx h
  obtain ⟨L, st, ps, sm, r, h⟩ := h
  simp only [opI] at h
  unfold oList at h
  split at h
  · rename_i p
    obtain ⟨v, rfl, rp⟩ := reps1 r
    cases e : seqOf p with
    | none => rw [e] at h; exact h.elim
    | some xs =>
      rw [e] at h
      obtain ⟨a, ws, rfl, hs, r2⟩ := seq_of (K := X.K) rp e
      exact call_list_of pins s σ H _ us Q I rx ⟨a, ws, rfl, hs, fun l hl => h _ _ (Step.alloc hl) (sm.alloc hl) _ (.lst (.inl upd_same) (sm.free hl) (r2.up (Step.alloc hl)))⟩
  · exact h.elim
theorem bi_all (hc : X.calm = true) : CallR X (.builtin "all") (rBI FA Ex .all) := by
  intro pins s σ H vs us Q I rx h
  obtain ⟨L, st, ps, sm, r, h⟩ := h
  simp only [opI] at h
  unfold oAll at h
  split at h
  · rename_i xs
    obtain ⟨v, rfl, rp⟩ := reps1 r
    cases e : boolsOf xs with
    | none => rw [e] at h; exact h.elim
    | some ns =>
      rw [e] at h
      cases rp with
      | lst e1 _ r2 =>
        have e2 := bools_of r2 e
        subst e2
        exact cr_all hc pins s σ H _ us Q I rx ⟨_, ns, rfl, .inl e1, okA.at h sm _ (.bl _)⟩
  · exact h.elim
/-- the first int of a pair at an address -/
def keyV (H : Hp) : V → Int
  | .ref t => match H t with
    | some (.tup (.int i :: _)) => i
    | _ => 0
  | _ => 0
theorem fst_rep {FA : Gv} {L : Nm} {n : Nat} {H : Hp} {x : PV} {v : V} {i : Int} (h : fstI x = some i) (r : Rep FA L n H x v) : keyV H v = i ∧ ∃ t y, v = .ref t ∧ H t = some (.tup [.int i, .str y]) := by
  unfold fstI at h
  split at h
  · cases h
    cases r with
    | tup e r2 =>
      cases r2 with
      | cons r3 r4 =>
        cases r3
        cases r4 with
        | cons r5 r6 =>
          cases r5
          cases r6
          refine ⟨?_, _, _, rfl, e⟩
          show (match H _ with
            | some (.tup (.int i :: _)) => i
            | _ => 0) = _
          rw [e]
  · cases h
theorem fsts_rep {FA : Gv} {L : Nm} {n : Nat} {H : Hp} : ∀ {xs : List PV} {vs : List V} {is : List Int}, fstsI xs = some is → is.Nodup → Reps FA L n H xs vs →
    vs.map (keyV H) = is ∧ (∀ v ∈ vs, ∃ t y, v = .ref t ∧ H t = some (.tup [.int (keyV H v), .str y])) ∧ (∀ v ∈ vs, ∀ u ∈ vs, keyV H v = keyV H u → v = u) ∧ ∀ v ∈ vs, Rep FA L n H (((is.zip xs).lookup (keyV H v)).getD .non) v
  | [], [], is, h, _, .nil => by
    cases h
    exact ⟨rfl, fun v hv => by simp at hv, fun v hv => by simp at hv, fun v hv => by simp at hv⟩
  | x :: xs, v :: vs, is, h, nd, .cons r1 r2 => by
    unfold fstsI at h
    cases e1 : fstI x with
    | none => simp only [e1] at h; cases h
    | some i =>
      cases e2 : fstsI xs with
      | none => simp only [e1, e2] at h; cases h
      | some is' =>
        simp only [e1, e2] at h
        cases h
        obtain ⟨nd1, nd2⟩ := List.nodup_cons.mp nd
        obtain ⟨h1, h2, h3, h4⟩ := fsts_rep e2 nd2 r2
        obtain ⟨k1, t, y, rfl, k2⟩ := fst_rep e1 r1
        have hne : ∀ u ∈ vs, keyV H u ≠ i := fun u hu z => nd1 (by rw [← h1, ← z]; exact List.mem_map_of_mem hu)
        refine ⟨by rw [List.map_cons, k1, h1], fun u hu => ?_, fun u hu w hw e => ?_, fun u hu => ?_⟩
        · rcases List.mem_cons.mp hu with rfl | hu
          · exact ⟨t, y, rfl, by rw [k1]; exact k2⟩
          · exact h2 u hu
        · rcases List.mem_cons.mp hu with rfl | hu
          · rcases List.mem_cons.mp hw with rfl | hw
            · rfl
            · exact absurd (e.symm.trans k1) (hne w hw)
          · rcases List.mem_cons.mp hw with rfl | hw
            · exact absurd (e.trans k1) (hne u hu)
            · exact h3 u hu w hw e
        · rcases List.mem_cons.mp hu with rfl | hu
          · have eb : (i == i) = true := beq_self_eq_true i
            rw [k1, List.zip_cons_cons, List.lookup_cons, eb]
            exact r1
          · have eb : (keyV H u == i) = false := beq_eq_false_iff_ne.mpr (hne u hu)
            rw [List.zip_cons_cons, List.lookup_cons, eb]
            exact h4 u hu
theorem reps_map {FA : Gv} {L : Nm} {n : Nat} {H : Hp} (f : V → PV) : ∀ ys : List V, (∀ v ∈ ys, Rep FA L n H (f v) v) → Reps FA L n H (ys.map f) ys
  | [], _ => .nil
  | y :: ys, h => .cons (h y List.mem_cons_self) (reps_map f ys fun v hv => h v (List.mem_cons_of_mem _ hv))
theorem bi_sorted : CallR X (.builtin "sorted") (rBI FA Ex .sorted) := by
  intro pins s σ H vs us Q I rx h
  obtain ⟨L, st, ps, sm, r, h⟩ := h
  simp only [opI] at h
  unfold oSorted at h
  split at h
  · rename_i xs
    obtain ⟨v, rfl, rp⟩ := reps1 r
    cases e : intsOf xs with
    | none =>
      simp only [e] at h
      cases ef : fstsI xs with
      | none => simp only [ef] at h; exact h.elim
      | some is =>
        simp only [ef] at h
        by_cases nd : is.Nodup
        · rw [if_pos nd] at h
          cases rp with
          | lst e1 _ r2 =>
            obtain ⟨h1, h2, h3, h4⟩ := fsts_rep ef nd r2
            refine cr_sortedIS pins s σ H _ us Q I rx ⟨_, _, keyV H, rfl, .inl e1, h2, h3, fun ys p g1 g2 hp => ?_⟩
            have e3 : ys.map (keyV H) = sortI is := PySem.W.ksm_same ((g2.map (keyV H)).trans (by rw [h1]; exact (sortI_perm is).symm)) g1 (sortI_sorted is)
            have e4 : Reps FA L st.length H (sortT xs is) ys := by
              unfold sortT
              rw [← e3, List.map_map]
              exact reps_map _ ys fun v hv => h4 v (g2.mem_iff.mp hv)
            exact h _ _ (Step.alloc hp) (sm.alloc hp) _ (.lst (.inl upd_same) (sm.free hp) (e4.up (Step.alloc hp)))
        · rw [if_neg nd] at h
          exact h.elim
    | some ns =>
      simp only [e] at h
      have h' : okA FA Ex L st.length H (kV FA Q) (lift (sort64 ns) st) := h
      unfold sort64 at h'
      split at h'
      · rename_i hc
        cases rp with
        | lst e1 _ r2 =>
          have e2 := ints_of r2 e
          subst e2
          refine cr_sorted pins s σ H _ us Q I rx ⟨_, ns, rfl, .inl e1, hc, fun ns' p h1 h2 hp => ?_⟩
          have e3 : ns' = sortI ns := PySem.W.ksm_same (h1.trans (sortI_perm ns).symm) h2 (sortI_sorted ns)
          subst e3
          exact h' _ _ (Step.alloc hp) (sm.alloc hp) _ (.lst (.inl upd_same) (sm.free hp) (reps_ints _))
      · exact h'.elim
  · exact h.elim
def tyName : Ty → String
  | .int => "int" | .bool => "bool" | .str => "str" | .tuple => "tuple" | .list => "list" | .none => "NoneType" | .other => "object"
theorem ty_of {K : PySem.W.Frag} {L : Nm} {st : Store} {H : Hp} {p : PV} {v : V} (sm : Sim FA L H st) (r : Rep FA L st.length H p v) (h : tyOf p ≠ .other) : TyX K H v (.type (tyName (tyOf p))) := by
  cases r with
  | non => exact .base .non
  | bl b => exact .base (.bl b)
  | int i => exact .base (.int i)
  | str x => exact .base (.str x)
  | tup e r => exact .base (.tup e)
  | lst e ap r =>
    rcases e with e | ⟨o, e⟩
    · exact .base (.lst e)
    · exact .base (.frz e)
  | loc hl =>
    obtain ⟨_, _, _, e, _⟩ := sm.at hl
    exact .base (.lst e)
  | fn e => exact absurd rfl h
  | clo _ _ _ _ _ => exact absurd rfl h
theorem kit_is (t u : Ty) (ht : t ≠ .other) (hu : u = .int ∨ u = .bool ∨ u = .str ∨ u = .tuple ∨ u = .list) : kitB (tyName t) (tyName u) = some (isT t u) := by
  rcases hu with rfl | rfl | rfl | rfl | rfl <;> cases t <;> first
    | exact absurd rfl ht
    | decide +kernel
/-- isinstance of one value; the class is the second argument -/
theorem bi_is (u : Ty) (hu : u = .int ∨ u = .bool ∨ u = .str ∨ u = .tuple ∨ u = .list) : CallR X (.builtin "isinstance") (fun vs H Q => ∃ v, vs = [v, .ty (tyName u)] ∧ ∃ L s p, Sim FA L H s ∧ Rep FA L s.length H p v ∧ okA FA Ex L s.length H (kV FA Q) (lift (oIs u [p]) s)) := by
  intro pins s σ H vs us Q I rx h
  obtain ⟨v, rfl, L, st, p, sm, rp, h⟩ := h
  simp only [oIs] at h
  split at h
  · exact h.elim
  · rename_i ht
    exact call_isi pins s σ H _ us Q I rx ⟨v, _, _, _, _, rfl, .ty _, ty_of sm rp ht, kit_ty (kit_is (tyOf p) u ht hu), okA.at h sm _ (.bl _)⟩
end
end ML

set_option Elab.async false
set_option maxRecDepth 100000
set_option linter.all false
set_option maxHeartbeats 4000000
/-! ML: what is walked: lists and tuples in any mix, alone, counted, zipped. -/
namespace MlI
open PySem PySem.Spec PyProof.Rows L2

/-- list or tuple -/
inductive Sk where | l | t
def SqK (H : Hp) (k : Sk) (a : Addr) (xs : List V) : Prop := match k with
  | .l => Rd H a (.lst xs)
  | .t => H a = some (.tup xs)
def IsSq (h : Heap) (k : Sk) (a : Addr) (its : Array Value) : Prop := match k with
  | .l => h.IsList a its
  | .t => h.IsTuple a its
def IsSi (h : Heap) (k : Sk) (it a : Addr) (i : Nat) : Prop := match k with
  | .l => h.IsListIter it a i
  | .t => h.IsTupleIter it a i
def siObj (k : Sk) (a : Addr) : Obj := match k with
  | .l => { cls := .type "list_iterator", data := .fields #[.ref a, .int 0 0] }
  | .t => { cls := .type "tuple_iterator", data := .fields #[.ref a, .int 0 0] }
section
variable {X : Cx} {pins : List (Addr × PySem.Obj)} {σ : L2.St} {H : Hp} {s : Shared} {a : Addr} {k : Sk} {xs ys : List V}
theorem SqK.some (h : SqK H k a xs) : ∃ o, H a = some o := by
  cases k with
  | l =>
    rcases (show Rd H a (.lst xs) from h) with h | ⟨o, h⟩
    · exact ⟨_, h⟩
    · exact ⟨_, h⟩
  | t => exact ⟨_, h⟩
theorem SqK.ne (h : SqK H k a xs) {b : Addr} (hb : H b = none) : b ≠ a := fun z => by
  obtain ⟨o, e⟩ := h.some
  rw [← z, hb] at e; cases e
theorem sq_its (I : Inv X pins σ H s) (h : SqK H k a xs) : ∃ its : List Value, Vals xs its ∧ IsSq s.heap k a its.toArray ∧ xs.length ≤ sizeLine := by
  cases k with
  | l =>
    obtain ⟨its, rv, p, z⟩ := I.list (show SqL X.K H a xs from .inl h)
    exact ⟨its, rv, p.isList, z⟩
  | t =>
    obtain ⟨its, rv, p, z⟩ := I.tuple (show SqT X.K H a xs from .inl (.inl h))
    exact ⟨its, rv, p, z⟩
theorem sq_inj (I : Inv X pins σ H s) (h : SqK H k a xs) (h' : SqK H k a ys) : xs = ys := by
  cases k with
  | l => exact I.list_inj (show SqL X.K H a xs from .inl h) (show SqL X.K H a ys from .inl h')
  | t => exact I.tuple_inj (show SqT X.K H a xs from .inl (.inl h)) (show SqT X.K H a ys from .inl (.inl h'))
theorem si_at {h h' : Heap} {it : Addr} {i : Nat} (x : IsSi h k it a i) (q : ∀ o, h.get? it = some o → h'.get? it = some o) : IsSi h' k it a i := by
  cases k with
  | l => exact Heap.IsListIter.at x q
  | t => exact Heap.IsTupleIter.at x q
theorem si_obj {h : Heap} {it : Addr} {i : Nat} (x : IsSi h k it a i) : ∃ o, h.get? it = some o ∧ ∀ v, o.data ≠ .cell v := by
  cases k with
  | l =>
    obtain ⟨o, e, _, d⟩ := x
    exact ⟨o, e, fun v q => by rw [d] at q; cases q⟩
  | t =>
    obtain ⟨o, e, _, d⟩ := x
    exact ⟨o, e, fun v q => by rw [d] at q; cases q⟩
theorem si_new {h : Heap} {it : Addr} (x : h.get? it = some (siObj k a)) : IsSi h k it a 0 := by
  cases k with
  | l => exact ⟨_, x, rfl, rfl⟩
  | t => exact ⟨_, x, rfl, rfl⟩
theorem draws_sq {prog : Program} {w : World} {A : Around} (hh : A.handled = none) (k : Sk) (it a : Addr) (hne : a ≠ it) (items : Array Value) :
    Draws prog w A it [it, a] items.size (fun i v => items[i]? = some v) (fun i h => IsSi h k it a i ∧ IsSq h k a items) := by
  cases k with
  | l => exact Draws.list hh it a hne items
  | t => exact Draws.tuple hh it a hne items
theorem begins_sq (k : Sk) (a : Addr) (items : Array Value) : Begins (.ref a) (siObj k a) (fun h => IsSq h k a items) := by
  cases k with
  | l => exact begins_list a items
  | t => exact begins_tuple a items
end

/-! ### one source, each item in a new pair with its number -/
def ItE (k : Sk) (a : Addr) : It :=
  ⟨fun i H => ∃ (xs : List V) (x : V), SqK H k a xs ∧ xs[i]? = some x, fun i H v H' => ∃ T x, v = .ref T ∧ H T = none ∧ H' = upd H T (.tup [.int (i : Nat), x]) ∧ ∀ xs, SqK H k a xs → xs[i]? = some x, fun i H => ∃ xs : List V, SqK H k a xs ∧ xs.length = i⟩
theorem tup_new {P : Program} {w : World} {H : Hp} {h : Heap} {T : Addr} {vs : List V} {its : List Value} (hz : vs.length ≤ sizeLine) (r : Vals vs its) (hT : h.IsTuple T its.toArray) : ObjOk P w (upd H T (.tup vs)) h T (.tup vs) :=
  ⟨hz, its, r, hT⟩
theorem two_line : (2 : Nat) ≤ sizeLine := by decide
theorem three_line : (3 : Nat) ≤ sizeLine := by decide
theorem turn_en {P : Program} {w : World} {K : PySem.W.Frag} {elts : List Expr} {kk : Nat} {tpos : Pos} (k : Sk) (a e it : Addr) (hei : e ≠ it) :
    Turn P w K (.Tuple elts kk tpos) (ItE k a) [e, it] e (fun i h => (∃ old, IsEnum h e it (0 + (i : Int)) old) ∧ IsSi h k it a i) where
  mem := by simp
  obj := fun i h st b hb => by
    obtain ⟨⟨old, he⟩, hi⟩ := st
    have e' : b = e ∨ b = it := by simpa using hb
    rcases e' with z | z
    · rw [z]; exact ⟨_, he, fun v q => nomatch q⟩
    · rw [z]; exact si_obj hi
  keep := fun i h h' st kp => let ⟨⟨old, he⟩, hi⟩ := st; ⟨⟨old, kp e (by simp) _ he⟩, si_at hi fun o q => kp it (by simp) o q⟩
  item := by
    intro X hP hw hK hc i pins s σ H E I hf st hg
    subst hP hw hK
    obtain ⟨⟨old, he⟩, hit⟩ := st
    obtain ⟨xs, x, hq, hx⟩ := hg
    obtain ⟨its, rv, p, hz⟩ := sq_its I hq
    obtain ⟨u, hu, ru⟩ := rv.get hx
    have ne1 : e ≠ a := hq.ne (hf e (by simp)).1
    have ne2 : it ≠ a := hq.ne (hf it (by simp)).1
    have D := draws_sq (prog := X.prog) (w := X.w) (A := X.A.in1) (I.ok.hd hc) k it a ne2.symm its.toArray
    have W : GoesN X.prog X.w X.A (.Tuple elts kk tpos) _ _ _ _ _ _ := GoesN.enumFrom 0 D e hei (by simp [hei, ne1]) (by simp)
    have hlt : i < its.toArray.size := by
      have := (List.getElem?_eq_some_iff.mp hu).1
      simpa using this
    refine thn (W.goes i s (fun v s2 => ∃ x H', Inv X pins σ H' s2 ∧ RelV x v ∧ (ItE k a).yld i H x H' ∧ ((∃ old, IsEnum s2.heap e it (0 + ((i + 1 : Nat) : Int)) old) ∧ IsSi s2.heap k it a (i + 1)) ∧ ∀ b ∈ [e, it], H' b = none) E hlt ⟨⟨old, he⟩, hit, p⟩ ?_) (fun r s1 h => h)
    rintro v h' tk ⟨T, t, y, rfl, hT, hy, hTup⟩ ⟨he', hit', _⟩ hk _
    have hy' : y = u := by
      have e2 : its[i]? = some y := by simpa using hy
      rw [hu] at e2
      exact (Option.some.inj e2).symm
    subst hy'
    have new : ObjOk X.prog X.w (upd H T (.tup [.int (i : Nat), x])) h' T (.tup [.int (i : Nat), x]) := by
      refine tup_new (its := [.int (0 + (i : Int)) t, y]) two_line (.cons ⟨t, ?_⟩ (.cons ru .nil)) hTup
      rw [Int.zero_add]
    refine ⟨.ref T, _, I.turnedNew (t' := tk) (ch := [e, it]) hk hf hT new, rfl, ⟨T, x, rfl, I.hok.fresh hT, rfl, fun ys hy => by rw [sq_inj I hy hq]; exact hx⟩, ⟨he', hit'⟩, fun b hb => ?_⟩
    have hb' : b < s.heap.objs.size := by
      have e' : b = e ∨ b = it := by simpa using hb
      rcases e' with z | z
      · rw [z]; exact Heap.lt_size he
      · rw [z]
        obtain ⟨o, q, _⟩ := si_obj hit
        exact Heap.lt_size q
    rw [upd_ne (Nat.ne_of_lt (Nat.lt_of_lt_of_le hb' hT))]
    exact (hf b hb).1
  done := by
    intro X hP hw hK hc i pins s σ H E I hf st hg
    subst hP hw hK
    obtain ⟨⟨old, he⟩, hit⟩ := st
    obtain ⟨xs, hq, hx⟩ := hg
    obtain ⟨its, rv, p, hz⟩ := sq_its I hq
    have ne1 : e ≠ a := hq.ne (hf e (by simp)).1
    have ne2 : it ≠ a := hq.ne (hf it (by simp)).1
    have D := draws_sq (prog := X.prog) (w := X.w) (A := X.A.in1) (I.ok.hd hc) k it a ne2.symm its.toArray
    have W : GoesN X.prog X.w X.A (.Tuple elts kk tpos) _ _ _ _ _ _ := GoesN.enumFrom 0 D e hei (by simp [hei, ne1]) (by simp)
    have hn : i = its.toArray.size := by
      have := rv.length
      simp
      omega
    subst hn
    exact W.stops s (fun s1 => Inv X pins σ H s1) E ⟨⟨old, he⟩, hit, p⟩ fun h' tk hk _ => I.turnedL (t' := tk) (ch := [e, it]) hk hf
  self := fun A i s Q E st h => let ⟨⟨_, he⟩, _⟩ := st; wpAny_pyIter_enum he h

/-! ### two, three sources, their items in new tuples -/
def ItZ (k1 k2 : Sk) (a b : Addr) : It :=
  ⟨fun i H => ∃ (xs ys : List V) (x y : V), SqK H k1 a xs ∧ SqK H k2 b ys ∧ xs[i]? = some x ∧ ys[i]? = some y,
    fun i H v H' => ∃ T x y, v = .ref T ∧ H T = none ∧ H' = upd H T (.tup [x, y]) ∧ (∀ xs, SqK H k1 a xs → xs[i]? = some x) ∧ ∀ ys, SqK H k2 b ys → ys[i]? = some y,
    fun i H => ∃ xs ys : List V, SqK H k1 a xs ∧ SqK H k2 b ys ∧ i = min xs.length ys.length⟩
def ItZ3 (k1 k2 k3 : Sk) (a b c : Addr) : It :=
  ⟨fun i H => ∃ (xs ys zs : List V) (x y z : V), SqK H k1 a xs ∧ SqK H k2 b ys ∧ SqK H k3 c zs ∧ xs[i]? = some x ∧ ys[i]? = some y ∧ zs[i]? = some z,
    fun i H v H' => ∃ T x y z, v = .ref T ∧ H T = none ∧ H' = upd H T (.tup [x, y, z]) ∧ (∀ xs, SqK H k1 a xs → xs[i]? = some x) ∧ (∀ ys, SqK H k2 b ys → ys[i]? = some y) ∧ ∀ zs, SqK H k3 c zs → zs[i]? = some z,
    fun i H => ∃ xs ys zs : List V, SqK H k1 a xs ∧ SqK H k2 b ys ∧ SqK H k3 c zs ∧ i = min (min xs.length ys.length) zs.length⟩
theorem not2 {p q r : Addr} (h1 : p ≠ q) (h2 : p ≠ r) : p ∉ [q, r] := by simp [h1, h2]
theorem not1 {p q : Addr} (h : p ∉ [q]) : p ≠ q := by simpa using h
theorem sep2 {z TI TO i1 i2 a b : Addr} (D : ZipSep2 z TI TO i1 i2 [i1] [i2]) (na : z ≠ a ∧ TO ≠ a ∧ i2 ≠ a) (nb : z ≠ b ∧ TO ≠ b ∧ i1 ≠ b) : ZipSep2 z TI TO i1 i2 [i1, a] [i2, b] where
  TIz := D.TIz
  TOz := D.TOz
  TITO := D.TITO
  TIi1 := D.TIi1
  mem1 := by simp
  zf1 := not2 (not1 D.zf1) na.1
  Tf1 := not2 (not1 D.Tf1) na.2.1
  TIi2 := D.TIi2
  mem2 := by simp
  zf2 := not2 (not1 D.zf2) nb.1
  Tf2 := not2 (not1 D.Tf2) nb.2.1
  sep1_2 := not2 (not1 D.sep1_2) nb.2.2
  sep2_1 := not2 (not1 D.sep2_1) na.2.2
theorem sep3 {z TI TO i1 i2 i3 a b c : Addr} (D : ZipSep3 z TI TO i1 i2 i3 [i1] [i2] [i3]) (na : z ≠ a ∧ TO ≠ a ∧ i1 ≠ a ∧ i2 ≠ a ∧ i3 ≠ a) (nb : z ≠ b ∧ TO ≠ b ∧ i1 ≠ b ∧ i2 ≠ b ∧ i3 ≠ b) (nc : z ≠ c ∧ TO ≠ c ∧ i1 ≠ c ∧ i2 ≠ c ∧ i3 ≠ c) :
    ZipSep3 z TI TO i1 i2 i3 [i1, a] [i2, b] [i3, c] where
  TIz := D.TIz
  TOz := D.TOz
  TITO := D.TITO
  TIi1 := D.TIi1
  mem1 := by simp
  zf1 := not2 (not1 D.zf1) na.1
  Tf1 := not2 (not1 D.Tf1) na.2.1
  TIi2 := D.TIi2
  mem2 := by simp
  zf2 := not2 (not1 D.zf2) nb.1
  Tf2 := not2 (not1 D.Tf2) nb.2.1
  TIi3 := D.TIi3
  mem3 := by simp
  zf3 := not2 (not1 D.zf3) nc.1
  Tf3 := not2 (not1 D.Tf3) nc.2.1
  sep1_2 := not2 (not1 D.sep1_2) nb.2.2.1
  sep1_3 := not2 (not1 D.sep1_3) nc.2.2.1
  sep2_1 := not2 (not1 D.sep2_1) na.2.2.2.1
  sep2_3 := not2 (not1 D.sep2_3) nc.2.2.2.1
  sep3_1 := not2 (not1 D.sep3_1) na.2.2.2.2
  sep3_2 := not2 (not1 D.sep3_2) nb.2.2.2.2
theorem turn_z2 {P : Program} {w : World} {K : PySem.W.Frag} {elts : List Expr} {kk : Nat} {tpos : Pos} (k1 k2 : Sk) {a b z TI TO i1 i2 : Addr} (D0 : ZipSep2 z TI TO i1 i2 [i1] [i2]) :
    Turn P w K (.Tuple elts kk tpos) (ItZ k1 k2 a b) [z, TI, TO, i1, i2] z (fun i h => IsZip h z TI TO .none ∧ IsTupOf2 h TI (.ref i1) (.ref i2) ∧ (∃ x y, IsTupOf2 h TO x y) ∧ IsSi h k1 i1 a i ∧ IsSi h k2 i2 b i) where
  mem := by simp
  obj := fun i h st c hc => by
    obtain ⟨hz, hTI, ⟨x, y, hTO⟩, h1, h2⟩ := st
    have e' : c = z ∨ c = TI ∨ c = TO ∨ c = i1 ∨ c = i2 := by simpa using hc
    rcases e' with q | q | q | q | q
    · rw [q]; exact ⟨_, hz, fun v q => nomatch q⟩
    · rw [q]; exact ⟨_, hTI, fun v q => nomatch q⟩
    · rw [q]; exact ⟨_, hTO, fun v q => nomatch q⟩
    · rw [q]; exact si_obj h1
    · rw [q]; exact si_obj h2
  keep := fun i h h' st kp => by
    obtain ⟨hz, hTI, ⟨x, y, hTO⟩, h1, h2⟩ := st
    exact ⟨kp z (by simp) _ hz, kp TI (by simp) _ hTI, ⟨x, y, kp TO (by simp) _ hTO⟩, si_at h1 fun o q => kp i1 (by simp) o q, si_at h2 fun o q => kp i2 (by simp) o q⟩
  item := by
    intro X hP hw hK hc i pins s σ H E I hf st hg
    subst hP hw hK
    obtain ⟨hz, hTI, ⟨x0, y0, hTO⟩, h1, h2⟩ := st
    obtain ⟨xs, ys, x, y, hqx, hqy, hx, hy⟩ := hg
    obtain ⟨its, rv, p1, z1⟩ := sq_its I hqx
    obtain ⟨its2, rv2, p2, z2⟩ := sq_its I hqy
    obtain ⟨u, hu, ru⟩ := rv.get hx
    obtain ⟨u2, hu2, ru2⟩ := rv2.get hy
    have na : ∀ c ∈ [z, TI, TO, i1, i2], c ≠ a := fun c hc => hqx.ne (hf c hc).1
    have nb : ∀ c ∈ [z, TI, TO, i1, i2], c ≠ b := fun c hc => hqy.ne (hf c hc).1
    have S := sep2 D0 ⟨na z (by simp), na TO (by simp), na i2 (by simp)⟩ ⟨nb z (by simp), nb TO (by simp), nb i1 (by simp)⟩
    have D1 := draws_sq (prog := X.prog) (w := X.w) (A := X.A.in1) (I.ok.hd hc) k1 i1 a (na i1 (by simp)).symm its.toArray
    have D2 := draws_sq (prog := X.prog) (w := X.w) (A := X.A.in1) (I.ok.hd hc) k2 i2 b (nb i2 (by simp)).symm its2.toArray
    have W : GoesN X.prog X.w X.A (.Tuple elts kk tpos) _ _ _ _ _ _ := GoesN.zip2 S D1 D2
    have hlt : i < min its.toArray.size its2.toArray.size := by
      have q1 := (List.getElem?_eq_some_iff.mp hu).1
      have q2 := (List.getElem?_eq_some_iff.mp hu2).1
      simp only [List.size_toArray]
      omega
    refine thn (W.goes i s (fun v s2 => ∃ x H', Inv X pins σ H' s2 ∧ RelV x v ∧ (ItZ k1 k2 a b).yld i H x H' ∧ (IsZip s2.heap z TI TO .none ∧ IsTupOf2 s2.heap TI (.ref i1) (.ref i2) ∧ (∃ x y, IsTupOf2 s2.heap TO x y) ∧ IsSi s2.heap k1 i1 a (i + 1) ∧ IsSi s2.heap k2 i2 b (i + 1)) ∧ ∀ b ∈ [z, TI, TO, i1, i2], H' b = none) E hlt ⟨hz, hTI, ⟨x0, y0, hTO⟩, ⟨h1, p1⟩, ⟨h2, p2⟩⟩ ?_) (fun r s1 h => h)
    rintro v h' tk ⟨T, v1, v2, rfl, hT, hy1, hy2, hTup⟩ ⟨hz', hTI', hTO', ⟨h1', _⟩, ⟨h2', _⟩⟩ hk _
    have e1 : v1 = u := by
      have e2 : its[i]? = some v1 := by simpa using hy1
      rw [hu] at e2
      exact (Option.some.inj e2).symm
    have e2 : v2 = u2 := by
      have e2 : its2[i]? = some v2 := by simpa using hy2
      rw [hu2] at e2
      exact (Option.some.inj e2).symm
    subst e1 e2
    have new : ObjOk X.prog X.w (upd H T (.tup [x, y])) h' T (.tup [x, y]) := tup_new (its := [v1, v2]) two_line (.cons ru (.cons ru2 .nil)) hTup
    have hk' : ∀ b o, b ∉ [z, TI, TO, i1, i2] → s.heap.get? b = some o → h'.get? b = some o := fun b o hb q => hk b o (fun m => hb (by
      have : b = z ∨ b = TO ∨ b = i1 ∨ b = i2 := by simpa using m
      rcases this with q | q | q | q <;> simp [q])) q
    refine ⟨.ref T, _, I.turnedNew (t' := tk) (ch := [z, TI, TO, i1, i2]) hk' hf hT new, rfl, ⟨T, x, y, rfl, I.hok.fresh hT, rfl, fun l hl => by rw [sq_inj I hl hqx]; exact hx, fun l hl => by rw [sq_inj I hl hqy]; exact hy⟩, ⟨hz', hTI', hTO', h1', h2'⟩, fun c hc' => ?_⟩
    have hlt : c < s.heap.objs.size := by
      have e' : c = z ∨ c = TI ∨ c = TO ∨ c = i1 ∨ c = i2 := by simpa using hc'
      rcases e' with q | q | q | q | q
      · rw [q]; exact Heap.lt_size hz
      · rw [q]; exact Heap.lt_size hTI
      · rw [q]; exact Heap.lt_size hTO
      · rw [q]
        obtain ⟨o, q, _⟩ := si_obj h1
        exact Heap.lt_size q
      · rw [q]
        obtain ⟨o, q, _⟩ := si_obj h2
        exact Heap.lt_size q
    rw [upd_ne (Nat.ne_of_lt (Nat.lt_of_lt_of_le hlt hT))]
    exact (hf c hc').1
  done := by
    intro X hP hw hK hc i pins s σ H E I hf st hg
    subst hP hw hK
    obtain ⟨hz, hTI, ⟨x0, y0, hTO⟩, h1, h2⟩ := st
    obtain ⟨xs, ys, hqx, hqy, hend⟩ := hg
    obtain ⟨its, rv, p1, z1⟩ := sq_its I hqx
    obtain ⟨its2, rv2, p2, z2⟩ := sq_its I hqy
    have na : ∀ c ∈ [z, TI, TO, i1, i2], c ≠ a := fun c hc => hqx.ne (hf c hc).1
    have nb : ∀ c ∈ [z, TI, TO, i1, i2], c ≠ b := fun c hc => hqy.ne (hf c hc).1
    have S := sep2 D0 ⟨na z (by simp), na TO (by simp), na i2 (by simp)⟩ ⟨nb z (by simp), nb TO (by simp), nb i1 (by simp)⟩
    have D1 := draws_sq (prog := X.prog) (w := X.w) (A := X.A.in1) (I.ok.hd hc) k1 i1 a (na i1 (by simp)).symm its.toArray
    have D2 := draws_sq (prog := X.prog) (w := X.w) (A := X.A.in1) (I.ok.hd hc) k2 i2 b (nb i2 (by simp)).symm its2.toArray
    have W : GoesN X.prog X.w X.A (.Tuple elts kk tpos) _ _ _ _ _ _ := GoesN.zip2 S D1 D2
    have hn : i = min its.toArray.size its2.toArray.size := by
      have q1 := rv.length
      have q2 := rv2.length
      simp only [List.size_toArray]
      omega
    subst hn
    exact W.stops s (fun s1 => Inv X pins σ H s1) E ⟨hz, hTI, ⟨x0, y0, hTO⟩, ⟨h1, p1⟩, ⟨h2, p2⟩⟩ fun h' tk hk _ => I.turnedL (t' := tk) (ch := [z, TI, TO, i1, i2]) (fun b o hb q => hk b o (fun m => hb (by
      have : b = z ∨ b = TO ∨ b = i1 ∨ b = i2 := by simpa using m
      rcases this with q | q | q | q <;> simp [q])) q) hf
  self := fun A i s Q E st h => wpAny_pyIter_zip st.1 h

theorem turn_z3 {P : Program} {w : World} {K : PySem.W.Frag} {elts : List Expr} {kk : Nat} {tpos : Pos} (k1 k2 k3 : Sk) {a b c z TI TO i1 i2 i3 : Addr} (D0 : ZipSep3 z TI TO i1 i2 i3 [i1] [i2] [i3]) :
    Turn P w K (.Tuple elts kk tpos) (ItZ3 k1 k2 k3 a b c) [z, TI, TO, i1, i2, i3] z (fun i h => IsZip h z TI TO .none ∧ IsTupOf3 h TI (.ref i1) (.ref i2) (.ref i3) ∧ (∃ x y u, IsTupOf3 h TO x y u) ∧ IsSi h k1 i1 a i ∧ IsSi h k2 i2 b i ∧ IsSi h k3 i3 c i) where
  mem := by simp
  obj := fun i h st d hd => by
    obtain ⟨hz, hTI, ⟨x, y, u, hTO⟩, h1, h2, h3⟩ := st
    have e' : d = z ∨ d = TI ∨ d = TO ∨ d = i1 ∨ d = i2 ∨ d = i3 := by simpa using hd
    rcases e' with q | q | q | q | q | q
    · rw [q]; exact ⟨_, hz, fun v q => nomatch q⟩
    · rw [q]; exact ⟨_, hTI, fun v q => nomatch q⟩
    · rw [q]; exact ⟨_, hTO, fun v q => nomatch q⟩
    · rw [q]; exact si_obj h1
    · rw [q]; exact si_obj h2
    · rw [q]; exact si_obj h3
  keep := fun i h h' st kp => by
    obtain ⟨hz, hTI, ⟨x, y, u, hTO⟩, h1, h2, h3⟩ := st
    exact ⟨kp z (by simp) _ hz, kp TI (by simp) _ hTI, ⟨x, y, u, kp TO (by simp) _ hTO⟩, si_at h1 fun o q => kp i1 (by simp) o q, si_at h2 fun o q => kp i2 (by simp) o q, si_at h3 fun o q => kp i3 (by simp) o q⟩
  item := by
    intro X hP hw hK hc i pins s σ H E I hf st hg
    subst hP hw hK
    obtain ⟨hz, hTI, ⟨x0, y0, w0, hTO⟩, h1, h2, h3⟩ := st
    obtain ⟨xs, ys, ws, x, y, w, hqx, hqy, hqw, hx, hy, hw⟩ := hg
    obtain ⟨its, rv, p1, z1⟩ := sq_its I hqx
    obtain ⟨its2, rv2, p2, z2⟩ := sq_its I hqy
    obtain ⟨its3, rv3, p3, z3⟩ := sq_its I hqw
    obtain ⟨u, hu, ru⟩ := rv.get hx
    obtain ⟨u2, hu2, ru2⟩ := rv2.get hy
    obtain ⟨u3, hu3, ru3⟩ := rv3.get hw
    have na : ∀ d ∈ [z, TI, TO, i1, i2, i3], d ≠ a := fun d hd => hqx.ne (hf d hd).1
    have nb : ∀ d ∈ [z, TI, TO, i1, i2, i3], d ≠ b := fun d hd => hqy.ne (hf d hd).1
    have nc : ∀ d ∈ [z, TI, TO, i1, i2, i3], d ≠ c := fun d hd => hqw.ne (hf d hd).1
    have S := sep3 D0 ⟨na z (by simp), na TO (by simp), na i1 (by simp), na i2 (by simp), na i3 (by simp)⟩ ⟨nb z (by simp), nb TO (by simp), nb i1 (by simp), nb i2 (by simp), nb i3 (by simp)⟩ ⟨nc z (by simp), nc TO (by simp), nc i1 (by simp), nc i2 (by simp), nc i3 (by simp)⟩
    have D1 := draws_sq (prog := X.prog) (w := X.w) (A := X.A.in1) (I.ok.hd hc) k1 i1 a (na i1 (by simp)).symm its.toArray
    have D2 := draws_sq (prog := X.prog) (w := X.w) (A := X.A.in1) (I.ok.hd hc) k2 i2 b (nb i2 (by simp)).symm its2.toArray
    have D3 := draws_sq (prog := X.prog) (w := X.w) (A := X.A.in1) (I.ok.hd hc) k3 i3 c (nc i3 (by simp)).symm its3.toArray
    have W : GoesN X.prog X.w X.A (.Tuple elts kk tpos) _ _ _ _ _ _ := GoesN.zip3 S D1 D2 D3
    have hlt : i < min (min its.toArray.size its2.toArray.size) its3.toArray.size := by
      have q1 := (List.getElem?_eq_some_iff.mp hu).1
      have q2 := (List.getElem?_eq_some_iff.mp hu2).1
      have q3 := (List.getElem?_eq_some_iff.mp hu3).1
      simp only [List.size_toArray]
      omega
    refine thn (W.goes i s (fun v s2 => ∃ x H', Inv X pins σ H' s2 ∧ RelV x v ∧ (ItZ3 k1 k2 k3 a b c).yld i H x H' ∧ (IsZip s2.heap z TI TO .none ∧ IsTupOf3 s2.heap TI (.ref i1) (.ref i2) (.ref i3) ∧ (∃ x y u, IsTupOf3 s2.heap TO x y u) ∧ IsSi s2.heap k1 i1 a (i + 1) ∧ IsSi s2.heap k2 i2 b (i + 1) ∧ IsSi s2.heap k3 i3 c (i + 1)) ∧ ∀ b ∈ [z, TI, TO, i1, i2, i3], H' b = none) E hlt ⟨hz, hTI, ⟨x0, y0, w0, hTO⟩, ⟨h1, p1⟩, ⟨h2, p2⟩, ⟨h3, p3⟩⟩ ?_) (fun r s1 h => h)
    rintro v h' tk ⟨T, v1, v2, v3, rfl, hT, hy1, hy2, hy3, hTup⟩ ⟨hz', hTI', hTO', ⟨h1', _⟩, ⟨h2', _⟩, ⟨h3', _⟩⟩ hk _
    have e1 : v1 = u := by
      have e2 : its[i]? = some v1 := by simpa using hy1
      rw [hu] at e2
      exact (Option.some.inj e2).symm
    have e2 : v2 = u2 := by
      have e2 : its2[i]? = some v2 := by simpa using hy2
      rw [hu2] at e2
      exact (Option.some.inj e2).symm
    have e3 : v3 = u3 := by
      have e2 : its3[i]? = some v3 := by simpa using hy3
      rw [hu3] at e2
      exact (Option.some.inj e2).symm
    subst e1 e2 e3
    have new : ObjOk X.prog X.w (upd H T (.tup [x, y, w])) h' T (.tup [x, y, w]) := tup_new (its := [v1, v2, v3]) three_line (.cons ru (.cons ru2 (.cons ru3 .nil))) hTup
    have hk' : ∀ b o, b ∉ [z, TI, TO, i1, i2, i3] → s.heap.get? b = some o → h'.get? b = some o := fun b o hb q => hk b o (fun m => hb (by
      have : b = z ∨ b = TO ∨ b = i1 ∨ b = i2 ∨ b = i3 := by simpa using m
      rcases this with q | q | q | q | q <;> simp [q])) q
    refine ⟨.ref T, _, I.turnedNew (t' := tk) (ch := [z, TI, TO, i1, i2, i3]) hk' hf hT new, rfl, ⟨T, x, y, w, rfl, I.hok.fresh hT, rfl, fun l hl => by rw [sq_inj I hl hqx]; exact hx, fun l hl => by rw [sq_inj I hl hqy]; exact hy, fun l hl => by rw [sq_inj I hl hqw]; exact hw⟩, ⟨hz', hTI', hTO', h1', h2', h3'⟩, fun d hd' => ?_⟩
    have hlt : d < s.heap.objs.size := by
      have e' : d = z ∨ d = TI ∨ d = TO ∨ d = i1 ∨ d = i2 ∨ d = i3 := by simpa using hd'
      rcases e' with q | q | q | q | q | q
      · rw [q]; exact Heap.lt_size hz
      · rw [q]; exact Heap.lt_size hTI
      · rw [q]; exact Heap.lt_size hTO
      · rw [q]
        obtain ⟨o, q, _⟩ := si_obj h1
        exact Heap.lt_size q
      · rw [q]
        obtain ⟨o, q, _⟩ := si_obj h2
        exact Heap.lt_size q
      · rw [q]
        obtain ⟨o, q, _⟩ := si_obj h3
        exact Heap.lt_size q
    rw [upd_ne (Nat.ne_of_lt (Nat.lt_of_lt_of_le hlt hT))]
    exact (hf d hd').1
  done := by
    intro X hP hw hK hc i pins s σ H E I hf st hg
    subst hP hw hK
    obtain ⟨hz, hTI, ⟨x0, y0, w0, hTO⟩, h1, h2, h3⟩ := st
    obtain ⟨xs, ys, ws, hqx, hqy, hqw, hend⟩ := hg
    obtain ⟨its, rv, p1, z1⟩ := sq_its I hqx
    obtain ⟨its2, rv2, p2, z2⟩ := sq_its I hqy
    obtain ⟨its3, rv3, p3, z3⟩ := sq_its I hqw
    have na : ∀ d ∈ [z, TI, TO, i1, i2, i3], d ≠ a := fun d hd => hqx.ne (hf d hd).1
    have nb : ∀ d ∈ [z, TI, TO, i1, i2, i3], d ≠ b := fun d hd => hqy.ne (hf d hd).1
    have nc : ∀ d ∈ [z, TI, TO, i1, i2, i3], d ≠ c := fun d hd => hqw.ne (hf d hd).1
    have S := sep3 D0 ⟨na z (by simp), na TO (by simp), na i1 (by simp), na i2 (by simp), na i3 (by simp)⟩ ⟨nb z (by simp), nb TO (by simp), nb i1 (by simp), nb i2 (by simp), nb i3 (by simp)⟩ ⟨nc z (by simp), nc TO (by simp), nc i1 (by simp), nc i2 (by simp), nc i3 (by simp)⟩
    have D1 := draws_sq (prog := X.prog) (w := X.w) (A := X.A.in1) (I.ok.hd hc) k1 i1 a (na i1 (by simp)).symm its.toArray
    have D2 := draws_sq (prog := X.prog) (w := X.w) (A := X.A.in1) (I.ok.hd hc) k2 i2 b (nb i2 (by simp)).symm its2.toArray
    have D3 := draws_sq (prog := X.prog) (w := X.w) (A := X.A.in1) (I.ok.hd hc) k3 i3 c (nc i3 (by simp)).symm its3.toArray
    have W : GoesN X.prog X.w X.A (.Tuple elts kk tpos) _ _ _ _ _ _ := GoesN.zip3 S D1 D2 D3
    have hn : i = min (min its.toArray.size its2.toArray.size) its3.toArray.size := by
      have q1 := rv.length
      have q2 := rv2.length
      have q3 := rv3.length
      simp only [List.size_toArray]
      omega
    subst hn
    exact W.stops s (fun s1 => Inv X pins σ H s1) E ⟨hz, hTI, ⟨x0, y0, w0, hTO⟩, ⟨h1, p1⟩, ⟨h2, p2⟩, ⟨h3, p3⟩⟩ fun h' tk hk _ => I.turnedL (t' := tk) (ch := [z, TI, TO, i1, i2, i3]) (fun b o hb q => hk b o (fun m => hb (by
      have : b = z ∨ b = TO ∨ b = i1 ∨ b = i2 ∨ b = i3 := by simpa using m
      rcases this with q | q | q | q | q <;> simp [q])) q) hf
  self := fun A i s Q E st h => wpAny_pyIter_zip st.1 h

/-! ### enumerate(v) of a list or a tuple begins -/
section
set_option maxHeartbeats 4000000
theorem meets_en1 {v : Value} {o : PySem.Obj} {Hp0 : Heap → Prop} (B : Begins v o Hp0) :
    Meets (Builtin.«enumerate.__new__» ⟨[.type "enumerate", v], []⟩) (fun _ R s => Hp0 s.heap ∧
      R (.ok (.ret (.ref (s.heap.push o).objs.size))) { s with heap := (s.heap.push o).push { cls := .type "enumerate", data := .fields #[.none, .bool false, .ref s.heap.objs.size, rawInt 0, .none, .none] } }) :=
  .of_wp fun prog w A R s h => by
    obtain ⟨hp, g, d, tk, os⟩ := s
    obtain ⟨h1, h⟩ := h
    have hsub := sub_enumerate
    have q1 : ∀ {A' : Around} {E : Value → Shared → Prop} {Q : Value → Shared → Prop}, Q (.ref hp.objs.size) ⟨hp.push o, g, d, tk, os⟩ → wpAny (model prog w) A' (pyIter v) Q E ⟨hp, g, d, tk, os⟩ :=
      fun q => B.iter prog w _ _ ⟨hp, g, d, tk, os⟩ _ h1 q
    wp_walk using q1
    refine wpAny_stack_any fun st => wpAny_pure ?_
    split
    · rename_i c _ _ _ _ _
      cases (c == Value.type "enumerate") <;> (wp_walk using q1; exact ⟨_, rfl, h⟩)
    · wp_walk using q1
      exact ⟨_, rfl, h⟩
end
theorem en1_begins {prog : Program} {w : World} {A : Around} {E : Value → Shared → Prop} {s : Shared} {v : Value} {o : PySem.Obj} {Hp0 : Heap → Prop} {Q : Value → Shared → Prop} (B : Begins v o Hp0) (h1 : Hp0 s.heap)
    (h : ∀ h', IsEnum h' (s.heap.objs.size + 1) s.heap.objs.size 0 .none → h'.get? s.heap.objs.size = some o → (∀ b o, s.heap.get? b = some o → h'.get? b = some o) → Q (.ref (s.heap.objs.size + 1)) { s with heap := h' }) :
    wpAny (model prog w) A (call (.type "enumerate") [v]) Q E s := by
  refine callType_new F.called_enumerate (by decide) (F.typeCall_enumerate_1 _) (F.newCall_enumerate_1 _) (fun obj => F.args_object_init_2 obj _) F.entry_enumerate_new (meets_en1 B) ⟨h1, ?_⟩
  have hz : (s.heap.push o).objs.size = s.heap.objs.size + 1 := Heap.size_push ..
  show _ ∧ _
  rw [hz]
  have he : IsEnum ((s.heap.push o).push { cls := .type "enumerate", data := .fields #[.none, .bool false, .ref s.heap.objs.size, rawInt 0, .none, .none] }) (s.heap.objs.size + 1) s.heap.objs.size 0 .none := by
    have q := Heap.get?_push_size (s.heap.push o) (o := { cls := .type "enumerate", data := .fields #[.none, .bool false, .ref s.heap.objs.size, rawInt 0, .none, .none] }) rfl
    rw [hz] at q
    exact q
  exact ⟨⟨_, he, rfl⟩, h _ he (Heap.get?_push_of_some _ (Heap.get?_push_size _ B.free)) fun b o x => Heap.get?_push_of_some _ (Heap.get?_push_of_some _ x)⟩
/-! ### the walks' rules -/
section
variable {X : Cx} {tg : Expr}
def iSq (te : TE) : TI := fun σ H R => te σ H fun x H1 => ∃ a, x = .ref a ∧ ((∃ xs, SqK H1 .l a xs ∧ R (Itl X.K a) H1) ∨ ∃ xs, SqK H1 .t a xs ∧ R (Itt X.K a) H1)
theorem pi_sq {e : Expr} {te : TE} (he : PE X e te) : PI X tg e (iSq (X := X) te) := by
  refine ⟨fun pins s σ H R I h => ?_⟩
  refine thn (he.run pins s σ H _ I h) fun v s1 ⟨x, H1, I1, r1, q1⟩ => ?_
  obtain ⟨a, ex, q⟩ := q1
  subst ex
  cases r1
  have fp : ∀ b ∈ [s1.heap.objs.size], FpOk X pins H1 b := fun b hb => by
    have e : b = s1.heap.objs.size := by simpa using hb
    subst e
    exact I1.fpOk (Nat.le_refl _) (I1.hok.fresh (Nat.le_refl _))
  rcases q with ⟨xs, hq, q⟩ | ⟨xs, hq, q⟩
  · obtain ⟨its, rv, p, hz⟩ := I1.list (show SqL X.K H1 a xs from .inl hq)
    refine wpAny_pyIter_list p.isList ?_
    exact ⟨s1.heap.objs.size, [s1.heap.objs.size], _, _, H1, rfl, I1.kept (t' := s1.toks) fun b o e => Heap.get?_push_of_some _ e, turn_list a _, ⟨_, Heap.get?_push_size _ rfl, rfl, rfl⟩, fp, q⟩
  · obtain ⟨its, rv, p, hz⟩ := I1.tuple (show SqT X.K H1 a xs from .inl (.inl hq))
    refine wpAny_pyIter_tuple (show s1.heap.IsTuple a its.toArray from p) ?_
    exact ⟨s1.heap.objs.size, [s1.heap.objs.size], _, _, H1, rfl, I1.kept (t' := s1.toks) fun b o e => Heap.get?_push_of_some _ e, turn_tuple a _, ⟨_, Heap.get?_push_size _ rfl, rfl, rfl⟩, fp, q⟩
def iEn (ta : TA) : TI := fun σ H R => ta σ H fun vs H1 => ∃ k a xs, vs = [.ref a] ∧ SqK H1 k a xs ∧ R (ItE k a) H1
theorem pi_en {e : Expr} {ta : TA} {p pos tpos : Pos} {elts : List Expr} {kk : Nat} (hg : Gl X "enumerate") (hm : X.mg "enumerate" = none) (ha : PA X [e] ta) (hs : starEach [e] X.env = [(false, eval e X.env)]) :
    PI X (.Tuple elts kk tpos) (.Call (.Name "enumerate" p) [e] [] pos) (iEn ta) := by
  refine ⟨fun pins s σ H R I h => ?_⟩
  refine Call_ (ld_blt I hg hm boot_enumerate (PyProof.Rows.callWith_type1 (thn (ha.run pos pins s σ H _ I h) fun us s1 ⟨vs, H1, I1, r1, q1⟩ => ?_) hs rfl))
  obtain ⟨k, a, xs, ex, hq, q⟩ := q1
  subst ex
  rw [Vals.ref1 r1]
  obtain ⟨its, rv, p', hz⟩ := sq_its I1 hq
  refine en1_begins (begins_sq k a its.toArray) p' fun h' he hit hk => wpAny_pyIter_enum he ?_
  have I2 : Inv X pins σ H1 { s1 with heap := h' } := I1.kept (t' := s1.toks) hk
  refine ⟨s1.heap.objs.size + 1, [s1.heap.objs.size + 1, s1.heap.objs.size], _, _, H1, rfl, I2, turn_en k a (s1.heap.objs.size + 1) s1.heap.objs.size (Nat.succ_ne_self _), ⟨⟨.none, he⟩, si_new hit⟩, fun b hb => ?_, q⟩
  have hle : s1.heap.objs.size ≤ b := by
    rcases (show b = s1.heap.objs.size + 1 ∨ b = s1.heap.objs.size by simpa using hb) with z | z
    · rw [z]; exact Nat.le_add_right _ _
    · rw [z]; exact Nat.le_refl _
  exact I1.fpOk hle (I1.hok.fresh hle)
def iZ2 (ta : TA) : TI := fun σ H R => ta σ H fun vs H1 => ∃ k1 k2 a b xs ys, vs = [.ref a, .ref b] ∧ SqK H1 k1 a xs ∧ SqK H1 k2 b ys ∧ R (ItZ k1 k2 a b) H1
theorem pi_z2 {e e2 : Expr} {ta : TA} {p pos tpos : Pos} {elts : List Expr} {kk : Nat} (hg : Gl X "zip") (hm : X.mg "zip" = none) (ha : PA X [e, e2] ta)
    (hs : starEach [e, e2] X.env = (false, eval e X.env) :: starEach [e2] X.env) (hpl : (backTo pos (starEach [e2] X.env)).any (·.1) = false) :
    PI X (.Tuple elts kk tpos) (.Call (.Name "zip" p) [e, e2] [] pos) (iZ2 ta) := by
  refine ⟨fun pins s σ H R I h => ?_⟩
  refine Call_ (ld_blt I hg hm PyProof.Rows.boot_zip (PyProof.Rows.callWith_type1 (thn (ha.run pos pins s σ H _ I h) fun us s1 ⟨vs, H1, I1, r1, q1⟩ => ?_) hs hpl))
  obtain ⟨k1, k2, a, b, xs, ys, ex, hqx, hqy, q⟩ := q1
  subst ex
  obtain ⟨u1, u2, rfl, rx, ry⟩ := vals2 r1
  cases rx
  cases ry
  obtain ⟨its, rv, p1, _⟩ := sq_its I1 hqx
  obtain ⟨its2, rv2, p2, _⟩ := sq_its I1 hqy
  refine zip_begins2 (begins_sq k1 a its.toArray) (begins_sq k2 b its2.toArray) p1 p2 fun h' hz hTI hTO h1 h2 hsz hk => wpAny_pyIter_zip hz ?_
  have I2 : Inv X pins σ H1 { s1 with heap := h' } := I1.kept (t' := s1.toks) hk
  refine ⟨s1.heap.objs.size + 4, [s1.heap.objs.size + 4, s1.heap.objs.size + 2, s1.heap.objs.size + 3, s1.heap.objs.size, s1.heap.objs.size + 1], _, _, H1, rfl, I2, turn_z2 k1 k2 (zip_sep2 (by simp) (by simp)), ⟨hz, hTI, ⟨_, _, hTO⟩, si_new h1, si_new h2⟩, fun c hcm => ?_, q⟩
  have hle : s1.heap.objs.size ≤ c := by
    rcases (show c = s1.heap.objs.size + 4 ∨ c = s1.heap.objs.size + 2 ∨ c = s1.heap.objs.size + 3 ∨ c = s1.heap.objs.size ∨ c = s1.heap.objs.size + 1 by simpa using hcm) with z | z | z | z | z
    · rw [z]; exact Nat.le_add_right _ _
    · rw [z]; exact Nat.le_add_right _ _
    · rw [z]; exact Nat.le_add_right _ _
    · rw [z]; exact Nat.le_refl _
    · rw [z]; exact Nat.le_add_right _ _
  exact I1.fpOk hle (I1.hok.fresh hle)
def iZ3 (ta : TA) : TI := fun σ H R => ta σ H fun vs H1 => ∃ k1 k2 k3 a b c xs ys zs, vs = [.ref a, .ref b, .ref c] ∧ SqK H1 k1 a xs ∧ SqK H1 k2 b ys ∧ SqK H1 k3 c zs ∧ R (ItZ3 k1 k2 k3 a b c) H1
theorem vals3 {x y z : V} {us : List Value} (r : Vals [x, y, z] us) : ∃ u v w, us = [u, v, w] ∧ RelV x u ∧ RelV y v ∧ RelV z w := by
  cases r with
  | cons h r =>
    obtain ⟨v, w, rfl, h2, h3⟩ := vals2 r
    exact ⟨_, _, _, rfl, h, h2, h3⟩
theorem pi_z3 {e e2 e3 : Expr} {ta : TA} {p pos tpos : Pos} {elts : List Expr} {kk : Nat} (hg : Gl X "zip") (hm : X.mg "zip" = none) (ha : PA X [e, e2, e3] ta)
    (hs : starEach [e, e2, e3] X.env = (false, eval e X.env) :: starEach [e2, e3] X.env) (hpl : (backTo pos (starEach [e2, e3] X.env)).any (·.1) = false) :
    PI X (.Tuple elts kk tpos) (.Call (.Name "zip" p) [e, e2, e3] [] pos) (iZ3 ta) := by
  refine ⟨fun pins s σ H R I h => ?_⟩
  refine Call_ (ld_blt I hg hm PyProof.Rows.boot_zip (PyProof.Rows.callWith_type1 (thn (ha.run pos pins s σ H _ I h) fun us s1 ⟨vs, H1, I1, r1, q1⟩ => ?_) hs hpl))
  obtain ⟨k1, k2, k3, a, b, c, xs, ys, zs, ex, hqx, hqy, hqz, q⟩ := q1
  subst ex
  obtain ⟨u1, u2, u3, rfl, rx, ry, rz⟩ := vals3 r1
  cases rx
  cases ry
  cases rz
  obtain ⟨its, rv, p1, _⟩ := sq_its I1 hqx
  obtain ⟨its2, rv2, p2, _⟩ := sq_its I1 hqy
  obtain ⟨its3, rv3, p3, _⟩ := sq_its I1 hqz
  refine zip_begins3 (begins_sq k1 a its.toArray) (begins_sq k2 b its2.toArray) (begins_sq k3 c its3.toArray) p1 p2 p3 fun h' hz hTI hTO h1 h2 h3 hsz hk => wpAny_pyIter_zip hz ?_
  have I2 : Inv X pins σ H1 { s1 with heap := h' } := I1.kept (t' := s1.toks) hk
  refine ⟨s1.heap.objs.size + 5, [s1.heap.objs.size + 5, s1.heap.objs.size + 3, s1.heap.objs.size + 4, s1.heap.objs.size, s1.heap.objs.size + 1, s1.heap.objs.size + 2], _, _, H1, rfl, I2, turn_z3 k1 k2 k3 (zip_sep3 (by simp) (by simp) (by simp)), ⟨hz, hTI, ⟨_, _, _, hTO⟩, si_new h1, si_new h2, si_new h3⟩, fun d hdm => ?_, q⟩
  have hle : s1.heap.objs.size ≤ d := by
    rcases (show d = s1.heap.objs.size + 5 ∨ d = s1.heap.objs.size + 3 ∨ d = s1.heap.objs.size + 4 ∨ d = s1.heap.objs.size ∨ d = s1.heap.objs.size + 1 ∨ d = s1.heap.objs.size + 2 by simpa using hdm) with z | z | z | z | z | z
    · rw [z]; exact Nat.le_add_right _ _
    · rw [z]; exact Nat.le_add_right _ _
    · rw [z]; exact Nat.le_add_right _ _
    · rw [z]; exact Nat.le_refl _
    · rw [z]; exact Nat.le_add_right _ _
    · rw [z]; exact Nat.le_add_right _ _
  exact I1.fpOk hle (I1.hok.fresh hle)
end
end MlI

set_option Elab.async false
set_option maxRecDepth 10000
set_option linter.all false
set_option maxHeartbeats 2000000
/-! ML: expressions: one rule a construct. -/
namespace ML
open PySem PySem.Spec PyProof.Rows L2

structure MT where
  fname : Nat → Option Str
  fkw : Nat → Bool
  gi : Str → Option Int
  xc : Nat → Option Str
  tr : Option Str
  tm : Option Str
  lm : Nat → LamW → Bool
/-- without the def that tells exceptions, without the raising of TooMany -/
def MT.noTr (M : MT) : MT := { M with tr := none, tm := none, lm := fun _ _ => false }
def bltNames : List Str := ["len", "int", "sum", "min", "max", "tuple", "list", "all", "sorted", "isinstance", "range", "enumerate", "zip", "bool", "str"]

section
variable (RX : PV → Value → Option Addr → Hp → Prop) (FA : Gv)
/-- the wish of an exception, from the representation -/
def exE (E : XK) : XW := fun e _ _ H => ∀ cls d, RX e cls d H → E cls d H
def exK (Ex : XW) : XK := fun cls d H => ∃ e s L, RX e cls d H ∧ Ex e s L H
/-- what a def promises, by the evaluator -/
def spF (C : Calls) (f n : Nat) : Sp := fun vs H Q E => vs.length = n ∧ ∃ L s ps, Sim FA L H s ∧ Reps FA L s.length H ps vs ∧ okA FA (exE RX E) L s.length H (kV FA Q) (C f ps s)
def CallOk (X : Cx) (C : Calls) (k f : Nat) (x : Str) (kw : Bool) : Prop := ∃ (a : Addr) (fd : FuncData) (ps : List Str), X.mg x = some (.ref a) ∧ PySem.W.keepIn X.K (.ref a) = true ∧ FA f = some a ∧
  FnOk X.prog X.w X.K X.mg X.base (L2N.CX X.prog X.w) (k + 2) a fd ps (spF RX FA C f ps.length) ∧ (∀ vs s, C f vs s ≠ .bad → vs.length = ps.length) ∧
  (kw = false → Binds X.K fd ps []) ∧ (kw = true → (∃ ds, Vals [.non] ds ∧ Binds X.K fd ps ds) ∧ ∃ n, ps.length = n + 1 ∧ KBn X.K fd ps n ["patience"] (fun us ws => us ++ ws) (fun vs zs => vs ++ zs))
/-- the def x tells what the lambda that it gets gives or raises -/
def AttOk (X : Cx) (k : Nat) (x : Str) : Prop := ∀ (p lpos pos : Pos) (body : Expr) (scope : Scope) (t : XK → TE), Gl X x → LamX.LamS X.env.scope scope → (∀ E σ H Q Q', (∀ v H', Q v H' → Q' v H') → t E σ H Q → t E σ H Q') →
  (∀ (A : Around) (outer : List PySem.Env) (s : Shared) (H : Hp) (E : XK) (f c' : Addr), Room (k + 2) (A.deeper (LamX.lamEnv X scope s.heap.objs.size f c')) → PE (lamN X A outer s H E scope f c') body (t E)) →
  PE X (.Call (.Name x p) [.Lambda ⟨[], [], none, [], [], none, []⟩ body scope lpos] [] pos) (tLamN FA.tab (TTry FA.cs) t)
/-- x(e) makes a TooMany -/
def TmOk (X : Cx) (x : Str) : Prop := ∃ C : Addr, (∀ i dx H, H dx = some (.xd [("limit", .int i)]) → RX (.exn 10 [.int i]) (.ref C) (some dx) H) ∧
  ∀ (e' : Expr) (te : TE) (p pos : Pos), PE X e' te → Gl X x → (x == ("__debug__" : Str)) = false → starEach [e'] X.env = (false, eval e' X.env) :: starEach [] X.env →
    L2N.PMk X (.Call (.Name x p) [e'] [] pos) (fun σ H Q => te σ H fun v H1 => ∀ dx, H1 dx = none → Q (.ref C) (some dx) (upd H1 dx (.xd [("limit", v)])))
/-- a lambda, running -/
structure LamFn (P : Program) (w : World) (K : PySem.W.Frag) (mg : Str → Option Value) (base : Heap) (CX : CXT) (k : Nat) (W : LamW) (sp : Sp) : Prop where
  len : ∀ vs H Q E, sp vs H Q E → vs.length = 1
  run : ∀ (a c' : Addr) (A : Around) (outer : List PySem.Env) (s : Shared) (H : Hp) (us : List Value) (vs : List V) (Q : VK) (E : XK), Room k A → Env0 P w K mg base A outer s H → H a = some (LamO a W c') → H c' = some (LamX.CodeO c' lamQ) → Vals vs us → sp vs H Q E →
    codeAny (model P w) A (.call (.ref a) ⟨us, []⟩) (CR CX outer P w H s Q E) s
/-- a lambda, made -/
def LamMk (X : Cx) (W : LamW) : Prop := ∀ lpos : Pos, PE X (.Lambda W.params W.body W.scope lpos) (fun σ H Q => LamX.Tabs FA.tab H ∧ ∀ (a c' : Addr) (H1 : Hp), ExtT H H1 → LamX.Tabs FA.tab H1 → H1 a = some (LamO a W c') → H1 c' = some (LamX.CodeO c' lamQ) → Q (.ref a) H1)
structure Ctx (M : MT) (Ex : XW) (C : Calls) (k : Nat) (N : List Str) (sc : Scope) (X : Cx) : Prop where
  hN : X.N = N
  nd : X.N.Nodup
  hsc : X.env.scope = sc
  calm : X.calm = true
  hr : Room (k + 2) X.A
  own : PassesOwn (model X.prog X.w) X.A X.env X.xe
  blt : ∀ x ∈ bltNames, X.mg x = none
  gint : ∀ x i, M.gi x = some i → ∃ t, X.mg x = some (.int i t)
  call : ∀ f x, M.fname f = some x → CallOk RX FA X C k f x (M.fkw f)
  pass : Passes (L2N.CX X.prog X.w) X (exK RX Ex)
  takes : L2N.Takes X (fun cls d _ H => exK RX Ex cls d H)
  xc : ∀ c x, M.xc c = some x → ∃ C, X.mg x = some (.ref C) ∧ PySem.W.excIn X.K C vTail "ValueError.__new__" = true ∧ PySem.W.keepIn X.K (.ref C) = true ∧ Raises X (.ref C) ∧ ∀ H, RX (.exn c []) (.ref C) none H
  rx : ∀ c cls d H, RX (.exn c []) cls d H → d = none ∧ ∃ C, FA.cs[c]? = some C ∧ cls = .ref C
  rx1 : ∀ i cls d H, RX (.exn 10 [.int i]) cls d H → ∃ dx C, d = some dx ∧ FA.cs[10]? = some C ∧ cls = .ref C ∧ H dx = some (.xd [("limit", .int i)])
  att : ∀ x, M.tr = some x → AttOk FA X k x
  tm : ∀ x, M.tm = some x → TmOk RX X x
  lmv : ∀ f W, M.lm f W = true → FA.lm f W = true ∧ LamMk FA X W
  clo : ∀ f W, FA.lm f W = true → LamFn X.prog X.w X.K X.mg X.base (L2N.CX X.prog X.w) (k + 2) W (spF RX FA C f 1) ∧ (∀ vs s, C f vs s ≠ .bad → vs.length = 1)
end

def visB (sc : Scope) (x : Str) : Bool := match sc.names.lookup x with
  | some .local => true
  | some .cell => true
  | some .free => true
  | _ => false
def globB (sc : Scope) (x : Str) : Bool := match sc.names.lookup x with
  | some .globalImplicit => true
  | _ => false
def plainN (x : Str) : Bool := !(x == ("__debug__" : Str)) && !(x == ("__classdict__" : Str)) && decide (x ≠ ("__name__" : Str))
def notStar : Expr → Bool
  | .Starred _ _ => false
  | _ => true
theorem vis_of {sc : Scope} {x : Str} (h : visB sc x = true) : Vis sc x := by
  unfold visB at h
  unfold Vis
  split at h <;> simp_all
theorem plain_of {x : Str} (h : plainN x = true) : (x == ("__debug__" : Str)) = false ∧ (x == ("__classdict__" : Str)) = false ∧ x ≠ "__name__" := by
  unfold plainN at h
  simp only [Bool.and_eq_true, Bool.not_eq_true', decide_eq_true_eq] at h
  exact ⟨h.1.1, h.1.2, h.2⟩
theorem star_cons {e : Expr} {es : List Expr} {env : PySem.Env} (h : notStar e = true) : starEach (e :: es) env = (false, eval e env) :: starEach es env := by
  cases e <;> first
    | rfl
    | cases h
theorem star_any {env : PySem.Env} {pos : Pos} : ∀ {es : List Expr}, es.all notStar = true → (backTo pos (starEach es env)).any (·.1) = false
  | [], _ => rfl
  | e :: es, h => by
    rw [List.all_cons, Bool.and_eq_true] at h
    rw [star_cons h.1]
    show (false || (backTo pos (starEach es env)).any (·.1)) = false
    rw [star_any h.2]
    rfl
theorem star_all {env : PySem.Env} {pos : Pos} : ∀ {es : List Expr}, es.all notStar = true → (backTo pos (starEach es env)).all (fun x => !x.1) = true
  | [], _ => rfl
  | e :: es, h => by
    rw [List.all_cons, Bool.and_eq_true] at h
    rw [star_cons h.1]
    show (true && (backTo pos (starEach es env)).all (fun x => !x.1)) = true
    rw [star_all h.2]
    rfl

section
variable {RX : PV → Value → Option Addr → Hp → Prop} {FA : Gv} {M : MT} {Ex : XW} {C : Calls} {k : Nat} {N : List Str} {sc : Scope} {X : Cx}
variable {a b c : E} {a' b' c' : Expr} {pos : Pos}
theorem Ctx.glob (cx : Ctx RX FA M Ex C k N sc X) {x : Str} (h : globB sc x = true) : Gl X x := by
  unfold globB at h
  show X.env.scope.names.lookup x = some .globalImplicit
  rw [cx.hsc]
  split at h <;> simp_all
theorem Ctx.units (cx : Ctx RX FA M Ex C k N sc X) : X.A.units + 64 < cLine := cx.hr.units

theorem pe_m_var (cx : Ctx RX FA M Ex C k N sc X) {i : Nat} {x : Str} {p : Pos} (h1 : N[i]? = some x) (h2 : visB sc x = true) (h3 : plainN x = true) : PE X (.Name x p) (tE FA Ex C (.var i)) := by
  obtain ⟨d1, d2, _⟩ := plain_of h3
  refine pe_imp (pe_var (i := i) (by rw [cx.hN]; exact h1) (by rw [cx.hsc]; exact vis_of h2) d1 d2) fun σ H Q h => ?_
  obtain ⟨L, r, s, hE, hS, h⟩ := h
  simp only [evE] at h
  split at h
  · rename_i v e
    obtain ⟨w, e1, rv⟩ := hE.at_ i v e
    exact ⟨w, e1, h.at hS w rv⟩
  · exact h.elim
theorem pe_m_int {i : Int} {j : Nat} : PE X (.Constant (.int i) j pos) (tE FA Ex C (.int i)) :=
  pe_imp pe_int fun σ H Q ⟨L, r, s, hE, hS, h⟩ => okA.at h hS _ (.int i)
theorem pe_m_bl {i : Bool} {j : Nat} : PE X (.Constant (.bool i) j pos) (tE FA Ex C (.bl i)) :=
  pe_imp pe_bl fun σ H Q ⟨L, r, s, hE, hS, h⟩ => okA.at h hS _ (.bl i)
theorem pe_m_non {j : Nat} : PE X (.Constant .none j pos) (tE FA Ex C .non) :=
  pe_imp pe_non fun σ H Q ⟨L, r, s, hE, hS, h⟩ => okA.at h hS _ .non
theorem pe_m_str {x : Str} {j : Nat} : PE X (.Constant (.str x) j pos) (tE FA Ex C (.str x)) :=
  pe_imp pe_str fun σ H Q ⟨L, r, s, hE, hS, h⟩ => okA.at h hS _ (.str x)
theorem pe_m_gint (cx : Ctx RX FA M Ex C k N sc X) {x : Str} {i : Int} {p : Pos} (h1 : globB sc x = true) (h2 : M.gi x = some i) (h3 : plainN x = true) : PE X (.Name x p) (tE FA Ex C (.gint x i)) := by
  obtain ⟨t, e⟩ := cx.gint x i h2
  exact pe_imp (pe_glob (v := .int i) (cx.glob h1) e ⟨t, rfl⟩ (plain_of h3).1) fun σ H Q ⟨L, r, s, hE, hS, h⟩ => okA.at h hS _ (.int i)
theorem pe_m_fn (cx : Ctx RX FA M Ex C k N sc X) {x : Str} {f : Nat} {p : Pos} (h1 : globB sc x = true) (h2 : M.fname f = some x) (h3 : plainN x = true) : PE X (.Name x p) (tE FA Ex C (.fn f)) := by
  obtain ⟨a, fd, ps, e1, _, e2, _⟩ := cx.call f x h2
  exact pe_imp (pe_glob (v := .ref a) (cx.glob h1) e1 rfl (plain_of h3).1) fun σ H Q ⟨L, r, s, hE, hS, h⟩ => okA.at h hS _ (.fn e2)
theorem pe_m_bin {o : BOp} (ha : PE X a' (tE FA Ex C a)) (hb : PE X b' (tE FA Ex C b)) : PE X (.BinOp a' (opOf o) b' pos) (tE FA Ex C (.bin o a b)) := by
  refine pe_imp (pe_op (op_B (FA := FA) (Ex := Ex) o) ha hb) fun σ H Q h => ?_
  obtain ⟨L, r, s, hE, hS, h⟩ := h
  refine first_E hE hS h fun p s1 L1 H1 v hE1 hS1 st1 rv h1 => ?_
  refine first_E hE1 hS1 h1 fun q s2 L2 H2 w hE2 hS2 st2 rw h2 => ?_
  exact ⟨L2, s2, p, q, hS2, rv.up st2, rw, h2⟩
theorem pe_m_neg (ha : PE X a' (tE FA Ex C a)) : PE X (.UnaryOp .USub a' pos) (tE FA Ex C (.neg a)) := by
  refine pe_imp (pe_un un_neg ha) fun σ H Q h => ?_
  obtain ⟨L, r, s, hE, hS, h⟩ := h
  refine first_E hE hS h fun p s1 L1 H1 v hE1 hS1 st1 rv h1 => ?_
  split at h1
  · cases rv
    exact ⟨_, rfl, h1.at hS1 _ (.int _)⟩
  · exact h1.elim
theorem pe_m_cmp (cx : Ctx RX FA M Ex C k N sc X) {o : COp} (ha : PE X a' (tE FA Ex C a)) (hb : PE X b' (tE FA Ex C b)) (hm : behindInMarks (cOf o) b' = false) : PE X (.Compare a' [cOf o] [b'] pos) (tE FA Ex C (.cmp o a b)) := by
  refine pe_imp (pe_cmpR (op_C (FA := FA) (Ex := Ex) cx.units o) ha hb hm) fun σ H Q h => ?_
  obtain ⟨L, r, s, hE, hS, h⟩ := h
  refine first_E hE hS h fun p s1 L1 H1 v hE1 hS1 st1 rv h1 => ?_
  refine first_E hE1 hS1 h1 fun q s2 L2 H2 w hE2 hS2 st2 rw h2 => ?_
  exact ⟨L2, s2, p, q, hS2, rv.up st2, rw, h2⟩
theorem pe_m_cmpl (cx : Ctx RX FA M Ex C k N sc X) {n : Bool} (ha : PE X a' (tE FA Ex C a)) (hb : PE X b' (tE FA Ex C b)) (hm : behindInMarks (cOf (if n then .ne else .eq)) b' = false) : PE X (.Compare a' [cOf (if n then .ne else .eq)] [b'] pos) (tE FA Ex C (.cmpl n a b)) := by
  refine pe_imp (pe_cmpR (op_Cl (FA := FA) (Ex := Ex) cx.units n) ha hb hm) fun σ H Q h => ?_
  obtain ⟨L, r, s, hE, hS, h⟩ := h
  refine first_E hE hS h fun p s1 L1 H1 v hE1 hS1 st1 rv h1 => ?_
  refine first_E hE1 hS1 h1 fun q s2 L2 H2 w hE2 hS2 st2 rw h2 => ?_
  exact ⟨L2, s2, p, q, hS2, rv.up st2, rw, h2⟩
theorem truth_bind {α : Type} (x : Res α) (f : α → Store → Res PV) : truth (x.bind f) = x.bind fun a s => truth (f a s) := by
  cases x <;> rfl
theorem pt_m_cmp (cx : Ctx RX FA M Ex C k N sc X) {o : COp} (ha : PE X a' (tE FA Ex C a)) (hb : PE X b' (tE FA Ex C b)) (hm : behindInMarks (cOf o) b' = false) : PT X (.Compare a' [cOf o] [b'] pos) (tT FA Ex C (.cmp o a b)) := by
  refine pt_imp (pt_cmpR (op_C (FA := FA) (Ex := Ex) cx.units o) ha hb hm) fun σ H Q h => ?_
  obtain ⟨L, r, s, hE, hS, h⟩ := h
  have h : okA FA Ex L s.length H (kB Q) (truth (evE C (.cmp o a b) r s)) := h
  simp only [evE, truth_bind] at h
  refine first_E hE hS h fun p s1 L1 H1 v hE1 hS1 st1 rv h1 => ?_
  refine first_E hE1 hS1 h1 fun q s2 L2 H2 w hE2 hS2 st2 rw h2 => ?_
  refine ⟨L2, s2, p, q, hS2, rv.up st2, rw, ?_⟩
  cases e : opC o p q with
  | none => rw [e] at h2; exact h2.elim
  | some d =>
    rw [e] at h2
    intro L3 H3 st3 sm3 z rz
    exact ⟨d, rep_bl rz, h2 L3 H3 st3 sm3⟩
theorem pt_m_cmpl (cx : Ctx RX FA M Ex C k N sc X) {n : Bool} (ha : PE X a' (tE FA Ex C a)) (hb : PE X b' (tE FA Ex C b)) (hm : behindInMarks (cOf (if n then .ne else .eq)) b' = false) : PT X (.Compare a' [cOf (if n then .ne else .eq)] [b'] pos) (tT FA Ex C (.cmpl n a b)) := by
  refine pt_imp (pt_cmpR (op_Cl (FA := FA) (Ex := Ex) cx.units n) ha hb hm) fun σ H Q h => ?_
  obtain ⟨L, r, s, hE, hS, h⟩ := h
  have h : okA FA Ex L s.length H (kB Q) (truth (evE C (.cmpl n a b) r s)) := h
  simp only [evE, truth_bind] at h
  refine first_E hE hS h fun p s1 L1 H1 v hE1 hS1 st1 rv h1 => ?_
  refine first_E hE1 hS1 h1 fun q s2 L2 H2 w hE2 hS2 st2 rw h2 => ?_
  refine ⟨L2, s2, p, q, hS2, rv.up st2, rw, ?_⟩
  cases e : opCl n s2 p q with
  | none => rw [e] at h2; exact h2.elim
  | some d =>
    rw [e] at h2
    intro L3 H3 st3 sm3 z rz
    exact ⟨d, rep_bl rz, h2 L3 H3 st3 sm3⟩
theorem chain_ok {o o' : COp} {σ : L2.St} {H : Hp} {Q : VK} (h : tE FA Ex C (.chain o o' a b c) σ H Q) :
    tChain (rC FA Ex o) (rC FA Ex o') (tE FA Ex C a) (tE FA Ex C b) (tE FA Ex C c) σ H Q := by
  obtain ⟨L, r, s, hE, hS, h⟩ := h
  refine first_E hE hS h fun p s1 L1 H1 v hE1 hS1 st1 rv h1 => ?_
  refine first_E hE1 hS1 h1 fun q s2 L2 H2 w hE2 hS2 st2 rw h2 => ?_
  refine ⟨L2, s2, p, q, hS2, rv.up st2, rw, ?_⟩
  cases e : opC o p q with
  | none => rw [e] at h2; exact h2.elim
  | some d =>
    rw [e] at h2
    intro L3 H3 st3 sm3 z rz
    refine ⟨d, rep_bl rz, ?_⟩
    cases d with
    | false =>
      rw [if_neg Bool.false_ne_true]
      exact h2 L3 H3 st3 sm3 _ (.bl _)
    | true =>
      rw [if_pos rfl]
      refine first_E (hE2.up st3) sm3 (okA.step h2 st3) fun u s4 L4 H4 y hE4 hS4 st4 ry h4 => ?_
      exact ⟨L4, s4, q, u, hS4, (rw.up st3).up st4, ry, h4⟩
theorem pe_m_chain (cx : Ctx RX FA M Ex C k N sc X) {o o' : COp} (ha : PE X a' (tE FA Ex C a)) (hb : PE X b' (tE FA Ex C b)) (hc : PE X c' (tE FA Ex C c)) (hm : lastMarks [cOf o, cOf o'] [b', c'] = false) :
    PE X (.Compare a' [cOf o, cOf o'] [b', c'] pos) (tE FA Ex C (.chain o o' a b c)) :=
  pe_imp (pe_chain (op_C (FA := FA) (Ex := Ex) cx.units o) (op_C (FA := FA) (Ex := Ex) cx.units o') ha hb hc hm) fun σ H Q h => chain_ok h
/-- a test of what a value gives -/
theorem tT_val {e : E} {σ : L2.St} {H : Hp} {Q : Bool → Hp → Prop} (h : tT FA Ex C e σ H Q) : tE FA Ex C e σ H fun x H' => ∃ d, x = .bl d ∧ Q d H' := by
  obtain ⟨L, r, s, hE, hS, h⟩ := h
  refine ⟨L, r, s, hE, hS, (okA.bind h).mono fun p s1 L1 H1 st sm q v rv => ?_⟩
  split at q
  · exact ⟨_, rep_bl rv, q.at sm⟩
  · exact q.elim
theorem pt_m_chain (cx : Ctx RX FA M Ex C k N sc X) {o o' : COp} (ha : PE X a' (tE FA Ex C a)) (hb : PE X b' (tE FA Ex C b)) (hc : PE X c' (tE FA Ex C c)) (hm : lastMarks [cOf o, cOf o'] [b', c'] = false) :
    PT X (.Compare a' [cOf o, cOf o'] [b', c'] pos) (tT FA Ex C (.chain o o' a b c)) :=
  pt_imp (pt_chain (op_C (FA := FA) (Ex := Ex) cx.units o) (op_C (FA := FA) (Ex := Ex) cx.units o') ha hb hc hm) fun σ H Q h => chain_ok (tT_val h)
theorem pt_m_val {e : E} {e' : Expr} (h : PE X e' (tE FA Ex C e)) (he : ∀ whole, isTrue e' X.env whole = (do let v ← whole; standAt e'.pos; holding [v] (truthy v))) : PT X e' (tT FA Ex C e) :=
  pt_imp (pt_val h he) fun σ H Q h => tT_val h
/-! and, or, not, if -/
theorem pe_m_and {rest : List Expr} (ha : PE X a' (tE FA Ex C a)) (hb : PE X (.BoolOp .And (b' :: rest) pos) (tE FA Ex C b)) : PE X (.BoolOp .And (a' :: b' :: rest) pos) (tE FA Ex C (.and_ a b)) := by
  refine pe_imp (pe_and ha hb) fun σ H Q h => ?_
  obtain ⟨L, r, s, hE, hS, h⟩ := h
  have h : okA FA Ex L s.length H (kV FA Q) (evE C (.and_ a b) r s) := h
  simp only [evE] at h
  refine tT_val (Q := fun d H1 => if d = true then tE FA Ex C b σ H1 Q else Q (.bl false) H1) (first_T hE hS h fun d s1 L1 H1 hE1 hS1 st1 h1 => ?_)
  cases d with
  | true =>
    rw [if_pos rfl]
    exact ⟨L1, r, s1, hE1, hS1, h1⟩
  | false =>
    rw [if_neg Bool.false_ne_true]
    exact okA.at h1 hS1 _ (.bl _)
theorem pe_m_or {rest : List Expr} (ha : PE X a' (tE FA Ex C a)) (hb : PE X (.BoolOp .Or (b' :: rest) pos) (tE FA Ex C b)) : PE X (.BoolOp .Or (a' :: b' :: rest) pos) (tE FA Ex C (.or_ a b)) := by
  refine pe_imp (pe_or ha hb) fun σ H Q h => ?_
  obtain ⟨L, r, s, hE, hS, h⟩ := h
  have h : okA FA Ex L s.length H (kV FA Q) (evE C (.or_ a b) r s) := h
  simp only [evE] at h
  refine tT_val (Q := fun d H1 => if d = true then Q (.bl true) H1 else tE FA Ex C b σ H1 Q) (first_T hE hS h fun d s1 L1 H1 hE1 hS1 st1 h1 => ?_)
  cases d with
  | false =>
    rw [if_neg Bool.false_ne_true]
    exact ⟨L1, r, s1, hE1, hS1, h1⟩
  | true =>
    rw [if_pos rfl]
    exact okA.at h1 hS1 _ (.bl _)
theorem pe_m_not (ha : PE X a' (tE FA Ex C a)) : PE X (.UnaryOp .Not a' pos) (tE FA Ex C (.not_ a)) := by
  refine pe_imp (pe_not ha) fun σ H Q h => ?_
  obtain ⟨L, r, s, hE, hS, h⟩ := h
  have h : okA FA Ex L s.length H (kV FA Q) (evE C (.not_ a) r s) := h
  simp only [evE] at h
  exact tT_val (Q := fun d H1 => Q (.bl (!d)) H1) (first_T hE hS h fun d s1 L1 H1 hE1 hS1 st1 h1 => okA.at h1 hS1 _ (.bl _))
theorem pt_m_not (ha : PT X a' (tT FA Ex C a)) : PT X (.UnaryOp .Not a' pos) (tT FA Ex C (.not_ a)) := by
  refine pt_imp (pt_not ha) fun σ H Q h => ?_
  obtain ⟨L, r, s, hE, hS, h⟩ := h
  have h : okA FA Ex L s.length H (kB Q) (truth (evE C (.not_ a) r s)) := h
  simp only [evE, truth_bind] at h
  exact first_T hE hS h fun d s1 L1 H1 hE1 hS1 st1 h1 => okA.at h1 hS1
theorem pw_m_and {rest : List Expr} (ha : PT X a' (tT FA Ex C a)) (hb : PW X (.BoolOp .And (b' :: rest) pos) (tT FA Ex C b)) : PW X (.BoolOp .And (a' :: b' :: rest) pos) (tT FA Ex C (.and_ a b)) := by
  refine pw_imp (pw_and ha hb) fun σ H Q h => ?_
  obtain ⟨L, r, s, hE, hS, h⟩ := h
  have h : okA FA Ex L s.length H (kB Q) (truth (evE C (.and_ a b) r s)) := h
  simp only [evE, truth_bind] at h
  refine first_T hE hS h fun d s1 L1 H1 hE1 hS1 st1 h1 => ?_
  cases d with
  | true =>
    rw [if_pos rfl]
    exact ⟨L1, r, s1, hE1, hS1, h1⟩
  | false =>
    rw [if_neg Bool.false_ne_true]
    exact okA.at h1 hS1
theorem pw_m_or {rest : List Expr} (ha : PT X a' (tT FA Ex C a)) (hb : PW X (.BoolOp .Or (b' :: rest) pos) (tT FA Ex C b)) : PW X (.BoolOp .Or (a' :: b' :: rest) pos) (tT FA Ex C (.or_ a b)) := by
  refine pw_imp (pw_or ha hb) fun σ H Q h => ?_
  obtain ⟨L, r, s, hE, hS, h⟩ := h
  have h : okA FA Ex L s.length H (kB Q) (truth (evE C (.or_ a b) r s)) := h
  simp only [evE, truth_bind] at h
  refine first_T hE hS h fun d s1 L1 H1 hE1 hS1 st1 h1 => ?_
  cases d with
  | false =>
    rw [if_neg Bool.false_ne_true]
    exact ⟨L1, r, s1, hE1, hS1, h1⟩
  | true =>
    rw [if_pos rfl]
    exact okA.at h1 hS1
theorem pe_m_ite (hc : PT X c' (tT FA Ex C c)) (ha : PE X a' (tE FA Ex C a)) (hb : PE X b' (tE FA Ex C b)) : PE X (.IfExp c' a' b' pos) (tE FA Ex C (.ite c a b)) := by
  refine pe_imp (pe_ifExp hc ha hb) fun σ H Q h => ?_
  obtain ⟨L, r, s, hE, hS, h⟩ := h
  have h : okA FA Ex L s.length H (kV FA Q) (evE C (.ite c a b) r s) := h
  simp only [evE] at h
  refine first_T hE hS h fun d s1 L1 H1 hE1 hS1 st1 h1 => ?_
  cases d with
  | true =>
    rw [if_pos rfl]
    exact ⟨L1, r, s1, hE1, hS1, h1⟩
  | false =>
    rw [if_neg Bool.false_ne_true]
    exact ⟨L1, r, s1, hE1, hS1, h1⟩
/-! arguments, displays -/
variable {es : Es} {es' : List Expr}
theorem pa_m_nil : PA X [] (tA FA Ex C .nil) :=
  pa_imp pa_nil fun σ H Q ⟨L, r, s, hE, hS, h⟩ => okA.at h hS _ .nil
theorem pa_m_cons (hs : notStar a' = true) (ha : PE X a' (tE FA Ex C a)) (hr : PA X es' (tA FA Ex C es)) : PA X (a' :: es') (tA FA Ex C (.cons a es)) := by
  refine pa_imp (pa_cons ha hr (star_cons hs)) fun σ H Q h => ?_
  obtain ⟨L, r, s, hE, hS, h⟩ := h
  have h : okA FA Ex L s.length H (kL FA Q) (evEs C (.cons a es) r s) := h
  simp only [evEs] at h
  refine first_E hE hS h fun p s1 L1 H1 v hE1 hS1 st1 rv h1 => ?_
  refine first_A hE1 hS1 h1 fun ps s2 L2 H2 vs hE2 hS2 st2 rvs h2 => ?_
  exact okA.at h2 hS2 _ (.cons (rv.up st2) rvs)
def Es.len : Es → Nat
  | .nil => 0
  | .cons _ r => r.len + 1
theorem evEs_len : ∀ (es : Es) (r : Env) (s : Store) (vs : List PV) (s1 : Store), evEs C es r s = .ok vs s1 → vs.length = es.len
  | .nil, r, s, vs, s1, h => by
    simp only [evEs] at h
    cases h
    rfl
  | .cons e es, r, s, vs, s1, h => by
    simp only [evEs] at h
    cases h1 : evE C e r s with
    | ok v s2 =>
      rw [h1, Res.bind_ok] at h
      cases h2 : evEs C es r s2 with
      | ok ws s3 =>
        rw [h2, Res.bind_ok] at h
        cases h
        show ws.length + 1 = es.len + 1
        rw [evEs_len es r s2 ws _ h2]
      | exc x s3 => rw [h2] at h; cases h
      | bad => rw [h2] at h; cases h
    | exc x s2 => rw [h1] at h; cases h
    | bad => rw [h1] at h; cases h
theorem tA_len {es : Es} {r : Env} {s : Store} {L : Nm} {n : Nat} {H : Hp} {K : KW (List PV)} (h : okA FA Ex L n H K (evEs C es r s)) : okA FA Ex L n H (fun ps s L' H' => ps.length = es.len ∧ K ps s L' H') (evEs C es r s) := by
  cases e : evEs C es r s with
  | ok vs s1 =>
    rw [e] at h
    exact fun L' H' st sm => ⟨evEs_len es r s vs s1 e, h L' H' st sm⟩
  | exc x s1 => rw [e] at h; exact h
  | bad => rw [e] at h; exact h
theorem pe_m_tup {kk : Nat} (hz : es.len ≤ 1000) (h : PA X es' (tA FA Ex C es)) : PE X (.Tuple es' kk pos) (tE FA Ex C (.tup es)) := by
  refine pe_imp (pe_tup h) fun σ H Q h => ?_
  obtain ⟨L, r, s, hE, hS, h⟩ := h
  have h : okA FA Ex L s.length H (kV FA Q) (evE C (.tup es) r s) := h
  simp only [evE] at h
  refine ⟨L, r, s, hE, hS, (tA_len h.bind).mono fun ps s1 L1 H1 st sm q vs rvs => ?_⟩
  refine ⟨?_, fun p hp => q.2 _ _ (Step.alloc hp) (sm.alloc hp) _ (.tup upd_same (rvs.up (Step.alloc hp)))⟩
  rw [← rvs.length, q.1]
  exact Nat.le_trans hz (by decide)
theorem pe_m_lst (hz : es.len ≤ 1000) (h : PA X es' (tA FA Ex C es)) : PE X (.List es' pos) (tE FA Ex C (.lst es)) := by
  refine pe_imp (pe_lst h) fun σ H Q h => ?_
  obtain ⟨L, r, s, hE, hS, h⟩ := h
  have h : okA FA Ex L s.length H (kV FA Q) (evE C (.lst es) r s) := h
  simp only [evE] at h
  refine ⟨L, r, s, hE, hS, (tA_len h.bind).mono fun ps s1 L1 H1 st sm q vs rvs => ?_⟩
  refine ⟨?_, fun p hp => q.2 _ _ (Step.alloc hp) (sm.alloc hp) _ (.lst (.inl upd_same) (sm.free hp) (rvs.up (Step.alloc hp)))⟩
  rw [← rvs.length, q.1]
  exact Nat.le_trans hz (by decide)
theorem pe_m_newl (hz : es.len ≤ 1000) (h : PA X es' (tA FA Ex C es)) : PE X (.List es' pos) (tE FA Ex C (.newl es)) := by
  refine pe_imp (pe_lst h) fun σ H Q h => ?_
  obtain ⟨L, r, s, hE, hS, h⟩ := h
  have h : okA FA Ex L s.length H (kV FA Q) (evE C (.newl es) r s) := h
  simp only [evE] at h
  refine ⟨L, r, s, hE, hS, (tA_len h.bind).mono fun ps s1 L1 H1 st sm q vs rvs => ?_⟩
  refine ⟨?_, fun p hp => ?_⟩
  · rw [← rvs.length, q.1]
    exact Nat.le_trans hz (by decide)
  · have q2 := q.2
    unfold made at q2
    rw [if_pos rfl] at q2
    split at q2
    · rename_i hn
      have st2 : Step L1 s1.length H1 (ext L1 s1.length p) (s1 ++ [Obj.lst ps]).length (upd H1 p (.lst vs)) := by
        rw [List.length_append]
        exact Step.grow hp
      refine q2 _ _ st2 (sm.grow hp rvs hn) _ ?_
      have z : Rep FA (ext L1 s1.length p) (s1 ++ [Obj.lst ps]).length (upd H1 p (.lst vs)) (.loc s1.length) (.ref ((ext L1 s1.length p) s1.length)) := .loc (by simp)
      rw [ext_at] at z
      exact z
    · exact q2.elim
/-! subscripts, slices -/
def plainIx : Expr → Bool
  | .Slice _ _ _ _ => false
  | _ => true
theorem ix_plain {b' : Expr} (h : plainIx b' = true) : PlainIx b' := fun o i => by
  cases b' <;> first
    | rfl
    | cases h
theorem pe_m_ix (ha : PE X a' (tE FA Ex C a)) (hb : PE X b' (tE FA Ex C b)) (hp : plainIx b' = true) : PE X (.Subscript a' b' pos) (tE FA Ex C (.ix a b)) := by
  refine pe_imp (pe_ix (ix_I (FA := FA) (Ex := Ex)) ha hb (ix_plain hp)) fun σ H Q h => ?_
  obtain ⟨L, r, s, hE, hS, h⟩ := h
  refine first_E hE hS h fun p s1 L1 H1 v hE1 hS1 st1 rv h1 => ?_
  refine first_E hE1 hS1 h1 fun q s2 L2 H2 w hE2 hS2 st2 rw h2 => ?_
  split at h2
  · exact ⟨L2, s2, p, _, hS2, rv.up st2, rep_int rw, h2⟩
  · exact h2.elim
def tO (FA : Gv) (Ex : XW) (C : Calls) (o : Oe) : TO := fun σ H Q => from_ FA Ex (evO C o) (fun i _ _ H' => Q i H') σ H
theorem po_m_no : PO X none (tO FA Ex C .no) := by
  have h := po_none (X := X)
  exact ⟨fun pins s σ H Q I ⟨L, r, st, hE, hS, q⟩ => h.run pins s σ H Q I (okA.at q hS)⟩
theorem po_m_yes (ha : PE X a' (tE FA Ex C a)) : PO X (some a') (tO FA Ex C (.yes a)) := by
  have h := po_some ha
  refine ⟨fun pins s σ H Q I q => h.run pins s σ H Q I ?_⟩
  obtain ⟨L, r, st, hE, hS, q⟩ := q
  have q : okA FA Ex L st.length H (fun i _ _ H' => Q i H') (evO C (.yes a) r st) := q
  simp only [evO] at q
  refine first_E hE hS q fun p s1 L1 H1 v hE1 hS1 st1 rv h1 => ?_
  split at h1
  · exact ⟨_, rep_int rv, h1.at hS1⟩
  · exact h1.elim
theorem pe_m_slice {lo hi : Oe} {lo' hi' : Option Expr} {p2 : Pos} (ha : PE X a' (tE FA Ex C a)) (hl : PO X lo' (tO FA Ex C lo)) (hh : PO X hi' (tO FA Ex C hi)) : PE X (.Subscript a' (.Slice lo' hi' none p2) pos) (tE FA Ex C (.slice a lo hi)) := by
  refine pe_imp (pe_slice (sl_I (FA := FA) (Ex := Ex)) ha hl hh) fun σ H Q h => ?_
  obtain ⟨L, r, s, hE, hS, h⟩ := h
  refine first_E hE hS h fun p s1 L1 H1 v hE1 hS1 st1 rv h1 => ?_
  refine ⟨L1, r, s1, hE1, hS1, (okA.bind h1).mono fun l s2 L2 H2 st2 sm2 h2 => ?_⟩
  refine ⟨L2, r, s2, hE1.up st2, sm2, (okA.bind h2).mono fun u s3 L3 H3 st3 sm3 h3 => ?_⟩
  exact ⟨L3, s3, p, sm3, (rv.up st2).up st3, h3⟩
end
end ML

set_option Elab.async false
set_option maxRecDepth 10000
set_option linter.all false
set_option maxHeartbeats 2000000
/-! ML: calls, lists changed, walks, comprehensions. -/
namespace ML
open PySem PySem.Spec PyProof.Rows L2
section
variable {RX : PV → Value → Option Addr → Hp → Prop} {FA : Gv} {M : MT} {Ex : XW} {C : Calls} {k : Nat} {N : List Str} {sc : Scope} {X : Cx}
variable {a b c : E} {a' b' c' : Expr} {pos : Pos} {es : Es} {es' : List Expr}
theorem okA.exk {L : Nm} {n : Nat} {H : Hp} {K : KW PV} {x : Res PV} (h : okA FA Ex L n H K x) : okA FA (exE RX (exK RX Ex)) L n H K x := by
  cases x with
  | ok a s => exact h
  | exc e s => exact fun L' H' st sm cls d rx => ⟨e, s, L', rx, h L' H' st sm⟩
  | bad => exact h
theorem okA.nobad {α : Type} {L : Nm} {n : Nat} {H : Hp} {K : KW α} {x : Res α} (h : okA FA Ex L n H K x) : x ≠ .bad := fun e => by
  rw [e] at h
  exact h
/-- the callee's promise -/
theorem sp_of {f n : Nat} {L : Nm} {s : Store} {H : Hp} {ps : List PV} {vs : List V} {Q : VK} (hS : Sim FA L H s) (r : Reps FA L s.length H ps vs) (hl : ∀ vs s, C f vs s ≠ .bad → vs.length = n) (h : okA FA Ex L s.length H (kV FA Q) (C f ps s)) :
    spF RX FA C f n vs H Q (exK RX Ex) := ⟨by rw [← r.length]; exact hl ps s h.nobad, L, s, ps, hS, r, h.exk⟩
theorem pe_m_call0 (cx : Ctx RX FA M Ex C k N sc X) {f : Nat} {x : Str} {p : Pos} (h1 : globB sc x = true) (h2 : M.fname f = some x) (h3 : plainN x = true) (hk : M.fkw f = false) :
    PE X (.Call (.Name x p) [] [] pos) (tE FA Ex C (.call f .nil .no)) := by
  obtain ⟨fa, fd, ps, e1, e2, e3, F, hl, hb, _⟩ := cx.call f x h2
  refine pe_imp (pe_call0 F cx.hr (cx.glob h1) e1 e2 (hb hk) .nil cx.pass (plain_of h3).1) fun σ H Q h => ?_
  obtain ⟨L, r, s, hE, hS, h⟩ := h
  have h : okA FA Ex L s.length H (kV FA Q) (evE C (.call f .nil .no) r s) := h
  simp only [evE, evEs, evK, Res.bind_ok, List.append_nil] at h
  exact sp_of (RX := RX) hS .nil hl h
theorem pe_m_call (cx : Ctx RX FA M Ex C k N sc X) {f : Nat} {x : Str} {p : Pos} (h1 : globB sc x = true) (h2 : M.fname f = some x) (h3 : plainN x = true) (hk : M.fkw f = false) (hs : (a' :: es').all notStar = true) (ha : PA X (a' :: es') (tA FA Ex C es)) :
    PE X (.Call (.Name x p) (a' :: es') [] pos) (tE FA Ex C (.call f es .no)) := by
  obtain ⟨fa, fd, ps, e1, e2, e3, F, hl, hb, _⟩ := cx.call f x h2
  rw [List.all_cons, Bool.and_eq_true] at hs
  refine pe_imp (pe_call F cx.hr (cx.glob h1) e1 e2 (hb hk) .nil cx.pass ha (plain_of h3).1 (star_cons hs.1) (star_any hs.2)) fun σ H Q h => ?_
  obtain ⟨L, r, s, hE, hS, h⟩ := h
  have h : okA FA Ex L s.length H (kV FA Q) (evE C (.call f es .no) r s) := h
  simp only [evE, evK, Res.bind_ok, List.append_nil] at h
  refine first_A hE hS h fun qs s1 L1 H1 vs hE1 hS1 st1 rvs h1 => ?_
  rw [List.append_nil]
  exact sp_of (RX := RX) hS1 rvs hl h1
theorem pe_m_callD (cx : Ctx RX FA M Ex C k N sc X) {f : Nat} {x : Str} {p : Pos} (h1 : globB sc x = true) (h2 : M.fname f = some x) (h3 : plainN x = true) (hk : M.fkw f = true) (hs : (a' :: es').all notStar = true) (ha : PA X (a' :: es') (tA FA Ex C es)) :
    PE X (.Call (.Name x p) (a' :: es') [] pos) (tE FA Ex C (.call f es .dfl)) := by
  obtain ⟨fa, fd, ps, e1, e2, e3, F, hl, _, hb⟩ := cx.call f x h2
  obtain ⟨⟨ds, hv, hb⟩, _⟩ := hb hk
  rw [List.all_cons, Bool.and_eq_true] at hs
  refine pe_imp (pe_call F cx.hr (cx.glob h1) e1 e2 hb hv cx.pass ha (plain_of h3).1 (star_cons hs.1) (star_any hs.2)) fun σ H Q h => ?_
  obtain ⟨L, r, s, hE, hS, h⟩ := h
  have h : okA FA Ex L s.length H (kV FA Q) (evE C (.call f es .dfl) r s) := h
  simp only [evE, evK, Res.bind_ok] at h
  refine first_A hE hS h fun qs s1 L1 H1 vs hE1 hS1 st1 rvs h1 => ?_
  exact sp_of (RX := RX) hS1 (rvs.app (.cons .non .nil)) hl h1
theorem pe_m_callK (cx : Ctx RX FA M Ex C k N sc X) {f : Nat} {x : Str} {p kpos : Pos} (h1 : globB sc x = true) (h2 : M.fname f = some x) (h3 : plainN x = true) (hk : M.fkw f = true) (hs : (a' :: es').all notStar = true) (ha : PA X (a' :: es') (tA FA Ex C es)) (hb' : PE X b' (tE FA Ex C b)) :
    PE X (.Call (.Name x p) (a' :: es') [⟨some "patience", b', kpos⟩] pos) (tE FA Ex C (.call f es (.yes b))) := by
  obtain ⟨fa, fd, ps, e1, e2, e3, F, hl, _, hb⟩ := cx.call f x h2
  obtain ⟨_, n, en, hb⟩ := hb hk
  have hs' := hs
  rw [List.all_cons, Bool.and_eq_true] at hs
  refine pe_imp (pe_callN F cx.hr (cx.glob h1) e1 e2 hb cx.pass ha (pk_cons hb' pk_nil) rfl rfl (plain_of h3).1 (star_cons hs.1) (by rw [star_any hs']; rfl)) fun σ H Q h => ?_
  obtain ⟨L, r, s, hE, hS, h⟩ := h
  have h : okA FA Ex L s.length H (kV FA Q) (evE C (.call f es (.yes b)) r s) := h
  simp only [evE] at h
  refine first_A hE hS h fun qs s1 L1 H1 vs hE1 hS1 st1 rvs h1 => ?_
  have h1 : okA FA Ex L1 s1.length H1 (kV FA Q) ((evE C b r s1).bind fun v s2 => C f (qs ++ [v]) s2) := by
    have e : ((evK C (.yes b) r s1).bind fun ks s2 => C f (qs ++ ks) s2) = ((evE C b r s1).bind fun v s2 => C f (qs ++ [v]) s2) := by
      simp only [evK]
      cases evE C b r s1 <;> rfl
    rw [e] at h1
    exact h1
  refine first_E hE1 hS1 h1 fun q s2 L2 H2 w hE2 hS2 st2 rw h2 => ?_
  have el : vs.length + 1 = n + 1 := by
    have z := hl _ _ h2.nobad
    rw [List.length_append] at z
    have z1 : qs.length + 1 = ps.length := z
    have z2 := rvs.length
    omega
  refine ⟨by omega, rfl, ?_⟩
  exact sp_of (RX := RX) hS2 ((rvs.up st2).app (.cons rw .nil)) hl h2

/-- a lambda's object, as the model's heap has it -/
theorem lamAt {P : Program} {w : World} {H : Hp} {h : Heap} {a c' : Addr} {W : LamW} (hok : HOk P w H h) (e : H a = some (LamO a W c')) : PySem.W.FnAt a h := by
  obtain ⟨⟨od, sl, pm, ctv, ho⟩, _, _⟩ := hok a _ e
  exact ⟨_, od, _, sl, ho⟩
theorem run_lam {X : Cx} {pins : List (Addr × PySem.Obj)} {σ : L2.St} {H : Hp} {s : Shared} {Q : VK} {CX : CXT} {k : Nat} {W : LamW} {sp : Sp} {a c' : Addr} {us : List Value} {vs : List V} {E : XK} (Fn : LamFn X.prog X.w X.K X.mg X.base CX k W sp) (hr : Room k X.A) (hx : Passes CX X E) (I : L2.Inv X pins σ H s)
    (hf : H a = some (LamO a W c')) (hc : H c' = some (LamX.CodeO c' lamQ)) (r : Vals vs us) (q : sp vs H Q E) : wpAny (model X.prog X.w) X.A (call (.ref a) us) (EP X pins σ Q) X.xe s := by
  refine wpAny_call (codeAny_mono (Fn.run a c' X.A X.stack s H us vs Q E hr I.env0 hf hc r q) fun r s' hq => ?_)
  cases r with
  | error e => exact hx pins σ H s e s' I hq
  | ok fl =>
    cases fl with
    | ret u => exact I.after hq
    | next => exact False.elim hq
    | brk => exact False.elim hq
    | cont => exact False.elim hq
/-- the i-th name holds one of these defs -/
theorem pe_m_callv (cx : Ctx RX FA M Ex C k N sc X) {fs : List (Nat × Bool)} {i : Nat} {x : Str} {p : Pos} (h1 : N[i]? = some x) (h2 : visB sc x = true) (h3 : plainN x = true) (hfs : ∀ f b, fs.lookup f = some b → ∃ y, M.fname f = some y ∧ M.fkw f = b) (hs : (a' :: es').all notStar = true) (ha : PA X (a' :: es') (tA FA Ex C es)) :
    PE X (.Call (.Name x p) (a' :: es') [] pos) (tE FA Ex C (.callv fs i es .no)) := by
  obtain ⟨d1, d2, _⟩ := plain_of h3
  rw [List.all_cons, Bool.and_eq_true] at hs
  refine ⟨fun pins s σ H Q I h => ?_⟩
  obtain ⟨L, r, st, hE, hS, h⟩ := h
  simp only [evE] at h
  split at h
  · rename_i f e
    split at h
    · rename_i b eb
      obtain ⟨v, hv1, rv⟩ := hE.at_ i _ e
      cases rv with
      | fn ef =>
        rename_i ad
        obtain ⟨y, hy, hkw⟩ := hfs f b eb
        obtain ⟨fa, fd, ps, e1, e2, e3, F, hl, hb0, hb1⟩ := cx.call f y hy
        rw [e3] at ef
        cases ef
        obtain ⟨dvs, ds, hd, hb, hdv⟩ : ∃ (dvs : List V) (ds : List Value), Vals dvs ds ∧ Binds X.K fd ps ds ∧ dvs = (if b then [V.non] else []) := by
          cases b with
          | true =>
            obtain ⟨⟨ds, hv, hb⟩, _⟩ := hb1 hkw
            exact ⟨[.non], ds, hv, hb, rfl⟩
          | false => exact ⟨[], [], .nil, hb0 hkw, rfl⟩
        refine wpAny_Call_Name_kw (thn ((pe_var (pos := p) (i := i) (by rw [cx.hN]; exact h1) (by rw [cx.hsc]; exact vis_of h2) d1 d2).run pins s σ H (fun v H1 => v = .ref ad ∧ H1 = H) I ⟨.ref ad, hv1, rfl, rfl⟩) fun u s1 ⟨v, H1, I1, r1, q1⟩ => ?_)
        obtain ⟨rfl, rfl⟩ := q1
        cases r1
        have ht : tA FA Ex C es σ H1 (fun vs H2 => spF RX FA C f ps.length (vs ++ dvs) H2 Q (exK RX Ex)) := by
          refine first_A hE hS h fun qs s2 L2 H2 vs hE2 hS2 st2 rvs h2 => ?_
          simp only [evK, Res.bind_ok, List.nil_append] at h2
          refine sp_of (RX := RX) hS2 (rvs.app ?_) hl h2
          rw [hdv]
          cases b with
          | true => exact .cons .non .nil
          | false => exact .nil
        refine PySem.W.callWith_K (h₀ := X.base) I.ok.mod.kin e2 (thn (ha.run pos pins s1 σ _ _ I1 ht) fun us s2 ⟨vs, H2, I2, r, q⟩ => ⟨I2.kIn, ?_⟩) (star_cons hs.1) (star_any hs.2)
        exact run_fn F cx.hr hb hd cx.pass I2 r q
    · exact h.elim
  · rename_i f e
    obtain ⟨v, hv1, rv⟩ := hE.at_ i _ e
    cases rv with
    | clo hm ha0 hc0 n1 n2 =>
      rename_i ad c' W
      obtain ⟨F, hl⟩ := cx.clo f W hm
      refine wpAny_Call_Name_kw (thn ((pe_var (pos := p) (i := i) (by rw [cx.hN]; exact h1) (by rw [cx.hsc]; exact vis_of h2) d1 d2).run pins s σ H (fun v H1 => v = .ref ad ∧ H1 = H) I ⟨.ref ad, hv1, rfl, rfl⟩) fun u s1 ⟨v, H1, I1, r1, q1⟩ => ?_)
      obtain ⟨rfl, rfl⟩ := q1
      cases r1
      have ht : tA FA Ex C es σ H1 (fun vs H2 => H2 ad = some (LamO ad W c') ∧ H2 c' = some (LamX.CodeO c' lamQ) ∧ spF RX FA C f 1 vs H2 Q (exK RX Ex)) := by
        refine first_A hE hS h fun qs s2 L2 H2 vs hE2 hS2 st2 rvs h2 => ?_
        exact ⟨st2.keep _ _ ha0 n1 lamO_tbl, st2.keep _ _ hc0 n2 LamX.codeO_ne, sp_of (RX := RX) hS2 rvs hl h2⟩
      refine PySem.W.callWith_F (first := []) (lamAt I1.hok ha0) (thn (ha.run pos pins s1 σ _ _ I1 ht) fun us s2 ⟨vs, H2, I2, r, g1, g2, q⟩ => ⟨lamAt I2.hok g1, ?_⟩) (star_cons hs.1) (star_any hs.2)
      show wpAny _ _ (call (.ref ad) us) _ _ _
      exact run_lam F cx.hr cx.pass I2 g1 g2 r q
  · exact h.elim
theorem pe_m_callvK (cx : Ctx RX FA M Ex C k N sc X) {fs : List (Nat × Bool)} {i : Nat} {x : Str} {p kpos : Pos} (h1 : N[i]? = some x) (h2 : visB sc x = true) (h3 : plainN x = true) (hfs : ∀ f b, fs.lookup f = some b → b = false ∧ ∃ y, M.fname f = some y ∧ M.fkw f = true) (hs : (a' :: es').all notStar = true) (ha : PA X (a' :: es') (tA FA Ex C es)) (hb' : PE X b' (tE FA Ex C b)) :
    PE X (.Call (.Name x p) (a' :: es') [⟨some "patience", b', kpos⟩] pos) (tE FA Ex C (.callv fs i es (.yes b))) := by
  obtain ⟨d1, d2, _⟩ := plain_of h3
  have hs' := hs
  rw [List.all_cons, Bool.and_eq_true] at hs
  refine ⟨fun pins s σ H Q I h => ?_⟩
  obtain ⟨L, r, st, hE, hS, h⟩ := h
  simp only [evE] at h
  split at h
  · rename_i f e
    split at h
    · rename_i bb eb
      obtain ⟨v, hv1, rv⟩ := hE.at_ i _ e
      cases rv with
      | fn ef =>
        rename_i ad
        obtain ⟨rfl, y, hy, hkw⟩ := hfs f bb eb
        obtain ⟨fa, fd, ps, e1, e2, e3, F, hl, hb0, hb1⟩ := cx.call f y hy
        rw [e3] at ef
        cases ef
        obtain ⟨_, n, en, hb⟩ := hb1 hkw
        refine wpAny_Call_Name_kw (thn ((pe_var (pos := p) (i := i) (by rw [cx.hN]; exact h1) (by rw [cx.hsc]; exact vis_of h2) d1 d2).run pins s σ H (fun v H1 => v = .ref ad ∧ H1 = H) I ⟨.ref ad, hv1, rfl, rfl⟩) fun u s1 ⟨v, H1, I1, r1, q1⟩ => ?_)
        obtain ⟨rfl, rfl⟩ := q1
        cases r1
        have hkw2 := pk_cons (nm := some ("patience" : Str)) (kpos := kpos) hb' pk_nil
        have ht : tA FA Ex C es σ H1 (fun vs H2 => (tCons (tE FA Ex C b) tNil) σ H2 fun zs H3 => vs.length = n ∧ zs.length = 1 ∧ spF RX FA C f ps.length (vs ++ zs) H3 Q (exK RX Ex)) := by
          refine first_A hE hS h fun qs s2 L2 H2 vs hE2 hS2 st2 rvs h2 => ?_
          have h2 : okA FA Ex L2 s2.length H2 (kV FA Q) ((evE C b r s2).bind fun v s3 => C f (qs ++ [v]) s3) := by
            have e : ((evK C (.yes b) r s2).bind fun ks s3 => C f (qs ++ (ks ++ if false = true then [PV.non] else [])) s3) = ((evE C b r s2).bind fun v s3 => C f (qs ++ [v]) s3) := by
              simp only [evK]
              cases evE C b r s2 <;> rfl
            rw [e] at h2
            exact h2
          refine first_E hE2 hS2 h2 fun q s3 L3 H3 w hE3 hS3 st3 rw h3 => ?_
          have el : vs.length + 1 = n + 1 := by
            have z := hl _ _ h3.nobad
            rw [List.length_append] at z
            have z1 : qs.length + 1 = ps.length := z
            have z2 := rvs.length
            omega
          exact ⟨by omega, rfl, sp_of (RX := RX) hS3 ((rvs.up st3).app (.cons rw .nil)) hl h3⟩
        refine PySem.W.callWith_KW (h₀ := X.base) I.ok.mod.kin e2 rfl (thn (ha.run pos pins s1 σ _ _ I1 ht) fun us s2 ⟨vs, H2, I2, r, q⟩ => ?_) (by rw [star_any hs']; rfl) (star_cons hs.1)
        refine thn (hkw2.run pos pins s2 σ H2 _ I2 q) fun ws s3 ⟨zs, H3, I3, rz, l1, l2, q3⟩ => ⟨I3.kIn, ?_⟩
        exact run_fnN F cx.hr hb cx.pass I3 r rz l1 l2 q3
    · exact h.elim
  · exact h.elim
  · exact h.elim
/-- a lambda with a parameter, as a value -/
theorem pe_m_lamv (cx : Ctx RX FA M Ex C k N sc X) {f : Nat} {W : LamW} {lpos : Pos} (h0 : M.lm f W = true) : PE X (.Lambda W.params W.body W.scope lpos) (tE FA Ex C (.lamv f)) := by
  obtain ⟨hm, hk⟩ := cx.lmv f W h0
  refine pe_imp (hk lpos) fun σ H Q h => ?_
  obtain ⟨L, r, s, hE, hS, h⟩ := h
  simp only [evE] at h
  refine ⟨by rw [← hS.tab]; exact hS.tabs, fun a c' H1 hx hT h1 h2 => ?_⟩
  have st1 : Step L s.length H L s.length H1 := ⟨Nat.le_refl _, fun _ _ => rfl, fun _ h1 h2 => absurd h2 (Nat.not_lt.mpr h1), fun a o e _ nt => hx.1 a o e nt, fun a vs e => hx.1 a _ e (fun _ z => nomatch z), hx.2, fun _ _ _ h => h, fun _ h => h, rfl, fun _ => by rw [hS.tab]; exact hT⟩
  have sm1 : Sim FA L H1 s := hS.up st1 fun l hl => by
    obtain ⟨xs, vs, _, e, _⟩ := hS.at hl
    rw [e]
    exact hx.1 _ _ e (fun _ z => nomatch z)
  have nl : ∀ {b : Addr} {o : HO}, H1 b = some o → (∀ vs, o ≠ .lst vs) → ∀ l, l < s.length → L l ≠ b := fun {b o} e no l hl z => by
    obtain ⟨xs, vs, _, e2, _⟩ := sm1.at hl
    rw [z, e] at e2
    exact no vs (Option.some.inj e2)
  exact h L H1 st1 sm1 _ (.clo hm h1 h2 (nl h1 lamO_lst) (nl h2 codeO_lst))
/-- told of a lambda -/
theorem pe_m_att (cx : Ctx RX FA M Ex C k N sc X) {e : E} {e' : Expr} {x : Str} {p lpos : Pos} {scope : Scope} (h1 : globB sc x = true) (h2 : M.tr = some x) (L : LamX.LamS sc scope)
    (hb : ∀ (A : Around) (outer : List PySem.Env) (s : Shared) (H : Hp) (E : XK) (f c' : Addr), Room (k + 2) (A.deeper (LamX.lamEnv X scope s.heap.objs.size f c')) → PE (lamN X A outer s H E scope f c') e' (tE FA (exE RX E) C e)) :
    PE X (.Call (.Name x p) [.Lambda ⟨[], [], none, [], [], none, []⟩ e' scope lpos] [] pos) (tE FA Ex C (.att e)) := by
  refine pe_imp (cx.att x h2 p lpos pos e' scope (fun E => tE FA (exE RX E) C e) (cx.glob h1) (by rw [cx.hsc]; exact L) (fun E σ H Q Q' hq ⟨L, r, s, hE, hS, h⟩ => ⟨L, r, s, hE, hS, h.mono fun a s' L' H' _ _ k v rv => hq _ _ (k v rv)⟩) hb) fun σ H Q h => ?_
  obtain ⟨L, r, s, hE, hS, h⟩ := h
  simp only [evE] at h
  refine ⟨by rw [← hS.tab]; exact hS.tabs, fun H1 hx hT => ?_⟩
  have st1 : Step L s.length H L s.length H1 := ⟨Nat.le_refl _, fun _ _ => rfl, fun _ h1 h2 => absurd h2 (Nat.not_lt.mpr h1), fun a o e _ nt => hx.1 a o e nt, fun a vs e => hx.1 a _ e (fun _ z => nomatch z), hx.2, fun _ _ _ h => h, fun _ h => h, rfl, fun _ => by rw [hS.tab]; exact hT⟩
  have sm1 : Sim FA L H1 s := hS.up st1 fun l hl => by
    obtain ⟨xs, vs, _, e, _⟩ := hS.at hl
    rw [e]
    exact hx.1 _ _ e (fun _ z => nomatch z)
  refine ⟨L, r, s, hE.up st1, sm1, ?_⟩
  generalize evE C e r s = y at h
  cases y with
  | ok v s' =>
    intro L' H' st' sm' v' rv
    refine ⟨by show 2 ≤ sizeLine; decide, fun p hp => ?_⟩
    exact h L' (upd H' p (.tup [.str "told", v'])) ((st1.trans st').trans (Step.alloc hp)) (sm'.alloc hp) _ (.tup upd_same (.cons (.str _) (.cons (rv.up (Step.alloc hp)) .nil)))
  | exc z s' =>
    intro L' H' st' sm' cls d rx
    have sm2 : ∀ H'' : Hp, (∀ b o, H' b = some o → H'' b = some o) → Step L' s'.length H' L' s'.length H'' ∧ Sim FA L' H'' s' := fun H'' hk => by
      have st2 : Step L' s'.length H' L' s'.length H'' := ⟨Nat.le_refl _, fun _ _ => rfl, fun _ h1 h2 => absurd h2 (Nat.not_lt.mpr h1), fun a o e _ _ => hk a o e, fun a vs e => hk a _ e, fun a e => (by
        cases q : H' a with
        | none => rfl
        | some o =>
          rw [hk a o q] at e
          cases e), fun _ _ _ h => h, fun _ h => h, rfl, fun z => LamX.Tabs.ext z hk⟩
      exact ⟨st2, sm'.up st2 fun l hl => by
        obtain ⟨xs, vs, _, e, _⟩ := sm'.at hl
        rw [e]
        exact hk _ _ e⟩
    cases z with
    | exn c xs =>
      cases xs with
      | nil =>
        simp only [attR] at h
        split at h
        · rename_i w ew
          obtain ⟨hc, rfl⟩ := told_word c w ew
          obtain ⟨rfl, C0, hC0, rfl⟩ := cx.rx c cls d H' rx
          refine .inl ⟨rfl, c, C0, hC0, hc, rfl, fun H'' hk => ?_⟩
          obtain ⟨st2, sm3⟩ := sm2 H'' hk
          exact h L' H'' ((st1.trans st').trans st2) sm3 _ (.str _)
        · exact h.elim
      | cons y ys =>
        cases ys with
        | cons _ _ => cases y <;> exact h.elim
        | nil =>
          cases y with
          | int n =>
            simp only [attR] at h
            split at h
            · rename_i hc
              obtain ⟨rfl, h0, h1⟩ := hc
              obtain ⟨dx, C0, rfl, hC0, rfl, hd⟩ := cx.rx1 n cls d H' rx
              refine .inr ⟨dx, C0, n, rfl, hC0, rfl, hd, h0, h1, fun H'' hk => ?_⟩
              obtain ⟨st2, sm3⟩ := sm2 H'' hk
              exact h L' H'' ((st1.trans st').trans st2) sm3 _ (.str _)
            · exact h.elim
          | _ => exact h.elim
    | _ => exact h.elim
  | bad => exact h.elim
/-! freezing, dropping -/
mutual
theorem Rep.renum {L L' : Nm} {n n' : Nat} {H : Hp} (h1 : ∀ l, l < n' → ∃ m, m < n ∧ L' l = L m) (h2 : ∀ x, L'.hid x → L.hid x) : ∀ (p : PV) (v : V), Rep FA L n H p v → noloc p = true → Rep FA L' n' H p v
  | .non, _, h, _ => by cases h; exact .non
  | .bl _, _, h, _ => by cases h; exact .bl _
  | .int _, _, h, _ => by cases h; exact .int _
  | .str _, _, h, _ => by cases h; exact .str _
  | .tup xs, _, h, b => by
    cases h with
    | tup e r => exact .tup e (Reps.renum h1 h2 xs _ r (by simpa [noloc] using b))
  | .lst xs, _, h, b => by
    cases h with
    | lst e ap r =>
      refine .lst e ⟨fun l hl z => ?_, fun z => ap.2 (h2 _ z)⟩ (Reps.renum h1 h2 xs _ r (by simpa [noloc] using b))
      obtain ⟨m, hm, em⟩ := h1 l hl
      exact ap.1 m hm (em.symm.trans z)
  | .loc l, _, h, b => by simp [noloc] at b
  | .fn f, _, h, _ => by
    cases h with
    | fn e => exact .fn e
  | .clo _ _, _, h, b => by simp [noloc] at b
  | .exn _ _, _, h, _ => by cases h
theorem Reps.renum {L L' : Nm} {n n' : Nat} {H : Hp} (h1 : ∀ l, l < n' → ∃ m, m < n ∧ L' l = L m) (h2 : ∀ x, L'.hid x → L.hid x) : ∀ (ps : List PV) (vs : List V), Reps FA L n H ps vs → nolocs ps = true → Reps FA L' n' H ps vs
  | [], _, h, _ => by cases h; exact .nil
  | p :: ps, _, h, b => by
    cases h with
    | cons g1 g2 =>
      have q : noloc p = true ∧ nolocs ps = true := by simpa [nolocs] using b
      exact .cons (Rep.renum h1 h2 p _ g1 q.1) (Reps.renum h1 h2 ps _ g2 q.2)
end
theorem fin_ok {L L1 : Nm} {H H1 : Hp} {n : Nat} {s1 : Store} {Q : VK} {p : PV} {v : V} {kk : Bool} (st : Step L n H L1 s1.length H1) (sm : Sim FA L1 H1 s1) (r : Rep FA L1 s1.length H1 p v) (h : okA FA Ex L n H (kV FA Q) (fin kk n p s1)) : Q v H1 := by
  have hle : n ≤ s1.length := st.le
  have el : (s1.take n).length = n := by rw [List.length_take]; omega
  have stc : Step L n H L1 (s1.take n).length H1 := by
    rw [el]
    exact st.cut (Nat.le_refl _) hle
  have plain : below n p = true → okA FA Ex L n H (kV FA Q) (.ok p (s1.take n)) → Q v H1 := fun hb q => by
    refine q L1 H1 stc (sm.cut hle) v ?_
    rw [el]
    exact Rep.cutn hle p v r hb
  unfold fin at h
  split at h
  · rename_i l
    split at h
    · rename_i hl
      exact plain (by simp [below, hl]) h
    · rename_i hl
      split at h
      · rename_i xs e
        have hl2 : l < s1.length := (List.getElem?_eq_some_iff.mp e).1
        obtain ⟨vs, e1, e2, e3⟩ := sm.obj l xs e
        cases r
        split at h
        · refine h L1 H1 stc (sm.cut hle) _ ?_
          rw [el]
          refine .lst (.inl e1) ⟨fun l' hl' z => ?_, sm.vis l hl2⟩ (Reps.cutn hle xs vs e2 (belows_nolocs xs e3))
          have := sm.inj l' l (by omega) hl2 z
          omega
        · have el2 : (s1.take n ++ [Obj.lst xs]).length = n + 1 := by rw [List.length_append, el]; rfl
          have st2 : Step L n H (ext L1 n (L1 l)) (s1.take n ++ [Obj.lst xs]).length H1 := by
            rw [el2]
            refine ⟨Nat.le_succ _, fun i hi => (ext_ne (Nat.ne_of_lt hi)).trans (st.same i hi), fun i h1 h2 => ?_, st.keep, st.tups, st.there, st.hid, st.hidk, st.tab, st.tabs⟩
            have e : i = n := by omega
            rw [e, ext_at]
            exact st.new l (by omega) hl2
          have nm : ∀ i, i < n + 1 → ∃ m, m < s1.length ∧ (ext L1 n (L1 l)) i = L1 m := fun i hi => by
            by_cases z : i = n
            · exact ⟨l, hl2, by rw [z, ext_at]⟩
            · exact ⟨i, by omega, ext_ne z⟩
          have sm2 : Sim FA (ext L1 n (L1 l)) H1 (s1.take n ++ [Obj.lst xs]) := by
            refine ⟨fun i ys q => ?_, fun i j hi hj z => ?_, sm.hid, fun i hi => ?_, sm.tab, sm.tabs⟩
            · rw [el2]
              by_cases z : i < n
              · rw [List.getElem?_append_left (by omega), List.getElem?_take_of_lt z] at q
                obtain ⟨ws, g1, g2, g3⟩ := sm.obj i ys q
                exact ⟨ws, by rw [ext_ne (by omega)]; exact g1, Reps.renum nm (fun _ h => h) ys ws g2 g3, g3⟩
              · have hi : i < n + 1 := by
                  have := (List.getElem?_eq_some_iff.mp q).1
                  omega
                have ei : i = n := by omega
                subst ei
                rw [List.getElem?_append_right (by omega), el, Nat.sub_self] at q
                cases q
                exact ⟨vs, by rw [ext_at]; exact e1, Reps.renum nm (fun _ h => h) _ vs e2 e3, e3⟩
            · rw [el2] at hi hj
              by_cases z1 : i = n
              · by_cases z2 : j = n
                · omega
                · rw [z1, ext_at, ext_ne z2] at z
                  have := sm.inj l j hl2 (by omega) z
                  omega
              · by_cases z2 : j = n
                · rw [z2, ext_at, ext_ne z1] at z
                  have := sm.inj i l (by omega) hl2 z
                  omega
                · rw [ext_ne z1, ext_ne z2] at z
                  exact sm.inj i j (by omega) (by omega) z
            · rw [el2] at hi
              by_cases z1 : i = n
              · rw [z1, ext_at]; exact sm.vis l hl2
              · rw [ext_ne z1]; exact sm.vis i (by omega)
          refine h _ H1 st2 sm2 _ ?_
          rw [el2]
          have z : Rep FA (ext L1 n (L1 l)) (n + 1) H1 (.loc n) (.ref ((ext L1 n (L1 l)) n)) := .loc (Nat.lt_succ_self _)
          rw [ext_at] at z
          exact z
      · exact h.elim
  · split at h
    · rename_i hb
      exact plain hb h
    · exact h.elim
theorem first_E0 {e : E} {K : KW PV} {f : PV → Store → Res PV} {σ : L2.St} {r : Env} {s : Store} {R : VK} {L : Nm} {H : Hp} (hE : RepE FA L s.length H σ r) (hS : Sim FA L H s)
    (h : okA FA Ex L s.length H K ((evE C e r s).bind f))
    (go : ∀ p s1 L1 H1 v, Sim FA L1 H1 s1 → Step L s.length H L1 s1.length H1 → Rep FA L1 s1.length H1 p v → okA FA Ex L s.length H K (f p s1) → R v H1) : tE FA Ex C e σ H R :=
  ⟨L, r, s, hE, hS, h.bind0.mono fun p s1 L1 H1 st sm q v rv => go p s1 L1 H1 v sm st rv q⟩
theorem pe_m_frz (ha : PE X a' (tE FA Ex C a)) : PE X a' (tE FA Ex C (.frz a)) :=
  pe_imp ha fun σ H Q ⟨L, r, s, hE, hS, h⟩ => first_E0 (R := Q) hE hS h fun p s1 L1 H1 v sm st rv h1 => fin_ok st sm rv h1
theorem pe_m_mutc (ha : PE X a' (tE FA Ex C a)) : PE X a' (tE FA Ex C (.mutc a)) :=
  pe_imp ha fun σ H Q ⟨L, r, s, hE, hS, h⟩ => first_E0 (R := Q) hE hS h fun p s1 L1 H1 v sm st rv h1 => fin_ok st sm rv h1
/-! ### a list at the last place, lent to a call that reads it -/
mutual
theorem Rep.nl {L L' : Nm} {n n' : Nat} {H : Hp} : ∀ (p : PV) (v : V), Rep FA L n H p v → noLst p = true → Rep FA L' n' H p v
  | .non, _, h, _ => by cases h; exact .non
  | .bl _, _, h, _ => by cases h; exact .bl _
  | .int _, _, h, _ => by cases h; exact .int _
  | .str _, _, h, _ => by cases h; exact .str _
  | .tup xs, _, h, b => by
    cases h with
    | tup e r => exact .tup e (Reps.nl xs _ r (by simpa [noLst] using b))
  | .lst xs, _, h, b => by simp [noLst] at b
  | .loc l, _, h, b => by simp [noLst] at b
  | .fn f, _, h, _ => by
    cases h with
    | fn e => exact .fn e
  | .clo _ _, _, h, b => by simp [noLst] at b
  | .exn _ _, _, h, _ => by cases h
theorem Reps.nl {L L' : Nm} {n n' : Nat} {H : Hp} : ∀ (ps : List PV) (vs : List V), Reps FA L n H ps vs → noLsts ps = true → Reps FA L' n' H ps vs
  | [], _, h, _ => by cases h; exact .nil
  | p :: ps, _, h, b => by
    cases h with
    | cons g1 g2 =>
      have q : noLst p = true ∧ noLsts ps = true := by simpa [noLsts] using b
      exact .cons (Rep.nl p _ g1 q.1) (Reps.nl ps _ g2 q.2)
end
theorem belowE_at {l : Nat} {r : Env} (h : belowE l r = true) {i : Nat} {p : PV} (e : r[i]? = some (some p)) : below l p = true := by
  unfold belowE at h
  exact List.all_eq_true.mp h _ (List.mem_of_getElem? e)
theorem pe_m_bor {i : Nat} (ha : PE X a' (tE FA Ex C a)) : PE X a' (tE FA Ex C (.bor i a)) := by
  refine pe_imp ha fun σ H Q h => ?_
  obtain ⟨L, r, s, hE, hS, h⟩ := h
  have h : okA FA Ex L s.length H (kV FA Q) (evE C (.bor i a) r s) := h
  simp only [evE] at h
  split at h
  · rename_i l e1
    split at h
    · rename_i xs e2
      split at h
      · rename_i hc
        rw [Bool.and_eq_true] at hc
        have hl : l + 1 = s.length := of_decide_eq_true hc.1
        obtain ⟨vs, k1, k2, k3⟩ := hS.obj l xs e2
        have hll : l < s.length := by omega
        have el : (s.take l).length = l := by rw [List.length_take]; omega
        obtain ⟨w, w1, w2⟩ := hE.at_ i _ e1
        have apD : Ap L l (L l) := ⟨fun l' hl' z => by
          have := hS.inj l' l (by omega) hll z
          omega, hS.vis l hll⟩
        have rl : Rep FA L l H (.lst xs) (.ref (L l)) := .lst (.inl k1) apD (Reps.cutn (by omega) xs vs k2 (belows_nolocs xs k3))
        cases w2 with
        | loc hl2 =>
        refine ⟨L, r.set i (some (.lst xs)), s.take l, ?_, hS.cut (by omega), ?_⟩
        · rw [el]
          refine ⟨by rw [List.length_set]; exact hE.len, fun j p e => ?_⟩
          by_cases z : i = j
          · subst z
            rw [List.getElem?_set_self (List.getElem?_eq_some_iff.mp e1).1] at e
            cases e
            exact ⟨_, w1, rl⟩
          · rw [List.getElem?_set_ne z] at e
            obtain ⟨v, v1, v2⟩ := hE.at_ j p e
            exact ⟨v, v1, Rep.cutn (by omega) p v v2 (belowE_at hc.2 (i := j) (by rw [List.getElem?_set_ne z]; exact e))⟩
        · generalize evE C a (r.set i (some (.lst xs))) (s.take l) = x at h
          cases x with
          | bad => exact h.elim
          | exc e s1 => exact h.elim
          | ok v s1 =>
            have h : okA FA Ex L s.length H (kV FA Q) (if (noLst v && decide (s1.length = l) && s1.all noLstO) = true then .ok v (s1 ++ [.lst xs]) else .bad) := h
            split at h
            · rename_i hv
              simp only [Bool.and_eq_true, decide_eq_true_eq] at hv
              obtain ⟨⟨hv1, hv2⟩, hv3⟩ := hv
              rw [el]
              intro L' H' st sm u ru
              rw [hv2] at st ru
              have eD : H' (L l) = some (.lst vs) := st.keep _ _ k1 apD.1 (fun _ z => nomatch z)
              have hLD : ¬ L'.hid (L l) := fun z => apD.2 (st.hid _ _ k1 z)
              have st2 : Step L s.length H (ext L' l (L l)) (s1 ++ [Obj.lst xs]).length H' := by
                have el2 : (s1 ++ [Obj.lst xs]).length = s.length := by rw [List.length_append, hv2]; exact hl
                rw [el2]
                refine ⟨Nat.le_refl _, fun j hj => ?_, fun j h1 h2 => by omega, fun a o e h1 h2 => st.keep a o e (fun j hj => h1 j (by omega)) h2, st.tups, st.there, st.hid, st.hidk, st.tab, st.tabs⟩
                by_cases z : j = l
                · rw [z, ext_at]
                · rw [ext_ne z]
                  exact st.same j (by omega)
              have el2 : (s1 ++ [Obj.lst xs]).length = l + 1 := by rw [List.length_append, hv2]; rfl
              have ne : ∀ j, j < l → L' j ≠ L l := fun j hj z => apD.1 j hj ((st.same j hj).symm.trans z)
              have sm2 : Sim FA (ext L' l (L l)) H' (s1 ++ [Obj.lst xs]) := by
                refine ⟨fun j ys q => ?_, fun j k hj hk z => ?_, sm.hid, fun j hj => ?_, sm.tab, sm.tabs⟩
                · by_cases z : j < l
                  · rw [List.getElem?_append_left (by omega)] at q
                    obtain ⟨ws, g1, g2, g3⟩ := sm.obj j ys q
                    have hn : noLsts ys = true := List.all_eq_true.mp hv3 _ (List.mem_of_getElem? q)
                    exact ⟨ws, by rw [ext_ne (by omega)]; exact g1, Reps.nl ys ws g2 hn, g3⟩
                  · have hj : j < l + 1 := by
                      have := (List.getElem?_eq_some_iff.mp q).1
                      omega
                    have ej : j = l := by omega
                    subst ej
                    rw [List.getElem?_append_right (by omega), hv2, Nat.sub_self] at q
                    cases q
                    exact ⟨vs, by rw [ext_at]; exact eD, k2.up st2, k3⟩
                · rw [el2] at hj hk
                  by_cases z1 : j = l
                  · by_cases z2 : k = l
                    · omega
                    · rw [z1, ext_at, ext_ne z2] at z
                      exact absurd z.symm (ne k (by omega))
                  · by_cases z2 : k = l
                    · rw [z2, ext_at, ext_ne z1] at z
                      exact absurd z (ne j (by omega))
                    · rw [ext_ne z1, ext_ne z2] at z
                      exact sm.inj j k (by omega) (by omega) z
                · rw [el2] at hj
                  by_cases z1 : j = l
                  · rw [z1, ext_at]; exact hLD
                  · rw [ext_ne z1]; exact sm.vis j (by omega)
              exact h _ H' st2 sm2 u (Rep.nl v u ru hv1)
            · exact h.elim
      · exact h.elim
    · exact h.elim
  · exact h.elim
mutual
theorem Rep.lend {L : Nm} {s : Store} {H : Hp} {l0 : Nat} (sm : Sim FA L H s) (h0 : l0 ≤ s.length) : ∀ (p : PV) (v : V), Rep FA L s.length H p v → Rep FA L l0 H (lendV s l0 p) v
  | .non, _, h => by cases h; exact .non
  | .bl _, _, h => by cases h; exact .bl _
  | .int _, _, h => by cases h; exact .int _
  | .str _, _, h => by cases h; exact .str _
  | .tup xs, _, h => by
    cases h with
    | tup e r => exact .tup e (Reps.lend sm h0 xs _ r)
  | .lst xs, _, h => by
    cases h with
    | lst e ap r => exact .lst e ⟨fun l hl => ap.1 l (by omega), ap.2⟩ (Reps.lend sm h0 xs _ r)
  | .loc l, _, h => by
    cases h with
    | loc hl =>
      unfold lendV
      by_cases z : l0 ≤ l
      · obtain ⟨xs, vs, x1, x2, x3, x4⟩ := sm.at hl
        rw [if_pos z, x1]
        exact .lst (.inl x2) ⟨fun l' hl' e => by
          have := sm.inj l' l (by omega) hl e
          omega, sm.vis l hl⟩ (Reps.cutn h0 xs vs x3 (belows_nolocs xs x4))
      · rw [if_neg z]
        exact .loc (by omega)
  | .fn f, _, h => by
    cases h with
    | fn e => exact .fn e
  | .clo _ _, _, h => by
    cases h with
    | clo hm ha hc n1 n2 => exact .clo hm ha hc (fun l hl => n1 l (Nat.lt_of_lt_of_le hl h0)) fun l hl => n2 l (Nat.lt_of_lt_of_le hl h0)
  | .exn _ _, _, h => by cases h
theorem Reps.lend {L : Nm} {s : Store} {H : Hp} {l0 : Nat} (sm : Sim FA L H s) (h0 : l0 ≤ s.length) : ∀ (ps : List PV) (vs : List V), Reps FA L s.length H ps vs → Reps FA L l0 H (lendVs s l0 ps) vs
  | [], _, h => by cases h; exact .nil
  | p :: ps, _, h => by
    cases h with
    | cons g1 g2 => exact .cons (Rep.lend sm h0 p _ g1) (Reps.lend sm h0 ps _ g2)
end
theorem pe_m_lend {m : Nat} (ha : PE X a' (tE FA Ex C a)) : PE X a' (tE FA Ex C (.lend m a)) := by
  refine pe_imp ha fun σ H Q h => ?_
  obtain ⟨L, r, s, hE, hS, h⟩ := h
  have h : okA FA Ex L s.length H (kV FA Q) (evE C (.lend m a) r s) := h
  simp only [evE] at h
  split at h
  · generalize hl0 : s.length - m = l0 at h
    have h0 : l0 ≤ s.length := by omega
    have el : (s.take l0).length = l0 := by rw [List.length_take]; omega
    refine ⟨L, r.map (Option.map (lendV s l0)), s.take l0, ?_, hS.cut h0, ?_⟩
    · rw [el]
      refine ⟨by rw [List.length_map]; exact hE.len, fun j p e => ?_⟩
      rw [List.getElem?_map] at e
      cases er : r[j]? with
      | none => rw [er] at e; cases e
      | some o =>
        rw [er] at e
        cases o with
        | none => cases e
        | some q =>
          cases e
          obtain ⟨v, v1, v2⟩ := hE.at_ j q er
          exact ⟨v, v1, Rep.lend hS h0 q v v2⟩
    · generalize evE C a (r.map (Option.map (lendV s l0))) (s.take l0) = x at h
      cases x with
      | bad => exact h.elim
      | exc e s1 => exact h.elim
      | ok v s1 =>
        have h : okA FA Ex L s.length H (kV FA Q) (if (noLst v && decide (s1.length = l0) && s1.all noLstO) = true then .ok v (s1 ++ s.drop l0) else .bad) := h
        split at h
        · rename_i hv
          simp only [Bool.and_eq_true, decide_eq_true_eq] at hv
          obtain ⟨⟨hv1, hv2⟩, hv3⟩ := hv
          rw [el]
          intro L' H' st sm u ru
          rw [hv2] at st ru
          have el2 : (s1 ++ s.drop l0).length = s.length := by rw [List.length_append, List.length_drop, hv2]; omega
          generalize hL2 : (⟨fun j => if j < l0 then L' j else L j, L'.hid, L'.tab⟩ : Nm) = L2
          have eL : ∀ j, j < s.length → L2 j = L j := fun j hj => by
            rw [← hL2]
            show (if j < l0 then L' j else L j) = L j
            split
            · rename_i z
              exact st.same j z
            · rfl
          have hid2 : L2.hid = L'.hid := by rw [← hL2]
          have tab2 : L2.tab = L'.tab := by rw [← hL2]
          have apart : ∀ j, l0 ≤ j → j < s.length → ∀ i, i < l0 → L i ≠ L j := fun j h1 h2 i hi z => by
            have := hS.inj i j (by omega) h2 z
            omega
          have st2 : Step L s.length H L2 (s1 ++ s.drop l0).length H' := by
            rw [el2]
            refine ⟨Nat.le_refl _, fun j hj => eL j hj, fun j h1 h2 => by omega, fun a o e h1 h2 => st.keep a o e (fun j hj => h1 j (by omega)) h2, st.tups, st.there, fun a o e z => st.hid a o e (by rw [← hid2]; exact z), fun a z => by rw [hid2]; exact st.hidk a z, tab2.trans st.tab, st.tabs⟩
          have sm2 : Sim FA L2 H' (s1 ++ s.drop l0) := by
            refine ⟨fun j ys q => ?_, fun j k hj hk z => ?_, fun a z => sm.hid a (by rw [← hid2]; exact z), fun j hj z => ?_, tab2.trans sm.tab, by rw [tab2]; exact sm.tabs⟩
            · by_cases z : j < l0
              · rw [List.getElem?_append_left (by omega)] at q
                obtain ⟨ws, g1, g2, g3⟩ := sm.obj j ys q
                have hn : noLsts ys = true := List.all_eq_true.mp hv3 _ (List.mem_of_getElem? q)
                refine ⟨ws, ?_, Reps.nl ys ws g2 hn, g3⟩
                rw [eL j (by omega), ← st.same j z]
                exact g1
              · have hj : j < s.length := by
                  have := (List.getElem?_eq_some_iff.mp q).1
                  omega
                rw [List.getElem?_append_right (by omega), hv2, List.getElem?_drop, show l0 + (j - l0) = j by omega] at q
                obtain ⟨ws, g1, g2, g3⟩ := hS.obj j ys q
                refine ⟨ws, ?_, g2.up st2, g3⟩
                rw [eL j hj]
                exact st.keep _ _ g1 (apart j (by omega) hj) (fun _ z => nomatch z)
            · rw [el2] at hj hk
              rw [eL j hj, eL k hk] at z
              exact hS.inj j k hj hk z
            · rw [el2] at hj
              rw [eL j hj] at z
              obtain ⟨xs, vs, _, x2, _⟩ := hS.at hj
              exact hS.vis j hj (st.hid _ _ x2 (by rw [← hid2]; exact z))
          exact h _ H' st2 sm2 u (Rep.nl v u ru hv1)
        · exact h.elim
  · exact h.elim

/-! built-ins -/
def biOk : BI → Str → Bool
  | .len, x => x == "len"
  | .int1, x => x == "int"
  | .sum, x => x == "sum"
  | .min1, x => x == "min"
  | .max1, x => x == "max"
  | .min2, x => x == "min"
  | .max2, x => x == "max"
  | .tuple, x => x == "tuple"
  | .list, x => x == "list"
  | .all, x => x == "all"
  | .sorted, x => x == "sorted"
  | _, _ => false
theorem tCB_of {b : BI} {σ : L2.St} {H : Hp} {Q : VK} (h : tE FA Ex C (.bi b es) σ H Q) : tCB (rBI FA Ex b) (tA FA Ex C es) σ H Q := by
  obtain ⟨L, r, s, hE, hS, h⟩ := h
  exact first_A (R := fun vs H1 => rBI FA Ex b vs H1 Q) hE hS h fun qs s1 L1 H1 vs hE1 hS1 st1 rvs h1 => ⟨L1, s1, qs, hS1, rvs, h1⟩
theorem pe_m_bi (cx : Ctx RX FA M Ex C k N sc X) {b : BI} {x : Str} {p : Pos} (h1 : globB sc x = true) (h2 : biOk b x = true) (hs : (a' :: es').all notStar = true) (ha : PA X (a' :: es') (tA FA Ex C es)) :
    PE X (.Call (.Name x p) (a' :: es') [] pos) (tE FA Ex C (.bi b es)) := by
  rw [List.all_cons, Bool.and_eq_true] at hs
  have g := cx.glob h1
  have s1 := star_cons (es := es') (env := X.env) hs.1
  have s2 := star_any (env := X.env) (pos := pos) hs.2
  cases b <;> simp only [biOk, beq_iff_eq, Bool.false_eq_true] at h2 <;> subst h2
  · exact pe_imp (pe_callB bi_len g (cx.blt _ (by decide)) (by decide +kernel) ha (by decide) (by decide) s1 s2) fun σ H Q h => tCB_of h
  · exact pe_imp (pe_callTy bi_int1 g (cx.blt _ (by decide)) (by decide +kernel) ha (by decide) (by decide) s1 s2) fun σ H Q h => tCB_of h
  · exact pe_imp (pe_callB (bi_sum cx.calm) g (cx.blt _ (by decide)) (by decide +kernel) ha (by decide) (by decide) s1 s2) fun σ H Q h => tCB_of h
  · exact pe_imp (pe_callB (bi_min1 cx.calm) g (cx.blt _ (by decide)) (by decide +kernel) ha (by decide) (by decide) s1 s2) fun σ H Q h => tCB_of h
  · exact pe_imp (pe_callB (bi_max1 cx.calm cx.units) g (cx.blt _ (by decide)) (by decide +kernel) ha (by decide) (by decide) s1 s2) fun σ H Q h => tCB_of h
  · exact pe_imp (pe_callB (bi_min2 cx.calm) g (cx.blt _ (by decide)) (by decide +kernel) ha (by decide) (by decide) s1 s2) fun σ H Q h => tCB_of h
  · exact pe_imp (pe_callB (bi_max2 cx.calm) g (cx.blt _ (by decide)) (by decide +kernel) ha (by decide) (by decide) s1 s2) fun σ H Q h => tCB_of h
  · exact pe_imp (pe_callTy bi_tuple g (cx.blt _ (by decide)) (by decide +kernel) ha (by decide) (by decide) s1 s2) fun σ H Q h => tCB_of h
  · exact pe_imp (pe_callTy bi_list g (cx.blt _ (by decide)) (by decide +kernel) ha (by decide) (by decide) s1 s2) fun σ H Q h => tCB_of h
  · exact pe_imp (pe_callB (bi_all cx.calm) g (cx.blt _ (by decide)) (by decide +kernel) ha (by decide) (by decide) s1 s2) fun σ H Q h => tCB_of h
  · exact pe_imp (pe_callB bi_sorted g (cx.blt _ (by decide)) (by decide +kernel) ha (by decide) (by decide) s1 s2) fun σ H Q h => tCB_of h
def isTy : BI → Option Ty
  | .isint => some .int
  | .isbool => some .bool
  | .isstr => some .str
  | .istuple => some .tuple
  | .islist => some .list
  | _ => none
theorem isTy_of {b : BI} {u : Ty} (h : isTy b = some u) : u = .int ∨ u = .bool ∨ u = .str ∨ u = .tuple ∨ u = .list := by
  cases b <;> simp [isTy] at h <;> subst h <;> simp
theorem opI_is {b : BI} {u : Ty} (h : isTy b = some u) (s : Store) (vs : List PV) : opI s b vs = oIs u vs := by
  cases b <;> simp [isTy] at h <;> subst h <;> rfl
theorem boot_ty {u : Ty} (h : u = .int ∨ u = .bool ∨ u = .str ∨ u = .tuple ∨ u = .list) : bootBuiltins (Str.ofString (tyName u)) = some (.type (tyName u)) ∧ (Str.ofString (tyName u) : Str) ≠ "__name__" ∧ ((Str.ofString (tyName u) : Str) == ("__debug__" : Str)) = false ∧ (Str.ofString (tyName u)) ∈ bltNames := by
  rcases h with rfl | rfl | rfl | rfl | rfl <;> refine ⟨by decide +kernel, by decide +kernel, by decide +kernel, by decide +kernel⟩
theorem pe_m_is (cx : Ctx RX FA M Ex C k N sc X) {b : BI} {u : Ty} {p p2 : Pos} (hb : isTy b = some u) (h1 : globB sc "isinstance" = true) (h2 : globB sc (Str.ofString (tyName u)) = true) (hs : notStar a' = true) (ha : PE X a' (tE FA Ex C a)) :
    PE X (.Call (.Name "isinstance" p) [a', .Name (Str.ofString (tyName u)) p2] [] pos) (tE FA Ex C (.bi b (.cons a .nil))) := by
  have hu := isTy_of hb
  obtain ⟨t1, t2, t3, t4⟩ := boot_ty hu
  refine pe_imp (pe_callB (bi_is (FA := FA) (Ex := Ex) u hu) (cx.glob h1) (cx.blt _ (by decide)) (by decide +kernel) (pa_cons ha (pa_cons (pe_bltn (v := .ty (tyName u)) (cx.glob h2) (cx.blt _ t4) t1 rfl t2 t3) pa_nil) (star_cons hs)) (by decide) (by decide) (star_cons hs) rfl) fun σ H Q h => ?_
  obtain ⟨L, r, s, hE, hS, h⟩ := h
  have h : okA FA Ex L s.length H (kV FA Q) (evE C (.bi b (.cons a .nil)) r s) := h
  have e : evE C (.bi b (.cons a .nil)) r s = (evE C a r s).bind fun v s => lift (oIs u [v]) s := by
    simp only [evE, evEs]
    cases evE C a r s with
    | ok v s1 => simp only [Res.bind_ok, opI_is hb]
    | exc x s1 => rfl
    | bad => rfl
  rw [e] at h
  exact first_E (R := fun v H1 => ∃ w, ([v, V.ty (tyName u)] : List V) = [w, .ty (tyName u)] ∧ ∃ L s p, Sim FA L H1 s ∧ Rep FA L s.length H1 p w ∧ okA FA Ex L s.length H1 (kV FA Q) (lift (oIs u [p]) s)) hE hS h
    fun p s1 L1 H1 v hE1 hS1 st1 rv h1 => ⟨v, rfl, L1, s1, p, hS1, rv, h1⟩
end
end ML

set_option Elab.async false
set_option maxRecDepth 10000
set_option linter.all false
set_option maxHeartbeats 2000000
/-! ML: lists changed, walks, comprehensions. -/
namespace ML
open PySem PySem.Spec PyProof.Rows L2 MlI
section
variable {RX : PV → Value → Option Addr → Hp → Prop} {FA : Gv} {M : MT} {Ex : XW} {C : Calls} {k : Nat} {N : List Str} {sc : Scope} {X : Cx}
variable {a b c : E} {a' b' c' : Expr} {pos : Pos} {es : Es} {es' : List Expr}

theorem setL_of {s s' : Store} {l : Nat} {f : List PV → Option (List PV)} (h : setL s l f = some s') : ∃ xs ys, s[l]? = some (.lst xs) ∧ f xs = some ys ∧ s' = s.set l (.lst ys) := by
  unfold setL at h
  split at h
  · rename_i xs e
    cases e2 : f xs with
    | none => rw [e2] at h; cases h
    | some ys =>
      rw [e2] at h
      cases h
      exact ⟨xs, ys, e, e2, rfl⟩
  · cases h
theorem nolocs_app {xs ys : List PV} (h1 : nolocs xs = true) (h2 : nolocs ys = true) : nolocs (xs ++ ys) = true := by
  induction xs with
  | nil => exact h2
  | cons x r ih =>
    have q : noloc x = true ∧ nolocs r = true := by simpa [nolocs] using h1
    show nolocs (x :: (r ++ ys)) = true
    simp only [nolocs, q.1, ih q.2, Bool.and_self]
theorem nolocs_take {xs : List PV} (h : nolocs xs = true) : ∀ k, nolocs (xs.take k) = true := fun k => by
  induction xs generalizing k with
  | nil => rw [List.take_nil]; rfl
  | cons x r ih =>
    have q : noloc x = true ∧ nolocs r = true := by simpa [nolocs] using h
    cases k with
    | zero => rfl
    | succ k =>
      show nolocs (x :: r.take k) = true
      simp only [nolocs, q.1, ih q.2, Bool.and_self]
theorem nolocs_drop {xs : List PV} (h : nolocs xs = true) : ∀ k, nolocs (xs.drop k) = true := fun k => by
  induction xs generalizing k with
  | nil => rw [List.drop_nil]; rfl
  | cons x r ih =>
    have q : noloc x = true ∧ nolocs r = true := by simpa [nolocs] using h
    cases k with
    | zero => exact h
    | succ k => exact ih q.2 k
theorem nolocs_set {xs : List PV} {v : PV} (h : nolocs xs = true) (hv : noloc v = true) : ∀ k, nolocs (xs.set k v) = true := fun k => by
  induction xs generalizing k with
  | nil => rfl
  | cons x r ih =>
    have q : noloc x = true ∧ nolocs r = true := by simpa [nolocs] using h
    cases k with
    | zero =>
      show nolocs (v :: r) = true
      simp only [nolocs, hv, q.2, Bool.and_self]
    | succ k =>
      show nolocs (x :: r.set k v) = true
      simp only [nolocs, q.1, ih q.2, Bool.and_self]
/-- the receiver is a plain expression -/
def recvOk : Expr → Bool
  | .Name _ _ => true
  | .Subscript _ _ _ => true
  | _ => false
theorem recv_base {o : Expr} {name : Str} {env : PySem.Env} (h : recvOk o = true) : attributeBase o name env (eval o env) = eval o env := by
  cases o <;> first
    | rfl
    | cases h
theorem kV_non {L : Nm} {s s' : Store} {H : Hp} {Q : VK} {H' : Hp} (h : okA FA Ex L s.length H (kV FA Q) (.ok .non s')) (st : Step L s.length H L s'.length H') (sm : Sim FA L H' s') : Q .non H' := h L H' st sm _ .non
theorem pe_m_append (ho : recvOk a' = true) (hs : notStar b' = true) {apos : Pos} (hline : (apos.endLine == pos.line) = true) (ha : PE X a' (tE FA Ex C a)) (hb : PE X b' (tE FA Ex C b)) :
    PE X (.Call (.Attribute a' "append" apos) [b'] [] pos) (tE FA Ex C (.append a b)) := by
  refine pe_imp (pe_bm PySem.F.plainAttrs_list PySem.F.slot_list_append PySem.F.type_list_append mt_append ha (pa_cons hb pa_nil (star_cons hs)) (recv_base ho) (by rw [star_all (by simp [hs])]; rfl) hline (star_cons hs) rfl) fun σ H Q h => ?_
  obtain ⟨L, r, s, hE, hS, h⟩ := h
  refine first_E hE hS h fun p s1 L1 H1 v hE1 hS1 st1 rv h1 => ?_
  split at h1
  · rename_i l
    cases rv with
    | loc hl =>
      obtain ⟨xs, vs, e1, e2, _⟩ := hS1.at hl
      refine ⟨.inl ⟨rfl, vs, .inl (.inl e2)⟩, ?_⟩
      refine first_E hE1 hS1 h1 fun q s2 L2 H2 w hE2 hS2 st2 rw h2 => ?_
      split at h2
      · rename_i hn
        have h2 : okA FA Ex L2 s2.length H2 (kV FA Q) (liftS (setL s2 l fun xs => if xs.length < big then some (xs ++ [q]) else none)) := h2
        cases e3 : setL s2 l fun xs => if xs.length < big then some (xs ++ [q]) else none with
        | none => rw [e3] at h2; exact h2.elim
        | some s3 =>
          rw [e3] at h2
          obtain ⟨zs, ys, g1, g2, g3⟩ := setL_of e3
          obtain ⟨us, k1, k2, k3⟩ := hS2.obj l zs g1
          have hl2 : l < s2.length := (List.getElem?_eq_some_iff.mp g1).1
          split at g2
          · rename_i hz
            cases g2
            subst g3
            refine ⟨L2 l, us, w, ?_, rfl, k1, ?_, ?_⟩
            · rw [st2.same l hl]
            · rw [← k2.length]
              exact Nat.lt_of_lt_of_le hz (by decide)
            · refine kV_non h2 ?_ (hS2.write hl2 k1 (k2.app (.cons rw .nil)) (nolocs_app k3 (by simp [nolocs, hn])))
              rw [List.length_set]
              exact hS2.step_write hl2 k1
          · cases g2
      · exact h2.elim
  · exact h1.elim
theorem pe_m_insert (ho : recvOk a' = true) (hs : notStar b' = true) (hs2 : notStar c' = true) {apos : Pos} (hline : (apos.endLine == pos.line) = true) (ha : PE X a' (tE FA Ex C a)) (hb : PE X b' (tE FA Ex C b)) (hc : PE X c' (tE FA Ex C c)) :
    PE X (.Call (.Attribute a' "insert" apos) [b', c'] [] pos) (tE FA Ex C (.insert a b c)) := by
  have hst : starEach [b', c'] X.env = (false, eval b' X.env) :: starEach [c'] X.env := star_cons hs
  refine pe_imp (pe_bm PySem.F.plainAttrs_list PySem.F.slot_list_insert PySem.F.type_list_insert mt_insert ha (pa_cons hb (pa_cons hc pa_nil (star_cons hs2)) (star_cons hs)) (recv_base ho) (by rw [star_all (by simp [hs, hs2])]; rfl) hline (star_cons hs) (star_any (by simp [hs2]))) fun σ H Q h => ?_
  obtain ⟨L, r, s, hE, hS, h⟩ := h
  refine first_E hE hS h fun p s1 L1 H1 v hE1 hS1 st1 rv h1 => ?_
  split at h1
  · rename_i l
    cases rv with
    | loc hl =>
      obtain ⟨xs, vs, e1, e2, _⟩ := hS1.at hl
      refine ⟨.inl ⟨rfl, vs, .inl (.inl e2)⟩, ?_⟩
      refine first_E hE1 hS1 h1 fun y s2 L2 H2 wy hE2 hS2 st2 ry h2 => ?_
      refine first_E hE2 hS2 h2 fun q s3 L3 H3 w hE3 hS3 st3 rw h3 => ?_
      split at h3
      · rename_i i
        have ey := rep_int ry
        subst ey
        split at h3
        · rename_i hn
          have h3 : okA FA Ex L3 s3.length H3 (kV FA Q) (liftS (setL s3 l fun xs => if xs.length < big ∧ 0 ≤ i ∧ i < 1000000 then some (xs.take i.toNat ++ [q] ++ xs.drop i.toNat) else none)) := h3
          cases e3 : setL s3 l fun xs => if xs.length < big ∧ 0 ≤ i ∧ i < 1000000 then some (xs.take i.toNat ++ [q] ++ xs.drop i.toNat) else none with
          | none => rw [e3] at h3; exact h3.elim
          | some s4 =>
            rw [e3] at h3
            obtain ⟨zs, ys, g1, g2, g3⟩ := setL_of e3
            obtain ⟨us, k1, k2, k3⟩ := hS3.obj l zs g1
            have hl3 : l < s3.length := (List.getElem?_eq_some_iff.mp g1).1
            split at g2
            · rename_i hz
              cases g2
              subst g3
              refine ⟨L3 l, us, i, w, ?_, rfl, k1, ?_, hz.2.1, by omega, ?_⟩
              · rw [st3.same l (Nat.lt_of_lt_of_le hl st2.le), st2.same l hl]
              · rw [← k2.length]
                exact Nat.lt_of_lt_of_le hz.1 (by decide)
              · refine kV_non h3 ?_ (hS3.write hl3 k1 (((k2.take _).app (.cons rw .nil)).app (k2.drop _)) (nolocs_app (nolocs_app (nolocs_take k3 _) (by simp [nolocs, hn])) (nolocs_drop k3 _)))
                rw [List.length_set]
                exact hS3.step_write hl3 k1
            · cases g2
        · exact h3.elim
      · exact h3.elim
  · exact h1.elim

/-! ### walks, seen by ML -/
structure Wk (FA : Gv) (L : Nm) (n : Nat) (H : Hp) (ps : List PV) (J : It) : Prop where
  goes : ∀ i L' n' H', Step L n H L' n' H' → i < ps.length → J.go i H'
  stops : ∀ L' n' H', Step L n H L' n' H' → J.stop ps.length H'
  yields : ∀ i L' st H' x H'', Step L n H L' st.length H' → Sim FA L' H' st → i < ps.length → J.yld i H' x H'' → ∃ p, ps[i]? = some p ∧ Step L' st.length H' L' st.length H'' ∧ Sim FA L' H'' st ∧ Rep FA L' st.length H'' p x ∧ ∀ b o, H' b = some o → H'' b = some o
/-- a list or a tuple of these items -/
def Src (FA : Gv) (L : Nm) (n : Nat) (H : Hp) (kd : Sk) (ad : Addr) (ps : List PV) : Prop := ∃ vs, SqK H kd ad vs ∧ (kd = .l → Ap L n ad) ∧ Reps FA L n H ps vs
theorem src_of {L : Nm} {n : Nat} {H : Hp} {p : PV} {v : V} {ps : List PV} (h : Rep FA L n H p v) (e : seqOf p = some ps) : ∃ kd ad, v = .ref ad ∧ Src FA L n H kd ad ps := by
  cases h <;> simp [seqOf] at e
  · rename_i a xs vs e1 r
    subst e
    exact ⟨.t, a, rfl, vs, e1, (fun z => by cases z), r⟩
  · rename_i a xs vs e1 ap r
    subst e
    exact ⟨.l, a, rfl, vs, e1, (fun _ => ap), r⟩
theorem Src.step {L L' : Nm} {n n' : Nat} {H H' : Hp} {kd : Sk} {ad : Addr} {ps : List PV} (h : Src FA L n H kd ad ps) (st : Step L n H L' n' H') : Src FA L' n' H' kd ad ps := by
  obtain ⟨vs, h1, h2, h3⟩ := h
  cases kd with
  | l =>
    obtain ⟨g1, g2⟩ := Rd.step st h1 (h2 rfl)
    exact ⟨vs, g1, fun _ => g2, h3.up st⟩
  | t => exact ⟨vs, st.tups _ _ h1, (fun z => by cases z), h3.up st⟩
theorem Src.sq {L : Nm} {n : Nat} {H : Hp} {kd : Sk} {ad : Addr} {ps : List PV} (h : Src FA L n H kd ad ps) : ∃ vs, SqK H kd ad vs ∧ Reps FA L n H ps vs := let ⟨vs, h1, _, h3⟩ := h; ⟨vs, h1, h3⟩
theorem Src.nth {L : Nm} {n : Nat} {H : Hp} {kd : Sk} {ad : Addr} {ps : List PV} (h : Src FA L n H kd ad ps) {i : Nat} (hi : i < ps.length) : ∃ vs v p, SqK H kd ad vs ∧ vs[i]? = some v ∧ ps[i]? = some p ∧ Rep FA L n H p v := by
  obtain ⟨vs, h1, _, h3⟩ := h
  obtain ⟨v, e1, e2⟩ := h3.get (List.getElem?_eq_getElem hi)
  exact ⟨vs, v, _, h1, e1, List.getElem?_eq_getElem hi, e2⟩
theorem Src.nth2 {L : Nm} {n : Nat} {H : Hp} {kd : Sk} {ad : Addr} {ps : List PV} (h : Src FA L n H kd ad ps) {i : Nat} {v : V} (hv : ∀ vs, SqK H kd ad vs → vs[i]? = some v) : ∃ p, ps[i]? = some p ∧ Rep FA L n H p v := by
  obtain ⟨vs, h1, _, h3⟩ := h
  exact h3.back (hv vs h1)
section
variable {L : Nm} {n : Nat} {H : Hp} {K : PySem.W.Frag} {kd k1 k2 k3 : Sk} {ad a1 a2 a3 : Addr} {ps qs us : List PV}
theorem wk_l (h : Src FA L n H .l ad ps) : Wk FA L n H ps (Itl K ad) where
  goes := fun i L' n' H' st hi => by
    obtain ⟨vs, v, p, g1, g2, g3, g4⟩ := (h.step st).nth hi
    exact ⟨vs, v, .inl g1, g2⟩
  stops := fun L' n' H' st => by
    obtain ⟨vs, g1, g2⟩ := (h.step st).sq
    exact ⟨vs, .inl g1, by rw [g2.length]; exact Nat.le_refl _⟩
  yields := fun i L' st H' x H'' hs sm hi y => by
    obtain ⟨rfl, y⟩ := y
    obtain ⟨p, e, r⟩ := (h.step hs).nth2 (v := x) (fun vs g => y vs (.inl g))
    exact ⟨p, e, Step.refl, sm, r, fun _ _ e => e⟩
theorem wk_t (h : Src FA L n H .t ad ps) : Wk FA L n H ps (Itt K ad) where
  goes := fun i L' n' H' st hi => by
    obtain ⟨vs, v, p, g1, g2, g3, g4⟩ := (h.step st).nth hi
    exact ⟨vs, v, .inl (.inl g1), g2⟩
  stops := fun L' n' H' st => by
    obtain ⟨vs, g1, g2⟩ := (h.step st).sq
    exact ⟨vs, .inl (.inl g1), by rw [g2.length]; exact Nat.le_refl _⟩
  yields := fun i L' st H' x H'' hs sm hi y => by
    obtain ⟨rfl, y⟩ := y
    obtain ⟨p, e, r⟩ := (h.step hs).nth2 (v := x) (fun vs g => y vs (.inl (.inl g)))
    exact ⟨p, e, Step.refl, sm, r, fun _ _ e => e⟩
theorem rangeL_len : ∀ (m : Nat) (lo : Int), (rangeL lo m).length = m
  | 0, _ => rfl
  | m + 1, lo => by
    show (rangeL (lo + 1) m).length + 1 = m + 1
    rw [rangeL_len m]
theorem rangeL_get : ∀ (m : Nat) (lo : Int) (i : Nat), i < m → (rangeL lo m)[i]? = some (.int (lo + i))
  | 0, _, _, h => absurd h (Nat.not_lt_zero _)
  | m + 1, lo, 0, _ => by
    show some (PV.int lo) = some (.int (lo + ((0 : Nat) : Int)))
    rw [Int.natCast_zero, Int.add_zero]
  | m + 1, lo, i + 1, h => by
    show (rangeL (lo + 1) m)[i]? = _
    rw [rangeL_get m (lo + 1) i (by omega)]
    congr 2
    omega
theorem wk_r {lo : Int} {m : Nat} : Wk FA L n H (rangeL lo m) (Itr lo m) where
  goes := fun i L' n' H' st hi => by rw [rangeL_len] at hi; exact hi
  stops := fun L' n' H' st => by rw [rangeL_len]; exact Nat.le_refl _
  yields := fun i L' st H' x H'' hs sm hi y => by
    obtain ⟨rfl, rfl⟩ := y
    rw [rangeL_len] at hi
    exact ⟨_, rangeL_get m lo i hi, Step.refl, sm, .int _, fun _ _ e => e⟩
theorem enumL_len : ∀ (xs : List PV) (i : Nat), (enumL i xs).length = xs.length
  | [], _ => rfl
  | x :: r, i => by
    show (enumL (i + 1) r).length + 1 = r.length + 1
    rw [enumL_len r]
theorem enumL_get : ∀ (xs : List PV) (j i : Nat) (p : PV), xs[i]? = some p → (enumL j xs)[i]? = some (.tup [.int ((j + i : Nat)), p])
  | [], _, _, _, h => by simp at h
  | x :: r, j, 0, p, h => by
    have e : x = p := Option.some.inj h
    subst e
    rfl
  | x :: r, j, i + 1, p, h => by
    show (enumL (j + 1) r)[i]? = _
    rw [enumL_get r (j + 1) i p h]
    congr 4
    omega
theorem zipL_len : ∀ (xs ys : List PV), (zipL xs ys).length = min xs.length ys.length
  | [], _ => by simp [zipL]
  | _ :: _, [] => by simp [zipL]
  | x :: xs, y :: ys => by
    show (zipL xs ys).length + 1 = min (xs.length + 1) (ys.length + 1)
    rw [zipL_len xs ys]
    omega
theorem zipL_get : ∀ (xs ys : List PV) (i : Nat) (p q : PV), xs[i]? = some p → ys[i]? = some q → (zipL xs ys)[i]? = some (.tup [p, q])
  | [], _, _, _, _, h, _ => by simp at h
  | _ :: _, [], _, _, _, _, h => by simp at h
  | x :: xs, y :: ys, 0, p, q, h, g => by
    have e : x = p := Option.some.inj h
    have e2 : y = q := Option.some.inj g
    subst e e2
    rfl
  | x :: xs, y :: ys, i + 1, p, q, h, g => zipL_get xs ys i p q h g
theorem zipL3_len : ∀ (xs ys zs : List PV), (zipL3 xs ys zs).length = min (min xs.length ys.length) zs.length
  | [], _, _ => by simp [zipL3]
  | _ :: _, [], _ => by simp [zipL3]
  | _ :: _, _ :: _, [] => by simp [zipL3]
  | x :: xs, y :: ys, z :: zs => by
    show (zipL3 xs ys zs).length + 1 = min (min (xs.length + 1) (ys.length + 1)) (zs.length + 1)
    rw [zipL3_len xs ys zs]
    omega
theorem zipL3_get : ∀ (xs ys zs : List PV) (i : Nat) (p q u : PV), xs[i]? = some p → ys[i]? = some q → zs[i]? = some u → (zipL3 xs ys zs)[i]? = some (.tup [p, q, u])
  | [], _, _, _, _, _, _, h, _, _ => by simp at h
  | _ :: _, [], _, _, _, _, _, _, h, _ => by simp at h
  | _ :: _, _ :: _, [], _, _, _, _, _, _, h => by simp at h
  | x :: xs, y :: ys, z :: zs, 0, p, q, u, h, g, f => by
    have e : x = p := Option.some.inj h
    have e2 : y = q := Option.some.inj g
    have e3 : z = u := Option.some.inj f
    subst e e2 e3
    rfl
  | x :: xs, y :: ys, z :: zs, i + 1, p, q, u, h, g, f => zipL3_get xs ys zs i p q u h g f
theorem wk_en (h : Src FA L n H kd ad ps) : Wk FA L n H (enumL 0 ps) (ItE kd ad) where
  goes := fun i L' n' H' st hi => by
    rw [enumL_len] at hi
    obtain ⟨vs, v, p, g1, g2, g3, g4⟩ := (h.step st).nth hi
    exact ⟨vs, v, g1, g2⟩
  stops := fun L' n' H' st => by
    obtain ⟨vs, g1, g2⟩ := (h.step st).sq
    exact ⟨vs, g1, by rw [enumL_len, g2.length]⟩
  yields := fun i L' st H' x H'' hs sm hi y => by
    obtain ⟨T, v, rfl, hT, rfl, y⟩ := y
    obtain ⟨p, e, r⟩ := (h.step hs).nth2 (v := v) y
    refine ⟨_, enumL_get ps 0 i p e, Step.alloc hT, sm.alloc hT, .tup upd_same (.cons ?_ (.cons (r.up (Step.alloc hT)) .nil)), fun b o e => by rw [upd_ne (ne_of_none e hT)]; exact e⟩
    rw [Nat.zero_add]
    exact .int _
theorem wk_z2 (h1 : Src FA L n H k1 a1 ps) (h2 : Src FA L n H k2 a2 qs) : Wk FA L n H (zipL ps qs) (ItZ k1 k2 a1 a2) where
  goes := fun i L' n' H' st hi => by
    rw [zipL_len] at hi
    obtain ⟨vs, v, p, g1, g2, g3, g4⟩ := (h1.step st).nth (i := i) (by omega)
    obtain ⟨ws, w, q, f1, f2, f3, f4⟩ := (h2.step st).nth (i := i) (by omega)
    exact ⟨vs, ws, v, w, g1, f1, g2, f2⟩
  stops := fun L' n' H' st => by
    obtain ⟨vs, g1, g2⟩ := (h1.step st).sq
    obtain ⟨ws, f1, f2⟩ := (h2.step st).sq
    exact ⟨vs, ws, g1, f1, by rw [zipL_len, g2.length, f2.length]⟩
  yields := fun i L' st H' x H'' hs sm hi y => by
    obtain ⟨T, v, w, rfl, hT, rfl, y1, y2⟩ := y
    obtain ⟨p, e, r⟩ := (h1.step hs).nth2 (v := v) y1
    obtain ⟨q, e2, r2⟩ := (h2.step hs).nth2 (v := w) y2
    exact ⟨_, zipL_get ps qs i p q e e2, Step.alloc hT, sm.alloc hT, .tup upd_same (.cons (r.up (Step.alloc hT)) (.cons (r2.up (Step.alloc hT)) .nil)), fun b o e => by rw [upd_ne (ne_of_none e hT)]; exact e⟩
theorem wk_z3 (h1 : Src FA L n H k1 a1 ps) (h2 : Src FA L n H k2 a2 qs) (h3 : Src FA L n H k3 a3 us) : Wk FA L n H (zipL3 ps qs us) (ItZ3 k1 k2 k3 a1 a2 a3) where
  goes := fun i L' n' H' st hi => by
    rw [zipL3_len] at hi
    obtain ⟨vs, v, p, g1, g2, g3, g4⟩ := (h1.step st).nth (i := i) (by omega)
    obtain ⟨ws, w, q, f1, f2, f3, f4⟩ := (h2.step st).nth (i := i) (by omega)
    obtain ⟨xs, x, u, d1, d2, d3, d4⟩ := (h3.step st).nth (i := i) (by omega)
    exact ⟨vs, ws, xs, v, w, x, g1, f1, d1, g2, f2, d2⟩
  stops := fun L' n' H' st => by
    obtain ⟨vs, g1, g2⟩ := (h1.step st).sq
    obtain ⟨ws, f1, f2⟩ := (h2.step st).sq
    obtain ⟨xs, d1, d2⟩ := (h3.step st).sq
    exact ⟨vs, ws, xs, g1, f1, d1, by rw [zipL3_len, g2.length, f2.length, d2.length]⟩
  yields := fun i L' st H' x H'' hs sm hi y => by
    obtain ⟨T, v, w, z, rfl, hT, rfl, y1, y2, y3⟩ := y
    obtain ⟨p, e, r⟩ := (h1.step hs).nth2 (v := v) y1
    obtain ⟨q, e2, r2⟩ := (h2.step hs).nth2 (v := w) y2
    obtain ⟨u, e3, r3⟩ := (h3.step hs).nth2 (v := z) y3
    exact ⟨_, zipL3_get ps qs us i p q u e e2 e3, Step.alloc hT, sm.alloc hT, .tup upd_same (.cons (r.up (Step.alloc hT)) (.cons (r2.up (Step.alloc hT)) (.cons (r3.up (Step.alloc hT)) .nil))), fun b o e => by rw [upd_ne (ne_of_none e hT)]; exact e⟩
end

/-! ### what is walked, as ML says it -/
def tI (FA : Gv) (Ex : XW) (C : Calls) (it : I) : TI := fun σ H R => from_ FA Ex (evI C it) (fun ps s L H' => ∀ J, Wk FA L s.length H' ps J → R J H') σ H
theorem pi_imp {tg e : Expr} {t t' : TI} (h : PI X tg e t) (i : ∀ σ H Q, t' σ H Q → t σ H Q) : PI X tg e t' := ⟨fun pins s σ H R I q => h.run pins s σ H R I (i σ H R q)⟩
theorem pi_m_seq {tg : Expr} (ha : PE X a' (tE FA Ex C a)) : PI X tg a' (tI FA Ex C (.seq a)) := by
  refine pi_imp (pi_sq ha) fun σ H R h => ?_
  obtain ⟨L, r, s, hE, hS, h⟩ := h
  refine first_E hE hS h fun p s1 L1 H1 v hE1 hS1 st1 rv h1 => ?_
  cases e : seqOf p with
  | none => simp only [e] at h1; exact h1.elim
  | some xs =>
    simp only [e] at h1
    obtain ⟨kd, ad, rfl, hs⟩ := src_of rv e
    refine ⟨ad, rfl, ?_⟩
    obtain ⟨vs, g1, _⟩ := hs.sq
    cases kd with
    | l => exact .inl ⟨vs, g1, okA.at h1 hS1 _ (wk_l hs)⟩
    | t => exact .inr ⟨vs, g1, okA.at h1 hS1 _ (wk_t hs)⟩
theorem small_of {i : Int} (h : small62 i = true) : -(2 ^ 62) ≤ i ∧ i < 2 ^ 62 := by
  unfold small62 at h
  simp only [Bool.and_eq_true, decide_eq_true_eq] at h
  have e : (2 : Int) ^ 62 = 4611686018427387904 := by decide
  rw [e]
  exact h
theorem reps_range {L : Nm} {n : Nat} {H : Hp} : ∀ (m : Nat) (lo : Int), Reps FA L n H (rangeL lo m) ((List.range m).map fun (i : Nat) => V.int (lo + (i : Nat)))
  | 0, _ => .nil
  | m + 1, lo => by
    rw [List.range_succ_eq_map, List.map_cons, List.map_map]
    have e : ((fun (i : Nat) => V.int (lo + (i : Nat))) ∘ Nat.succ) = fun (i : Nat) => V.int (lo + 1 + (i : Nat)) := by
      funext i
      show V.int (lo + ((i + 1 : Nat) : Int)) = V.int (lo + 1 + (i : Int))
      congr 1
      omega
    rw [e]
    have e0 : lo + ((0 : Nat) : Int) = lo := by simp
    rw [e0]
    exact .cons (.int lo) (reps_range m (lo + 1))
theorem pe_m_lrange (cx : Ctx RX FA M Ex C k N sc X) {p p2 pos2 : Pos} (h1 : globB sc "list" = true) (h2 : globB sc "range" = true) (hs : notStar a' = true) (ha : PE X a' (tE FA Ex C a)) :
    PE X (.Call (.Name "list" p) [.Call (.Name "range" p2) [a'] [] pos2] [] pos) (tE FA Ex C (.lrange a)) := by
  refine pe_imp (pe_listRg cx.calm (cx.glob h1) (cx.blt _ (by decide)) (prg_1 (cx.glob h2) (cx.blt _ (by decide)) ha (star_cons hs))) fun σ H Q h => ?_
  obtain ⟨L, r, s, hE, hS, h⟩ := h
  have h : okA FA Ex L s.length H (kV FA Q) (evE C (.lrange a) r s) := h
  simp only [evE] at h
  refine first_E hE hS h fun p s1 L1 H1 v hE1 hS1 st1 rv h1 => ?_
  split at h1
  · rename_i j
    have e := rep_int rv
    subst e
    split at h1
    · rename_i hj
      rw [Bool.and_eq_true, decide_eq_true_eq] at hj
      refine ⟨j, rfl, ⟨by decide, by decide, (small_of hj.1).1, (small_of hj.1).2, ?_⟩, fun q hq => ?_⟩
      · rw [Int.sub_zero]
        have : big = 1000000 := rfl
        omega
      · have rr : Reps FA L1 s1.length H1 (rangeL 0 j.toNat) (rgV 0 j) := by
          unfold rgV
          rw [Int.sub_zero]
          exact reps_range j.toNat 0
        exact h1 _ _ (Step.alloc hq) (hS1.alloc hq) _ (.lst (.inl upd_same) (hS1.free hq) (rr.up (Step.alloc hq)))
    · exact h1.elim
  · exact h1.elim
theorem pe_m_trange (cx : Ctx RX FA M Ex C k N sc X) {p p2 pos2 : Pos} (h1 : globB sc "tuple" = true) (h2 : globB sc "range" = true) (hs : notStar a' = true) (ha : PE X a' (tE FA Ex C a)) :
    PE X (.Call (.Name "tuple" p) [.Call (.Name "range" p2) [a'] [] pos2] [] pos) (tE FA Ex C (.trange a)) := by
  refine pe_imp (pe_tupRg cx.calm (cx.glob h1) (cx.blt _ (by decide)) (prg_1 (cx.glob h2) (cx.blt _ (by decide)) ha (star_cons hs))) fun σ H Q h => ?_
  obtain ⟨L, r, s, hE, hS, h⟩ := h
  have h : okA FA Ex L s.length H (kV FA Q) (evE C (.trange a) r s) := h
  simp only [evE] at h
  refine first_E hE hS h fun p s1 L1 H1 v hE1 hS1 st1 rv h1 => ?_
  split at h1
  · rename_i j
    have e := rep_int rv
    subst e
    split at h1
    · rename_i hj
      rw [Bool.and_eq_true, decide_eq_true_eq] at hj
      refine ⟨j, rfl, ⟨by decide, by decide, (small_of hj.1).1, (small_of hj.1).2, ?_⟩, fun q hq => ?_⟩
      · rw [Int.sub_zero]
        have : big = 1000000 := rfl
        omega
      · have rr : Reps FA L1 s1.length H1 (rangeL 0 j.toNat) (rgV 0 j) := by
          unfold rgV
          rw [Int.sub_zero]
          exact reps_range j.toNat 0
        exact h1 _ _ (Step.alloc hq) (hS1.alloc hq) _ (.tup upd_same (rr.up (Step.alloc hq)))
    · exact h1.elim
  · exact h1.elim
theorem pi_m_range1 (cx : Ctx RX FA M Ex C k N sc X) {tg : Expr} {p : Pos} (hg : globB sc "range" = true) (hs : notStar a' = true) (ha : PE X a' (tE FA Ex C a)) : PI X tg (.Call (.Name "range" p) [a'] [] pos) (tI FA Ex C (.range1 a)) := by
  refine pi_imp (pi_range1 (cx.glob hg) (cx.blt _ (by decide)) (pa_cons ha pa_nil (star_cons hs)) (star_cons hs)) fun σ H R h => ?_
  obtain ⟨L, r, s, hE, hS, h⟩ := h
  refine first_E hE hS h fun p s1 L1 H1 v hE1 hS1 st1 rv h1 => ?_
  split at h1
  · rename_i j
    have e := rep_int rv
    subst e
    split at h1
    · rename_i hj
      exact ⟨j, rfl, (small_of hj).1, (small_of hj).2, okA.at h1 hS1 _ wk_r⟩
    · exact h1.elim
  · exact h1.elim
theorem pi_m_range2 (cx : Ctx RX FA M Ex C k N sc X) {tg : Expr} {p : Pos} (hg : globB sc "range" = true) (hs : notStar a' = true) (hs2 : notStar b' = true) (ha : PE X a' (tE FA Ex C a)) (hb : PE X b' (tE FA Ex C b)) : PI X tg (.Call (.Name "range" p) [a', b'] [] pos) (tI FA Ex C (.range2 a b)) := by
  refine pi_imp (pi_range2 (cx.glob hg) (cx.blt _ (by decide)) (pa_cons ha (pa_cons hb pa_nil (star_cons hs2)) (star_cons hs)) (by rw [star_cons hs, star_cons hs2]; rfl) (star_cons hs2)) fun σ H R h => ?_
  obtain ⟨L, r, s, hE, hS, h⟩ := h
  refine first_E hE hS h fun p s1 L1 H1 v hE1 hS1 st1 rv h1 => ?_
  refine first_E hE1 hS1 h1 fun q s2 L2 H2 w hE2 hS2 st2 rw h2 => ?_
  split at h2
  · rename_i i j
    have e := rep_int rv
    have e2 := rep_int rw
    subst e e2
    split at h2
    · rename_i hj
      rw [Bool.and_eq_true] at hj
      exact ⟨i, j, rfl, ⟨(small_of hj.1).1, (small_of hj.1).2, (small_of hj.2).1, (small_of hj.2).2⟩, okA.at h2 hS2 _ wk_r⟩
    · exact h2.elim
  · exact h2.elim
theorem pi_m_enum (cx : Ctx RX FA M Ex C k N sc X) {elts : List Expr} {kk : Nat} {tpos p : Pos} (hg : globB sc "enumerate" = true) (hs : notStar a' = true) (ha : PE X a' (tE FA Ex C a)) : PI X (.Tuple elts kk tpos) (.Call (.Name "enumerate" p) [a'] [] pos) (tI FA Ex C (.enum a)) := by
  refine pi_imp (pi_en (cx.glob hg) (cx.blt _ (by decide)) (pa_cons ha pa_nil (star_cons hs)) (star_cons hs)) fun σ H R h => ?_
  obtain ⟨L, r, s, hE, hS, h⟩ := h
  refine first_E hE hS h fun p s1 L1 H1 v hE1 hS1 st1 rv h1 => ?_
  cases e : seqOf p with
  | none => simp only [e] at h1; exact h1.elim
  | some xs =>
    simp only [e] at h1
    obtain ⟨kd, ad, rfl, hs⟩ := src_of rv e
    obtain ⟨vs, g1, _⟩ := hs.sq
    exact ⟨kd, ad, vs, rfl, g1, okA.at h1 hS1 _ (wk_en hs)⟩
theorem pi_m_zip (cx : Ctx RX FA M Ex C k N sc X) {elts : List Expr} {kk : Nat} {tpos p : Pos} (hg : globB sc "zip" = true) (hs : notStar a' = true) (hs2 : notStar b' = true) (ha : PE X a' (tE FA Ex C a)) (hb : PE X b' (tE FA Ex C b)) : PI X (.Tuple elts kk tpos) (.Call (.Name "zip" p) [a', b'] [] pos) (tI FA Ex C (.zip a b)) := by
  refine pi_imp (pi_z2 (cx.glob hg) (cx.blt _ (by decide)) (pa_cons ha (pa_cons hb pa_nil (star_cons hs2)) (star_cons hs)) (star_cons hs) (star_any (by simp [hs2]))) fun σ H R h => ?_
  obtain ⟨L, r, s, hE, hS, h⟩ := h
  refine first_E hE hS h fun p s1 L1 H1 v hE1 hS1 st1 rv h1 => ?_
  refine first_E hE1 hS1 h1 fun q s2 L2 H2 w hE2 hS2 st2 rw h2 => ?_
  cases e : seqOf p with
  | none => simp only [e] at h2; exact h2.elim
  | some xs =>
    cases e2 : seqOf q with
    | none => simp only [e, e2] at h2; exact h2.elim
    | some ys =>
      simp only [e, e2] at h2
      obtain ⟨kd, ad, rfl, d1⟩ := src_of (rv.up st2) e
      obtain ⟨kd2, ad2, rfl, d2⟩ := src_of rw e2
      obtain ⟨vs, g1, _⟩ := d1.sq
      obtain ⟨ws, g2, _⟩ := d2.sq
      exact ⟨kd, kd2, ad, ad2, vs, ws, rfl, g1, g2, okA.at h2 hS2 _ (wk_z2 d1 d2)⟩
theorem pi_m_zip3 (cx : Ctx RX FA M Ex C k N sc X) {elts : List Expr} {kk : Nat} {tpos p : Pos} (hg : globB sc "zip" = true) (hs : notStar a' = true) (hs2 : notStar b' = true) (hs3 : notStar c' = true) (ha : PE X a' (tE FA Ex C a)) (hb : PE X b' (tE FA Ex C b)) (hc : PE X c' (tE FA Ex C c)) :
    PI X (.Tuple elts kk tpos) (.Call (.Name "zip" p) [a', b', c'] [] pos) (tI FA Ex C (.zip3 a b c)) := by
  refine pi_imp (pi_z3 (cx.glob hg) (cx.blt _ (by decide)) (pa_cons ha (pa_cons hb (pa_cons hc pa_nil (star_cons hs3)) (star_cons hs2)) (star_cons hs)) (star_cons hs) (star_any (by simp [hs2, hs3]))) fun σ H R h => ?_
  obtain ⟨L, r, s, hE, hS, h⟩ := h
  refine first_E hE hS h fun p s1 L1 H1 v hE1 hS1 st1 rv h1 => ?_
  refine first_E hE1 hS1 h1 fun q s2 L2 H2 w hE2 hS2 st2 rw h2 => ?_
  refine first_E hE2 hS2 h2 fun q3 s3 L3 H3 w3 hE3 hS3 st3 rw3 h3 => ?_
  cases e : seqOf p with
  | none => simp only [e] at h3; exact h3.elim
  | some xs =>
    cases e2 : seqOf q with
    | none => simp only [e, e2] at h3; exact h3.elim
    | some ys =>
      cases e3 : seqOf q3 with
      | none => simp only [e, e2, e3] at h3; exact h3.elim
      | some zs =>
        simp only [e, e2, e3] at h3
        obtain ⟨kd, ad, rfl, d1⟩ := src_of ((rv.up st2).up st3) e
        obtain ⟨kd2, ad2, rfl, d2⟩ := src_of (rw.up st3) e2
        obtain ⟨kd3, ad3, rfl, d3⟩ := src_of rw3 e3
        obtain ⟨vs, g1, _⟩ := d1.sq
        obtain ⟨ws, g2, _⟩ := d2.sq
        obtain ⟨us, g3, _⟩ := d3.sq
        exact ⟨kd, kd2, kd3, ad, ad2, ad3, vs, ws, us, rfl, g1, g2, g3, okA.at h3 hS3 _ (wk_z3 d1 d2 d3)⟩
end
end ML

set_option Elab.async false
set_option maxRecDepth 10000
set_option linter.all false
set_option maxHeartbeats 2000000
/-! ML: targets, comprehensions. -/
namespace ML
open PySem PySem.Spec PyProof.Rows L2 MlI
def noEx : XW := fun _ _ _ _ => False
theorem wipe_get (σ : L2.St) : ∀ (vs : List Nat) (j : Nat), (wipe σ vs)[j]? = if j ∈ vs then (if j < σ.length then some none else none) else σ[j]?
  | [], j => by simp [wipe]
  | v :: vs, j => by
    unfold wipe
    by_cases hj : v = j
    · subst hj
      rw [if_pos List.mem_cons_self]
      by_cases hl : v < σ.length
      · rw [if_pos hl, List.getElem?_set_self (by rw [wipe_length]; exact hl)]
      · rw [if_neg hl, List.getElem?_eq_none (by rw [List.length_set, wipe_length]; omega)]
    · rw [List.getElem?_set_ne hj, wipe_get σ vs j]
      have e : (j ∈ v :: vs) ↔ j ∈ vs := by
        constructor
        · intro h
          rcases List.mem_cons.mp h with e | h
          · exact absurd e.symm hj
          · exact h
        · exact List.mem_cons_of_mem _
      by_cases hm : j ∈ vs
      · rw [if_pos hm, if_pos (e.mpr hm)]
      · rw [if_neg hm, if_neg (fun h => hm (e.mp h))]
theorem wipe_set {σ : L2.St} {vs : List Nat} {i : Nat} {v : Option V} (h : i ∈ vs) : wipe (σ.set i v) vs = wipe σ vs := by
  apply List.ext_getElem?
  intro j
  rw [wipe_get, wipe_get, List.length_set]
  by_cases hj : j ∈ vs
  · rw [if_pos hj, if_pos hj]
  · rw [if_neg hj, if_neg hj, List.getElem?_set_ne (fun e => hj (by rw [← e]; exact h))]
theorem wipe_wipe {σ : L2.St} {vs : List Nat} : wipe (wipe σ vs) vs = wipe σ vs := by
  apply List.ext_getElem?
  intro j
  rw [wipe_get, wipe_get, wipe_length]
  by_cases hj : j ∈ vs
  · rw [if_pos hj, if_pos hj]
  · rw [if_neg hj]
/-- only the slots is may differ -/
def Only (is : List Nat) (σ σ' : L2.St) : Prop := ∀ vs : List Nat, (∀ i ∈ is, i ∈ vs) → wipe σ' vs = wipe σ vs
section
variable {FA : Gv} {X : Cx}
def tGs (FA : Gv) (is : List Nat) : TGs := fun vs σ H Q => ∃ L r s ps r', RepE FA L s.length H σ r ∧ Sim FA L H s ∧ Reps FA L s.length H ps vs ∧ setAllE is ps r = some r' ∧ ∀ σ', RepE FA L s.length H σ' r' → Only is σ σ' → Q σ' H
def tG (FA : Gv) (is : List Nat) (one : Bool) : TG := fun v σ H Q => ∃ L r s p r', RepE FA L s.length H σ r ∧ Sim FA L H s ∧ Rep FA L s.length H p v ∧ bindT is one p r = some r' ∧ ∀ σ', RepE FA L s.length H σ' r' → Only is σ σ' → Q σ' H
/-- a name may be stored -/
structure Sto (X : Cx) (i : Nat) (x : Str) : Prop where
  nd : X.N.Nodup
  at_ : X.N[i]? = some x
  loc : Loc X.env.scope x
  fn : X.fn x = true ∨ X.env.scope.names.lookup x = some .local
theorem pg_imp {e : Expr} {t t' : TG} (h : PG X e t) (i : ∀ v σ H Q, t' v σ H Q → t v σ H Q) : PG X e t' := ⟨fun pins s σ H v u Q I r q => h.run pins s σ H v u Q I r (i v σ H Q q)⟩
theorem pgs_imp {e : List Expr} {t t' : TGs} (h : PGs X e t) (i : ∀ v σ H Q, t' v σ H Q → t v σ H Q) : PGs X e t' := ⟨fun pins s σ H v u Q I r q => h.run pins s σ H v u Q I r (i v σ H Q q)⟩
theorem pg_m_name {i : Nat} {x : Str} {p : Pos} (h : Sto X i x) : PG X (.Name x p) (tG FA [i] true) := by
  refine pg_imp (pg_name h.nd h.at_ h.loc h.fn) fun v σ H Q q => ?_
  obtain ⟨L, r, s, pv, r', hE, hS, rv, hb, q⟩ := q
  have e : r.set i (some pv) = r' := Option.some.inj hb
  subst e
  exact q _ (hE.set rv) fun vs hv => wipe_set (hv i (by simp))
/-- names in order -/
inductive Names (X : Cx) : List Nat → List Expr → Prop where
  | nil : Names X [] []
  | cons {i : Nat} {x : Str} {p : Pos} {is : List Nat} {es : List Expr} : Sto X i x → Names X is es → Names X (i :: is) (.Name x p :: es)
theorem pgs_m : ∀ {is : List Nat} {es : List Expr}, Names X is es → PGs X es (tGs FA is)
  | _, _, .nil => pgs_imp pgs_nil fun vs σ H Q q => by
    obtain ⟨L, r, s, ps, r', hE, hS, rv, hb, q⟩ := q
    cases rv with
    | nil =>
      have e : r = r' := Option.some.inj hb
      subst e
      exact ⟨rfl, q _ hE fun _ _ => rfl⟩
    | cons h1 h2 => cases hb
  | _, _, .cons (i := i) (is := is) hx hr => pgs_imp (pgs_cons (pg_m_name (FA := FA) hx) (pgs_m hr)) fun vs σ H Q q => by
    obtain ⟨L, r, s, ps, r', hE, hS, rv, hb, q⟩ := q
    cases rv with
    | nil => cases hb
    | cons h1 h2 =>
      refine ⟨_, _, rfl, L, r, s, _, _, hE, hS, h1, rfl, fun σ1 hE1 o1 => ?_⟩
      refine ⟨L, _, s, _, r', hE1, hS, h2, hb, fun σ2 hE2 o2 => q σ2 hE2 fun vs hv => ?_⟩
      rw [o2 vs fun j hj => hv j (List.mem_cons_of_mem _ hj), o1 vs fun j hj => by
        have e : j = i := by simpa using hj
        rw [e]
        exact hv i List.mem_cons_self]
theorem names_len : ∀ {is : List Nat} {es : List Expr}, Names X is es → (assignEach es X.env).length = is.length ∧ (assignEach es X.env).findIdx? (·.1) = none
  | _, _, .nil => ⟨rfl, rfl⟩
  | _, _, .cons (x := x) (p := p) (es := es) hx hr => by
    obtain ⟨h1, h2⟩ := names_len hr
    have e : assignEach (.Name x p :: es) X.env = (false, assign (.Name x p) X.env) :: assignEach es X.env := rfl
    rw [e]
    refine ⟨by rw [List.length_cons, h1]; rfl, ?_⟩
    rw [List.findIdx?_cons]
    simp [h2]
theorem setAllE_len : ∀ (is : List Nat) (ps : List PV) (r r' : Env), setAllE is ps r = some r' → ps.length = is.length
  | [], [], _, _, _ => rfl
  | [], _ :: _, _, _, h => by cases h
  | _ :: _, [], _, _, h => by cases h
  | i :: is, p :: ps, r, r', h => by
    rw [List.length_cons, List.length_cons, setAllE_len is ps _ r' h]
theorem pg_m_tup {is : List Nat} {es : List Expr} {kk : Nat} {p : Pos} (hc : X.calm = true) (h : Names X is es) : PG X (.Tuple es kk p) (tG FA is false) := by
  obtain ⟨h1, h2⟩ := names_len h
  refine pg_imp (pg_tup hc (pgs_m (FA := FA) h) h1 h2) fun v σ H Q q => ?_
  obtain ⟨L, r, s, pv, r', hE, hS, rv, hb, q⟩ := q
  cases pv with
  | tup xs =>
    have hb : setAllE is xs r = some r' := hb
    cases rv with
    | tup e rs => exact ⟨_, _, rfl, .inl (.inl e), by rw [← rs.length]; exact setAllE_len _ _ _ _ hb, L, r, s, _, r', hE, hS, rs, hb, q⟩
  | _ => cases hb

/-! ### hiding -/
def hide (L : Nm) (D : Addr) : Nm := ⟨L.at_, fun a => L.hid a ∨ a = D, L.tab⟩
def unhide (L : Nm) (D : Addr) : Nm := ⟨L.at_, fun a => L.hid a ∧ a ≠ D, L.tab⟩
theorem Step.hide {L : Nm} {n : Nat} {H : Hp} {D : Addr} {o : HO} (hD : H D = none) : Step L n H (hide L D) n (upd H D o) where
  le := Nat.le_refl _
  same := fun _ _ => rfl
  new := fun _ h1 h2 => absurd h2 (Nat.not_lt.mpr h1)
  keep := fun a u e _ _ => by rw [upd_ne (ne_of_none e hD)]; exact e
  tups := fun a vs e => by rw [upd_ne (ne_of_none e hD)]; exact e
  there := fun a e => by
    by_cases q : a = D
    · rw [q]; exact hD
    · rw [upd_ne q] at e; exact e
  hid := fun a o e h => by
    rcases h with h | h
    · exact h
    · rw [h, hD] at e; cases e
  hidk := fun _ h => .inl h
  tab := rfl
  tabs := fun z => z.ext fun b o e => by rw [upd_ne (ne_of_none e hD)]; exact e
theorem Sim.hide {L : Nm} {H : Hp} {D : Addr} {s : Store} {o : HO} (sm : Sim FA L H s) (hD : H D = none) : Sim FA (hide L D) (upd H D o) s := by
  have st : Step L s.length H (ML.hide L D) s.length (upd H D o) := Step.hide hD
  refine ⟨fun l xs e => ?_, sm.inj, fun a z => ?_, fun l hl z => ?_, sm.tab, st.tabs sm.tabs⟩
  · obtain ⟨vs, h1, h2, h3⟩ := sm.obj l xs e
    exact ⟨vs, by
      show upd H D o (L l) = _
      rw [upd_ne (ne_of_none h1 hD)]; exact h1, h2.up st, h3⟩
  · rcases z with z | z
    · obtain ⟨u, e⟩ := sm.hid a z
      exact ⟨u, by rw [upd_ne (ne_of_none e hD)]; exact e⟩
    · exact ⟨o, by rw [z, upd_same]⟩
  · rcases z with z | z
    · exact sm.vis l hl z
    · exact (sm.free hD).1 l hl z
mutual
theorem Rep.unhide {L : Nm} {D : Addr} {n : Nat} {H : Hp} : ∀ (p : PV) (v : V), Rep FA L n H p v → Rep FA (unhide L D) n H p v
  | .non, _, h => by cases h; exact .non
  | .bl _, _, h => by cases h; exact .bl _
  | .int _, _, h => by cases h; exact .int _
  | .str _, _, h => by cases h; exact .str _
  | .tup xs, _, h => by
    cases h with
    | tup e r => exact .tup e (Reps.unhide xs _ r)
  | .lst xs, _, h => by
    cases h with
    | lst e ap r => exact .lst e ⟨ap.1, fun z => ap.2 z.1⟩ (Reps.unhide xs _ r)
  | .loc l, _, h => by
    cases h with
    | loc hl => exact Rep.loc (L := ML.unhide L D) hl
  | .fn f, _, h => by
    cases h with
    | fn e => exact .fn e
  | .clo _ _, _, h => by
    cases h with
    | clo hm ha hc n1 n2 => exact .clo hm ha hc n1 n2
  | .exn _ _, _, h => by cases h
theorem Reps.unhide {L : Nm} {D : Addr} {n : Nat} {H : Hp} : ∀ (ps : List PV) (vs : List V), Reps FA L n H ps vs → Reps FA (unhide L D) n H ps vs
  | [], _, h => by cases h; exact .nil
  | p :: ps, _, h => by
    cases h with
    | cons h1 h2 => exact .cons (Rep.unhide p _ h1) (Reps.unhide ps _ h2)
end
mutual
theorem Rep.hw {L : Nm} {D : Addr} {n : Nat} {H : Hp} {xs : List V} {o : HO} (hD : L.hid D) (e0 : H D = some (.lst xs)) : ∀ (p : PV) (v : V), Rep FA L n H p v → Rep FA L n (upd H D o) p v
  | .non, _, h => by cases h; exact .non
  | .bl _, _, h => by cases h; exact .bl _
  | .int _, _, h => by cases h; exact .int _
  | .str _, _, h => by cases h; exact .str _
  | .tup xs, _, h => by
    cases h with
    | tup e r => exact .tup (by rw [upd_ne (fun z => by rw [z, e0] at e; cases e)]; exact e) (Reps.hw hD e0 xs _ r)
  | .lst xs, _, h => by
    cases h with
    | lst e ap r =>
      rename_i a vs
      have ne : a ≠ D := fun z => ap.2 (by rw [z]; exact hD)
      refine .lst ?_ ap (Reps.hw hD e0 xs _ r)
      rcases e with e | ⟨u, e⟩
      · exact .inl (by rw [upd_ne ne]; exact e)
      · exact .inr ⟨u, by rw [upd_ne ne]; exact e⟩
  | .loc l, _, h => by
    cases h with
    | loc hl => exact .loc hl
  | .fn f, _, h => by
    cases h with
    | fn e => exact .fn e
  | .clo _ _, _, h => by
    cases h with
    | clo hm ha hc n1 n2 =>
      refine .clo hm ((upd_ne fun z => ?_).trans ha) ((upd_ne fun z => ?_).trans hc) n1 n2
      · rw [z, e0] at ha
        exact lamO_lst _ (Option.some.inj ha).symm
      · rw [z, e0] at hc
        exact codeO_lst _ (Option.some.inj hc).symm
  | .exn _ _, _, h => by cases h
theorem Reps.hw {L : Nm} {D : Addr} {n : Nat} {H : Hp} {xs : List V} {o : HO} (hD : L.hid D) (e0 : H D = some (.lst xs)) : ∀ (ps : List PV) (vs : List V), Reps FA L n H ps vs → Reps FA L n (upd H D o) ps vs
  | [], _, h => by cases h; exact .nil
  | p :: ps, _, h => by
    cases h with
    | cons h1 h2 => exact .cons (Rep.hw hD e0 p _ h1) (Reps.hw hD e0 ps _ h2)
end
theorem Sim.hw {L : Nm} {H : Hp} {D : Addr} {s : Store} {xs : List V} {o : HO} (sm : Sim FA L H s) (hD : L.hid D) (e0 : H D = some (.lst xs)) : Sim FA L (upd H D o) s := by
  refine ⟨fun l ys e => ?_, sm.inj, fun a z => ?_, sm.vis, sm.tab, tabs_wr sm.tabs e0⟩
  · obtain ⟨vs, h1, h2, h3⟩ := sm.obj l ys e
    have hl : l < s.length := (List.getElem?_eq_some_iff.mp e).1
    exact ⟨vs, by rw [upd_ne (fun z => sm.vis l hl (by rw [z]; exact hD))]; exact h1, Reps.hw hD e0 _ _ h2, h3⟩
  · by_cases q : a = D
    · exact ⟨o, by rw [q, upd_same]⟩
    · rw [upd_ne q]; exact sm.hid a z
theorem RepE.hw {L : Nm} {n : Nat} {H : Hp} {D : Addr} {σ : L2.St} {r : Env} {xs : List V} {o : HO} (h : RepE FA L n H σ r) (hD : L.hid D) (e0 : H D = some (.lst xs)) : RepE FA L n (upd H D o) σ r :=
  ⟨h.len, fun i p e => let ⟨v, h1, h2⟩ := h.at_ i p e; ⟨v, h1, Rep.hw hD e0 _ _ h2⟩⟩
/-- a write where there was nothing at the start -/
theorem Step.hw {L L' : Nm} {n n' : Nat} {H H' : Hp} {D : Addr} {o : HO} (st : Step L n H L' n' H') (hD : H D = none) {xs : List V} (e0 : H' D = some (.lst xs)) : Step L n H L' n' (upd H' D o) where
  le := st.le
  same := st.same
  new := st.new
  keep := fun a u e ap nt => by rw [upd_ne (ne_of_none e hD)]; exact st.keep a u e ap nt
  tups := fun a vs e => by rw [upd_ne (ne_of_none e hD)]; exact st.tups a vs e
  there := fun a e => by
    by_cases q : a = D
    · rw [q]; exact hD
    · rw [upd_ne q] at e; exact st.there a e
  hid := st.hid
  hidk := st.hidk
  tab := st.tab
  tabs := fun z => by
    have := st.tabs z
    exact tabs_wr this e0
theorem Step.unhide {L L' : Nm} {n n' : Nat} {H H' : Hp} {D : Addr} (st : Step L n H L' n' H') (hD : ¬ L.hid D) : Step L n H (unhide L' D) n' H' :=
  ⟨st.le, st.same, st.new, st.keep, st.tups, st.there, fun a o e h => st.hid a o e h.1, fun a h => ⟨st.hidk a h, fun z => hD (z ▸ h)⟩, st.tab, st.tabs⟩
theorem Sim.unhide {L : Nm} {H : Hp} {D : Addr} {s : Store} (sm : Sim FA L H s) : Sim FA (unhide L D) H s :=
  ⟨fun l xs e => let ⟨vs, h1, h2, h3⟩ := sm.obj l xs e; ⟨vs, h1, Reps.unhide _ _ h2, h3⟩, sm.inj, fun a z => sm.hid a z.1, fun l hl z => sm.vis l hl z.1, sm.tab, sm.tabs⟩
mutual
theorem Rep.adopt {L : Nm} {D : Addr} {n : Nat} {H : Hp} {ws : List V} (hD : L.hid D) (e0 : H D = some (.lst ws)) : ∀ (p : PV) (v : V), Rep FA L n H p v → Rep FA (ext (unhide L D) n D) (n + 1) H p v
  | .non, _, h => by cases h; exact .non
  | .bl _, _, h => by cases h; exact .bl _
  | .int _, _, h => by cases h; exact .int _
  | .str _, _, h => by cases h; exact .str _
  | .tup xs, _, h => by
    cases h with
    | tup e r => exact .tup e (Reps.adopt hD e0 xs _ r)
  | .lst xs, _, h => by
    cases h with
    | lst e ap r =>
      refine .lst e ⟨fun l hl z => ?_, fun z => ap.2 z.1⟩ (Reps.adopt hD e0 xs _ r)
      by_cases q : l = n
      · rw [q, ext_at] at z
        exact ap.2 (by rw [← z]; exact hD)
      · rw [ext_ne q] at z
        exact ap.1 l (by omega) z
  | .loc l, _, h => by
    cases h with
    | loc hl =>
      have z : Rep FA (ext (ML.unhide L D) n D) (n + 1) H (.loc l) (.ref ((ext (ML.unhide L D) n D) l)) := .loc (by omega)
      rw [ext_ne (by omega)] at z
      exact z
  | .fn f, _, h => by
    cases h with
    | fn e => exact .fn e
  | .clo _ _, _, h => by
    cases h with
    | clo hm ha hc n1 n2 =>
      refine .clo hm ha hc (fun l hl z => ?_) fun l hl z => ?_
      · by_cases q : l = n
        · rw [q, ext_at] at z
          rw [← z, e0] at ha
          exact lamO_lst _ (Option.some.inj ha).symm
        · rw [ext_ne q] at z
          exact n1 l (by omega) z
      · by_cases q : l = n
        · rw [q, ext_at] at z
          rw [← z, e0] at hc
          exact codeO_lst _ (Option.some.inj hc).symm
        · rw [ext_ne q] at z
          exact n2 l (by omega) z
  | .exn _ _, _, h => by cases h
theorem Reps.adopt {L : Nm} {D : Addr} {n : Nat} {H : Hp} {ws : List V} (hD : L.hid D) (e0 : H D = some (.lst ws)) : ∀ (ps : List PV) (vs : List V), Reps FA L n H ps vs → Reps FA (ext (unhide L D) n D) (n + 1) H ps vs
  | [], _, h => by cases h; exact .nil
  | p :: ps, _, h => by
    cases h with
    | cons h1 h2 => exact .cons (Rep.adopt hD e0 p _ h1) (Reps.adopt hD e0 ps _ h2)
end
/-- a hidden list becomes a place of the store -/
theorem Sim.adopt {L : Nm} {H : Hp} {D : Addr} {s : Store} {ys : List PV} {ws : List V} (sm : Sim FA L H s) (hD : L.hid D) (e0 : H D = some (.lst ws)) (r : Reps FA L s.length H ys ws) (hn : nolocs ys = true) : Sim FA (ext (ML.unhide L D) s.length D) H (s ++ [.lst ys]) := by
  have el : (s ++ [Obj.lst ys]).length = s.length + 1 := by rw [List.length_append]; rfl
  refine ⟨fun l xs q => ?_, fun a b ha hb z => ?_, fun a z => sm.hid a z.1, fun l hl z => ?_, sm.tab, sm.tabs⟩
  · rw [el]
    by_cases hl : l < s.length
    · rw [List.getElem?_append_left hl] at q
      obtain ⟨vs, h1, h2, h3⟩ := sm.obj l xs q
      exact ⟨vs, by rw [ext_ne (Nat.ne_of_lt hl)]; exact h1, Reps.adopt hD e0 _ _ h2, h3⟩
    · have e : l = s.length := by
        have := (List.getElem?_eq_some_iff.mp q).1
        omega
      subst e
      rw [List.getElem?_append_right (Nat.le_refl _), Nat.sub_self] at q
      cases q
      exact ⟨ws, by rw [ext_at]; exact e0, Reps.adopt hD e0 _ _ r, hn⟩
  · rw [el] at ha hb
    by_cases z1 : a = s.length
    · by_cases z2 : b = s.length
      · omega
      · rw [z1, ext_at, ext_ne z2] at z
        exact absurd (by rw [← show D = L b from z]; exact hD) (sm.vis b (by omega))
    · by_cases z2 : b = s.length
      · rw [z2, ext_at, ext_ne z1] at z
        exact absurd (by rw [show L a = D from z]; exact hD) (sm.vis a (by omega))
      · rw [ext_ne z1, ext_ne z2] at z
        exact sm.inj a b (by omega) (by omega) z
  · rw [el] at hl
    by_cases z1 : l = s.length
    · rw [z1, ext_at] at z
      exact z.2 rfl
    · rw [ext_ne z1] at z
      exact sm.vis l (by omega) z.1
theorem Step.adopt {L L' : Nm} {n n' : Nat} {H H' : Hp} {D : Addr} (st : Step L n H L' n' H') (hD : H D = none) (hL : ¬ L.hid D) : Step L n H (ext (ML.unhide L' D) n' D) (n' + 1) H' where
  le := Nat.le_succ_of_le st.le
  same := fun l h => by
    rw [ext_ne (Nat.ne_of_lt (Nat.lt_of_lt_of_le h st.le))]
    exact st.same l h
  new := fun l h1 h2 => by
    by_cases q : l = n'
    · rw [q, ext_at]; exact hD
    · rw [ext_ne q]; exact st.new l h1 (by omega)
  keep := st.keep
  tups := st.tups
  there := st.there
  hid := fun a o e h => st.hid a o e h.1
  hidk := fun a h => ⟨st.hidk a h, fun z => hL (z ▸ h)⟩
  tab := st.tab
  tabs := st.tabs
end

/-! ### comprehensions -/
section
variable {RX : PV → Value → Option Addr → Hp → Prop} {FA : Gv} {M : MT} {Ex : XW} {C : Calls} {k : Nat} {N : List Str} {sc : Scope} {X : Cx}
def tC (FA : Gv) (C : Calls) (c : Oe) : TT := fun σ H Q => from_ FA noEx (evT C c) (kB Q) σ H
theorem okA.noX {α β : Type} {L : Nm} {n : Nat} {H : Hp} {K : KW β} {x : Res α} {f : α → Store → Res β} (h : okA FA Ex L n H K ((ML.noX x).bind f)) : okA FA noEx L n H (fun a s _ _ => okA FA Ex L n H K (f a s)) x := by
  cases x with
  | ok a s => exact fun _ _ _ _ => h
  | exc e s => exact h.elim
  | bad => exact h
theorem pe_m_comp (cx : Ctx RX FA M Ex C k N sc X) {m one : Bool} {own : List (Str × Nat)} {tg : List Nat} {it : I} {cond : Oe} {elt : E} {elt' tg' iter' : Expr} {ifs : List Expr} {scope : Scope} {pos : Pos}
    (ho : tg.all (fun i => decide (i ∈ own.map (·.2))) = true) (hb : BlkOk X.N X.env.scope scope own) (hi : PI X tg' iter' (tI FA Ex C it))
    (hg : ∀ (s : Shared) (H : Hp) (D : Addr) (cl : List (Str × Addr)) (fp : List Addr), PG (X.blk s H scope (compEnvC scope cl D X.env) fp) tg' (tG FA tg one))
    (ht : ∀ (s : Shared) (H : Hp) (D : Addr) (cl : List (Str × Addr)) (fp : List Addr), PTs (X.blk s H scope (compEnvC scope cl D X.env) fp) ifs (tC FA C cond))
    (he : ∀ (s : Shared) (H : Hp) (D : Addr) (cl : List (Str × Addr)) (fp : List Addr), PE (X.blk s H scope (compEnvC scope cl D X.env) fp) elt' (tE FA noEx C elt))
    (σ : L2.St) (H : Hp) (Q : VK) (h : tE FA Ex C (.comp m (own.map (·.2)) tg one it cond elt) σ H Q) : tLc (tI FA Ex C it) (tG FA tg one) (tC FA C cond) (tE FA noEx C elt) (own.map (·.2)) σ H Q := by
  obtain ⟨L, r, s, hE, hS, h⟩ := h
  have h : okA FA Ex L s.length H (kV FA Q) (evE C (.comp m (own.map (·.2)) tg one it cond elt) r s) := h
  simp only [evE] at h
  refine ⟨L, r, s, hE, hS, h.bind.mono fun xs s1 L1 H1 st1 sm1 q J wk D hD => ?_⟩
  split at q
  · exact q.elim
  rename_i hbig
  have q := okA.noX q
  generalize hown : own.map (·.2) = vs at q ho ⊢
  have hE1 : RepE FA L1 s1.length H1 (wipe σ vs) (wipeN r vs) := (hE.up st1).wipe vs
  have hLD : ¬ L1.hid D := fun z => by
    obtain ⟨o, e⟩ := sm1.hid D z
    rw [hD] at e; cases e
  refine ⟨fun i mm H' => mm = xs.length - i ∧ i ≤ xs.length ∧ ∃ (L' : Nm) (s' : Store) (acc : List PV) (accV : List V), L'.hid D ∧ Sim FA L' H' s' ∧ Step L1 s1.length H1 L' s'.length H' ∧ H' D = some (.lst accV) ∧ Reps FA L' s'.length H' acc accV ∧ acc.length ≤ i ∧
    RepE FA L' s'.length H' (wipe σ vs) (wipeN r vs) ∧ okA FA noEx L1 s1.length H1 (fun ys s _ _ => okA FA Ex L1 s1.length H1 (kV FA Q) (made m ys s)) (compL (fun x => bindT tg one x (wipeN r vs)) (fun e s => evT C cond e s) (fun e s => evE C elt e s) (xs.drop i) acc s'), ?_, ?_⟩
  · refine ⟨_, rfl, Nat.zero_le _, ML.hide L1 D, s1, [], [], .inr rfl, sm1.hide hD, Step.hide hD, upd_same, .nil, Nat.zero_le _, hE1.up (Step.hide hD), ?_⟩
    rw [List.drop_zero]
    exact q
  rintro i mm H' ⟨rfl, hi', L', s', acc, accV, hh, sm', st', eD, ra, hl, hE', hq⟩
  by_cases hlt : i < xs.length
  · refine .inr ⟨wk.goes i L' s'.length H' st' hlt, fun H'' => ∃ mm', mm' < xs.length - i ∧ (mm' = xs.length - (i + 1) ∧ i + 1 ≤ xs.length ∧ ∃ (L' : Nm) (s' : Store) (acc : List PV) (accV : List V), L'.hid D ∧ Sim FA L' H'' s' ∧ Step L1 s1.length H1 L' s'.length H'' ∧ H'' D = some (.lst accV) ∧ Reps FA L' s'.length H'' acc accV ∧ acc.length ≤ i + 1 ∧
      RepE FA L' s'.length H'' (wipe σ vs) (wipeN r vs) ∧ okA FA noEx L1 s1.length H1 (fun ys s _ _ => okA FA Ex L1 s1.length H1 (kV FA Q) (made m ys s)) (compL (fun x => bindT tg one x (wipeN r vs)) (fun e s => evT C cond e s) (fun e s => evE C elt e s) (xs.drop (i + 1)) acc s')), fun H'' h => h, fun x H'' hy => ?_⟩
    obtain ⟨p, ep, st2, sm2, rp, same⟩ := wk.yields i L' s' H' x H'' st' sm' hlt hy
    have ed : xs.drop i = p :: xs.drop (i + 1) := by
      rw [List.drop_eq_getElem_cons hlt]
      rw [List.getElem?_eq_getElem hlt] at ep
      rw [Option.some.inj ep]
    rw [ed] at hq
    have hq : okA FA noEx L1 s1.length H1 (fun ys s _ _ => okA FA Ex L1 s1.length H1 (kV FA Q) (made m ys s)) (match bindT tg one p (wipeN r vs) with
      | none => .bad
      | some e => (evT C cond e s').bind fun b s => if b then (evE C elt e s).bind fun y s => compL (fun x => bindT tg one x (wipeN r vs)) (fun e s => evT C cond e s) (fun e s => evE C elt e s) (xs.drop (i + 1)) (acc ++ [y]) s else compL (fun x => bindT tg one x (wipeN r vs)) (fun e s => evT C cond e s) (fun e s => evE C elt e s) (xs.drop (i + 1)) acc s) := hq
    cases eb : bindT tg one p (wipeN r vs) with
    | none => rw [eb] at hq; exact hq.elim
    | some r2 =>
      rw [eb] at hq
      have st3 := st'.trans st2
      refine ⟨L', wipeN r vs, s', p, r2, hE'.up st2, sm2, rp, eb, fun σ' hEs only => ⟨?_, ?_⟩⟩
      · rw [only vs fun j hj => of_decide_eq_true (List.all_eq_true.mp ho j hj), wipe_wipe]
      have eD2 := same D _ eD
      refine ⟨L', r2, s', hEs, sm2, ((okA.bind0 hq).step st3).mono fun b s4 L4 H4 st4 sm4 q4 => ?_⟩
      have eD4 : H4 D = some (.lst accV) := st4.keep D _ eD2 (fun l hl z => sm2.vis l hl (by rw [z]; exact hh)) (fun _ z => nomatch z)
      cases b with
      | false =>
        dsimp only [kB]
        rw [if_neg Bool.false_ne_true]
        exact ⟨_, by omega, rfl, hlt, L4, s4, acc, accV, st4.hidk D hh, sm4, st3.trans st4, eD4, (ra.up st2).up st4, by omega, (hE'.up st2).up st4, q4⟩
      | true =>
        dsimp only [kB]
        rw [if_pos rfl]
        refine ⟨L4, r2, s4, hEs.up st4, sm4, ((okA.bind0 q4).step (st3.trans st4)).mono fun y s5 L5 H5 st5 sm5 q5 v rv => ?_⟩
        have hh4 := st4.hidk D hh
        have hh5 := st5.hidk D hh4
        have eD5 : H5 D = some (.lst accV) := st5.keep D _ eD4 (fun l hl z => sm4.vis l hl (by rw [z]; exact hh4)) (fun _ z => nomatch z)
        have ra5 := ((ra.up st2).up st4).up st5
        refine ⟨accV, eD5, ?_, _, by omega, rfl, hlt, L5, s5, acc ++ [y], accV ++ [v], hh5, sm5.hw hh5 eD5, ((st3.trans st4).trans st5).hw hD eD5, upd_same, Reps.hw hh5 eD5 _ _ (ra5.app (.cons rv .nil)), by rw [List.length_append]; simp only [List.length_cons, List.length_nil]; omega,
          (((hE'.up st2).up st4).up st5).hw hh5 eD5, q5⟩
        rw [← ra5.length]
        have : big ≤ sizeLine := by decide
        omega
  · have e : i = xs.length := by omega
    subst e
    refine .inl ⟨wk.stops L' s'.length H' st', ?_⟩
    rw [List.drop_length] at hq
    have hq : okA FA Ex L1 s1.length H1 (kV FA Q) (made m acc s') := okA.at (α := List PV) (K := fun ys s _ _ => okA FA Ex L1 s1.length H1 (kV FA Q) (made m ys s)) (Ex := noEx) (FA := FA) (L := L') (H := H') (a := acc) (s := s') (okA.step (α := List PV) (x := .ok acc s') hq st') sm'
    have apD : Ap (ML.unhide L' D) s'.length D := ⟨fun l hl z => sm'.vis l hl (by rw [show L' l = D from z]; exact hh), fun z => z.2 rfl⟩
    unfold made at hq
    split at hq
    · split at hq
      · rename_i hn
        have el : (s' ++ [Obj.lst acc]).length = s'.length + 1 := by rw [List.length_append]; rfl
        refine hq (ext (ML.unhide L' D) s'.length D) H' (by rw [el]; exact st'.adopt hD hLD) (sm'.adopt hh eD ra hn) _ ?_
        rw [el]
        have z : Rep FA (ext (ML.unhide L' D) s'.length D) (s'.length + 1) H' (.loc s'.length) (.ref ((ext (ML.unhide L' D) s'.length D) s'.length)) := .loc (Nat.lt_succ_self _)
        rw [ext_at] at z
        exact z
      · exact hq.elim
    · exact hq (ML.unhide L' D) H' (st'.unhide hLD) sm'.unhide _ (.lst (.inl eD) apD (Reps.unhide _ _ ra))
/-- .. over a list at a place -/
theorem pe_m_compP (cx : Ctx RX FA M Ex C k N sc X) {one : Bool} {own : List (Str × Nat)} {tg : List Nat} {e : E} {cond : Oe} {elt : E} (ho : tg.all (fun i => decide (i ∈ own.map (·.2))) = true)
    (σ : L2.St) (H : Hp) (Q : VK) (h : tE FA Ex C (.compP (own.map (·.2)) tg one e cond elt) σ H Q) : tLc (iList X.K (tE FA Ex C e)) (tG FA tg one) (tC FA C cond) (tE FA noEx C elt) (own.map (·.2)) σ H Q := by
  obtain ⟨L, r, s, hE, hS, h⟩ := h
  have h : okA FA Ex L s.length H (kV FA Q) (evE C (.compP (own.map (·.2)) tg one e cond elt) r s) := h
  simp only [evE] at h
  refine first_E hE hS h fun p s1 L1 H1 v hE0 sm1 st1 rv q => ?_
  split at q
  · rename_i l
    cases rv with
    | loc hl =>
    obtain ⟨xs0, vs0, x1, x2, x3⟩ := sm1.at hl
    refine ⟨L1 l, rfl, ⟨vs0, .inl (.inl x2)⟩, fun D hD => ?_⟩
    have q := okA.noX q
    generalize hown : own.map (·.2) = vs at q ho ⊢
    have hE1 : RepE FA L1 s1.length H1 (wipe σ vs) (wipeN r vs) := hE0.wipe vs
    have hLD : ¬ L1.hid D := fun z => by
      obtain ⟨o, e⟩ := sm1.hid D z
      rw [hD] at e; cases e
    refine ⟨fun i mm H' => mm + i = turns ∧ ∃ (L' : Nm) (s' : Store) (acc : List PV) (accV : List V), L'.hid D ∧ Sim FA L' H' s' ∧ Step L1 s1.length H1 L' s'.length H' ∧ H' D = some (.lst accV) ∧ Reps FA L' s'.length H' acc accV ∧ acc.length ≤ i ∧
      RepE FA L' s'.length H' (wipe σ vs) (wipeN r vs) ∧ okA FA noEx L1 s1.length H1 (fun ys s _ _ => okA FA Ex L1 s1.length H1 (kV FA Q) (.ok (.lst ys) s)) (compP l (fun x => bindT tg one x (wipeN r vs)) (fun e s => evT C cond e s) (fun e s => evE C elt e s) mm i acc s'), ?_, ?_⟩
    · exact ⟨turns, rfl, ML.hide L1 D, s1, [], [], .inr rfl, sm1.hide hD, Step.hide hD, upd_same, .nil, Nat.le_refl _, hE1.up (Step.hide hD), q⟩
    rintro i mm H' ⟨hmi, L', s', acc, accV, hh, sm', st', eD, ra, hla, hE', hq⟩
    have eL : L' l = L1 l := st'.same l hl
    cases mm with
    | zero => exact hq.elim
    | succ mm =>
      have hq : okA FA noEx L1 s1.length H1 (fun ys s _ _ => okA FA Ex L1 s1.length H1 (kV FA Q) (.ok (.lst ys) s)) (match s'[l]? with
        | some (.lst xs) => match xs[i]? with
          | none => .ok acc s'
          | some x => match bindT tg one x (wipeN r vs) with
            | none => .bad
            | some e => (evT C cond e s').bind fun b s => if b then (evE C elt e s).bind fun y s => compP l (fun x => bindT tg one x (wipeN r vs)) (fun e s => evT C cond e s) (fun e s => evE C elt e s) mm (i + 1) (acc ++ [y]) s else compP l (fun x => bindT tg one x (wipeN r vs)) (fun e s => evT C cond e s) (fun e s => evE C elt e s) mm (i + 1) acc s
        | none => .bad) := hq
      cases es : s'[l]? with
      | none => rw [es] at hq; exact hq.elim
      | some o =>
        obtain ⟨xs⟩ := o
        rw [es] at hq
        obtain ⟨ws, w1, w2, w3⟩ := sm'.obj l xs es
        rw [eL] at w1
        have hq := hq
        dsimp only at hq
        cases ex : xs[i]? with
        | none =>
          rw [ex] at hq
          refine .inl ⟨⟨ws, .inl (.inl w1), ?_⟩, ?_⟩
          · rw [← w2.length]
            exact List.getElem?_eq_none_iff.mp ex
          · have hq : okA FA Ex L1 s1.length H1 (kV FA Q) (.ok (.lst acc) s') := okA.at (α := List PV) (K := fun ys s _ _ => okA FA Ex L1 s1.length H1 (kV FA Q) (.ok (.lst ys) s)) (Ex := noEx) (FA := FA) (L := L') (H := H') (a := acc) (s := s') (okA.step (α := List PV) (x := .ok acc s') hq st') sm'
            have apD : Ap (ML.unhide L' D) s'.length D := ⟨fun l hl z => sm'.vis l hl (by rw [show L' l = D from z]; exact hh), fun z => z.2 rfl⟩
            exact hq (ML.unhide L' D) H' (st'.unhide hLD) sm'.unhide _ (.lst (.inl eD) apD (Reps.unhide _ _ ra))
        | some p =>
          rw [ex] at hq
          dsimp only at hq
          obtain ⟨w, g1, rp⟩ := w2.get ex
          refine .inr ⟨⟨ws, w, .inl (.inl w1), g1⟩, fun H'' => ∃ mm', mm' < mm + 1 ∧ (mm' + (i + 1) = turns ∧ ∃ (L' : Nm) (s' : Store) (acc : List PV) (accV : List V), L'.hid D ∧ Sim FA L' H'' s' ∧ Step L1 s1.length H1 L' s'.length H'' ∧ H'' D = some (.lst accV) ∧ Reps FA L' s'.length H'' acc accV ∧ acc.length ≤ i + 1 ∧
            RepE FA L' s'.length H'' (wipe σ vs) (wipeN r vs) ∧ okA FA noEx L1 s1.length H1 (fun ys s _ _ => okA FA Ex L1 s1.length H1 (kV FA Q) (.ok (.lst ys) s)) (compP l (fun x => bindT tg one x (wipeN r vs)) (fun e s => evT C cond e s) (fun e s => evE C elt e s) mm' (i + 1) acc s')), fun H'' h => h, fun x H'' hy => ?_⟩
          obtain ⟨rfl, hy⟩ := hy
          have exw : x = w := by
            have := hy ws (.inl (.inl w1))
            rw [g1] at this
            exact (Option.some.inj this).symm
          subst exw
          cases eb : bindT tg one p (wipeN r vs) with
          | none => rw [eb] at hq; exact hq.elim
          | some r2 =>
            rw [eb] at hq
            refine ⟨L', wipeN r vs, s', p, r2, hE', sm', rp, eb, fun σ' hEs only => ⟨?_, ?_⟩⟩
            · rw [only vs fun j hj => of_decide_eq_true (List.all_eq_true.mp ho j hj), wipe_wipe]
            refine ⟨L', r2, s', hEs, sm', ((okA.bind0 hq).step st').mono fun b s4 L4 H4 st4 sm4 q4 => ?_⟩
            have eD4 : H4 D = some (.lst accV) := st4.keep D _ eD (fun l hl z => sm'.vis l hl (by rw [z]; exact hh)) (fun _ z => nomatch z)
            cases b with
            | false =>
              dsimp only [kB]
              rw [if_neg Bool.false_ne_true]
              exact ⟨mm, Nat.lt_succ_self _, by omega, L4, s4, acc, accV, st4.hidk D hh, sm4, st'.trans st4, eD4, ra.up st4, by omega, hE'.up st4, q4⟩
            | true =>
              dsimp only [kB]
              rw [if_pos rfl]
              refine ⟨L4, r2, s4, hEs.up st4, sm4, ((okA.bind0 q4).step (st'.trans st4)).mono fun y s5 L5 H5 st5 sm5 q5 v rv => ?_⟩
              have hh4 := st4.hidk D hh
              have hh5 := st5.hidk D hh4
              have eD5 : H5 D = some (.lst accV) := st5.keep D _ eD4 (fun l hl z => sm4.vis l hl (by rw [z]; exact hh4)) (fun _ z => nomatch z)
              have ra5 := (ra.up st4).up st5
              refine ⟨accV, eD5, ?_, mm, Nat.lt_succ_self _, by omega, L5, s5, acc ++ [y], accV ++ [v], hh5, sm5.hw hh5 eD5, ((st'.trans st4).trans st5).hw hD eD5, upd_same, Reps.hw hh5 eD5 _ _ (ra5.app (.cons rv .nil)), by rw [List.length_append]; simp only [List.length_cons, List.length_nil]; omega,
                ((hE'.up st4).up st5).hw hh5 eD5, q5⟩
              rw [← ra5.length]
              have : turns ≤ sizeLine := by decide
              omega
  · exact q.elim
end
end ML

set_option Elab.async false
set_option maxRecDepth 10000
set_option linter.all false
set_option maxHeartbeats 4000000
/-! ML: does an expression of the text spell an ML term? (a Bool), and what that gives. -/
namespace ML
open PySem PySem.Spec PyProof.Rows L2 MlI
def storB (fn : Str → Bool) (sc : Scope) (x : Str) : Bool := match sc.names.lookup x with
  | some .local => true
  | some .cell => fn x
  | _ => false
def mN (fn : Str → Bool) (N : List Str) (sc : Scope) (i : Nat) : Expr → Bool
  | .Name x _ => decide (N[i]? = some x) && storB fn sc x
  | _ => false
def mNs (fn : Str → Bool) (N : List Str) (sc : Scope) : List Nat → List Expr → Bool
  | [], [] => true
  | i :: is, e :: es => mN fn N sc i e && mNs fn N sc is es
  | _, _ => false
def mG (fn : Str → Bool) (N : List Str) (sc : Scope) (one : Bool) (tg : List Nat) (e : Expr) : Bool := match one, tg, e with
  | true, [i], .Name x p => mN fn N sc i (.Name x p)
  | false, is, .Tuple es _ _ => mNs fn N sc is es
  | _, _, _ => false
def notSet : Expr → Bool
  | .Set _ _ _ => false
  | _ => true
def isTup : Expr → Bool
  | .Tuple _ _ _ => true
  | _ => false
def ownN (N : List Str) (own : List Nat) : List (Str × Nat) := own.map fun i => ((N[i]?).getD "", i)
/-- a test that the rules serve -/
def isCall : E → Bool
  | .call _ _ _ => true
  | _ => false
def isFrz : E → Bool
  | .frz a => isCall a
  | _ => false
def tH : E → Bool
  | .frz a => isCall a
  | .bor _ a => isFrz a
  | .lend _ a => isFrz a
  | .var _ => true
  | .bl _ => true
  | .ix _ _ => true
  | .call _ _ _ => true
  | .bi _ _ => true
  | .cmp _ _ _ => true
  | .cmpl _ _ _ => true
  | .chain _ _ _ _ _ => true
  | .and_ a b => tH a && tH b
  | .or_ a b => tH a && tH b
  | .not_ a => tH a
  | _ => false
def blkFn (scope : Scope) : Str → Bool := fun x => scope.names.lookup x == some .cell
mutual
def mE (M : MT) (N : List Str) (sc : Scope) : E → Expr → Bool
  | .var i, e' => match e' with
    | .Name x _ => decide (N[i]? = some x) && visB sc x && plainN x
    | _ => false
  | .int i, e' => match e' with
    | .Constant (.int j) _ _ => decide (i = j)
    | _ => false
  | .bl b, e' => match e' with
    | .Constant (.bool c) _ _ => b == c
    | _ => false
  | .non, e' => match e' with
    | .Constant .none _ _ => true
    | _ => false
  | .str x, e' => match e' with
    | .Constant (.str y) _ _ => decide (x = y)
    | _ => false
  | .gint x i, e' => match e' with
    | .Name y _ => decide (x = y) && globB sc x && decide (M.gi x = some i) && plainN x
    | _ => false
  | .fn f, e' => match e' with
    | .Name x _ => globB sc x && decide (M.fname f = some x) && plainN x
    | _ => false
  | .bin o a b, e' => match e' with
    | .BinOp a' o' b' _ => o' == opOf o && mE M N sc a a' && mE M N sc b b'
    | _ => false
  | .neg a, e' => match e' with
    | .UnaryOp .USub a' _ => mE M N sc a a'
    | _ => false
  | .cmp o a b, e' => match e' with
    | .Compare a' [o'] [b'] _ => o' == cOf o && notSet b' && mE M N sc a a' && mE M N sc b b'
    | _ => false
  | .cmpl n a b, e' => match e' with
    | .Compare a' [o'] [b'] _ => o' == cOf (if n then .ne else .eq) && notSet b' && mE M N sc a a' && mE M N sc b b'
    | _ => false
  | .chain o1 o2 a b c, e' => match e' with
    | .Compare a' [p1, p2] [b', c'] _ => p1 == cOf o1 && p2 == cOf o2 && notSet c' && mE M N sc a a' && mE M N sc b b' && mE M N sc c c'
    | _ => false
  | .and_ a b, e' => match e' with
    | .BoolOp .And [a', b'] _ => mE M N sc a a' && mE M N sc b b'
    | .BoolOp .And (a' :: b' :: c' :: r) p => mE M N sc a a' && mE M N sc b (.BoolOp .And (b' :: c' :: r) p)
    | _ => false
  | .or_ a b, e' => match e' with
    | .BoolOp .Or [a', b'] _ => mE M N sc a a' && mE M N sc b b'
    | .BoolOp .Or (a' :: b' :: c' :: r) p => mE M N sc a a' && mE M N sc b (.BoolOp .Or (b' :: c' :: r) p)
    | _ => false
  | .not_ a, e' => match e' with
    | .UnaryOp .Not a' _ => mE M N sc a a'
    | _ => false
  | .ite c a b, e' => match e' with
    | .IfExp c' a' b' _ => tH c && mE M N sc c c' && mE M N sc a a' && mE M N sc b b'
    | _ => false
  | .tup es, e' => match e' with
    | .Tuple es' _ _ => decide (es.len ≤ 1000) && mEs M N sc es es'
    | _ => false
  | .lst es, e' => match e' with
    | .List es' _ => decide (es.len ≤ 1000) && mEs M N sc es es'
    | _ => false
  | .newl es, e' => match e' with
    | .List es' _ => decide (es.len ≤ 1000) && mEs M N sc es es'
    | _ => false
  | .ix a b, e' => match e' with
    | .Subscript a' b' _ => plainIx b' && mE M N sc a a' && mE M N sc b b'
    | _ => false
  | .slice a lo hi, e' => match e' with
    | .Subscript a' (.Slice lo' hi' none _) _ => mE M N sc a a' && mO M N sc lo lo' && mO M N sc hi hi'
    | _ => false
  | .call f es kw, e' => match e' with
    | .Call (.Name x _) es' kws' _ => globB sc x && decide (M.fname f = some x) && plainN x && es'.all notStar && mEs M N sc es es' && mKw M N sc (M.fkw f) kw es' kws'
    | _ => false
  | .frz a, e' => mE M N sc a e'
  | .bor _ a, e' => mE M N sc a e'
  | .lend _ a, e' => mE M N sc a e'
  | .mutc a, e' => mE M N sc a e'
  | .bi b es, e' => match isTy b with
    | some u => match e' with
      | .Call (.Name x _) [a', .Name y _] [] _ => x == ("isinstance" : Str) && decide (y = Str.ofString (tyName u)) && globB sc x && globB sc y && notStar a' && mEs M N sc es [a']
      | _ => false
    | none => match e' with
      | .Call (.Name x _) (a' :: es') [] _ => globB sc x && biOk b x && (a' :: es').all notStar && mEs M N sc es (a' :: es')
      | _ => false
  | .append a b, e' => match e' with
    | .Call (.Attribute a' m apos) [b'] [] pos => m == ("append" : Str) && recvOk a' && notStar b' && (apos.endLine == pos.line) && mE M N sc a a' && mE M N sc b b'
    | _ => false
  | .insert a b c, e' => match e' with
    | .Call (.Attribute a' m apos) [b', c'] [] pos => m == ("insert" : Str) && recvOk a' && notStar b' && notStar c' && (apos.endLine == pos.line) && mE M N sc a a' && mE M N sc b b' && mE M N sc c c'
    | _ => false
  | .lrange a, e' => match e' with
    | .Call (.Name x _) [.Call (.Name y _) [a'] [] _] [] _ => x == ("list" : Str) && y == ("range" : Str) && globB sc x && globB sc y && notStar a' && mE M N sc a a'
    | _ => false
  | .trange a, e' => match e' with
    | .Call (.Name x _) [.Call (.Name y _) [a'] [] _] [] _ => x == ("tuple" : Str) && y == ("range" : Str) && globB sc x && globB sc y && notStar a' && mE M N sc a a'
    | _ => false
  | .att e, e' => match e' with
    | .Call (.Name x _) [.Lambda ⟨[], [], none, [], [], none, []⟩ body scope _] [] _ => globB sc x && decide (M.tr = some x) && LamX.lamSB sc scope && mE M.noTr N scope e body
    | _ => false
  | .lamv f, e' => match e' with
    | .Lambda ⟨[], [⟨x, none, p⟩], none, [], [], none, []⟩ body scope _ => M.lm f ⟨x, p, body, scope⟩
    | _ => false
  | .callv fs i es kw, e' => match e' with
    | .Call (.Name x _) (a' :: es') kws' _ => decide (N[i]? = some x) && visB sc x && plainN x && (a' :: es').all notStar && mEs M N sc es (a' :: es') && mKv M N sc fs kw kws'
    | _ => false
  | .compP own tg one e cond elt, e' => match e' with
    | .ListComp elt' [⟨tg', iter', ifs, 0⟩] scope _ => notSet iter' && tg.all (fun i => decide (i ∈ own)) && blkC N sc scope (ownN N own) && mE M N sc e iter' && mG (blkFn scope) N (relS scope sc) one tg tg' &&
        mC M.noTr N (relS scope sc) cond ifs && mE M.noTr N (relS scope sc) elt elt'
    | _ => false
  | .comp _ own tg one it cond elt, e' => match e' with
    | .ListComp elt' [⟨tg', iter', ifs, 0⟩] scope _ => notSet iter' && tg.all (fun i => decide (i ∈ own)) && blkC N sc scope (ownN N own) && mI M N sc (isTup tg') it iter' && mG (blkFn scope) N (relS scope sc) one tg tg' &&
        mC M.noTr N (relS scope sc) cond ifs && mE M.noTr N (relS scope sc) elt elt'
    | _ => false
def mEs (M : MT) (N : List Str) (sc : Scope) : Es → List Expr → Bool
  | .nil, es' => match es' with
    | [] => true
    | _ => false
  | .cons e es, es' => match es' with
    | e' :: es' => notStar e' && mE M N sc e e' && mEs M N sc es es'
    | _ => false
def mO (M : MT) (N : List Str) (sc : Scope) : Oe → Option Expr → Bool
  | .no, o' => match o' with
    | none => true
    | _ => false
  | .yes e, o' => match o' with
    | some e' => mE M N sc e e'
    | _ => false
  | .dfl, _ => false
def mKw (M : MT) (N : List Str) (sc : Scope) (kw : Bool) : Oe → List Expr → List Keyword → Bool
  | .no, _, kws' => match kws' with
    | [] => !kw
    | _ => false
  | .yes e, es', kws' => match es', kws' with
    | _ :: _, [⟨some x, e', _⟩] => kw && x == ("patience" : Str) && mE M N sc e e'
    | _, _ => false
  | .dfl, es', kws' => match es', kws' with
    | _ :: _, [] => kw
    | _, _ => false
/-- a keyword to one of several defs -/
def mKv (M : MT) (N : List Str) (sc : Scope) (fs : List (Nat × Bool)) : Oe → List Keyword → Bool
  | .no, kws' => match kws' with
    | [] => fs.all fun p => (M.fname p.1).isSome && (M.fkw p.1 == p.2)
    | _ => false
  | .yes e, kws' => match kws' with
    | [⟨some x, e', _⟩] => x == ("patience" : Str) && mE M N sc e e' && fs.all fun p => !p.2 && (M.fname p.1).isSome && M.fkw p.1
    | _ => false
  | .dfl, _ => false
/-- the ifs of a comprehension -/
def mC (M : MT) (N : List Str) (sc : Scope) : Oe → List Expr → Bool
  | .no, ifs => match ifs with
    | [] => true
    | _ => false
  | .yes e, ifs => match ifs with
    | [e'] => tH e && mE M N sc e e'
    | _ => false
  | .dfl, _ => false
def mI (M : MT) (N : List Str) (sc : Scope) (tup : Bool) : I → Expr → Bool
  | .seq e, e' => mE M N sc e e'
  | .range1 a, e' => match e' with
    | .Call (.Name x _) [a'] [] _ => x == ("range" : Str) && globB sc x && notStar a' && mE M N sc a a'
    | _ => false
  | .range2 a b, e' => match e' with
    | .Call (.Name x _) [a', b'] [] _ => x == ("range" : Str) && globB sc x && notStar a' && notStar b' && mE M N sc a a' && mE M N sc b b'
    | _ => false
  | .enum a, e' => match e' with
    | .Call (.Name x _) [a'] [] _ => tup && x == ("enumerate" : Str) && globB sc x && notStar a' && mE M N sc a a'
    | _ => false
  | .zip a b, e' => match e' with
    | .Call (.Name x _) [a', b'] [] _ => tup && x == ("zip" : Str) && globB sc x && notStar a' && notStar b' && mE M N sc a a' && mE M N sc b b'
    | _ => false
  | .zip3 a b c, e' => match e' with
    | .Call (.Name x _) [a', b', c'] [] _ => tup && x == ("zip" : Str) && globB sc x && notStar a' && notStar b' && notStar c' && mE M N sc a a' && mE M N sc b b' && mE M N sc c c'
    | _ => false
end
end ML

set_option Elab.async false
set_option maxRecDepth 10000
set_option linter.all false
set_option maxHeartbeats 4000000
/-! ML: the match functions are sound. -/
namespace ML
open PySem PySem.Spec PyProof.Rows L2 MlI
section
variable {RX : PV → Value → Option Addr → Hp → Prop} {FA : Gv} {M : MT} {Ex : XW} {C : Calls} {k : Nat} {N : List Str} {sc : Scope} {X : Cx}
theorem sto_of {fn : Str → Bool} {i : Nat} {e : Expr} (hN : X.N = N) (nd : X.N.Nodup) (hsc : X.env.scope = sc) (hf : ∀ x, fn x = true → X.fn x = true) (h : mN fn N sc i e = true) : ∃ x p, e = .Name x p ∧ Sto X i x := by
  cases e with
  | Name x p =>
    have h : (decide (N[i]? = some x) && storB fn sc x) = true := h
    rw [Bool.and_eq_true, decide_eq_true_eq] at h
    refine ⟨x, p, rfl, nd, by rw [hN]; exact h.1, ?_, ?_⟩
    · have h2 := h.2
      unfold storB at h2
      unfold L2.Loc
      rw [hsc]
      split at h2
      · exact .inl (by assumption)
      · exact .inr (by assumption)
      · cases h2
    · have h2 := h.2
      unfold storB at h2
      rw [hsc]
      split at h2
      · exact .inr (by assumption)
      · exact .inl (hf x h2)
      · cases h2
  | _ => cases h
theorem names_of {fn : Str → Bool} (hN : X.N = N) (nd : X.N.Nodup) (hsc : X.env.scope = sc) (hf : ∀ x, fn x = true → X.fn x = true) : ∀ (is : List Nat) (es : List Expr), mNs fn N sc is es = true → Names X is es
  | [], [], _ => .nil
  | [], _ :: _, h => by cases h
  | _ :: _, [], h => by cases h
  | i :: is, e :: es, h => by
    have h : (mN fn N sc i e && mNs fn N sc is es) = true := h
    rw [Bool.and_eq_true] at h
    obtain ⟨x, p, rfl, s⟩ := sto_of hN nd hsc hf h.1
    exact .cons s (names_of hN nd hsc hf is es h.2)
theorem sG {fn : Str → Bool} (hN : X.N = N) (nd : X.N.Nodup) (hsc : X.env.scope = sc) (hc : X.calm = true) (hf : ∀ x, fn x = true → X.fn x = true) {one : Bool} {tg : List Nat} {e : Expr} (h : mG fn N sc one tg e = true) : PG X e (tG FA tg one) := by
  unfold mG at h
  split at h
  · obtain ⟨x, p, e, s⟩ := sto_of hN nd hsc hf h
    cases e
    exact pg_m_name s
  · exact pg_m_tup hc (names_of hN nd hsc hf _ _ h)
  · cases h
theorem Ctx.blk (cx : Ctx RX FA M Ex C k N sc X) (s : Shared) (H : Hp) (scope : Scope) (D : Addr) (cl : List (Str × Addr)) (fp : List Addr) : Ctx RX FA M.noTr noEx C k N (relS scope sc) (X.blk s H scope (compEnvC scope cl D X.env) fp) where
  hN := cx.hN
  nd := cx.nd
  hsc := by
    rw [← cx.hsc]
    rfl
  calm := cx.calm
  hr := cx.hr
  own := PassesOwn.never
  blt := cx.blt
  gint := cx.gint
  call := cx.call
  pass := fun _ _ _ _ _ _ _ h => by
    obtain ⟨_, _, _, _, _, _, _, _, _, _, _, _, z⟩ := h
    obtain ⟨_, _, _, _, z⟩ := z
    exact z.elim
  takes := fun _ _ x => by
    obtain ⟨_, _, _, _, _, _, _, _, _, _, _, _, _, _, _, _, z⟩ := x
    obtain ⟨_, _, _, _, z⟩ := z
    exact z.elim
  xc := cx.xc
  rx := cx.rx
  rx1 := cx.rx1
  att := fun _ h => nomatch h
  tm := fun _ h => nomatch h
  lmv := fun _ _ h => nomatch h
  clo := cx.clo
/-- the context of a lambda's body -/
theorem Ctx.lam (cx : Ctx RX FA M Ex C k N sc X) {A : Around} {outer : List PySem.Env} {s : Shared} {H : Hp} {E : XK} {scope : Scope} {f c' : Addr} (hr : Room (k + 2) (A.deeper (LamX.lamEnv X scope s.heap.objs.size f c'))) : Ctx RX FA M.noTr (exE RX E) C k N scope (lamN X A outer s H E scope f c') where
  hN := cx.hN
  nd := cx.nd
  hsc := rfl
  calm := rfl
  hr := hr
  own := passes_of rfl
  blt := cx.blt
  gint := cx.gint
  call := cx.call
  pass := L2N.passes_call (L2N.takes_of rfl rfl rfl rfl) fun cls d σ H h => by
    obtain ⟨e, s, L, rx, q⟩ := h
    exact q cls d rx
  takes := (L2N.takes_of rfl rfl rfl rfl).imp fun cls d σ H h => by
    obtain ⟨e, s, L, rx, q⟩ := h
    exact q cls d rx
  xc := cx.xc
  rx := cx.rx
  rx1 := cx.rx1
  att := fun _ h => nomatch h
  tm := fun _ h => nomatch h
  lmv := fun _ _ h => nomatch h
  clo := cx.clo
theorem ownN_snd (N : List Str) : ∀ own : List Nat, (ownN N own).map (·.2) = own
  | [] => rfl
  | i :: r => by
    show i :: (ownN N r).map (·.2) = i :: r
    rw [ownN_snd N r]
theorem notSet_in {e : Expr} {o : CmpOp} (h : notSet e = true) : behindInMarks o e = false := by
  cases e <;> first
    | rfl
    | cases h
theorem notSet_fold {e : Expr} {env : PySem.Env} (h : notSet e = true) : ∀ x, foldedSetIterable e env x = pure x := fun x => by
  cases e <;> first
    | rfl
    | cases h
theorem lk_mem {α : Type} : ∀ {l : List (Nat × α)} {f : Nat} {v : α}, l.lookup f = some v → (f, v) ∈ l
  | [], _, _, h => by cases h
  | (g, u) :: r, f, v, h => by
    rw [List.lookup_cons] at h
    split at h
    · rename_i e
      have e2 : f = g := by simpa using e
      cases h
      rw [e2]
      exact List.mem_cons_self
    · exact List.mem_cons_of_mem _ (lk_mem h)
structure SE (RX : PV → Value → Option Addr → Hp → Prop) (FA : Gv) (Ex : XW) (C : Calls) (X : Cx) (e : E) (e' : Expr) : Prop where
  pe : PE X e' (tE FA Ex C e)
  pt : tH e = true → PT X e' (tT FA Ex C e)
  pw : tH e = true → ∀ op vs p, e' = .BoolOp op vs p → PW X e' (tT FA Ex C e)
theorem SE.of {e : E} {e' : Expr} (h : PE X e' (tE FA Ex C e)) (he : ∀ whole, isTrue e' X.env whole = (do let v ← whole; standAt e'.pos; holding [v] (truthy v))) (hb : ∀ op vs p, e' ≠ .BoolOp op vs p) : SE RX FA Ex C X e e' :=
  ⟨h, fun _ => pt_m_val h he, fun _ op vs p z => absurd z (hb op vs p)⟩
theorem SE.of0 {e : E} {e' : Expr} (h : PE X e' (tE FA Ex C e)) (he : tH e = false) : SE RX FA Ex C X e e' :=
  ⟨h, fun z => (by rw [he] at z; cases z), fun z => (by rw [he] at z; cases z)⟩
theorem pts_imp {e : List Expr} {t t' : TT} (h : PTs X e t) (i : ∀ σ H Q, t' σ H Q → t σ H Q) : PTs X e t' := ⟨fun pins s σ H Q I q => h.run pins s σ H Q I (i σ H Q q)⟩
theorem pts_m_no : PTs X [] (tC FA C .no) := pts_imp pts_nil fun σ H Q ⟨L, r, s, hE, hS, h⟩ => okA.at (α := Bool) h hS
theorem pts_m_yes {e : E} {e' : Expr} (h : PT X e' (tT FA noEx C e)) : PTs X [e'] (tC FA C (.yes e)) := pts_imp (pts_one h) fun σ H Q q => q
mutual
theorem sE : ∀ (e : E) (e' : Expr) (M : MT) (Ex : XW) (sc : Scope) (X : Cx), Ctx RX FA M Ex C k N sc X → mE M N sc e e' = true → SE RX FA Ex C X e e'
  | .var i, e', M, Ex, sc, X, cx, h => by
    simp only [mE] at h
    split at h
    · simp only [Bool.and_eq_true, decide_eq_true_eq] at h
      exact .of (pe_m_var cx h.1.1 h.1.2 h.2) (fun _ => rfl) (by intro _ _ _ z; cases z)
    · cases h
  | .int i, e', M, Ex, sc, X, cx, h => by
    simp only [mE] at h
    split at h
    · simp only [decide_eq_true_eq] at h
      subst h
      exact .of0 pe_m_int rfl
    · cases h
  | .bl i, e', M, Ex, sc, X, cx, h => by
    simp only [mE] at h
    split at h
    · simp only [beq_iff_eq] at h
      subst h
      exact .of pe_m_bl (fun _ => rfl) (by intro _ _ _ z; cases z)
    · cases h
  | .non, e', M, Ex, sc, X, cx, h => by
    simp only [mE] at h
    split at h
    · exact .of0 pe_m_non rfl
    · cases h
  | .str x, e', M, Ex, sc, X, cx, h => by
    simp only [mE] at h
    split at h
    · simp only [decide_eq_true_eq] at h
      subst h
      exact .of0 pe_m_str rfl
    · cases h
  | .gint x i, e', M, Ex, sc, X, cx, h => by
    simp only [mE] at h
    split at h
    · simp only [Bool.and_eq_true, decide_eq_true_eq] at h
      obtain ⟨⟨⟨e, h1⟩, h2⟩, h3⟩ := h
      subst e
      exact .of0 (pe_m_gint cx h1 h2 h3) rfl
    · cases h
  | .fn f, e', M, Ex, sc, X, cx, h => by
    simp only [mE] at h
    split at h
    · simp only [Bool.and_eq_true, decide_eq_true_eq] at h
      exact .of0 (pe_m_fn cx h.1.1 h.1.2 h.2) rfl
    · cases h
  | .bin o a b, e', M, Ex, sc, X, cx, h => by
    simp only [mE] at h
    split at h
    · simp only [Bool.and_eq_true, beq_iff_eq] at h
      obtain ⟨⟨e, h1⟩, h2⟩ := h
      subst e
      exact .of0 (pe_m_bin (sE a _ M Ex sc X cx h1).pe (sE b _ M Ex sc X cx h2).pe) rfl
    · cases h
  | .neg a, e', M, Ex, sc, X, cx, h => by
    simp only [mE] at h
    split at h
    · exact .of0 (pe_m_neg (sE a _ M Ex sc X cx h).pe) rfl
    · cases h
  | .cmp o a b, e', M, Ex, sc, X, cx, h => by
    simp only [mE] at h
    split at h
    · simp only [Bool.and_eq_true, beq_iff_eq] at h
      obtain ⟨⟨⟨e, h0⟩, h1⟩, h2⟩ := h
      subst e
      exact ⟨pe_m_cmp cx (sE a _ M Ex sc X cx h1).pe (sE b _ M Ex sc X cx h2).pe (notSet_in h0), fun _ => pt_m_cmp cx (sE a _ M Ex sc X cx h1).pe (sE b _ M Ex sc X cx h2).pe (notSet_in h0), by intro _ _ _ _ z; cases z⟩
    · cases h
  | .cmpl n a b, e', M, Ex, sc, X, cx, h => by
    simp only [mE] at h
    split at h
    · simp only [Bool.and_eq_true, beq_iff_eq] at h
      obtain ⟨⟨⟨e, h0⟩, h1⟩, h2⟩ := h
      subst e
      exact ⟨pe_m_cmpl cx (sE a _ M Ex sc X cx h1).pe (sE b _ M Ex sc X cx h2).pe (notSet_in h0), fun _ => pt_m_cmpl cx (sE a _ M Ex sc X cx h1).pe (sE b _ M Ex sc X cx h2).pe (notSet_in h0), by intro _ _ _ _ z; cases z⟩
    · cases h
  | .chain o1 o2 a b c, e', M, Ex, sc, X, cx, h => by
    simp only [mE] at h
    split at h
    · simp only [Bool.and_eq_true, beq_iff_eq] at h
      obtain ⟨⟨⟨⟨⟨e, e2⟩, h0⟩, h1⟩, h2⟩, h3⟩ := h
      subst e
      subst e2
      have hm : ∀ b' c', notSet c' = true → lastMarks [cOf o1, cOf o2] [b', c'] = false := fun _ _ z => notSet_in z
      exact ⟨pe_m_chain cx (sE a _ M Ex sc X cx h1).pe (sE b _ M Ex sc X cx h2).pe (sE c _ M Ex sc X cx h3).pe (hm _ _ h0), fun _ => pt_m_chain cx (sE a _ M Ex sc X cx h1).pe (sE b _ M Ex sc X cx h2).pe (sE c _ M Ex sc X cx h3).pe (hm _ _ h0), by intro _ _ _ _ z; cases z⟩
    · cases h
  | .and_ a b, e', M, Ex, sc, X, cx, h => by
    simp only [mE] at h
    split at h
    · rename_i a' b' p
      simp only [Bool.and_eq_true] at h
      have s1 := sE a _ M Ex sc X cx h.1
      have s2 := sE b _ M Ex sc X cx h.2
      have w : tH (.and_ a b) = true → PW X (.BoolOp .And [a', b'] p) (tT FA Ex C (.and_ a b)) := fun ht => by
        simp only [tH, Bool.and_eq_true] at ht
        exact pw_m_and (s1.pt ht.1) (pw_and1 (s2.pt ht.2))
      exact ⟨pe_m_and s1.pe (pe_one s2.pe), fun ht => (w ht).pt, fun ht _ _ _ _ => w ht⟩
    · simp only [Bool.and_eq_true] at h
      have s1 := sE a _ M Ex sc X cx h.1
      have s2 := sE b _ M Ex sc X cx h.2
      have w : tH (.and_ a b) = true → PW X _ (tT FA Ex C (.and_ a b)) := fun ht => by
        simp only [tH, Bool.and_eq_true] at ht
        exact pw_m_and (s1.pt ht.1) (s2.pw ht.2 _ _ _ rfl)
      exact ⟨pe_m_and s1.pe s2.pe, fun ht => (w ht).pt, fun ht _ _ _ _ => w ht⟩
    · cases h
  | .or_ a b, e', M, Ex, sc, X, cx, h => by
    simp only [mE] at h
    split at h
    · rename_i a' b' p
      simp only [Bool.and_eq_true] at h
      have s1 := sE a _ M Ex sc X cx h.1
      have s2 := sE b _ M Ex sc X cx h.2
      have w : tH (.or_ a b) = true → PW X (.BoolOp .Or [a', b'] p) (tT FA Ex C (.or_ a b)) := fun ht => by
        simp only [tH, Bool.and_eq_true] at ht
        exact pw_m_or (s1.pt ht.1) (pw_or1 (s2.pt ht.2))
      exact ⟨pe_m_or s1.pe (pe_one s2.pe), fun ht => (w ht).pt, fun ht _ _ _ _ => w ht⟩
    · simp only [Bool.and_eq_true] at h
      have s1 := sE a _ M Ex sc X cx h.1
      have s2 := sE b _ M Ex sc X cx h.2
      have w : tH (.or_ a b) = true → PW X _ (tT FA Ex C (.or_ a b)) := fun ht => by
        simp only [tH, Bool.and_eq_true] at ht
        exact pw_m_or (s1.pt ht.1) (s2.pw ht.2 _ _ _ rfl)
      exact ⟨pe_m_or s1.pe s2.pe, fun ht => (w ht).pt, fun ht _ _ _ _ => w ht⟩
    · cases h
  | .not_ a, e', M, Ex, sc, X, cx, h => by
    simp only [mE] at h
    split at h
    · have s1 := sE a _ M Ex sc X cx h
      exact ⟨pe_m_not s1.pe, fun ht => pt_m_not (s1.pt ht), by intro _ _ _ _ z; cases z⟩
    · cases h
  | .ite c a b, e', M, Ex, sc, X, cx, h => by
    simp only [mE] at h
    split at h
    · simp only [Bool.and_eq_true] at h
      exact .of0 (pe_m_ite ((sE c _ M Ex sc X cx h.1.1.2).pt h.1.1.1) (sE a _ M Ex sc X cx h.1.2).pe (sE b _ M Ex sc X cx h.2).pe) rfl
    · cases h
  | .tup es, e', M, Ex, sc, X, cx, h => by
    simp only [mE] at h
    split at h
    · simp only [Bool.and_eq_true, decide_eq_true_eq] at h
      exact .of0 (pe_m_tup h.1 (sEs es _ M Ex sc X cx h.2).2.1) rfl
    · cases h
  | .lst es, e', M, Ex, sc, X, cx, h => by
    simp only [mE] at h
    split at h
    · simp only [Bool.and_eq_true, decide_eq_true_eq] at h
      exact .of0 (pe_m_lst h.1 (sEs es _ M Ex sc X cx h.2).2.1) rfl
    · cases h
  | .newl es, e', M, Ex, sc, X, cx, h => by
    simp only [mE] at h
    split at h
    · simp only [Bool.and_eq_true, decide_eq_true_eq] at h
      exact .of0 (pe_m_newl h.1 (sEs es _ M Ex sc X cx h.2).2.1) rfl
    · cases h
  | .ix a b, e', M, Ex, sc, X, cx, h => by
    simp only [mE] at h
    split at h
    · simp only [Bool.and_eq_true] at h
      exact .of (pe_m_ix (sE a _ M Ex sc X cx h.1.2).pe (sE b _ M Ex sc X cx h.2).pe h.1.1) (fun _ => rfl) (by intro _ _ _ z; cases z)
    · cases h
  | .slice a lo hi, e', M, Ex, sc, X, cx, h => by
    simp only [mE] at h
    split at h
    · simp only [Bool.and_eq_true] at h
      exact .of0 (pe_m_slice (sE a _ M Ex sc X cx h.1.1).pe (sO lo _ M Ex sc X cx h.1.2) (sO hi _ M Ex sc X cx h.2)) rfl
    · cases h
  | .call f es kw, e', M, Ex, sc, X, cx, h => by
    simp only [mE] at h
    split at h
    · rename_i x px es' kws' pos
      simp only [Bool.and_eq_true, decide_eq_true_eq] at h
      obtain ⟨⟨⟨⟨⟨h1, h2⟩, h3⟩, h4⟩, h5⟩, h6⟩ := h
      have s1 := (sEs es es' M Ex sc X cx h5).2.1
      refine .of (sK f es kw es' kws' M Ex sc X cx h1 h2 h3 h4 s1 (sEs es es' M Ex sc X cx h5).1 h6) (fun _ => rfl) (by intro _ _ _ z; cases z)
    · cases h
  | .frz a, e', M, Ex, sc, X, cx, h => by
    simp only [mE] at h
    have s1 := (sE a _ M Ex sc X cx h).pe
    refine ⟨pe_m_frz s1, fun ht => ?_, fun ht op vs p e => ?_⟩
    · cases a with
      | call f es kw =>
        simp only [mE] at h
        split at h
        · exact pt_m_val (pe_m_frz s1) (fun _ => rfl)
        · cases h
      | _ => cases ht
    · cases a with
      | call f es kw =>
        subst e
        simp only [mE] at h
        cases h
      | _ => cases ht
  | .bor i a, e', M, Ex, sc, X, cx, h => by
    simp only [mE] at h
    have s1 := (sE a _ M Ex sc X cx h).pe
    refine ⟨pe_m_bor s1, fun ht => ?_, fun ht op vs p e => ?_⟩
    · cases a with
      | frz a =>
        cases a with
        | call f es kw =>
          simp only [mE] at h
          split at h
          · exact pt_m_val (pe_m_bor s1) (fun _ => rfl)
          · cases h
        | _ => cases ht
      | _ => cases ht
    · cases a with
      | frz a =>
        cases a with
        | call f es kw =>
          subst e
          simp only [mE] at h
          cases h
        | _ => cases ht
      | _ => cases ht
  | .lend m a, e', M, Ex, sc, X, cx, h => by
    simp only [mE] at h
    have s1 := (sE a _ M Ex sc X cx h).pe
    refine ⟨pe_m_lend s1, fun ht => ?_, fun ht op vs p e => ?_⟩
    · cases a with
      | frz a =>
        cases a with
        | call f es kw =>
          simp only [mE] at h
          split at h
          · exact pt_m_val (pe_m_lend s1) (fun _ => rfl)
          · cases h
        | _ => cases ht
      | _ => cases ht
    · cases a with
      | frz a =>
        cases a with
        | call f es kw =>
          subst e
          simp only [mE] at h
          cases h
        | _ => cases ht
      | _ => cases ht
  | .mutc a, e', M, Ex, sc, X, cx, h => by
    simp only [mE] at h
    exact .of0 (pe_m_mutc (sE a _ M Ex sc X cx h).pe) rfl
  | .bi b es, e', M, Ex, sc, X, cx, h => by
    simp only [mE] at h
    split at h
    · rename_i u hu
      split at h
      · rename_i x px a' y py pos
        simp only [Bool.and_eq_true, beq_iff_eq, decide_eq_true_eq] at h
        obtain ⟨⟨⟨⟨⟨e1, e2⟩, h1⟩, h2⟩, h3⟩, h4⟩ := h
        subst e1
        subst e2
        obtain ⟨a, ea, s1⟩ := (sEs es _ M Ex sc X cx h4).2.2 a' rfl
        subst ea
        exact .of (pe_m_is cx hu h1 h2 h3 s1) (fun _ => rfl) (by intro _ _ _ z; cases z)
      · cases h
    · split at h
      · simp only [Bool.and_eq_true] at h
        exact .of (pe_m_bi cx h.1.1.1 h.1.1.2 h.1.2 (sEs es _ M Ex sc X cx h.2).2.1) (fun _ => rfl) (by intro _ _ _ z; cases z)
      · cases h
  | .append a b, e', M, Ex, sc, X, cx, h => by
    simp only [mE] at h
    split at h
    · simp only [Bool.and_eq_true, beq_iff_eq] at h
      obtain ⟨⟨⟨⟨⟨e1, h1⟩, h2⟩, h3⟩, h4⟩, h5⟩ := h
      subst e1
      exact .of0 (pe_m_append h1 h2 (by simpa using h3) (sE a _ M Ex sc X cx h4).pe (sE b _ M Ex sc X cx h5).pe) rfl
    · cases h
  | .insert a b c, e', M, Ex, sc, X, cx, h => by
    simp only [mE] at h
    split at h
    · simp only [Bool.and_eq_true, beq_iff_eq] at h
      obtain ⟨⟨⟨⟨⟨⟨⟨e1, h1⟩, h2⟩, h2'⟩, h3⟩, h4⟩, h5⟩, h6⟩ := h
      subst e1
      exact .of0 (pe_m_insert h1 h2 h2' (by simpa using h3) (sE a _ M Ex sc X cx h4).pe (sE b _ M Ex sc X cx h5).pe (sE c _ M Ex sc X cx h6).pe) rfl
    · cases h
  | .lrange a, e', M, Ex, sc, X, cx, h => by
    simp only [mE] at h
    split at h
    · simp only [Bool.and_eq_true, beq_iff_eq] at h
      obtain ⟨⟨⟨⟨⟨e1, e2⟩, h1⟩, h2⟩, h3⟩, h4⟩ := h
      subst e1
      subst e2
      exact .of0 (pe_m_lrange cx h1 h2 h3 (sE a _ M Ex sc X cx h4).pe) rfl
    · cases h
  | .trange a, e', M, Ex, sc, X, cx, h => by
    simp only [mE] at h
    split at h
    · simp only [Bool.and_eq_true, beq_iff_eq] at h
      obtain ⟨⟨⟨⟨⟨e1, e2⟩, h1⟩, h2⟩, h3⟩, h4⟩ := h
      subst e1
      subst e2
      exact .of0 (pe_m_trange cx h1 h2 h3 (sE a _ M Ex sc X cx h4).pe) rfl
    · cases h
  | .att e, e', M, Ex, sc, X, cx, h => by
    simp only [mE] at h
    split at h
    · simp only [Bool.and_eq_true, decide_eq_true_eq] at h
      obtain ⟨⟨⟨h1, h2⟩, h3⟩, h4⟩ := h
      exact .of0 (pe_m_att cx h1 h2 (LamX.lamS_by h3) fun A outer s H E f c' hr => (sE e _ M.noTr (exE RX E) _ _ (cx.lam hr) h4).pe) rfl
    · cases h
  | .lamv f, e', M, Ex, sc, X, cx, h => by
    simp only [mE] at h
    split at h
    · rename_i x p body scope lpos
      exact .of0 (pe_m_lamv (W := ⟨x, p, body, scope⟩) cx h) rfl
    · cases h
  | .callv fs i es kw, e', M, Ex, sc, X, cx, h => by
    simp only [mE] at h
    split at h
    · rename_i x px a' es' kws' pos
      simp only [Bool.and_eq_true, decide_eq_true_eq] at h
      obtain ⟨⟨⟨⟨⟨h1, h2⟩, h3⟩, h4⟩, h5⟩, h6⟩ := h
      exact .of0 (sKv fs i es kw a' es' kws' M Ex sc X cx h1 h2 h3 h4 (sEs es (a' :: es') M Ex sc X cx h5).2.1 h6) rfl
    · cases h
  | .compP own tg one e cond elt, e', M, Ex, sc, X, cx, h => by
    simp only [mE] at h
    split at h
    · rename_i elt' tg' iter' ifs scope pos
      simp only [Bool.and_eq_true] at h
      obtain ⟨⟨⟨⟨⟨⟨h1, h2⟩, h3⟩, h4⟩, h5⟩, h6⟩, h7⟩ := h
      have eo := ownN_snd N own
      have hb : BlkOk X.N X.env.scope scope (ownN N own) := by rw [cx.hN, cx.hsc]; exact blkOk_by h3
      have hi : PI X tg' iter' (iList X.K (tE FA Ex C e)) := pi_list (sE e iter' M Ex sc X cx h4).pe
      have hg : ∀ (s : Shared) (H : Hp) (D : Addr) (cl : List (Str × Addr)) (fp : List Addr), PG (X.blk s H scope (compEnvC scope cl D X.env) fp) tg' (tG FA tg one) := fun s H D cl fp =>
        let c2 := cx.blk s H scope D cl fp
        sG c2.hN c2.nd c2.hsc c2.calm (fun _ z => z) h5
      have ht : ∀ (s : Shared) (H : Hp) (D : Addr) (cl : List (Str × Addr)) (fp : List Addr), PTs (X.blk s H scope (compEnvC scope cl D X.env) fp) ifs (tC FA C cond) := fun s H D cl fp => sC cond ifs _ _ _ (cx.blk s H scope D cl fp) h6
      have he : ∀ (s : Shared) (H : Hp) (D : Addr) (cl : List (Str × Addr)) (fp : List Addr), PE (X.blk s H scope (compEnvC scope cl D X.env) fp) elt' (tE FA noEx C elt) := fun s H D cl fp => (sE elt elt' _ _ _ _ (cx.blk s H scope D cl fp) h7).pe
      have z : PE X (.ListComp elt' [⟨tg', iter', ifs, 0⟩] scope pos) (tE FA Ex C (.compP ((ownN N own).map (·.2)) tg one e cond elt)) := pe_imp (pe_lc cx.calm cx.nd hi hb hg ht he (notSet_fold h1)) (pe_m_compP cx (by rw [eo]; exact h2))
      rw [eo] at z
      exact .of0 z rfl
    · cases h
  | .comp m own tg one it cond elt, e', M, Ex, sc, X, cx, h => by
    simp only [mE] at h
    split at h
    · rename_i elt' tg' iter' ifs scope pos
      simp only [Bool.and_eq_true] at h
      obtain ⟨⟨⟨⟨⟨⟨h1, h2⟩, h3⟩, h4⟩, h5⟩, h6⟩, h7⟩ := h
      have e := ownN_snd N own
      have hb : BlkOk X.N X.env.scope scope (ownN N own) := by rw [cx.hN, cx.hsc]; exact blkOk_by h3
      have hi := sI it iter' tg' M Ex sc X cx h4
      have hg : ∀ (s : Shared) (H : Hp) (D : Addr) (cl : List (Str × Addr)) (fp : List Addr), PG (X.blk s H scope (compEnvC scope cl D X.env) fp) tg' (tG FA tg one) := fun s H D cl fp =>
        let c2 := cx.blk s H scope D cl fp
        sG c2.hN c2.nd c2.hsc c2.calm (fun _ z => z) h5
      have ht : ∀ (s : Shared) (H : Hp) (D : Addr) (cl : List (Str × Addr)) (fp : List Addr), PTs (X.blk s H scope (compEnvC scope cl D X.env) fp) ifs (tC FA C cond) := fun s H D cl fp => sC cond ifs _ _ _ (cx.blk s H scope D cl fp) h6
      have he : ∀ (s : Shared) (H : Hp) (D : Addr) (cl : List (Str × Addr)) (fp : List Addr), PE (X.blk s H scope (compEnvC scope cl D X.env) fp) elt' (tE FA noEx C elt) := fun s H D cl fp => (sE elt elt' _ _ _ _ (cx.blk s H scope D cl fp) h7).pe
      have z : PE X (.ListComp elt' [⟨tg', iter', ifs, 0⟩] scope pos) (tE FA Ex C (.comp m ((ownN N own).map (·.2)) tg one it cond elt)) := pe_imp (pe_lc cx.calm cx.nd hi hb hg ht he (notSet_fold h1)) (pe_m_comp (m := m) (pos := pos) cx (by rw [e]; exact h2) hb hi hg ht he)
      rw [e] at z
      exact .of0 z rfl
    · cases h
theorem sEs : ∀ (es : Es) (es' : List Expr) (M : MT) (Ex : XW) (sc : Scope) (X : Cx), Ctx RX FA M Ex C k N sc X → mEs M N sc es es' = true → (es' = [] → es = .nil) ∧ PA X es' (tA FA Ex C es) ∧ ∀ a', es' = [a'] → ∃ a, es = .cons a .nil ∧ PE X a' (tE FA Ex C a)
  | .nil, es', M, Ex, sc, X, cx, h => by
    simp only [mEs] at h
    split at h
    · exact ⟨fun _ => rfl, pa_m_nil, fun _ z => (by cases z)⟩
    · cases h
  | .cons e es, es', M, Ex, sc, X, cx, h => by
    simp only [mEs] at h
    split at h
    · simp only [Bool.and_eq_true] at h
      have s1 := (sE e _ M Ex sc X cx h.1.2).pe
      have s2 := sEs es _ M Ex sc X cx h.2
      refine ⟨fun z => (by cases z), pa_m_cons h.1.1 s1 s2.2.1, fun a' z => ?_⟩
      cases z
      exact ⟨e, by rw [s2.1 rfl], s1⟩
    · cases h
theorem sO : ∀ (o : Oe) (o' : Option Expr) (M : MT) (Ex : XW) (sc : Scope) (X : Cx), Ctx RX FA M Ex C k N sc X → mO M N sc o o' = true → PO X o' (tO FA Ex C o)
  | .no, o', M, Ex, sc, X, cx, h => by
    simp only [mO] at h
    split at h
    · exact po_m_no
    · cases h
  | .yes e, o', M, Ex, sc, X, cx, h => by
    simp only [mO] at h
    split at h
    · exact po_m_yes (sE e _ M Ex sc X cx h).pe
    · cases h
  | .dfl, o', M, Ex, sc, X, cx, h => by simp only [mO] at h; cases h
theorem sK : ∀ (f : Nat) (es : Es) (kw : Oe) (es' : List Expr) (kws' : List Keyword) (M : MT) (Ex : XW) (sc : Scope) (X : Cx) {x : Str} {px pos : Pos}, Ctx RX FA M Ex C k N sc X → globB sc x = true → M.fname f = some x → plainN x = true → es'.all notStar = true → PA X es' (tA FA Ex C es) → (es' = [] → es = .nil) →
    mKw M N sc (M.fkw f) kw es' kws' = true → PE X (.Call (.Name x px) es' kws' pos) (tE FA Ex C (.call f es kw))
  | f, es, .no, es', kws', M, Ex, sc, X, x, px, pos, cx, h1, h2, h3, h4, s1, h0, h => by
    simp only [mKw] at h
    split at h
    · have hk : M.fkw f = false := by simpa using h
      cases es' with
      | nil =>
        have e := h0 rfl
        subst e
        exact pe_m_call0 cx h1 h2 h3 hk
      | cons a es' => exact pe_m_call cx h1 h2 h3 hk h4 s1
    · cases h
  | f, es, .yes e, es', kws', M, Ex, sc, X, x, px, pos, cx, h1, h2, h3, h4, s1, h0, h => by
    simp only [mKw] at h
    split at h
    · simp only [Bool.and_eq_true, beq_iff_eq] at h
      obtain ⟨⟨hk, e1⟩, h5⟩ := h
      subst e1
      exact pe_m_callK cx h1 h2 h3 hk h4 s1 (sE e _ M Ex sc X cx h5).pe
    · cases h
  | f, es, .dfl, es', kws', M, Ex, sc, X, x, px, pos, cx, h1, h2, h3, h4, s1, h0, h => by
    simp only [mKw] at h
    split at h
    · exact pe_m_callD cx h1 h2 h3 h h4 s1
    · cases h
theorem sKv : ∀ (fs : List (Nat × Bool)) (i : Nat) (es : Es) (kw : Oe) (a' : Expr) (es' : List Expr) (kws' : List Keyword) (M : MT) (Ex : XW) (sc : Scope) (X : Cx) {x : Str} {px pos : Pos}, Ctx RX FA M Ex C k N sc X → N[i]? = some x → visB sc x = true → plainN x = true → (a' :: es').all notStar = true → PA X (a' :: es') (tA FA Ex C es) → mKv M N sc fs kw kws' = true → PE X (.Call (.Name x px) (a' :: es') kws' pos) (tE FA Ex C (.callv fs i es kw))
  | fs, i, es, .no, a', es', kws', M, Ex, sc, X, x, px, pos, cx, h1, h2, h3, h4, s1, h => by
    simp only [mKv] at h
    split at h
    · refine pe_m_callv cx h1 h2 h3 (fun f b hf => ?_) h4 s1
      have := List.all_eq_true.mp h (f, b) (lk_mem hf)
      simp only [Bool.and_eq_true, beq_iff_eq] at this
      obtain ⟨y, hy⟩ := Option.isSome_iff_exists.mp this.1
      exact ⟨y, hy, this.2⟩
    · cases h
  | fs, i, es, .yes e, a', es', kws', M, Ex, sc, X, x, px, pos, cx, h1, h2, h3, h4, s1, h => by
    simp only [mKv] at h
    split at h
    · simp only [Bool.and_eq_true, beq_iff_eq] at h
      obtain ⟨⟨e1, h5⟩, h6⟩ := h
      subst e1
      refine pe_m_callvK cx h1 h2 h3 (fun f b hf => ?_) h4 s1 (sE e _ M Ex sc X cx h5).pe
      have := List.all_eq_true.mp h6 (f, b) (lk_mem hf)
      simp only [Bool.and_eq_true, Bool.not_eq_true'] at this
      obtain ⟨y, hy⟩ := Option.isSome_iff_exists.mp this.1.2
      exact ⟨this.1.1, y, hy, this.2⟩
    · cases h
  | fs, i, es, .dfl, a', es', kws', M, Ex, sc, X, x, px, pos, cx, h1, h2, h3, h4, s1, h => by
    simp only [mKv] at h
    cases h
theorem sC : ∀ (o : Oe) (ifs : List Expr) (M : MT) (sc : Scope) (X : Cx), Ctx RX FA M noEx C k N sc X → mC M N sc o ifs = true → PTs X ifs (tC FA C o)
  | .no, ifs, M, sc, X, cx, h => by
    simp only [mC] at h
    split at h
    · exact pts_m_no
    · cases h
  | .yes e, ifs, M, sc, X, cx, h => by
    simp only [mC] at h
    split at h
    · simp only [Bool.and_eq_true] at h
      exact pts_m_yes ((sE e _ M noEx sc X cx h.2).pt h.1)
    · cases h
  | .dfl, ifs, M, sc, X, cx, h => by simp only [mC] at h; cases h
theorem sI : ∀ (it : I) (e' tg' : Expr) (M : MT) (Ex : XW) (sc : Scope) (X : Cx), Ctx RX FA M Ex C k N sc X → mI M N sc (isTup tg') it e' = true → PI X tg' e' (tI FA Ex C it)
  | .seq e, e', tg', M, Ex, sc, X, cx, h => by
    simp only [mI] at h
    exact pi_m_seq (sE e _ M Ex sc X cx h).pe
  | .range1 a, e', tg', M, Ex, sc, X, cx, h => by
    simp only [mI] at h
    split at h
    · simp only [Bool.and_eq_true, beq_iff_eq] at h
      obtain ⟨⟨⟨e1, h1⟩, h2⟩, h3⟩ := h
      subst e1
      exact pi_m_range1 cx h1 h2 (sE a _ M Ex sc X cx h3).pe
    · cases h
  | .range2 a b, e', tg', M, Ex, sc, X, cx, h => by
    simp only [mI] at h
    split at h
    · simp only [Bool.and_eq_true, beq_iff_eq] at h
      obtain ⟨⟨⟨⟨⟨e1, h1⟩, h2⟩, h2'⟩, h3⟩, h4⟩ := h
      subst e1
      exact pi_m_range2 cx h1 h2 h2' (sE a _ M Ex sc X cx h3).pe (sE b _ M Ex sc X cx h4).pe
    · cases h
  | .enum a, e', tg', M, Ex, sc, X, cx, h => by
    simp only [mI] at h
    split at h
    · simp only [Bool.and_eq_true, beq_iff_eq] at h
      obtain ⟨⟨⟨⟨h0, e1⟩, h1⟩, h2⟩, h3⟩ := h
      subst e1
      cases tg' with
      | Tuple elts kk tpos => exact pi_m_enum cx h1 h2 (sE a _ M Ex sc X cx h3).pe
      | _ => cases h0
    · cases h
  | .zip a b, e', tg', M, Ex, sc, X, cx, h => by
    simp only [mI] at h
    split at h
    · simp only [Bool.and_eq_true, beq_iff_eq] at h
      obtain ⟨⟨⟨⟨⟨⟨h0, e1⟩, h1⟩, h2⟩, h2'⟩, h3⟩, h4⟩ := h
      subst e1
      cases tg' with
      | Tuple elts kk tpos => exact pi_m_zip cx h1 h2 h2' (sE a _ M Ex sc X cx h3).pe (sE b _ M Ex sc X cx h4).pe
      | _ => cases h0
    · cases h
  | .zip3 a b c, e', tg', M, Ex, sc, X, cx, h => by
    simp only [mI] at h
    split at h
    · simp only [Bool.and_eq_true, beq_iff_eq] at h
      obtain ⟨⟨⟨⟨⟨⟨⟨⟨h0, e1⟩, h1⟩, h2⟩, h2'⟩, h2''⟩, h3⟩, h4⟩, h5⟩ := h
      subst e1
      cases tg' with
      | Tuple elts kk tpos => exact pi_m_zip3 cx h1 h2 h2' h2'' (sE a _ M Ex sc X cx h3).pe (sE b _ M Ex sc X cx h4).pe (sE c _ M Ex sc X cx h5).pe
      | _ => cases h0
    · cases h
end
end
end ML

set_option Elab.async false
set_option maxRecDepth 10000
set_option linter.all false
set_option maxHeartbeats 4000000
/-! ML: statements. -/
namespace ML
open PySem PySem.Spec PyProof.Rows L2 MlI
def notComp : Expr → Bool
  | .ListComp _ _ _ _ => false
  | .SetComp _ _ _ _ => false
  | .DictComp _ _ _ _ _ => false
  | _ => true
theorem swaps_no {e : Expr} {t : Option Expr} {l : Nat} {env : PySem.Env} (h : notComp e = true) : swapsWith e t l env = pure false := by
  cases e <;> first
    | rfl
    | cases h
def blkK (sc : Scope) : ScopeKind := if sc.kind.isAnnotationScope then .function else sc.kind
/-- the list is made in the name itself -/
def swapB (sc : Scope) (x : Str) (px : Pos) (scope : Scope) (p : Pos) : Bool := blkK sc == .function && sc.names.lookup x == some .local && px.line == p.line && !(scope.names.any fun (n, k) => n == x && (k == .local || k == .cell))
theorem swaps_lc {elt : Expr} {gs : List Comprehension} {scope : Scope} {p px : Pos} {x : Str} {l : Nat} {env : PySem.Env} {sc : Scope} (h : env.scope = sc) : swapsWith (.ListComp elt gs scope p) (some (.Name x px)) l env = pure (swapB sc x px scope p) := by
  subst h
  rfl
def isStar : Expr → Bool
  | .Starred .. => true
  | _ => false
def nameAt (sc : Scope) (line : Nat) : Expr → Option Str
  | .Name id pos => if sc.names.lookup id == some .local && pos.line == line then some id else none
  | _ => none
/-- what swappedStores says of (ts) = (vs) -/
def swapC (sc : Scope) (ts vs : List Expr) : Option (Option (List Str)) :=
  if !(ts.length == 2 || ts.length == 3) || vs.length != ts.length || blkK sc != .function then some none
  else if vs.any isStar then some none
  else
    let names := ts.filterMap (nameAt sc ((ts.head?.map (·.pos.line)).getD 0))
    if names.length != ts.length || names.eraseDups.length != names.length then some none
    else if vs.all (foldedForSure 8) then some none
    else if vs.all (constantsAlone 8) then none
    else some (some names)
theorem swap_of {sc : Scope} {env : PySem.Env} (he : env.scope = sc) {ts vs : List Expr} {k k2 : Nat} {p p2 : Pos} {r : Option (List Str)} (h : swapC sc ts vs = some r) : swappedStores [.Tuple ts k p] (.Tuple vs k2 p2) env = pure r := by
  subst he
  unfold swapC at h
  unfold swappedStores
  have e1 : blkK env.scope = env.blockKind := rfl
  rw [e1] at h
  dsimp only
  split at h
  · rename_i c
    rw [if_pos c]
    cases h
    rfl
  · rename_i c
    rw [if_neg c]
    split at h
    · rename_i c2
      cases h
      exact if_pos ((congrArg (fun f => List.any vs f) (funext fun x => by cases x <;> rfl)).trans c2)
    · rename_i c2
      refine (if_neg fun z => c2 ((congrArg (fun f => List.any vs f) (funext fun x => by cases x <;> rfl)).trans z)).trans ?_
      generalize hn : List.filterMap _ ts = names
      have en : names = ts.filterMap (nameAt env.scope ((ts.head?.map (·.pos.line)).getD 0)) := hn.symm.trans (congrArg (fun f => List.filterMap f ts) (funext fun x => by cases x <;> rfl))
      dsimp only at h
      rw [← en] at h
      split at h
      · rename_i c3
        cases h
        exact if_pos c3
      · rename_i c3
        refine (if_neg c3).trans ?_
        split at h
        · rename_i c4
          cases h
          exact if_pos c4
        · rename_i c4
          refine (if_neg c4).trans ?_
          split at h
          · cases h
          · rename_i c5
            cases h
            exact if_neg c5
section
variable {RX : PV → Value → Option Addr → Hp → Prop} {FA : Gv} {M : MT} {Ex : XW} {C : Calls} {k : Nat} {N : List Str} {sc : Scope} {X : Cx}
def kF (FA : Gv) (D : Ends) : KW Flow := fun f s L H => match f with
  | .nx r => ∀ σ', RepE FA L s.length H σ' r → D.nx σ' H
  | .rt v => ∀ w, Rep FA L s.length H v w → D.rt w H
def tS (FA : Gv) (Ex : XW) (C : Calls) (a : S) : TS := fun D σ H => from_ FA Ex (exS C a) (kF FA D) σ H
def tSs (FA : Gv) (Ex : XW) (C : Calls) (a : Ss) : TS := fun D σ H => from_ FA Ex (exSs C a) (kF FA D) σ H
variable {e : E} {e' : Expr} {pos : Pos}
theorem asg_of {i : Nat} {D : Ends} {σ : L2.St} {H : Hp} (h : tS FA Ex C (.set i e) D σ H) : tAsg (tE FA Ex C e) (gName i) D σ H := by
  obtain ⟨L, r, s, hE, hS, h⟩ := h
  have h : okA FA Ex L s.length H (kF FA D) (exS C (.set i e) r s) := h
  simp only [exS] at h
  exact first_E hE hS h fun p s1 L1 H1 v hE1 hS1 st1 rv h1 => okA.at (K := kF FA D) h1 hS1 _ (hE1.set rv)
theorem ps_m_set (cx : Ctx RX FA M Ex C k N sc X) {i : Nat} {x : Str} {p : Pos} (hx : Sto X i x) (he : PE X e' (tE FA Ex C e)) (hs : swapsWith e' (some (.Name x p)) pos.line X.env = pure false) : PS X (.Assign [.Name x p] e' pos) (tS FA Ex C (.set i e)) :=
  ps_imp (ps_set hx.nd hx.at_ hx.loc he hs hx.fn) fun D σ H h => asg_of h
theorem setAll_rep {L : Nm} {n : Nat} {H : Hp} : ∀ {is : List Nat} {ps : List PV} {vs : List V} {r r' : Env} {σ : L2.St}, setAllE is ps r = some r' → Reps FA L n H ps vs → RepE FA L n H σ r → ∃ σ', RepE FA L n H σ' r' ∧ vs.length = is.length ∧
    (∀ v w, vs = [v, w] → ∀ i j, is = [i, j] → σ' = (σ.set i (some v)).set j (some w)) ∧ (∀ u v w, vs = [u, v, w] → ∀ i j l, is = [i, j, l] → σ' = ((σ.set i (some u)).set j (some v)).set l (some w))
  | is, ps, vs, r, r', σ, h, rv, hE => by
    have go : ∀ (is : List Nat) (ps : List PV) (vs : List V) (r r' : Env) (σ : L2.St), setAllE is ps r = some r' → Reps FA L n H ps vs → RepE FA L n H σ r → RepE FA L n H ((is.zip vs).foldl (fun σ q => σ.set q.1 (some q.2)) σ) r' ∧ vs.length = is.length := by
      intro is
      induction is with
      | nil =>
        intro ps vs r r' σ h rv hE
        cases ps with
        | nil =>
          cases rv
          cases h
          exact ⟨hE, rfl⟩
        | cons p ps => cases h
      | cons i is ih =>
        intro ps vs r r' σ h rv hE
        cases ps with
        | nil => cases h
        | cons p ps =>
          cases rv with
          | cons h1 h2 =>
            obtain ⟨g1, g2⟩ := ih ps _ _ r' _ h h2 (hE.set h1)
            exact ⟨g1, by rw [List.length_cons, List.length_cons, g2]⟩
    obtain ⟨g1, g2⟩ := go is ps vs r r' σ h rv hE
    refine ⟨_, g1, g2, fun v w e1 i j e2 => ?_, fun u v w e1 i j l e2 => ?_⟩
    · subst e1
      subst e2
      rfl
    · subst e1
      subst e2
      rfl
theorem ps_m_par (cx : Ctx RX FA M Ex C k N sc X) {i j : Nat} {x y : Str} {a b : Expr} {es : Es} {px py pt pt2 : Pos} {kt k2 : Nat} (hi : N[i]? = some x) (hj : N[j]? = some y) (hij : i ≠ j) (hx : sc.names.lookup x = some .local) (hy : sc.names.lookup y = some .local)
    (ha : PA X [a, b] (tA FA Ex C es)) (hw : swapC sc [.Name x px, .Name y py] [a, b] = some (some [x, y])) : PS X (.Assign [.Tuple [.Name x px, .Name y py] kt pt] (.Tuple [a, b] k2 pt2) pos) (tS FA Ex C (.sets [i, j] es)) := by
  refine ps_imp (ps_par cx.calm cx.nd (by rw [cx.hN]; exact hi) (by rw [cx.hN]; exact hj) hij (by rw [cx.hsc]; exact hx) (by rw [cx.hsc]; exact hy) ha (swap_of cx.hsc hw)) fun D σ H h => ?_
  obtain ⟨L, r, s, hE, hS, h⟩ := h
  have h : okA FA Ex L s.length H (kF FA D) (exS C (.sets [i, j] es) r s) := h
  simp only [exS] at h
  refine first_A hE hS h fun ps s1 L1 H1 vs hE1 hS1 st1 rvs h1 => ?_
  cases e : setAllE [i, j] ps r with
  | none => rw [e] at h1; exact h1.elim
  | some r' =>
    rw [e] at h1
    obtain ⟨σ', g1, g2, g3, _⟩ := setAll_rep e rvs hE1
    match vs, g2, g3 with
    | [v, w], _, g3 =>
      refine ⟨v, w, rfl, ?_⟩
      rw [← g3 v w rfl i j rfl]
      exact okA.at (K := kF FA D) h1 hS1 _ g1
theorem ps_m_par3 (cx : Ctx RX FA M Ex C k N sc X) {i j l : Nat} {x y z : Str} {a b c : Expr} {es : Es} {px py pz pt pt2 : Pos} {kt k2 : Nat} (hi : N[i]? = some x) (hj : N[j]? = some y) (hl : N[l]? = some z) (hij : i ≠ j) (hil : i ≠ l) (hjl : j ≠ l)
    (hx : sc.names.lookup x = some .local) (hy : sc.names.lookup y = some .local) (hz : sc.names.lookup z = some .local)
    (ha : PA X [a, b, c] (tA FA Ex C es)) (hw : swapC sc [.Name x px, .Name y py, .Name z pz] [a, b, c] = some (some [x, y, z])) : PS X (.Assign [.Tuple [.Name x px, .Name y py, .Name z pz] kt pt] (.Tuple [a, b, c] k2 pt2) pos) (tS FA Ex C (.sets [i, j, l] es)) := by
  refine ps_imp (ps_par3 cx.calm cx.nd (by rw [cx.hN]; exact hi) (by rw [cx.hN]; exact hj) (by rw [cx.hN]; exact hl) hij hil hjl (by rw [cx.hsc]; exact hx) (by rw [cx.hsc]; exact hy) (by rw [cx.hsc]; exact hz) ha (swap_of cx.hsc hw)) fun D σ H h => ?_
  obtain ⟨L, r, s, hE, hS, h⟩ := h
  have h : okA FA Ex L s.length H (kF FA D) (exS C (.sets [i, j, l] es) r s) := h
  simp only [exS] at h
  refine first_A hE hS h fun ps s1 L1 H1 vs hE1 hS1 st1 rvs h1 => ?_
  cases e : setAllE [i, j, l] ps r with
  | none => rw [e] at h1; exact h1.elim
  | some r' =>
    rw [e] at h1
    obtain ⟨σ', g1, g2, _, g3⟩ := setAll_rep e rvs hE1
    match vs, g2, g3 with
    | [u, v, w], _, g3 =>
      refine ⟨u, v, w, rfl, ?_⟩
      rw [← g3 u v w rfl i j l rfl]
      exact okA.at (K := kF FA D) h1 hS1 _ g1
/-- a, b = e: through the tuple -/
theorem ps_m_unp (cx : Ctx RX FA M Ex C k N sc X) {is : List Nat} {ts : List Expr} {kt : Nat} {pt : Pos} (hn : Names X is ts) (he : PE X e' (tE FA Ex C e)) (hs : notComp e' = true) (hw : swappedStores [.Tuple ts kt pt] e' X.env = pure none) :
    PS X (.Assign [.Tuple ts kt pt] e' pos) (tS FA Ex C (.unp is e)) := by
  refine ps_imp (ps_asg he (pg_m_tup (FA := FA) cx.calm hn) (show swapsWith e' (some (.Tuple ts kt pt)) pos.line X.env = pure false from swaps_no hs) hw) fun D σ H h => ?_
  obtain ⟨L, r, s, hE, hS, h⟩ := h
  have h : okA FA Ex L s.length H (kF FA D) (exS C (.unp is e) r s) := h
  simp only [exS] at h
  refine first_E hE hS h fun p s1 L1 H1 v hE1 hS1 st1 rv h1 => ?_
  split at h1
  · rename_i xs
    cases e : setAllE is xs r with
    | none => rw [e] at h1; exact h1.elim
    | some r' =>
      rw [e] at h1
      exact ⟨L1, r, s1, .tup xs, r', hE1, hS1, rv, e, fun σ' hE' _ => okA.at (K := kF FA D) h1 hS1 _ hE'⟩
  · exact h1.elim
def augOp (sub : Bool) : Operator := if sub then .Sub else .Add
theorem ps_m_aug (cx : Ctx RX FA M Ex C k N sc X) {i : Nat} {x : Str} {p : Pos} {sub : Bool} (hx : Sto X i x) (he : PE X e' (tE FA Ex C e)) : PS X (.AugAssign (.Name x p) (augOp sub) e' pos) (tS FA Ex C (.aug i sub e)) := by
  have ip : PIp X (augOp sub) (ipI fun i j => if sub then i - j else i + j) := by
    cases sub with
    | true => exact ip_sub
    | false => exact ip_add
  refine ps_imp (ps_aug hx.nd hx.at_ hx.loc he ip hx.fn) fun D σ H h => ?_
  obtain ⟨L, r, s, hE, hS, h⟩ := h
  have h : okA FA Ex L s.length H (kF FA D) (exS C (.aug i sub e) r s) := h
  simp only [exS] at h
  split at h
  · rename_i x e1
    obtain ⟨w, e2, rw1⟩ := hE.at_ i _ e1
    have := rep_int rw1
    subst this
    refine ⟨_, e2, first_E hE hS h fun p s1 L1 H1 v hE1 hS1 st1 rv h1 => ?_⟩
    split at h1
    · have := rep_int rv
      subst this
      exact ⟨_, _, rfl, rfl, okA.at (K := kF FA D) h1 hS1 _ (hE1.set (.int _))⟩
    · exact h1.elim
  · exact h.elim
theorem ps_m_augl (cx : Ctx RX FA M Ex C k N sc X) {i : Nat} {x : Str} {p : Pos} (hx : Sto X i x) (he : PE X e' (tE FA Ex C e)) : PS X (.AugAssign (.Name x p) .Add e' pos) (tS FA Ex C (.augl i e)) := by
  refine ps_imp (ps_aug hx.nd hx.at_ hx.loc he ip_ext hx.fn) fun D σ H h => ?_
  obtain ⟨L, r, s, hE, hS, h⟩ := h
  have h : okA FA Ex L s.length H (kF FA D) (exS C (.augl i e) r s) := h
  simp only [exS] at h
  split at h
  · rename_i l e1
    obtain ⟨w, e2, rw1⟩ := hE.at_ i _ e1
    refine ⟨_, e2, first_E hE hS h fun q s1 L1 H1 v hE1 hS1 st1 rv h1 => ?_⟩
    cases rw1 with
    | loc hl =>
      split at h1
      · rename_i ys
        split at h1
        · rename_i hn
          cases e3 : setL s1 l fun xs => if xs.length + ys.length ≤ big then some (xs ++ ys) else none with
          | none => rw [e3] at h1; exact h1.elim
          | some s3 =>
            rw [e3] at h1
            obtain ⟨zs, ws, g1, g2, g3⟩ := setL_of e3
            obtain ⟨us, k1, k2, k3⟩ := hS1.obj l zs g1
            have hl1 : l < s1.length := (List.getElem?_eq_some_iff.mp g1).1
            split at g2
            · rename_i hz
              cases g2
              subst g3
              cases rv with
              | lst f1 f2 f3 =>
                rename_i a vs
                have hlen : us.length + vs.length ≤ sizeLine := bigLine (by rw [← k2.length, ← f3.length]; exact hz)
                refine ⟨L1 l, a, us, vs, by rw [st1.same l hl], rfl, k1, .inl f1, hlen, ?_⟩
                have hw := hS1.step_write (ws := us ++ vs) hl1 k1
                have hnn : nolocs (zs ++ ys) = true := nolocs_app k3 hn
                refine okA.at (K := kF FA D) (okA.step (L' := L1) (n' := (s1.set l (.lst (zs ++ ys))).length) (H' := upd H1 (L1 l) (.lst (us ++ vs))) h1 (by rw [List.length_set]; exact hw)) (hS1.write hl1 k1 (k2.app f3) hnn) _ ?_
                rw [List.length_set]
                have hE2 := hE1.up hw
                obtain ⟨w2, e4, rw2⟩ := hE2.at_ i _ e1
                cases rw2
                have es : σ.set i (some (.ref (L1 l))) = σ := by
                  refine List.ext_getElem? fun j => ?_
                  by_cases hj : j = i
                  · subst hj
                    rw [List.getElem?_set_self (List.getElem?_eq_some_iff.mp e4).1, e4]
                  · rw [List.getElem?_set_ne (Ne.symm hj)]
                rw [es]
                exact hE2
            · cases g2
        · exact h1.elim
      · exact h1.elim
  · exact h.elim
theorem ps_m_seti (cx : Ctx RX FA M Ex C k N sc X) {a i : E} {a' i' : Expr} {p : Pos} (ha : PE X a' (tE FA Ex C a)) (hi : PE X i' (tE FA Ex C i)) (he : PE X e' (tE FA Ex C e)) (hs : notComp e' = true) (hp : plainIx i' = true) : PS X (.Assign [.Subscript a' i' p] e' pos) (tS FA Ex C (.seti a i e)) := by
  refine ps_imp (ps_asg he (pg_sub (pos := p) ha hi set_list (fun v => by cases i' <;> first | rfl | cases hp)) (show swapsWith e' (some (.Subscript a' i' p)) pos.line X.env = pure false from swaps_no hs) rfl) fun D σ H h => ?_
  obtain ⟨L, r, s, hE, hS, h⟩ := h
  have h : okA FA Ex L s.length H (kF FA D) (exS C (.seti a i e) r s) := h
  simp only [exS] at h
  refine first_E hE hS h fun v s1 L1 H1 vv hE1 hS1 st1 rv h1 => ?_
  refine first_E hE1 hS1 h1 fun x s2 L2 H2 vx hE2 hS2 st2 rx h2 => ?_
  refine first_E hE2 hS2 h2 fun y s3 L3 H3 vy hE3 hS3 st3 ry h3 => ?_
  split at h3
  · rename_i l kk
    split at h3
    · rename_i hn
      split at h3
      · rename_i s4 e4
        obtain ⟨zs, ys, g1, g2, g3⟩ := setL_of e4
        obtain ⟨us, k1, k2, k3⟩ := hS3.obj l zs g1
        have hl3 : l < s3.length := (List.getElem?_eq_some_iff.mp g1).1
        cases rx with
        | loc hl =>
          have := rep_int ry
          subst this
          cases e5 : place zs.length kk with
          | none => rw [e5] at g2; cases g2
          | some j =>
            rw [e5] at g2
            cases g2
            subst g3
            refine ⟨L3 l, us, kk, j, by rw [st3.same l hl], rfl, k1, by rw [← k2.length, ← place_ix]; exact e5, ?_⟩
            refine okA.at (K := kF FA D) (okA.step (L' := L3) (n' := (s3.set l (.lst (zs.set j v))).length) (H' := upd H3 (L3 l) (.lst (us.set j vv))) h3 (by rw [List.length_set]; exact hS3.step_write hl3 k1)) (hS3.write hl3 k1 (k2.set (((rv.up st2).up st3)) j) (nolocs_set k3 hn j)) _ ?_
            rw [List.length_set]
            exact hE3.up (hS3.step_write hl3 k1)
      · exact h3.elim
    · exact h3.elim
  · exact h3.elim
theorem ps_m_expr (he : PE X e' (tE FA Ex C e)) (hs : notComp e' = true) : PS X (.Expr e' pos) (tS FA Ex C (.expr e)) := by
  refine ps_imp (ps_expr he (swaps_no hs)) fun D σ H h => ?_
  obtain ⟨L, r, s, hE, hS, h⟩ := h
  have h : okA FA Ex L s.length H (kF FA D) (exS C (.expr e) r s) := h
  simp only [exS] at h
  exact first_E (R := fun _ H1 => D.nx σ H1) hE hS h fun p s1 L1 H1 v hE1 hS1 st1 rv h1 => okA.at (K := kF FA D) h1 hS1 _ hE1
theorem ps_m_ret (he : PE X e' (tE FA Ex C e)) : PS X (.Return (some e') pos) (tS FA Ex C (.ret e)) := by
  refine ps_imp (ps_ret he) fun D σ H h => ?_
  obtain ⟨L, r, s, hE, hS, h⟩ := h
  have h : okA FA Ex L s.length H (kF FA D) (exS C (.ret e) r s) := h
  simp only [exS] at h
  exact first_E (R := D.rt) hE hS h fun p s1 L1 H1 v hE1 hS1 st1 rv h1 => okA.at (K := kF FA D) h1 hS1 _ rv
theorem ps_m_pass : PS X (.Pass pos) (tS FA Ex C .pass) :=
  ps_imp ps_pass fun D σ H h => by
    obtain ⟨L, r, s, hE, hS, h⟩ := h
    have h : okA FA Ex L s.length H (kF FA D) (.ok (.nx r) s) := by
      have h : okA FA Ex L s.length H (kF FA D) (exS C .pass r s) := h
      simp only [exS] at h
      exact h
    exact okA.at (K := kF FA D) h hS _ hE
theorem ps_m_ifs {c : E} {c' : Expr} {a b : Ss} {a' b' : List Stmt} (hc : PT X c' (tT FA Ex C c)) (ha : PSs X a' (tSs FA Ex C a)) (hb : PSs X b' (tSs FA Ex C b)) : PS X (.If c' a' b' pos) (tS FA Ex C (.ifs c a b)) := by
  refine ps_imp (ps_if hc ha hb) fun D σ H h => ?_
  obtain ⟨L, r, s, hE, hS, h⟩ := h
  have h : okA FA Ex L s.length H (kF FA D) (exS C (.ifs c a b) r s) := h
  simp only [exS] at h
  refine first_T (R := fun d H1 => if d = true then tSs FA Ex C a D σ H1 else tSs FA Ex C b D σ H1) hE hS h fun d s1 L1 H1 hE1 hS1 st1 h1 => ?_
  cases d with
  | true => exact ⟨L1, r, s1, hE1, hS1, h1⟩
  | false => exact ⟨L1, r, s1, hE1, hS1, h1⟩
theorem ps_m_while (cx : Ctx RX FA M Ex C k N sc X) {c : E} {c' : Expr} {a : Ss} {a' : List Stmt} (hc : PT X c' (tT FA Ex C c)) (ha : PSs X a' (tSs FA Ex C a)) : PS X (.While c' a' [] pos) (tS FA Ex C (.while_ c a)) := by
  refine ps_imp (ps_while cx.own hc ha) fun D σ H h => ?_
  obtain ⟨L, r, s, hE, hS, h⟩ := h
  have h : okA FA Ex L s.length H (kF FA D) (exS C (.while_ c a) r s) := h
  simp only [exS] at h
  refine ⟨fun m σ H => from_ FA Ex (whileL (fun r s => truth (evE C c r s)) (fun r s => exSs C a r s) m) (kF FA D) σ H, ⟨_, L, r, s, hE, hS, h⟩, ?_⟩
  rintro m σ H ⟨L, r, s, hE, hS, h⟩
  cases m with
  | zero => exact h.elim
  | succ m =>
    have h : okA FA Ex L s.length H (kF FA D) ((truth (evE C c r s)).bind fun b s => if b then thenS (exSs C a r s) fun r s => whileL (fun r s => truth (evE C c r s)) (fun r s => exSs C a r s) m r s else .ok (.nx r) s) := h
    refine first_T hE hS h fun d s1 L1 H1 hE1 hS1 st1 h1 => ?_
    cases d with
    | false => exact okA.at (K := kF FA D) h1 hS1 _ hE1
    | true =>
      refine ⟨fun σ' H' => from_ FA Ex (whileL (fun r s => truth (evE C c r s)) (fun r s => exSs C a r s) m) (kF FA D) σ' H', fun σ' H' z => ⟨m, Nat.lt_succ_self m, z⟩, L1, r, s1, hE1, hS1, ?_⟩
      have h1 : okA FA Ex L1 s1.length H1 (kF FA D) (thenS (exSs C a r s1) fun r s => whileL (fun r s => truth (evE C c r s)) (fun r s => exSs C a r s) m r s) := h1
      refine (okA.bind h1).mono fun f s2 L2 H2 st2 sm2 q => ?_
      cases f with
      | nx r2 => exact fun σ' hE' => ⟨L2, r2, s2, hE', sm2, q⟩
      | rt v => exact okA.at (K := kF FA D) q sm2
theorem ps_m_for (cx : Ctx RX FA M Ex C k N sc X) {tg : List Nat} {one : Bool} {it : I} {a : Ss} {tg' iter' : Expr} {a' : List Stmt} (hi : PI X tg' iter' (tI FA Ex C it)) (hg : PG X tg' (tG FA tg one)) (ha : PSs X a' (tSs FA Ex C a)) (hs : notSet iter' = true) :
    PS X (.For tg' iter' a' [] pos) (tS FA Ex C (.for_ tg one it a)) := by
  refine ps_imp (ps_for cx.own cx.calm hi hg ha (notSet_fold hs)) fun D σ H h => ?_
  obtain ⟨L, r, s, hE, hS, h⟩ := h
  have h : okA FA Ex L s.length H (kF FA D) (exS C (.for_ tg one it a) r s) := h
  simp only [exS] at h
  refine ⟨L, r, s, hE, hS, h.bind.mono fun xs s1 L1 H1 st1 sm1 q J wk => ?_⟩
  refine ⟨fun i m σ' H' => m = xs.length - i ∧ i ≤ xs.length ∧ ∃ (L' : Nm) (r' : Env) (s' : Store), Step L1 s1.length H1 L' s'.length H' ∧ Sim FA L' H' s' ∧ RepE FA L' s'.length H' σ' r' ∧
    okA FA Ex L1 s1.length H1 (kF FA D) (forL (fun x r => bindT tg one x r) (fun r s => exSs C a r s) (xs.drop i) r' s'), ⟨_, rfl, Nat.zero_le _, L1, r, s1, Step.refl, sm1, hE.up st1, by rw [List.drop_zero]; exact q⟩, ?_⟩
  rintro i m σ' H' ⟨rfl, hi', L', r', s', st', sm', hE', hq⟩
  by_cases hlt : i < xs.length
  · refine .inr ⟨wk.goes i L' s'.length H' st' hlt, fun σ'' H'' => ∃ mm', mm' < xs.length - i ∧ (mm' = xs.length - (i + 1) ∧ i + 1 ≤ xs.length ∧ ∃ (L' : Nm) (r' : Env) (s' : Store), Step L1 s1.length H1 L' s'.length H'' ∧ Sim FA L' H'' s' ∧ RepE FA L' s'.length H'' σ'' r' ∧
      okA FA Ex L1 s1.length H1 (kF FA D) (forL (fun x r => bindT tg one x r) (fun r s => exSs C a r s) (xs.drop (i + 1)) r' s')), fun σ'' H'' h => h, fun x H'' hy => ?_⟩
    obtain ⟨p, ep, st2, sm2, rp, same⟩ := wk.yields i L' s' H' x H'' st' sm' hlt hy
    have ed : xs.drop i = p :: xs.drop (i + 1) := by
      rw [List.drop_eq_getElem_cons hlt]
      rw [List.getElem?_eq_getElem hlt] at ep
      rw [Option.some.inj ep]
    rw [ed] at hq
    have hq : okA FA Ex L1 s1.length H1 (kF FA D) (match bindT tg one p r' with
      | none => .bad
      | some r => thenS (exSs C a r s') fun r s => forL (fun x r => bindT tg one x r) (fun r s => exSs C a r s) (xs.drop (i + 1)) r s) := hq
    cases eb : bindT tg one p r' with
    | none => rw [eb] at hq; exact hq.elim
    | some r2 =>
      rw [eb] at hq
      have st3 := st'.trans st2
      refine ⟨L', r', s', p, r2, hE'.up st2, sm2, rp, eb, fun σ2 hEs _ => ⟨L', r2, s', hEs, sm2, ?_⟩⟩
      have hq : okA FA Ex L1 s1.length H1 (kF FA D) (thenS (exSs C a r2 s') fun r s => forL (fun x r => bindT tg one x r) (fun r s => exSs C a r s) (xs.drop (i + 1)) r s) := hq
      refine ((okA.bind0 hq).step st3).mono fun f s4 L4 H4 st4 sm4 q4 => ?_
      cases f with
      | nx r4 => exact fun σ'' hE'' => ⟨_, by omega, rfl, hlt, L4, r4, s4, st3.trans st4, sm4, hE'', q4⟩
      | rt v => exact okA.at (K := kF FA D) (okA.step q4 (st3.trans st4)) sm4
  · have e : i = xs.length := by omega
    subst e
    refine .inl ⟨wk.stops L' s'.length H' st', ?_⟩
    rw [List.drop_length] at hq
    exact okA.at (K := kF FA D) (okA.step (x := .ok (.nx r') s') hq st') sm' _ hE'
theorem ps_m_forP (cx : Ctx RX FA M Ex C k N sc X) {tg : List Nat} {one : Bool} {e : E} {a : Ss} {tg' iter' : Expr} {a' : List Stmt} (he : PE X iter' (tE FA Ex C e)) (hg : PG X tg' (tG FA tg one)) (ha : PSs X a' (tSs FA Ex C a)) (hs : notSet iter' = true) :
    PS X (.For tg' iter' a' [] pos) (tS FA Ex C (.forP tg one e a)) := by
  refine ps_imp (ps_for cx.own cx.calm (pi_list he) hg ha (notSet_fold hs)) fun D σ H h => ?_
  obtain ⟨L, r, s, hE, hS, h⟩ := h
  have h : okA FA Ex L s.length H (kF FA D) (exS C (.forP tg one e a) r s) := h
  simp only [exS] at h
  refine first_E hE hS h fun p s1 L1 H1 v hE0 sm1 st1 rv q => ?_
  split at q
  · rename_i l
    cases rv with
    | loc hl =>
    obtain ⟨xs0, vs0, x1, x2, x3⟩ := sm1.at hl
    refine ⟨L1 l, rfl, ⟨vs0, .inl (.inl x2)⟩, ?_⟩
    refine ⟨fun i m σ' H' => m + i = turns ∧ ∃ (L' : Nm) (r' : Env) (s' : Store), Step L1 s1.length H1 L' s'.length H' ∧ Sim FA L' H' s' ∧ RepE FA L' s'.length H' σ' r' ∧
      okA FA Ex L1 s1.length H1 (kF FA D) (forPL l (fun x r => bindT tg one x r) (fun r s => exSs C a r s) m i r' s'), ⟨turns, rfl, L1, r, s1, Step.refl, sm1, hE0, q⟩, ?_⟩
    rintro i m σ' H' ⟨hmi, L', r', s', st', sm', hE', hq⟩
    have eL : L' l = L1 l := st'.same l hl
    cases m with
    | zero => exact hq.elim
    | succ m =>
      have hq : okA FA Ex L1 s1.length H1 (kF FA D) (match s'[l]? with
        | some (.lst xs) => match xs[i]? with
          | none => .ok (.nx r') s'
          | some x => match bindT tg one x r' with
            | none => .bad
            | some r => thenS (exSs C a r s') fun r s => forPL l (fun x r => bindT tg one x r) (fun r s => exSs C a r s) m (i + 1) r s
        | none => .bad) := hq
      cases es : s'[l]? with
      | none => rw [es] at hq; exact hq.elim
      | some o =>
        obtain ⟨xs⟩ := o
        rw [es] at hq
        obtain ⟨ws, w1, w2, w3⟩ := sm'.obj l xs es
        rw [eL] at w1
        have hq := hq
        dsimp only at hq
        cases ex : xs[i]? with
        | none =>
          rw [ex] at hq
          refine .inl ⟨⟨ws, .inl (.inl w1), ?_⟩, ?_⟩
          · rw [← w2.length]
            exact List.getElem?_eq_none_iff.mp ex
          · exact okA.at (K := kF FA D) (okA.step (x := .ok (.nx r') s') hq st') sm' _ hE'
        | some p =>
          rw [ex] at hq
          dsimp only at hq
          obtain ⟨w, g1, rp⟩ := w2.get ex
          refine .inr ⟨⟨ws, w, .inl (.inl w1), g1⟩, fun σ'' H'' => ∃ mm', mm' < m + 1 ∧ (mm' + (i + 1) = turns ∧ ∃ (L' : Nm) (r' : Env) (s' : Store), Step L1 s1.length H1 L' s'.length H'' ∧ Sim FA L' H'' s' ∧ RepE FA L' s'.length H'' σ'' r' ∧
            okA FA Ex L1 s1.length H1 (kF FA D) (forPL l (fun x r => bindT tg one x r) (fun r s => exSs C a r s) mm' (i + 1) r' s')), fun σ'' H'' h => h, fun x H'' hy => ?_⟩
          obtain ⟨rfl, hy⟩ := hy
          have exw : x = w := by
            have := hy ws (.inl (.inl w1))
            rw [g1] at this
            exact (Option.some.inj this).symm
          subst exw
          cases eb : bindT tg one p r' with
          | none => rw [eb] at hq; exact hq.elim
          | some r2 =>
            rw [eb] at hq
            refine ⟨L', r', s', p, r2, hE', sm', rp, eb, fun σ2 hEs _ => ⟨L', r2, s', hEs, sm', ?_⟩⟩
            have hq : okA FA Ex L1 s1.length H1 (kF FA D) (thenS (exSs C a r2 s') fun r s => forPL l (fun x r => bindT tg one x r) (fun r s => exSs C a r s) m (i + 1) r s) := hq
            refine ((okA.bind0 hq).step st').mono fun f s4 L4 H4 st4 sm4 q4 => ?_
            cases f with
            | nx r4 => exact fun σ'' hE'' => ⟨m, Nat.lt_succ_self _, by omega, L4, r4, s4, st'.trans st4, sm4, hE'', q4⟩
            | rt v => exact okA.at (K := kF FA D) (okA.step q4 (st'.trans st4)) sm4
  · exact q.elim
theorem pss_m_nil : PSs X [] (tSs FA Ex C .nil) :=
  pss_imp pss_nil fun D σ H h => by
    obtain ⟨L, r, s, hE, hS, h⟩ := h
    have h : okA FA Ex L s.length H (kF FA D) (.ok (.nx r) s) := by
      have h : okA FA Ex L s.length H (kF FA D) (exSs C .nil r s) := h
      simp only [exSs] at h
      exact h
    exact okA.at (K := kF FA D) h hS _ hE
theorem pss_m_cons {a : S} {b : Ss} {a' : Stmt} {b' : List Stmt} (ha : PS X a' (tS FA Ex C a)) (hb : PSs X b' (tSs FA Ex C b)) : PSs X (a' :: b') (tSs FA Ex C (.cons a b)) := by
  refine pss_imp (pss_cons ha hb) fun D σ H h => ?_
  obtain ⟨L, r, s, hE, hS, h⟩ := h
  have h : okA FA Ex L s.length H (kF FA D) (exSs C (.cons a b) r s) := h
  simp only [exSs] at h
  refine ⟨L, r, s, hE, hS, (okA.bind h).mono fun f s2 L2 H2 st2 sm2 q => ?_⟩
  cases f with
  | nx r2 => exact fun σ' hE' => ⟨L2, r2, s2, hE', sm2, q⟩
  | rt v => exact okA.at (K := kF FA D) q sm2
theorem ps_m_raise (cx : Ctx RX FA M Ex C k N sc X) {c : Nat} {x m : Str} {j : Nat} {p p2 p3 : Pos} (h1 : globB sc x = true) (h2 : M.xc c = some x) (h3 : plainN x = true) : PS X (.Raise (some (.Call (.Name x p) [.Constant (.str m) j p2] [] p3)) none pos) (tS FA Ex C (.raise c)) := by
  obtain ⟨C0, e1, e2, e3, e4, e5⟩ := cx.xc c x h2
  refine ps_imp (L2N.ps_raise cx.calm cx.takes (L2N.pmk_own PySem.F.excBase_ValueError e2 e1 e3 e4 (cx.glob h1) (plain_of h3).1)) fun D σ H h => ?_
  obtain ⟨L, r, s, hE, hS, h⟩ := h
  have h : okA FA Ex L s.length H (kF FA D) (exS C (.raise c) r s) := h
  simp only [exS] at h
  exact ⟨.exn c [], s, L, e5 H, h L H Step.refl hS⟩
theorem ps_m_rtm (cx : Ctx RX FA M Ex C k N sc X) {x : Str} {p p3 : Pos} (h1 : globB sc x = true) (h2 : M.tm = some x) (h3 : plainN x = true) (he : PE X e' (tE FA Ex C e)) (hs : notStar e' = true) : PS X (.Raise (some (.Call (.Name x p) [e'] [] p3)) none pos) (tS FA Ex C (.rtm e)) := by
  obtain ⟨C0, r0, mk⟩ := cx.tm x h2
  refine ps_imp (L2N.ps_raise cx.calm cx.takes (mk e' _ p p3 he (cx.glob h1) (plain_of h3).1 (star_cons hs))) fun D σ H h => ?_
  obtain ⟨L, r, s, hE, hS, h⟩ := h
  have h : okA FA Ex L s.length H (kF FA D) (exS C (.rtm e) r s) := h
  simp only [exS] at h
  refine first_E hE hS h fun p s1 L1 H1 v hE1 hS1 st1 rv h1 => ?_
  split at h1
  · rename_i i
    have := rep_int rv
    subst this
    exact fun dx hdx => ⟨.exn 10 [.int i], s1, L1, r0 i dx _ upd_same, h1 L1 _ (Step.alloc hdx) (hS1.alloc hdx)⟩
  · exact h1.elim
theorem ps_m_never {a' : Stmt} : PS X a' (tS FA Ex C .never) :=
  ps_imp ps_never fun D σ H h => by
    obtain ⟨L, r, s, hE, hS, h⟩ := h
    have h : okA FA Ex L s.length H (kF FA D) (exS C .never r s) := h
    simp only [exS] at h
    exact h.elim
end

/-! ### does a statement spell an ML one? -/
def anyFn : Str → Bool := fun _ => true
def lcB : E → Expr → Bool
  | .comp _ _ _ _ _ _ _, .ListComp _ _ _ _ => true
  | _, _ => false
/-- x = e' -/
def setB (sc : Scope) (e : E) (x : Str) (px : Pos) (e' : Expr) : Bool := match e' with
  | .ListComp _ _ scope p => !swapB sc x px scope p || lcB e e'
  | .SetComp _ _ _ _ => false
  | .DictComp _ _ _ _ _ => false
  | _ => true
def unpB (sc : Scope) (ts : List Expr) (e' : Expr) : Bool := notComp e' && match e' with
  | .Tuple vs _ _ => decide (swapC sc ts vs = some none)
  | _ => true
def locN (N : List Str) (sc : Scope) (i : Nat) (x : Str) : Bool := decide (N[i]? = some x) && decide (sc.names.lookup x = some .local)
mutual
def mS (M : MT) (N : List Str) (sc : Scope) : S → Stmt → Bool
  | .set i e, s' => match s' with
    | .Assign [.Name x p] e' _ => mN anyFn N sc i (.Name x p) && setB sc e x p e' && mE M N sc e e'
    | _ => false
  | .sets is es, s' => match is, s' with
    | [i, j], .Assign [.Tuple [.Name x px, .Name y py] _ _] (.Tuple [a, b] _ _) _ => locN N sc i x && locN N sc j y && decide (i ≠ j) && decide (swapC sc [.Name x px, .Name y py] [a, b] = some (some [x, y])) && mEs M N sc es [a, b]
    | [i, j, l], .Assign [.Tuple [.Name x px, .Name y py, .Name z pz] _ _] (.Tuple [a, b, c] _ _) _ =>
      locN N sc i x && locN N sc j y && locN N sc l z && decide (i ≠ j) && decide (i ≠ l) && decide (j ≠ l) && decide (swapC sc [.Name x px, .Name y py, .Name z pz] [a, b, c] = some (some [x, y, z])) && mEs M N sc es [a, b, c]
    | _, _ => false
  | .unp is e, s' => match s' with
    | .Assign [.Tuple ts _ _] e' _ => mNs anyFn N sc is ts && unpB sc ts e' && mE M N sc e e'
    | _ => false
  | .aug i sub e, s' => match s' with
    | .AugAssign (.Name x p) op e' _ => op == augOp sub && mN anyFn N sc i (.Name x p) && mE M N sc e e'
    | _ => false
  | .augl i e, s' => match s' with
    | .AugAssign (.Name x p) op e' _ => op == .Add && mN anyFn N sc i (.Name x p) && mE M N sc e e'
    | _ => false
  | .seti a i e, s' => match s' with
    | .Assign [.Subscript a' i' _] e' _ => notComp e' && plainIx i' && mE M N sc a a' && mE M N sc i i' && mE M N sc e e'
    | _ => false
  | .expr e, s' => match s' with
    | .Expr e' _ => notComp e' && mE M N sc e e'
    | _ => false
  | .ret e, s' => match s' with
    | .Return (some e') _ => mE M N sc e e'
    | _ => false
  | .pass, s' => match s' with
    | .Pass _ => true
    | _ => false
  | .ifs c a b, s' => match s' with
    | .If c' a' b' _ => tH c && mE M N sc c c' && mSs M N sc a a' && mSs M N sc b b'
    | _ => false
  | .forP tg one e b, s' => match s' with
    | .For tg' iter' b' [] _ => notSet iter' && mE M N sc e iter' && mG anyFn N sc one tg tg' && mSs M N sc b b'
    | _ => false
  | .for_ tg one it b, s' => match s' with
    | .For tg' iter' b' [] _ => notSet iter' && mI M N sc (isTup tg') it iter' && mG anyFn N sc one tg tg' && mSs M N sc b b'
    | _ => false
  | .while_ c b, s' => match s' with
    | .While c' b' [] _ => tH c && mE M N sc c c' && mSs M N sc b b'
    | _ => false
  | .raise c, s' => match s' with
    | .Raise (some (.Call (.Name x _) [.Constant (.str _) _ _] [] _)) none _ => globB sc x && plainN x && decide (M.xc c = some x)
    | _ => false
  | .rtm e, s' => match s' with
    | .Raise (some (.Call (.Name x _) [e'] [] _)) none _ => globB sc x && plainN x && decide (M.tm = some x) && notStar e' && mE M N sc e e'
    | _ => false
  | .never, _ => true
def mSs (M : MT) (N : List Str) (sc : Scope) : Ss → List Stmt → Bool
  | .nil, ss => match ss with
    | [] => true
    | _ => false
  | .cons a b, ss => match ss with
    | a' :: b' => mS M N sc a a' && mSs M N sc b b'
    | _ => false
end
section
variable {RX : PV → Value → Option Addr → Hp → Prop} {FA : Gv} {M : MT} {Ex : XW} {C : Calls} {k : Nat} {N : List Str} {sc : Scope} {X : Cx}
theorem ps_m_comp (cx : Ctx RX FA M Ex C k N sc X) {m one : Bool} {own tg : List Nat} {it : I} {cond : Oe} {elt : E} {elt' : Expr} {gs : List Comprehension} {scope : Scope} {pos spos px : Pos} {i : Nat} {x : Str}
    (hi0 : N[i]? = some x) (hloc : sc.names.lookup x = some .local) (hsw : swapB sc x px scope pos = true)
    (h : mE M N sc (.comp m own tg one it cond elt) (.ListComp elt' gs scope pos) = true) : PS X (.Assign [.Name x px] (.ListComp elt' gs scope pos) spos) (tS FA Ex C (.set i (.comp m own tg one it cond elt))) := by
  simp only [mE] at h
  split at h
  · rename_i elt0 tg' iter' ifs scope0 pos0 e0
    cases e0
    simp only [Bool.and_eq_true] at h
    obtain ⟨⟨⟨⟨⟨⟨h1, h2⟩, h3⟩, h4⟩, h5⟩, h6⟩, h7⟩ := h
    have e := ownN_snd N own
    have hb : BlkOk X.N X.env.scope scope (ownN N own) := by rw [cx.hN, cx.hsc]; exact blkOk_by h3
    have hi := sI it iter' tg' M Ex sc X cx h4
    have hg : ∀ (s : Shared) (H : Hp) (D : Addr) (cl : List (Str × Addr)) (fp : List Addr), PG (X.blk s H scope (compEnvC scope cl D X.env) fp) tg' (tG FA tg one) := fun s H D cl fp =>
      let c2 := cx.blk s H scope D cl fp
      sG c2.hN c2.nd c2.hsc c2.calm (fun _ z => z) h5
    have ht : ∀ (s : Shared) (H : Hp) (D : Addr) (cl : List (Str × Addr)) (fp : List Addr), PTs (X.blk s H scope (compEnvC scope cl D X.env) fp) ifs (tC FA C cond) := fun s H D cl fp => sC cond ifs _ _ _ (cx.blk s H scope D cl fp) h6
    have he : ∀ (s : Shared) (H : Hp) (D : Addr) (cl : List (Str × Addr)) (fp : List Addr), PE (X.blk s H scope (compEnvC scope cl D X.env) fp) elt' (tE FA noEx C elt) := fun s H D cl fp => (sE elt elt' _ _ _ _ (cx.blk s H scope D cl fp) h7).pe
    refine ps_imp (ps_setLc cx.calm cx.nd (by rw [cx.hN]; exact hi0) (by rw [cx.hsc]; exact hloc) (by rw [swaps_lc cx.hsc, hsw]) hi hb hg ht he (notSet_fold h1)) fun D σ H q => ?_
    have q2 := asg_of q
    have z := pe_m_comp (m := m) (pos := pos) cx (by rw [e]; exact h2) hb hi hg ht he
    rw [e] at z
    have z2 := z σ H _ q2
    rw [e]
    exact z2
  · cases h
mutual
theorem sS (hf : ∀ x, X.fn x = true) : ∀ (a : S) (s' : Stmt), Ctx RX FA M Ex C k N sc X → mS M N sc a s' = true → PS X s' (tS FA Ex C a)
  | .set i e, s', cx, h => by
    simp only [mS] at h
    split at h
    · rename_i x p e' pos
      simp only [Bool.and_eq_true] at h
      obtain ⟨⟨h1, h2⟩, h3⟩ := h
      obtain ⟨x2, p2, e2, st⟩ := sto_of cx.hN cx.nd cx.hsc (fun x _ => hf x) h1
      cases e2
      have std : swapsWith e' (some (.Name x p)) pos.line X.env = pure false → PS X (.Assign [.Name x p] e' pos) (tS FA Ex C (.set i e)) := fun z => ps_m_set cx st (sE e e' M Ex sc X cx h3).pe z
      unfold setB at h2
      split at h2
      · rename_i elt' gs scope pp
        cases hb : swapB sc x p scope pp with
        | false => exact std (by rw [swaps_lc cx.hsc, hb])
        | true =>
          rw [hb] at h2
          cases e with
          | comp m own tg one it cond elt =>
            refine ps_m_comp cx (by rw [← cx.hN]; exact st.at_) ?_ hb h3
            unfold swapB at hb
            simp only [Bool.and_eq_true, beq_iff_eq] at hb
            exact hb.1.1.2
          | _ => cases h2
      · cases h2
      · cases h2
      · rename_i c1 c2 c3
        refine std (swaps_no ?_)
        cases e' <;> first
          | rfl
          | exact absurd rfl (c1 _ _ _ _)
          | exact absurd rfl (c2 _ _ _ _)
          | exact absurd rfl (c3 _ _ _ _ _)
    · cases h
  | .sets is es, s', cx, h => by
    simp only [mS] at h
    split at h
    · simp only [Bool.and_eq_true, locN, decide_eq_true_eq] at h
      obtain ⟨⟨⟨⟨h1, h2⟩, h3⟩, h4⟩, h5⟩ := h
      exact ps_m_par cx h1.1 h2.1 h3 h1.2 h2.2 (sEs es _ M Ex sc X cx h5).2.1 h4
    · simp only [Bool.and_eq_true, locN, decide_eq_true_eq] at h
      obtain ⟨⟨⟨⟨⟨⟨⟨h1, h2⟩, h3⟩, h4⟩, h5⟩, h6⟩, h7⟩, h8⟩ := h
      exact ps_m_par3 cx h1.1 h2.1 h3.1 h4 h5 h6 h1.2 h2.2 h3.2 (sEs es _ M Ex sc X cx h8).2.1 h7
    · cases h
  | .unp is e, s', cx, h => by
    simp only [mS] at h
    split at h
    · rename_i ts kt pt e' pos
      simp only [Bool.and_eq_true] at h
      obtain ⟨⟨h1, h2⟩, h3⟩ := h
      unfold unpB at h2
      rw [Bool.and_eq_true] at h2
      refine ps_m_unp cx (names_of cx.hN cx.nd cx.hsc (fun x _ => hf x) is ts h1) (sE e e' M Ex sc X cx h3).pe h2.1 ?_
      have h4 := h2.2
      split at h4
      · exact swap_of cx.hsc (of_decide_eq_true h4)
      · rename_i c
        cases e' <;> first
          | rfl
          | exact absurd rfl (c _ _ _)
    · cases h
  | .aug i sub e, s', cx, h => by
    simp only [mS] at h
    split at h
    · rename_i x p op e' pos
      simp only [Bool.and_eq_true, beq_iff_eq] at h
      obtain ⟨⟨h1, h2⟩, h3⟩ := h
      subst h1
      obtain ⟨x2, p2, e2, st⟩ := sto_of cx.hN cx.nd cx.hsc (fun x _ => hf x) h2
      cases e2
      exact ps_m_aug cx st (sE e e' M Ex sc X cx h3).pe
    · cases h
  | .augl i e, s', cx, h => by
    simp only [mS] at h
    split at h
    · rename_i x p op e' pos
      simp only [Bool.and_eq_true, beq_iff_eq] at h
      obtain ⟨⟨h1, h2⟩, h3⟩ := h
      subst h1
      obtain ⟨x2, p2, e2, st⟩ := sto_of cx.hN cx.nd cx.hsc (fun x _ => hf x) h2
      cases e2
      exact ps_m_augl cx st (sE e e' M Ex sc X cx h3).pe
    · cases h
  | .seti a i e, s', cx, h => by
    simp only [mS] at h
    split at h
    · simp only [Bool.and_eq_true] at h
      obtain ⟨⟨⟨⟨h1, h2⟩, h3⟩, h4⟩, h5⟩ := h
      exact ps_m_seti cx (sE a _ M Ex sc X cx h3).pe (sE i _ M Ex sc X cx h4).pe (sE e _ M Ex sc X cx h5).pe h1 h2
    · cases h
  | .expr e, s', cx, h => by
    simp only [mS] at h
    split at h
    · simp only [Bool.and_eq_true] at h
      exact ps_m_expr (sE e _ M Ex sc X cx h.2).pe h.1
    · cases h
  | .ret e, s', cx, h => by
    simp only [mS] at h
    split at h
    · exact ps_m_ret (sE e _ M Ex sc X cx h).pe
    · cases h
  | .pass, s', cx, h => by
    simp only [mS] at h
    split at h
    · exact ps_m_pass
    · cases h
  | .ifs c a b, s', cx, h => by
    simp only [mS] at h
    split at h
    · simp only [Bool.and_eq_true] at h
      exact ps_m_ifs ((sE c _ M Ex sc X cx h.1.1.2).pt h.1.1.1) (sSs hf a _ cx h.1.2) (sSs hf b _ cx h.2)
    · cases h
  | .forP tg one e b, s', cx, h => by
    simp only [mS] at h
    split at h
    · simp only [Bool.and_eq_true] at h
      obtain ⟨⟨⟨h1, h2⟩, h3⟩, h4⟩ := h
      exact ps_m_forP cx (sE e _ M Ex sc X cx h2).pe (sG cx.hN cx.nd cx.hsc cx.calm (fun x _ => hf x) h3) (sSs hf b _ cx h4) h1
    · cases h
  | .for_ tg one it b, s', cx, h => by
    simp only [mS] at h
    split at h
    · simp only [Bool.and_eq_true] at h
      obtain ⟨⟨⟨h1, h2⟩, h3⟩, h4⟩ := h
      exact ps_m_for cx (sI it _ _ M Ex sc X cx h2) (sG cx.hN cx.nd cx.hsc cx.calm (fun x _ => hf x) h3) (sSs hf b _ cx h4) h1
    · cases h
  | .while_ c b, s', cx, h => by
    simp only [mS] at h
    split at h
    · simp only [Bool.and_eq_true] at h
      exact ps_m_while cx ((sE c _ M Ex sc X cx h.1.2).pt h.1.1) (sSs hf b _ cx h.2)
    · cases h
  | .raise c, s', cx, h => by
    simp only [mS] at h
    split at h
    · simp only [Bool.and_eq_true, decide_eq_true_eq] at h
      exact ps_m_raise cx h.1.1 h.2 h.1.2
    · cases h
  | .rtm e, s', cx, h => by
    simp only [mS] at h
    split at h
    · simp only [Bool.and_eq_true, decide_eq_true_eq] at h
      obtain ⟨⟨⟨⟨h1, h2⟩, h3⟩, h4⟩, h5⟩ := h
      exact ps_m_rtm cx h1 h3 h2 (sE e _ M Ex sc X cx h5).pe h4
    · cases h
  | .never, s', cx, h => ps_m_never
theorem sSs (hf : ∀ x, X.fn x = true) : ∀ (a : Ss) (s' : List Stmt), Ctx RX FA M Ex C k N sc X → mSs M N sc a s' = true → PSs X s' (tSs FA Ex C a)
  | .nil, s', cx, h => by
    simp only [mSs] at h
    split at h
    · exact pss_m_nil
    · cases h
  | .cons a b, s', cx, h => by
    simp only [mSs] at h
    split at h
    · simp only [Bool.and_eq_true] at h
      exact pss_m_cons (sS hf a _ cx h.1) (sSs hf b _ cx h.2)
    · cases h
end
end
end ML

set_option Elab.async false
set_option maxRecDepth 100000
set_option linter.all false
set_option maxHeartbeats 4000000
/-! ML: an exception class whose __init__ says Base.__init__(self, text) and keeps its argument as a field. -/
namespace ML
open PySem PySem.Spec PyProof.Rows L2
/-- the base class's name in the text -/
structure QeW (K : PySem.W.Frag) (mg : Str → Option Value) (QE : Addr) : Prop where
  mgq : mg "QueueError" = some (.ref QE)
  rd : PySem.W.readsIn K QE (.type "type") = true
  ga : PySem.W.specialIn K (.ref QE) "__getattribute__" = some (some (.builtin "type.__getattribute__"))
  ini : PySem.W.findCls K (.ref QE) (.type "type") "__init__" = some (.val (.builtin "ValueError.__init__"))
section
variable {X : Cx} {QE : Addr}
/-- QueueError.__init__(self, ..) -/
theorem pe_qeinit {e : Expr} {es : List Expr} {ta : TA} {p1 p2 pos : Pos} {pl : Sem Bool} (W : QeW X.K X.mg QE) (hg : Gl X "QueueError") (ha : PA X (e :: es) ta)
    (hc : eval (.Call (.Attribute (.Name "QueueError" p1) "__init__" p2) (e :: es) [] pos) X.env = (do
      let ov ← eval (.Name "QueueError" p1) X.env
      standAt p2.atName
      let (f, first) ← holding [ov] (getMethod ov "__init__" pl)
      callWith pos f first (backTo pos (starEach (e :: es) X.env)) (backToKw pos (keywordEach [] X.env))) := by rfl)
    (he : starEach (e :: es) X.env = (false, eval e X.env) :: starEach es X.env := by rfl) (hpl : (backTo pos (starEach es X.env)).any (·.1) = false := by rfl) :
    PE X (.Call (.Attribute (.Name "QueueError" p1) "__init__" p2) (e :: es) [] pos) (tVeI X.K ta) := by
  refine ⟨fun pins s σ H Q I h => ?_⟩
  refine PySem.W.methodCall_KW (ld_glob I hg W.mgq ?_ (by decide)) hc
  refine PySem.W.method_cls I.kIn W.ga (PySem.W.cls_value I.kIn W.rd W.ini (by decide +kernel) ?_)
  show wpAny _ _ (callWith pos (Value.builtin "ValueError.__init__") [] (backTo pos (starEach (e :: es) X.env)) []) _ _ _
  refine PyProof.Rows.callWith_method1 (thn (ha.run pos pins _ σ H _ (I.tok _) h) fun us s1 ⟨vs, H1, I1, r1, a, C, ws, ev, hl, T, ea, q⟩ => ?_) he hpl
  subst ev
  cases r1 with
  | @cons _ u0 _ ur ra rw' =>
    obtain rfl : u0 = Value.ref a := ra
    have hlen : ur.length ≤ sizeLine := by
      rw [← Paired.length rw', sizeLine_eq]
      omega
    exact oinit_ok T I1 ea hlen fun s' J => ⟨.non, H1, J, rfl, q⟩
end
/-- its text -/
def tmB (sc : Scope) : List Stmt → Bool
  | [.Expr (.Call (.Attribute (.Name q _) i i2) [.Name s1 _, .Constant (.str _) _ _] [] pos) _, .Assign [.Attribute (.Name s2 _) f _] (.Name l _) _] =>
    q == ("QueueError" : Str) && i == ("__init__" : Str) && s1 == ("self" : Str) && s2 == ("self" : Str) && f == ("limit" : Str) && l == ("limit" : Str) && (i2.endLine == pos.line) && globB sc q && visB sc "self" && visB sc "limit"
  | _ => false
def tmN : List Str := ["self", "limit"]
section
variable {P : Program} {w : World} {K : PySem.W.Frag} {mg : Str → Option Value} {base : Heap}
/-- the exception's class, its __init__, as the written part has them -/
structure TmW (K : PySem.W.Frag) (mg : Str → Option Value) (x : Str) (C : Addr) : Prop where
  mgx : mg x = some (.ref C)
  ox : OexC K C
  lim : PySem.W.findIn K (.ref C) "limit" = some none
  ini : ∃ (fI QE : Addr) (st : Stmt) (oc : Value) (od : Option Addr) (kV dc pm : Value) (an : Option Addr) (cd ct : Value) (sl : Array (Option Value)), PySem.W.findIn K (.ref C) "__init__" = some (some (.ref fI)) ∧ PySem.W.typeIn K (.ref fI) = some (.type "function") ∧
    K.lookup fI = some ⟨oc, od, .func (PySem.W.fnOf "__init__" "TooMany.__init__" (defArgs st) (defBody st) (defScope st) .none kV dc pm an cd ct), sl⟩ ∧ PySem.W.codeIn K cd "TooMany.__init__" = true ∧
    C8.scC tmN tmN (defScope st) = true ∧ tmB (defScope st) (defBody st) = true ∧ QeW K mg QE ∧ L2.Binds K (PySem.W.fnOf "__init__" "TooMany.__init__" (defArgs st) (defBody st) (defScope st) .none kV dc pm an cd ct) tmN []
theorem tm_fn {C fI QE : Addr} {st : Stmt} {oc kV dc pm cd ct : Value} {od an : Option Addr} {sl : Array (Option Value)} (ox : OexC K C) (lim : PySem.W.findIn K (.ref C) "limit" = some none)
    (lk : K.lookup fI = some ⟨oc, od, .func (PySem.W.fnOf "__init__" "TooMany.__init__" (defArgs st) (defBody st) (defScope st) .none kV dc pm an cd ct), sl⟩) (hcd : PySem.W.codeIn K cd "TooMany.__init__" = true) (hs : C8.scC tmN tmN (defScope st) = true) (hb : tmB (defScope st) (defBody st) = true) (W : QeW K mg QE) :
    FnOk P w K mg base (L2N.CX P w) 1 fI (PySem.W.fnOf "__init__" "TooMany.__init__" (defArgs st) (defBody st) (defScope st) .none kV dc pm an cd ct) tmN
      (fun vs H Q _ => ∃ (a : Addr) (v : V), vs = [.ref a, v] ∧ H a = some (exo a C none) ∧ ∀ dx, H dx = none → dx ≠ a → Q .non (upd (upd H dx (exd dx [("limit", v)])) a (exo a C (some dx)))) := by
  have S := C8.fnScope_by hs
  refine fn_of lk hcd S (fun vs H Q E h => ?_) fun A outer s H vs Q E hr h => ?_
  · obtain ⟨a, v, rfl, _⟩ := h
    rfl
  obtain ⟨a, v, rfl, ha, q⟩ := h
  unfold tmB at hb
  split at hb
  · rename_i body qn p1 i p2 s1 p3 txt j p4 pos p5 s2 p6 f p7 l p8 p9 eb
    simp only [Bool.and_eq_true, beq_iff_eq] at hb
    obtain ⟨⟨⟨⟨⟨⟨⟨⟨⟨rfl, rfl⟩, rfl⟩, rfl⟩, rfl⟩, rfl⟩, hl0⟩, g1⟩, v1⟩, v2⟩ := hb
    have hline : (p2.endLine == pos.line) = true := by rw [hl0]; exact beq_self_eq_true _
    rw [eb]
    generalize hX : cxOf (L2N.CX P w) P w K mg base tmN "TooMany.__init__" (defScope st) fI cd A outer s H E = X
    have xN : X.N = tmN := by rw [← hX]; rfl
    have xsc : X.env.scope = defScope st := by rw [← hX]; rfl
    have xK : X.K = K := by rw [← hX]; rfl
    have xmg : X.mg = mg := by rw [← hX]; rfl
    have gl : Gl X "QueueError" := by
      unfold globB at g1
      show X.env.scope.names.lookup ("QueueError" : Str) = some .globalImplicit
      rw [xsc]
      split at g1 <;> simp_all
    have pv0 : ∀ p, PE X (.Name "self" p) (fun σ H Q => ∃ v, σ[0]? = some (some v) ∧ Q v H) := fun p => pe_var (i := 0) (by rw [xN]; rfl) (by rw [xsc]; exact vis_of v1) (by decide) (by decide)
    have pv1 : ∀ p, PE X (.Name "limit" p) (fun σ H Q => ∃ v, σ[1]? = some (some v) ∧ Q v H) := fun p => pe_var (i := 1) (by rw [xN]; rfl) (by rw [xsc]; exact vis_of v2) (by decide) (by decide)
    have W' : QeW X.K X.mg QE := by rw [xK, xmg]; exact W
    refine ⟨_, pss_cons (ps_expr (pe_qeinit (pl := L2.plainOf (.Name "QueueError" p1) X.env) W' gl (pa_cons (pv0 _) (pa_cons pe_str pa_nil)) (by
      have e := congrArg (fun f : Value → Sem Value => (do
        let ov ← eval (.Name "QueueError" p1) X.env
        standAt p2.atName
        f ov)) (funext fun ov => L2.mcall_line (o := .Name "QueueError" p1) (m := "__init__") (env := X.env) (ov := ov) (n := 2) (args := backTo pos (starEach [.Name "self" p3, .Constant (.str txt) j p4] X.env)) (kws := backToKw pos (keywordEach [] X.env)) rfl hline)
      exact e))) (pss_one (ps_ost (pv0 _) (pv1 _))), ?_⟩
    refine ⟨.ref a, rfl, a, C, [.str txt], rfl, by show 1 ≤ 1000; decide, by rw [xK]; exact ox, ha, ?_⟩
    exact ⟨v, rfl, .ref a, rfl, a, C, rfl, by rw [xK]; exact ox, by rw [xK]; exact lim, .inl ⟨ha, fun dx h1 h2 => q dx h1 h2⟩⟩
  · cases hb
end
section
variable {X : Cx} {e : Expr} {es : List Expr} {ta : TA} {pos p : Pos}
/-- C(e, ..) makes an exception, its context None -/
theorem pmk_tm {CX : CXT} {x : Str} {C fI : Addr} {k : Nat} {fd : FuncData} {ps : List Str} {sp : Sp} (T : OexC X.K C) (iC : PySem.W.findIn X.K (.ref C) "__init__" = some (some (.ref fI))) (tI : PySem.W.typeIn X.K (.ref fI) = some (.type "function"))
    (F1 : FnOk X.prog X.w X.K X.mg X.base CX k fI fd ps sp) (hr : Room (k + 1) X.A) (hb : L2.Binds X.K fd ps []) (hx : Passes CX X (fun _ _ _ => False)) (hg : Gl X x) (hm : X.mg x = some (.ref C)) (ha : PA X (e :: es) ta)
    (hdb : (x == ("__debug__" : Str)) = false) (he : starEach (e :: es) X.env = (false, eval e X.env) :: starEach es X.env) (hpl : (backTo pos (starEach es X.env)).any (·.1) = false) :
    L2N.PMk X (.Call (.Name x p) (e :: es) [] pos) (tMkO C sp [] ta) := by
  intro pins s σ H Q I h
  obtain ⟨nm, q, N, bs, bm, sn, sub, ab, col, dd, k0, k1, k2, k3, k5, hC, hbm⟩ := T.cls
  refine wpAny_Call_Name_kw (ld_glob I hg hm ?_ hdb)
  refine PySem.W.callWith_K (h₀ := X.base) I.ok.mod.kin T.kC (thn (ha.run pos pins s σ H _ I h) fun us s1 ⟨vs, H1, I1, r1, hz, q1⟩ => ⟨I1.kIn, ?_⟩) he hpl
  show wpAny _ _ (call (.ref C) us) _ _ _
  obtain ⟨hp, g, dr, tk, os⟩ := s1
  have hsz : hp.objs.size ≤ hp.objs.size + 1 := Nat.le_succ _
  have hn : H1 (hp.objs.size + 1) = none := I1.hok.fresh hsz
  have hq := q1 (hp.objs.size + 1) hn
  have kk : ∀ b o, hp.get? b = some o → ((hp.push (PySem.W.kdv_tup us)).push (PySem.HandSPX.excO C hp.objs.size)).get? b = some o := fun b o e => by
    exact Heap.get?_push_of_some _ (Heap.get?_push_of_some _ e)
  have hget : ((hp.push (PySem.W.kdv_tup us)).push (PySem.HandSPX.excO C hp.objs.size)).get? (hp.objs.size + 1) = some (PySem.HandSPX.excO C hp.objs.size) := by
    heap_get
  have I2 : Inv X pins σ (upd H1 (hp.objs.size + 1) (exo (hp.objs.size + 1) C none)) ⟨((hp.push (PySem.W.kdv_tup us)).push (PySem.HandSPX.excO C hp.objs.size)), g, dr, tk, os⟩ :=
    I1.laid (t' := tk) (a := hp.objs.size + 1) (o := exo (hp.objs.size + 1) C none) (h' := ((hp.push (PySem.W.kdv_tup us)).push (PySem.HandSPX.excO C hp.objs.size))) kk hsz (exo_ok hget)
  have r2 : Vals (V.ref (hp.objs.size + 1) :: (vs ++ [])) (Value.ref (hp.objs.size + 1) :: us) := .cons rfl (by rw [List.append_nil]; exact r1)
  have hl : (Value.ref (hp.objs.size + 1) :: us).length = ps.length := by
    have e := r2.length
    rw [F1.len _ _ _ _ hq] at e
    exact e.symm
  have hus : us.length ≤ sizeLine := by
    rw [← Paired.length r1, sizeLine_eq]
    omega
  have bb := hb ⟨((hp.push (PySem.W.kdv_tup us)).push (PySem.HandSPX.excO C hp.objs.size)), g, dr, tk, os⟩ (Value.ref (hp.objs.size + 1) :: us) I2.kIn (by rw [List.append_nil]; exact hl)
  rw [List.append_nil] at bb
  refine wpAny_call (PySem.HandSPX.call_own F.excBase_ValueError (fun Y => PySem.HandSPX.refsVE_contains Y bm hbm) (I1.kIn _ _ hC) (PySem.W.looks_findIn I1.kIn iC) (fun self => PySem.W.bind_fn I1.kIn self tI) hus
    (codeAny_mono (F1.run _ X.stack _ _ ⟨Value.ref (hp.objs.size + 1) :: us, []⟩ (Value.ref (hp.objs.size + 1) :: us) _ _ (fun _ _ _ => False) (hr.make C us []) (I2.env0.make C us []) bb r2 hq) fun r s' hq' => ?_))
  cases r with
  | error er => exact hx pins σ _ _ er s' I2 hq'
  | ok fl =>
    cases fl with
    | ret u =>
      obtain ⟨v, H2, os2, bare2, un2, hok2, rv, ev, d, fs, ea, ed, hd1, q2⟩ := hq'
      subst ev
      obtain ⟨h2, g2, d2, t2, os'⟩ := s'
      refine ⟨rv, ?_⟩
      obtain ⟨t0, G, J, kG, ge, hoe, na⟩ := mk_end0 (d2 := d2) (t2 := t2) I1 hsz kk un2 hok2 os2 bare2 ea ed hd1
      exact ⟨_, _, _, ⟨G, g2, d2, t2, os'⟩, _, .ref C, some d, rfl, J, kG, ge, hoe, ⟨rfl, rfl, fun vs hv => by cases hv; rfl⟩, rfl, rfl, na, rfl, bare2, raises_own T.exC T.tyC, q2⟩
    | next => exact False.elim hq'
    | brk => exact False.elim hq'
    | cont => exact False.elim hq'
theorem tm_ok {x : Str} {C : Addr} (W : TmW X.K X.mg x C) (hr : Room 2 X.A) (hx : Passes (L2N.CX X.prog X.w) X (fun _ _ _ => False)) (e' : Expr) (te : TE) (p pos : Pos) (he' : PE X e' te) (hg : Gl X x) (hdb : (x == ("__debug__" : Str)) = false) (hs : starEach [e'] X.env = (false, eval e' X.env) :: starEach [] X.env) :
    L2N.PMk X (.Call (.Name x p) [e'] [] pos) (fun σ H Q => te σ H fun v H1 => ∀ dx, H1 dx = none → Q (.ref C) (some dx) (upd H1 dx (.xd [("limit", v)]))) := by
  obtain ⟨fI, QE, st, oc, od, kV, dc, pm, an, cd, ct, sl, i1, i2, lk, hcd, hsc, hb, Q, bi⟩ := W.ini
  have F := tm_fn (P := X.prog) (w := X.w) (base := X.base) W.ox W.lim lk hcd hsc hb Q
  have he2 : PE X e' (fun σ H Q => ∃ Q' : VK, te σ H Q' ∧ ∀ v H', Q' v H' → Q v H') := ⟨fun pins s σ H Q I h => by
    obtain ⟨Q', h, m⟩ := h
    exact wpAny_mono (he'.run pins s σ H Q' I h) (fun u s1 ⟨x, H1, I1, r, q⟩ => ⟨x, H1, I1, r, m _ _ q⟩) fun _ _ z => z⟩
  have h := pmk_tm (pos := pos) (p := p) W.ox i1 i2 F hr bi hx hg W.mgx (pa_cons he2 pa_nil hs) hdb hs rfl
  intro pins s σ H R I q
  refine h pins s σ H R I ⟨_, q, fun v H1 hv => ⟨by show 1 ≤ 1000; decide, fun a ha => ⟨a, v, rfl, upd_same, fun dx h1 h2 => ⟨rfl, dx, [("limit", v)], upd_same, (upd_ne h2).trans upd_same, ?_, ?_⟩⟩⟩⟩
  · rw [upd_ne h2] at h1
    exact h1
  · have h1' : H1 dx = none := by
      rw [upd_ne h2] at h1
      exact h1
    have e : upd (del (upd (upd (upd H1 a (exo a C none)) dx (exd dx [("limit", v)])) a (exo a C (some dx))) a) dx (.xd [("limit", v)]) = upd H1 dx (.xd [("limit", v)]) := by
      funext b
      by_cases hb : b = dx
      · rw [hb, upd_same, upd_same]
      · rw [upd_ne hb, upd_ne hb]
        by_cases hb2 : b = a
        · rw [hb2, del_same, ha]
        · rw [del_ne hb2, upd_ne hb2, upd_ne hb, upd_ne hb2]
    rw [e]
    exact hv dx h1'
end
/-! ### from the written part -/
def initOf : Stmt → Stmt
  | .ClassDef _ _ _ (s :: _) _ _ _ _ _ _ _ => s
  | s => s
def oexB (K : PySem.W.Frag) (C : Addr) : Bool := match K.lookup C with
  | some ⟨.type "type", _, .cls cd, sl⟩ => (match cd.mro, sl.toList with
    | .ref C' :: bm, [_, _, _, _, some (.builtin n), _] => C' == C && n == "ValueError.__new__" && !cd.hasDel && cd.hasDict && PySem.HandSPX.refsVE bm
    | _, _ => false)
  | _ => false
theorem oex_cls {K : PySem.W.Frag} {C : Addr} (q : oexB K C = true) : ∃ nm q N bs bm sn sub ab col dd k0 k1 k2 k3 k5, K.lookup C = some (excClassObj nm q C N bs bm true sn sub ab col dd k0 k1 k2 k3 k5 "ValueError.__new__") ∧ PySem.HandSPX.refsVE bm = true := by
  unfold oexB at q
  split at q
  · rename_i dd cd sl ho
    split at q
    · rename_i C' bm k0 k1 k2 k3 n k5 hm hs
      simp only [Bool.and_eq_true, beq_iff_eq, Bool.not_eq_true'] at q
      obtain ⟨⟨⟨⟨rfl, rfl⟩, hdel⟩, hd0⟩, hv⟩ := q
      obtain ⟨nm, bs, mro, ns, qn, hd, sn, sub, ab, col, del⟩ := cd
      dsimp only at hm hdel hd0
      subst hm hdel hd0
      have hsl : sl = #[k0, k1, k2, k3, some (.builtin "ValueError.__new__"), k5] := by
        obtain ⟨l⟩ := sl
        simp only at hs
        rw [hs]
      subst hsl
      exact ⟨nm, qn, ns, bs, bm, sn, sub, ab, col, dd, k0, k1, k2, k3, k5, ho, hv⟩
    · cases q
  · cases q
def tmwB (K : PySem.W.Frag) (C fI QE : Addr) : Bool := oexB K C && decide (PySem.W.findIn K (.ref C) "__setattr__" = some (some (.builtin "object.__setattr__"))) && decide (PySem.W.subIn K (.ref C) (.type "BaseException") = some true) && decide (PySem.W.typeIn K (.ref C) = some (.type "type")) && PySem.W.keepIn K (.ref C) &&
  decide (PySem.W.findIn K (.ref C) "limit" = some none) && decide (PySem.W.typeIn K (.ref fI) = some (.type "function")) && PySem.W.readsIn K QE (.type "type") && decide (PySem.W.specialIn K (.ref QE) "__getattribute__" = some (some (.builtin "type.__getattribute__"))) &&
  (match PySem.W.findCls K (.ref QE) (.type "type") "__init__" with
    | some (.val v) => decide (v = .builtin "ValueError.__init__")
    | _ => false)
theorem tmW_of {K : PySem.W.Frag} {h : Heap} {mg : Str → Option Value} {C fI QE : Addr} {st : Stmt} {oc kV dc pm cd ct : Value} {od an : Option Addr} {sl : Array (Option Value)} (X : K.In h) (G : h.Ns mainGlobals mg) (nC : PySem.W.nsIn K mainGlobals "TooMany" = some (some (.ref C))) (nQ : PySem.W.nsIn K mainGlobals "QueueError" = some (some (.ref QE)))
    (b : tmwB K C fI QE = true) (iI : PySem.W.findIn K (.ref C) "__init__" = some (some (.ref fI))) (lk : K.lookup fI = some ⟨oc, od, .func (PySem.W.fnOf "__init__" "TooMany.__init__" (defArgs st) (defBody st) (defScope st) .none kV dc pm an cd ct), sl⟩) (hcd : PySem.W.codeIn K cd "TooMany.__init__" = true) (kp : PySem.W.keepIn K (.ref fI) = true)
    (hs : C8.scC tmN tmN (defScope st) = true) (hb : tmB (defScope st) (defBody st) = true)
    (hbi : ∀ (kV doc pm : Value) (an : Option Addr) (cdv ct : Value) (us : List Value), us.length = 2 → bindArgs (PySem.W.fnOf "__init__" "TooMany.__init__" (defArgs st) (defBody st) (defScope st) .none kV doc pm an cdv ct) ⟨us, []⟩ = pure (tmN.zip us)) : TmW K mg "TooMany" C := by
  unfold tmwB at b
  simp only [Bool.and_eq_true, decide_eq_true_eq] at b
  obtain ⟨⟨⟨⟨⟨⟨⟨⟨⟨b1, b2⟩, b3⟩, b4⟩, b5⟩, b6⟩, b7⟩, b8⟩, b9⟩, b10⟩ := b
  have F : FunD K "__init__" "TooMany.__init__" (defArgs st) (defBody st) (defScope st) [] [] fI (PySem.W.fnOf "__init__" "TooMany.__init__" (defArgs st) (defBody st) (defScope st) .none kV dc pm an cd ct) :=
    ⟨⟨oc, od, .none, kV, dc, pm, an, cd, ct, sl, rfl, lk, hcd, .inl ⟨rfl, rfl⟩, .inl rfl⟩, kp⟩
  refine ⟨PySem.W.mg_of X G nC, ⟨oex_cls b1, b2, b3, b4, b5⟩, b6, fI, QE, st, oc, od, kV, dc, pm, an, cd, ct, sl, iI, b7, lk, hcd, hs, hb, ⟨PySem.W.mg_of X G nQ, b8, b9, ?_⟩, F.bindsN (ps := tmN) hbi⟩
  split at b10
  · rename_i v e
    rw [e, of_decide_eq_true b10]
  · cases b10
end ML

set_option Elab.async false
set_option maxRecDepth 100000
set_option linter.all false
set_option maxHeartbeats 2000000
/-! ML: while an exception is handled: the ends of walks. -/
namespace ML
open PySem PySem.Spec PyProof.Rows L2 HotX
section
variable {prog : Program} {w : World} {A : Around} {E : Value → Shared → Prop} {s : Shared}
theorem hot_same {x1 : Addr} {h h' : Heap} (hot : HotAt A x1 h) (k : ∀ o, h.get? x1 = some o → h'.get? x1 = some o) : HotAt A x1 h' := by
  obtain ⟨h1, o, vs, e, d, c⟩ := hot
  exact ⟨h1, o, vs, k o e, d, c⟩
theorem hot_lt {x1 : Addr} {h : Heap} (hot : HotAt A x1 h) : x1 < h.objs.size := by
  obtain ⟨_, o, vs, e, _⟩ := hot
  exact Heap.lt_size e
/-- a list's iterator at its end -/
theorem nextOf_end_hot {it l x1 : Addr} {i : Nat} {items : Array Value} {Q : Value → Shared → Prop} (hot : HotAt A x1 s.heap) (hne : x1 ≠ it) (hit : s.heap.IsListIter it l i) (hl : s.heap.IsList l items) (hx : items[i]? = none)
    (hE : ∀ h' e, Heap.ExtBut it s.heap h' → (∃ o, h'.get? e = some o ∧ o.cls = .type "StopIteration") → E (.ref e) { s with heap := h' }) : wpAny (model prog w) A (Builtin.SmallTypes.nextOf (.ref it)) Q E s := by
  obtain ⟨o, ho, hc, hd⟩ := id hit
  obtain ⟨ol, hol, _, nl, hdl⟩ := hl
  unfold Builtin.SmallTypes.nextOf
  refine wpAny_bind (wpAny_callSpecial?_slot (name := Str.ofString "__next__") hit.typeIs slot_listiter_next (wpAny_call_entry slot_listiter_next hit.typeIs entry_listiter_next ?_ (args_listiter_next _)))
  show wpAny _ _ (field (.ref it) 0 >>= _) _ _ s
  refine wpAny_bind (wpAny_field ho hd (x := .ref l) rfl ?_)
  show wpAny _ _ (if (Value.ref l == Value.none) = true then _ else _) _ _ s
  rw [if_neg (show ¬ ((Value.ref l == Value.none) = true) from Bool.false_ne_true)]
  show wpAny _ _ (field (.ref it) 1 >>= _) _ _ s
  refine wpAny_bind (wpAny_field ho hd (x := .int i 0) rfl ?_)
  show wpAny _ _ (seqItems? (.ref l) >>= _) _ _ s
  refine wpAny_bind (wpAny_seqItems hol hdl ?_)
  simp only [Int.toNat_natCast, hx]
  refine wpAny_bind (wpAny_rule (wpAny_bind (wpAny_setField ho hd (by simp) ?_)))
  show wpAny _ _ (newExc (.type "StopIteration") [] >>= _) _ _ _
  refine wpAny_bind ?_
  simp only [newExc, newTuple]
  refine wpAny_bind (wpAny_newObj_type ?_ (by size_fits))
  refine wpAny_bind (m := firstArgMember _ _) (wpAny_of_eq (a := Value.none) (by first | rfl | (simp only [firstArgMember]; rfl)) ?_)
  refine wpAny_newObj_type ?_ (by size_fits)
  have hot1 := hot_same (h' := s.heap.update it (PySem.Obj.mapFields (·.setIfInBounds 0 .none))) hot fun o e => (Heap.get?_update_other _ _ (Ne.symm hne)).trans e
  have hot2 : HotAt A x1 ((s.heap.update it (PySem.Obj.mapFields (·.setIfInBounds 0 .none))).push { cls := .type "tuple", data := .seq #[] }) := hot_same hot1 fun o e => Heap.get?_push_of_some _ e
  refine raiseNew_hot (x1 := x1) (hot_same hot2 fun o e => Heap.get?_push_of_some _ e) (Nat.ne_of_lt (hot_lt hot2)) (Heap.get?_push_size _ rfl) rfl (by first | (simp; done) | (simp; omega)) ?_
  refine hE _ _ (fun b o hb e => ?_) ⟨_, Heap.get?_update_self _ (Heap.get?_push_size _ rfl) rfl, rfl⟩
  have e1 : (s.heap.update it (PySem.Obj.mapFields (·.setIfInBounds 0 .none))).get? b = some o := (Heap.get?_update_other _ _ (Ne.symm hb)).trans e
  have e2 := Heap.get?_push_of_some ({ cls := .type "tuple", data := .seq #[] } : PySem.Obj) e1
  rw [Heap.get?_update_other _ _ (Nat.ne_of_gt (Heap.lt_size e2))]
  exact Heap.get?_push_of_some _ e2
theorem zip_end_hot {z TI TO i1 i2 l1 l2 x1 : Addr} {k1 k2 : Nat} {xs ys : Array Value} {a b : Value} {Q : Fin → Shared → Prop} (hot : HotAt A x1 s.heap) (nz : x1 ≠ z) (nO : x1 ≠ TO) (n1 : x1 ≠ i1) (n2 : x1 ≠ i2) (D : ZipApart z TI TO i1 i2 l1 l2)
    (hz : IsZip s.heap z TI TO .none) (hTI : IsPair s.heap TI (.ref i1) (.ref i2)) (hTO : IsPair s.heap TO a b) (h1 : s.heap.IsListIter i1 l1 k1) (h2 : s.heap.IsListIter i2 l2 k2) (hl1 : s.heap.IsList l1 xs) (hl2 : s.heap.IsList l2 ys) (hend : xs[k1]? = none ∨ ys[k2]? = none)
    (hE : ∀ h' e, (∀ c o, c ≠ z → c ≠ TO → c ≠ i1 → c ≠ i2 → s.heap.get? c = some o → h'.get? c = some o) → (∃ o, h'.get? e = some o ∧ o.cls = .type "StopIteration") → E (.ref e) { s with heap := h' }) : wpAny (model prog w) A (Builtin.«zip.__next__» ⟨[.ref z], []⟩) Q E s := by
  show wpAny _ _ (field (.ref z) 2 >>= _) _ _ _
  refine wpAny_bind (wpAny_field hz rfl (x := .bool false) rfl ?_)
  show wpAny _ _ (field (.ref z) 3 >>= _) _ _ _
  refine wpAny_bind (wpAny_field hz rfl (x := .ref TI) rfl ?_)
  refine wpAny_bind (wpAny_seqItems hTI rfl ?_)
  show wpAny _ _ (Builtin.SmallTypes.ownedTupleIsFree (.ref z) >>= _) _ _ _
  refine wpAny_bind ?_
  unfold Builtin.SmallTypes.ownedTupleIsFree
  refine wpAny_bind (wpAny_field hz rfl (x := .none) rfl (wpAny_pure ?_))
  simp only [if_true]
  refine wpAny_bind (wpAny_rule ?_)
  refine wpAny_bind (wpAny_field hz rfl (x := .ref TO) rfl ?_)
  refine wpAny_bind (wpAny_setField_rec hz (by simp) fun h₁ hz₁ hs₁ => ?_)
  replace hz₁ : IsZip h₁ z TI TO .ellipsis := hz₁
  have hot1 : HotAt A x1 h₁ := hot_same hot fun o e => hs₁.extBut x1 o nz e
  refine wpAny_bind ?_
  simp only [List.zipIdx_cons, List.zipIdx_nil, List.forIn_cons, List.forIn_nil]
  refine wpAny_bind (wpAny_bind (wpAny_onRaise ?_))
  show wpAny _ _ (Builtin.SmallTypes.nextOf (.ref i1) >>= _) _ _ _
  cases hx : xs[k1]? with
  | none =>
    refine wpAny_bind (nextOf_end_hot (x1 := x1) hot1 n1 (h1.extBut hs₁.extBut D.i1z) (hl1.extBut hs₁.extBut D.l1z) hx fun h₂ e hs₂ he => ?_)
    obtain ⟨oe, hoe, hce⟩ := he
    have hz₂ : IsZip h₂ z TI TO .ellipsis := hs₂ _ _ D.i1z.symm hz₁
    have hez : e ≠ z := fun x => by subst x; rw [hz₂] at hoe; cases hoe; simp at hce
    refine wpAny_setField_rec hz₂ (by simp) fun h₃ _ hs₃ => hE h₃ e (fun c o c1 _ c3 _ x => hs₃.extBut _ _ c1 (hs₂ _ _ c3 (hs₁.extBut _ _ c1 x))) ⟨oe, hs₃.extBut _ _ hez hoe, hce⟩
  | some x =>
    have hy : ys[k2]? = none := by rcases hend with h | h; rw [hx] at h; cases h; exact h
    refine wpAny_bind (wpAny_nextOf_list_item (h1.extBut hs₁.extBut D.i1z) (hl1.extBut hs₁.extBut D.l1z) hx fun h₂ h1₂ hs₂ => wpAny_pure ?_)
    have hTO₂ : IsPair h₂ TO a b := hs₂.extBut _ _ D.TOi1 (hs₁.extBut _ _ D.TOz hTO)
    have hot2 : HotAt A x1 h₂ := hot_same hot1 fun o e => hs₂.extBut x1 o n1 e
    refine wpAny_bind (wpAny_seqItems hTO₂ rfl ?_)
    refine wpAny_bind (wpAny_updateSeq_pair hTO₂ fun h₃ hTO₃ hs₃ => ?_)
    have hot3 : HotAt A x1 h₃ := hot_same hot2 fun o e => hs₃.extBut x1 o nO e
    refine wpAny_bind (wpAny_letGo (wpAny_pure ?_))
    refine wpAny_bind (wpAny_bind (wpAny_onRaise ?_))
    show wpAny _ _ (Builtin.SmallTypes.nextOf (.ref i2) >>= _) _ _ _
    refine wpAny_bind (nextOf_end_hot (x1 := x1) hot3 n2 (((h2.extBut hs₁.extBut D.i2z).extBut hs₂.extBut D.i12.symm).extBut hs₃.extBut D.TOi2.symm)
      (((hl2.extBut hs₁.extBut D.l2z).extBut hs₂.extBut D.l2i1).extBut hs₃.extBut D.l2TO) hy fun h₄ e hs₄ he => ?_)
    obtain ⟨oe, hoe, hce⟩ := he
    have hz₄ : IsZip h₄ z TI TO .ellipsis := hs₄ _ _ D.i2z.symm (hs₃.extBut _ _ D.TOz.symm (hs₂.extBut _ _ D.i1z.symm hz₁))
    have hez : e ≠ z := fun x => by subst x; rw [hz₄] at hoe; cases hoe; simp at hce
    refine wpAny_setField_rec hz₄ (by simp) fun h₅ _ hs₅ => hE h₅ e (fun c o c1 c2 c3 c4 x => hs₅.extBut _ _ c1 (hs₄ _ _ c4 (hs₃.extBut _ _ c2 (hs₂.extBut _ _ c3 (hs₁.extBut _ _ c1 x))))) ⟨oe, hs₅.extBut _ _ hez hoe, hce⟩
theorem pyNext_zip_end_hot {z TI TO i1 i2 l1 l2 x1 : Addr} {k1 k2 : Nat} {xs ys : Array Value} {a b : Value} {Q : Option Value → Shared → Prop} (hot : HotAt A x1 s.heap) (nz : x1 ≠ z) (nO : x1 ≠ TO) (n1 : x1 ≠ i1) (n2 : x1 ≠ i2) (D : ZipApart z TI TO i1 i2 l1 l2)
    (hz : IsZip s.heap z TI TO .none) (hTI : IsPair s.heap TI (.ref i1) (.ref i2)) (hTO : IsPair s.heap TO a b) (h1 : s.heap.IsListIter i1 l1 k1) (h2 : s.heap.IsListIter i2 l2 k2) (hl1 : s.heap.IsList l1 xs) (hl2 : s.heap.IsList l2 ys) (hend : xs[k1]? = none ∨ ys[k2]? = none)
    (hQ : ∀ h', (∀ c o, c ≠ z → c ≠ TO → c ≠ i1 → c ≠ i2 → s.heap.get? c = some o → h'.get? c = some o) → Q none { s with heap := h' }) : wpAny (model prog w) A (pyNext (.ref z)) Q E s := by
  have hT : s.TypeIs (.ref z) "zip" := ⟨_, hz, rfl⟩
  unfold pyNext
  refine wpAny_bind (wpAny_attempt (wpAny_callSpecial?_slot (name := Str.ofString "__next__") hT F.slot_zip_next
    (wpAny_call_entry F.slot_zip_next hT F.entry_zip_next (zip_end_hot (x1 := x1) hot nz nO n1 n2 D hz hTI hTO h1 h2 hl1 hl2 hend fun h' e hk he => ?_) (F.args_zip_next_1 _))))
  obtain ⟨o, ho, hc⟩ := he
  refine wpAny_bind (wpAny_isInstance (T := "StopIteration") (b := true) ⟨o, ho, hc⟩ isSubtype_stop ?_)
  exact wpAny_pure (hQ _ hk)
theorem tuple_end_hot {it t x1 : Addr} {i : Nat} {items : Array Value} {Q : Option Value → Shared → Prop} (hot : HotAt A x1 s.heap) (hne : x1 ≠ it) (hit : IsTupIter s.heap it t i) (ht : IsTup s.heap t items) (hx : items[i]? = none)
    (hQ : ∀ h', Heap.ExtBut it s.heap h' → Q none { s with heap := h' }) : wpAny (model prog w) A (pyNext (.ref it)) Q E s := by
  obtain ⟨o, ho, hc, hd⟩ := id hit
  obtain ⟨ol, hol, _, nl, hdl⟩ := ht
  unfold pyNext
  refine wpAny_bind (wpAny_attempt (wpAny_callSpecial?_slot (name := Str.ofString "__next__") hit.typeIs slot_tupleiter_next (wpAny_call_entry slot_tupleiter_next hit.typeIs entry_tupleiter_next ?_ (args_tupleiter_next _))))
  show wpAny _ _ (field (.ref it) 0 >>= _) _ _ s
  refine wpAny_bind (wpAny_field ho hd (x := .ref t) rfl ?_)
  show wpAny _ _ (if (Value.ref t == Value.none) = true then _ else _) _ _ s
  rw [if_neg (show ¬ ((Value.ref t == Value.none) = true) from Bool.false_ne_true)]
  show wpAny _ _ (field (.ref it) 1 >>= _) _ _ s
  refine wpAny_bind (wpAny_field ho hd (x := .int i 0) rfl ?_)
  show wpAny _ _ (seqItems? (.ref t) >>= _) _ _ s
  refine wpAny_bind (wpAny_seqItems hol hdl ?_)
  simp only [Int.toNat_natCast, hx]
  refine wpAny_bind (wpAny_rule (wpAny_bind (wpAny_setField ho hd (by simp) ?_)))
  show wpAny _ _ (newExc (.type "StopIteration") [] >>= _) _ _ _
  refine wpAny_bind ?_
  simp only [newExc, newTuple]
  refine wpAny_bind (wpAny_newObj_type ?_ (by size_fits))
  refine wpAny_bind (m := firstArgMember _ _) (wpAny_of_eq (a := Value.none) (by first | rfl | (simp only [firstArgMember]; rfl)) ?_)
  refine wpAny_newObj_type ?_ (by size_fits)
  have hot1 := hot_same (h' := s.heap.update it (PySem.Obj.mapFields (·.setIfInBounds 0 .none))) hot fun o e => (Heap.get?_update_other _ _ (Ne.symm hne)).trans e
  have hot2 : HotAt A x1 ((s.heap.update it (PySem.Obj.mapFields (·.setIfInBounds 0 .none))).push { cls := .type "tuple", data := .seq #[] }) := hot_same hot1 fun o e => Heap.get?_push_of_some _ e
  refine raiseNew_hot (x1 := x1) (hot_same hot2 fun o e => Heap.get?_push_of_some _ e) (Nat.ne_of_lt (hot_lt hot2)) (Heap.get?_push_size _ rfl) rfl (by first | (simp; done) | (simp; omega)) ?_
  refine wpAny_bind (wpAny_isInstance (T := "StopIteration") (b := true) ⟨_, Heap.get?_update_self _ (Heap.get?_push_size _ rfl) rfl, rfl⟩ isSubtype_stop ?_)
  refine wpAny_pure (hQ _ fun b o hb e => ?_)
  have e1 : (s.heap.update it (PySem.Obj.mapFields (·.setIfInBounds 0 .none))).get? b = some o := (Heap.get?_update_other _ _ (Ne.symm hb)).trans e
  have e2 := Heap.get?_push_of_some ({ cls := .type "tuple", data := .seq #[] } : PySem.Obj) e1
  rw [Heap.get?_update_other _ _ (Nat.ne_of_gt (Heap.lt_size e2))]
  exact Heap.get?_push_of_some _ e2
theorem unpackItems_hot {t x1 : Addr} {items : Array Value} {Q : List Value → Shared → Prop} (hot : HotAt A x1 s.heap) (ht : IsTup s.heap t items)
    (hQ : ∀ h', Heap.ExtBut s.heap.objs.size s.heap h' → Q items.toList { s with heap := h' }) : wpAny (model prog w) A (unpackItems (.ref t) items.size none) Q E s := by
  have hlt : t ≠ s.heap.objs.size := by obtain ⟨o, ho, _⟩ := ht; exact Nat.ne_of_lt (Heap.lt_size ho)
  have hx := hot_lt hot
  unfold unpackItems
  refine wpAny_bind ?_
  · unfold notIterableAtAll
    refine wpAny_bind (wpAny_specialOf ht.typeIs slot_tuple_iter.lookup ?_)
    refine wpAny_pure ?_
    simp only [Bool.false_eq_true, if_false]
    refine wpAny_bind (wpAny_holding (iter_tuple ht ?_))
    refine wpAny_bind (wpAny_holding (draw_tuple hlt items.size 0 _ _ ⟨_, Heap.get?_push_size _ rfl, rfl, rfl⟩ (ht.push _) (by omega) fun h₁ hit₁ hs₁ => ?_))
    have hall : List.take items.size (List.drop 0 items.toList) = items.toList := by
      rw [List.drop_zero]; exact List.take_of_length_le (by simp)
    rw [hall]
    rw [if_neg (by simp)]
    have ht₁ : IsTup h₁ t items := (ht.push _).extBut hs₁.extBut hlt
    have hot1 : HotAt A x1 h₁ := hot_same hot fun o e => hs₁.extBut x1 o (Nat.ne_of_lt hx) (Heap.get?_push_of_some _ e)
    refine wpAny_bind (wpAny_holding (tuple_end_hot (x1 := x1) hot1 (Nat.ne_of_lt hx) hit₁ ht₁ (by simp) fun h₂ he₂ => ?_))
    simp only [Option.isSome_none, Bool.false_eq_true, if_false]
    refine wpAny_pure (hQ h₂ fun b o hb e => he₂ b o hb (hs₁.extBut b o hb (Heap.get?_push_of_some _ e)))
theorem assign_tuple_hot {env : PySem.Env} {elts : List Expr} {k : Nat} {pos : Pos} {t x1 : Addr} {items : Array Value} {Q : Unit → Shared → Prop} (hot : HotAt A x1 s.heap) (ht : IsTup s.heap t items)
    (hn : (assignEach elts env).length = items.size) (hstar : (assignEach elts env).findIdx? (·.1) = none)
    (h : ∀ h', Heap.ExtBut s.heap.objs.size s.heap h' → wpAny (model prog w) A (assignInOrder ((assignEach elts env).map (·.2)) items.toList) Q E { s with heap := h' }) : wpAny (model prog w) A (assign (.Tuple elts k pos) env (.ref t)) Q E s := by
  rw [assign_Tuple]
  refine wpAny_bind (wpAny_standAt ?_)
  unfold unpack
  rw [hn, hstar]
  exact wpAny_bind (wpAny_holding (unpackItems_hot hot ht h))
end
end ML

set_option Elab.async false
set_option maxRecDepth 100000
set_option linter.all false
set_option maxHeartbeats 4000000
/-! ML: while an exception is handled: zip, a pair's names, a comprehension. -/
namespace ML
open PySem PySem.Spec PyProof.Rows L2 HotX
/-- the object at a is this one -/
def ExAt (a : Addr) (oe : PySem.Obj) : HO := .ext fun h => h.get? a = some oe
theorem exAt_ok {P : Program} {w : World} {H : Hp} {h : Heap} {a : Addr} {oe : PySem.Obj} (e : h.get? a = some oe) : ObjOk P w H h a (ExAt a oe) := ⟨e, ⟨oe, e⟩, fun _ _ e1 st => st _ e1⟩
theorem exAt_get {P : Program} {w : World} {H : Hp} {h : Heap} {a : Addr} {oe : PySem.Obj} (hok : HOk P w H h) (e : H a = some (ExAt a oe)) : h.get? a = some oe := by
  obtain ⟨z, _⟩ := hok a _ e
  exact z
/-- the exception at a is handled -/
structure HotH (A : Around) (H : Hp) (a : Addr) (oe : PySem.Obj) : Prop where
  hd : A.handled = some (.ref a)
  at_ : H a = some (ExAt a oe)
  ctx : ∃ vs : Array Value, oe.data = .fields vs ∧ vs[2]? = some .none
theorem HotH.hot {X : Cx} {pins : List (Addr × PySem.Obj)} {σ : L2.St} {H : Hp} {s : Shared} {a : Addr} {oe : PySem.Obj} (hh : HotH X.A H a oe) (I : L2.Inv X pins σ H s) : HotAt X.A a s.heap := by
  obtain ⟨vs, d, c⟩ := hh.ctx
  exact ⟨hh.hd, oe, vs, exAt_get I.hok hh.at_, d, c⟩
theorem HotH.mono {A : Around} {H H' : Hp} {a : Addr} {oe : PySem.Obj} (hh : HotH A H a oe) (k : H' a = H a) : HotH A H' a oe := ⟨hh.hd, k.trans hh.at_, hh.ctx⟩
theorem HotH.upd {A : Around} {H : Hp} {a b : Addr} {oe : PySem.Obj} {o : HO} (hh : HotH A H a oe) (h : H b = none) : HotH A (upd H b o) a oe := hh.mono (upd_ne (ne_of_none hh.at_ h))
structure TurnH (P : Program) (w : World) (K : PySem.W.Frag) (A : Around) (tg : Expr) (J : It) (fp : List Addr) (it : Addr) (tn : Nat → Heap → Prop) : Prop where
  mem : it ∈ fp
  obj : ∀ i h, tn i h → ∀ b ∈ fp, ∃ o, h.get? b = some o ∧ ∀ v, o.data ≠ .cell v
  keep : ∀ i h h', tn i h → (∀ b ∈ fp, ∀ o, h.get? b = some o → h'.get? b = some o) → tn i h'
  item : ∀ (X : Cx), X.prog = P → X.w = w → X.K = K → X.A = A → ∀ (i : Nat) (pins : List (Addr × PySem.Obj)) (s : Shared) (σ : L2.St) (H : Hp) (E : Value → Shared → Prop), L2.Inv X pins σ H s → (∀ b ∈ fp, FpOk X pins H b) → tn i s.heap → J.go i H →
    wpAny (model P w) A (pyNext (.ref it)) (fun r s1 => ∃ u, r = some u ∧ wpAny (model P w) A (letOwnedTupleGo tg (.ref it) u) (fun _ s2 => ∃ x H', L2.Inv X pins σ H' s2 ∧ RelV x u ∧ J.yld i H x H' ∧ tn (i + 1) s2.heap ∧ ∀ b ∈ fp, H' b = none) E s1) E s
  done : ∀ (X : Cx), X.prog = P → X.w = w → X.K = K → X.A = A → ∀ (i : Nat) (pins : List (Addr × PySem.Obj)) (s : Shared) (σ : L2.St) (H : Hp) (E : Value → Shared → Prop), L2.Inv X pins σ H s → (∀ b ∈ fp, FpOk X pins H b) → tn i s.heap → J.stop i H →
    wpAny (model P w) A (pyNext (.ref it)) (fun r s1 => r = none ∧ L2.Inv X pins σ H s1) E s
  self : ∀ (A : Around) (i : Nat) (s : Shared) (Q : Value → Shared → Prop) (E : Value → Shared → Prop), tn i s.heap → Q (.ref it) s → wpAny (model P w) A (pyIter (.ref it)) Q E s
/-- two lists side by side, the end hot -/
def Izh (K : PySem.W.Frag) (A : Around) (a b : Addr) : It := ⟨(Itz K a b).go, (Itz K a b).yld, fun i H => (Itz K a b).stop i H ∧ ∃ x oe, HotH A H x oe⟩
theorem turn_zipH {P : Program} {w : World} {K : PySem.W.Frag} {A : Around} {elts : List Expr} {kk : Nat} {tpos : Pos} {a b z TI TO i1 i2 : Addr} (D : ZipApart z TI TO i1 i2 a b) :
    TurnH P w K A (.Tuple elts kk tpos) (Izh K A a b) [z, TI, TO, i1, i2] z (fun i h => IsZip h z TI TO .none ∧ IsPair h TI (.ref i1) (.ref i2) ∧ (∃ x y, IsPair h TO x y) ∧ h.IsListIter i1 a i ∧ h.IsListIter i2 b i) := by
  refine ⟨by simp, fun i h st c hc => ?_, fun i h h' st k => ?_, ?_, ?_, fun A i s Q E st h => wpAny_pyIter_zip st.1 h⟩
  · obtain ⟨hz, hTI, ⟨x, y, hTO⟩, ⟨o1, e1, _, d1⟩, ⟨o2, e2, _, d2⟩⟩ := st
    have e' : c = z ∨ c = TI ∨ c = TO ∨ c = i1 ∨ c = i2 := by simpa using hc
    rcases e' with q | q | q | q | q
    · rw [q]; exact ⟨_, hz, fun v q => nomatch q⟩
    · rw [q]; exact ⟨_, hTI, fun v q => nomatch q⟩
    · rw [q]; exact ⟨_, hTO, fun v q => nomatch q⟩
    · rw [q]; exact ⟨o1, e1, fun v q => by rw [d1] at q; cases q⟩
    · rw [q]; exact ⟨o2, e2, fun v q => by rw [d2] at q; cases q⟩
  · obtain ⟨hz, hTI, ⟨x, y, hTO⟩, h1, h2⟩ := st
    exact ⟨k z (by simp) _ hz, k TI (by simp) _ hTI, ⟨x, y, k TO (by simp) _ hTO⟩, h1.at fun o q => k i1 (by simp) o q, h2.at fun o q => k i2 (by simp) o q⟩
  · intro X hP hw hK hA i pins s σ H E I hf st hg
    subst hP hw hK hA
    obtain ⟨hz, hTI, ⟨x0, y0, hTO⟩, h1, h2⟩ := st
    obtain ⟨xs, ys, x, y, hqx, hqy, hx, hy⟩ := hg
    obtain ⟨its, rv, p, _⟩ := I.list hqx
    obtain ⟨its2, rv2, p2, _⟩ := I.list hqy
    obtain ⟨u, hu, ru⟩ := rv.get hx
    obtain ⟨u2, hu2, ru2⟩ := rv2.get hy
    have hzl : z < s.heap.objs.size := Heap.lt_size hz
    refine wpAny_pyNext_zip_item D hz hTI hTO h1 h2 p.isList p2.isList (x := u) (y := u2) (by simpa using hu) (by simpa using hu2) fun h' z' TO' h1' h2' hT hsz hk => ?_
    refine ⟨_, rfl, wpAny_letOwnedTupleGo_zip (s := { s with heap := h' }) z' fun h'' z'' sb => ?_⟩
    have hT2 : h''.get? s.heap.objs.size = some { cls := .type "tuple", data := .seq #[u, u2] } := (sb.2 _ (Nat.ne_of_gt hzl)).trans hT
    have new : ObjOk X.prog X.w (L2.upd H s.heap.objs.size (.tup [x, y])) h'' s.heap.objs.size (.tup [x, y]) := ⟨by show 2 ≤ sizeLine; decide, [u, u2], .cons ru (.cons ru2 .nil), ⟨_, hT2, rfl, _, rfl⟩⟩
    have I1 : L2.Inv X pins σ (L2.upd H s.heap.objs.size (.tup [x, y])) { s with heap := h'' } :=
      I.turnedNew (t' := s.toks) (ch := [z, TI, TO, i1, i2]) (fun c o hb q => (sb.2 c (fun q' => hb (by simp [q']))).trans (hk c o (fun q' => hb (by simp [q'])) (fun q' => hb (by simp [q'])) (fun q' => hb (by simp [q'])) (fun q' => hb (by simp [q'])) q)) hf (Nat.le_refl _) new
    refine ⟨.ref s.heap.objs.size, _, I1, rfl, ⟨_, x, y, rfl, I.hok.fresh (Nat.le_refl _), rfl, fun l hl => by rw [I.list_inj hl hqx]; exact hx, fun l hl => by rw [I.list_inj hl hqy]; exact hy⟩, ⟨z'', ?_, ⟨u, u2, ?_⟩, ?_, ?_⟩, fun c hcm => ?_⟩
    · exact (sb.2 _ D.TIz).trans (hk _ _ D.TIz D.TITO D.TIi1 D.TIi2 hTI)
    · exact (sb.2 _ D.TOz).trans TO'
    · exact h1'.at fun o q => (sb.2 _ D.i1z).trans q
    · exact h2'.at fun o q => (sb.2 _ D.i2z).trans q
    · have hlt : c < s.heap.objs.size := by
        have e' : c = z ∨ c = TI ∨ c = TO ∨ c = i1 ∨ c = i2 := by simpa using hcm
        rcases e' with q | q | q | q | q
        · rw [q]; exact hzl
        · rw [q]; exact Heap.lt_size hTI
        · rw [q]; exact Heap.lt_size hTO
        · rw [q]; obtain ⟨_, e1, _⟩ := h1; exact Heap.lt_size e1
        · rw [q]; obtain ⟨_, e2, _⟩ := h2; exact Heap.lt_size e2
      rw [upd_ne (Nat.ne_of_lt hlt)]
      exact (hf c hcm).1
  · intro X hP hw hK hA i pins s σ H E I hf st hg
    subst hP hw hK hA
    obtain ⟨hz, hTI, ⟨x0, y0, hTO⟩, h1, h2⟩ := st
    obtain ⟨⟨xs, ys, hqx, hqy, hend⟩, x1, oe, hot⟩ := hg
    obtain ⟨its, rv, p, _⟩ := I.list hqx
    obtain ⟨its2, rv2, p2, _⟩ := I.list hqy
    have l1 := rv.length
    have l2 := rv2.length
    have he : its.toArray[i]? = none ∨ its2.toArray[i]? = none := by
      rcases hend with q | q
      · exact .inl (by simp; omega)
      · exact .inr (by simp; omega)
    have ap : ∀ c, c ∈ [z, TI, TO, i1, i2] → x1 ≠ c := fun c hc => ne_of_none hot.at_ (hf c hc).1
    exact pyNext_zip_end_hot (x1 := x1) (hot.hot I) (ap z (by simp)) (ap TO (by simp)) (ap i1 (by simp)) (ap i2 (by simp)) D hz hTI hTO h1 h2 p.isList p2.isList he fun h' hk => ⟨rfl, I.turnedL (t' := s.toks) (ch := [z, TI, TO, i1, i2]) (fun c o hb q =>
      hk c o (fun q' => hb (by simp [q'])) (fun q' => hb (by simp [q'])) (fun q' => hb (by simp [q'])) (fun q' => hb (by simp [q'])) q) hf⟩
def PIEZ (X : Cx) (pins : List (Addr × PySem.Obj)) (σ : L2.St) (tg : Expr) (R : It → Hp → Prop) (itv : Value) (s2 : Shared) : Prop :=
  ∃ (it : Addr) (fp : List Addr) (tn : Nat → Heap → Prop) (J : It) (H' : Hp), itv = .ref it ∧ L2.Inv X pins σ H' s2 ∧ TurnH X.prog X.w X.K X.A tg J fp it tn ∧ tn 0 s2.heap ∧ (∀ b ∈ fp, FpOk X pins H' b) ∧ R J H'
structure PIZ (X : Cx) (tg iter : Expr) (wi : TI) : Prop where
  run : ∀ (pins : List (Addr × PySem.Obj)) (s : Shared) (σ : L2.St) (H : Hp) (R : It → Hp → Prop), L2.Inv X pins σ H s → wi σ H R →
    wpAny (model X.prog X.w) X.A (eval iter X.env) (fun v s1 => wpAny (model X.prog X.w) X.A (pyIter v) (PIEZ X pins σ tg R) X.xe s1) X.xe s
def iZh (K : PySem.W.Frag) (A : Around) (ta : TA) : TI := fun σ H R => ta σ H fun vs H1 => ∃ a b xs ys, vs = [.ref a, .ref b] ∧ SqL K H1 a xs ∧ SqL K H1 b ys ∧ R (Izh K A a b) H1
theorem pi_zipH {X : Cx} {e e2 : Expr} {ta : TA} {p pos tpos : Pos} {elts : List Expr} {kk : Nat} (hg : Gl X "zip") (hm : X.mg "zip" = none) (ha : PA X [e, e2] ta)
    (hs : starEach [e, e2] X.env = (false, eval e X.env) :: starEach [e2] X.env := by rfl) (hpl : (backTo pos (starEach [e2] X.env)).any (·.1) = false := by rfl) : PIZ X (.Tuple elts kk tpos) (.Call (.Name "zip" p) [e, e2] [] pos) (iZh X.K X.A ta) := by
  refine ⟨fun pins s σ H R I h => ?_⟩
  refine Call_ (ld_blt I hg hm PyProof.Rows.boot_zip (PyProof.Rows.callWith_type1 (thn (ha.run pos pins s σ H _ I h) fun us s1 ⟨vs, H1, I1, r1, q1⟩ => ?_) hs hpl))
  obtain ⟨a, b, xs, ys, ex, hqx, hqy, q⟩ := q1
  subst ex
  cases r1 with
  | cons r rr =>
    cases rr with
    | cons r' rr =>
      cases rr
      cases r
      cases r'
      obtain ⟨its, rv, p1, _⟩ := I1.list hqx
      obtain ⟨its2, rv2, p2, _⟩ := I1.list hqy
      have la : a < s1.heap.objs.size := p1.lt
      have lb : b < s1.heap.objs.size := p2.lt
      refine call_zip_2 p1.isList p2.isList fun h' hz hTI hTO h1 h2 hsz hk => wpAny_pyIter_zip hz ?_
      have I2 : L2.Inv X pins σ H1 { s1 with heap := h' } := I1.kept (t' := s1.toks) hk
      refine ⟨s1.heap.objs.size + 4, [s1.heap.objs.size + 4, s1.heap.objs.size + 2, s1.heap.objs.size + 3, s1.heap.objs.size, s1.heap.objs.size + 1], _, _, H1, rfl, I2, turn_zipH (PySem.W.ktu_apart s1.heap.objs.size a b la lb), ⟨hz, hTI, ⟨_, _, hTO⟩, h1, h2⟩, fun c hcm => ?_, q⟩
      have e' : c = s1.heap.objs.size + 4 ∨ c = s1.heap.objs.size + 2 ∨ c = s1.heap.objs.size + 3 ∨ c = s1.heap.objs.size ∨ c = s1.heap.objs.size + 1 := by simpa using hcm
      have hle : s1.heap.objs.size ≤ c := by
        rcases e' with z | z | z | z | z
        · rw [z]; exact Nat.le_add_right _ _
        · rw [z]; exact Nat.le_add_right _ _
        · rw [z]; exact Nat.le_add_right _ _
        · rw [z]; exact Nat.le_refl _
        · rw [z]; exact Nat.le_add_right _ _
      exact I1.fpOk hle (I1.hok.fresh hle)
/-- (a, b, ..) = a tuple, hot -/
def gTupH (K : PySem.W.Frag) (A : Around) (n : Nat) (t : TGs) : TG := fun v σ H Q => ∃ a xs, v = .ref a ∧ SqT K H a xs ∧ xs.length = n ∧ (∃ x oe, HotH A H x oe) ∧ t xs σ H Q
theorem pg_tupH {X : Cx} {pos : Pos} {es : List Expr} {k : Nat} {t : TGs} {n : Nat} (h : PGs X es t) (hn : (assignEach es X.env).length = n := by rfl) (hst : (assignEach es X.env).findIdx? (·.1) = none := by rfl) : PG X (.Tuple es k pos) (gTupH X.K X.A n t) := by
  refine ⟨fun pins s σ H v u Q I r hw => ?_⟩
  obtain ⟨a, xs, e1, hq, hl, ⟨x, oe, hot⟩, hw⟩ := hw
  subst e1
  cases r
  obtain ⟨its, rv, ht, hz⟩ := I.tuple hq
  refine assign_tuple_hot (hot.hot I) ht (by simp [hn, ← hl, rv.length]) hst fun h' hx => ?_
  have I1 : L2.Inv X pins σ H { s with heap := h' } := I.kept (t' := s.toks) fun b o e => hx b o (Nat.ne_of_lt (Heap.lt_size e)) e
  exact h.run pins _ σ H xs _ Q I1 (by simpa using rv) hw
section
variable {X : Cx}
theorem lc_coreH {pins : List (Addr × PySem.Obj)} {s : Shared} {σ : L2.St} {H : Hp} {Q : VK} {elt tg iter : Expr} {ifs : List Expr} {scope : Scope} {own : List (Str × Nat)} {pos pos' : Pos} {wi : TI} {g : TG} {tt : TT} {te : TE} {use : Option (Value → Sem Unit)} {Qf : Value → Shared → Prop}
    (hN : X.N.Nodup) (I : L2.Inv X pins σ H s) (hi : PIZ X tg iter wi) (ok : BlkOk X.N X.env.scope scope own)
    (hg : ∀ (s : Shared) (H : Hp) (C : Addr) (cl : List (Str × Addr)) (fp : List Addr), PG (X.blk s H scope (compEnvC scope cl C X.env) fp) tg g) (ht : ∀ (s : Shared) (H : Hp) (C : Addr) (cl : List (Str × Addr)) (fp : List Addr), PTs (X.blk s H scope (compEnvC scope cl C X.env) fp) ifs tt)
    (he : ∀ (s : Shared) (H : Hp) (C : Addr) (cl : List (Str × Addr)) (fp : List Addr), PE (X.blk s H scope (compEnvC scope cl C X.env) fp) elt te) (hs : ∀ x, foldedSetIterable iter X.env x = pure x)
    (h : tLc wi g tt te (own.map (·.2)) σ H Q)
    (hRR : ∀ D C s' m H', L2.Inv X pins σ H' s' → Q (.ref D) H' → s'.heap.Ns C m → FpOk X pins H' C → compPost (model X.prog X.w) X.A X.xe use Qf (.ref D) C (.ok .next) s') :
    wpAny (model X.prog X.w) X.A (comprehension (.ListComp elt [⟨tg, iter, ifs, 0⟩] scope pos) scope X.env pos' (newList []) false (eval iter X.env) use) Qf X.xe s := by
  have hfree : ∀ y ∈ scope.names, y.2 = .free → ∃ c, X.env.cells.lookup y.1 = some c := fun y hy e => by
    rcases ok.free y hy e with k | k
    · exact I.ok.has _ (.inl k)
    · exact I.ok.has _ (.inr k)
  refine wpAny_comprehension_free (use := use) rfl hs (closure_ok hfree) ok.kind (fun y hy e => by rw [ok.uniq y hy, e]) (thn (hi.run pins s σ H _ I h) fun xv s1 hx => thn hx fun itv s2 h2 => ?_)
  obtain ⟨it, fp, tn, J, H2, e, I2, T, st2, f2, q⟩ := h2
  subst e
  refine wpAny_newObj_type (newEnv_comp ?_) (by show 0 ≤ sizeLine; decide)
  generalize hD : s2.heap.objs.size = D
  have hDn : H2 D = none := I2.hok.fresh (Nat.le_of_eq hD)
  obtain ⟨W, ⟨m0, w0⟩, turn⟩ := q D hDn
  generalize hs3 : ({ s2 with heap := s2.heap.push { cls := .type "list", data := .seq ([] : List Value).toArray } } : Shared) = s3
  have I3 : L2.Inv X pins σ (upd H2 D (.lst [])) s3 := by
    rw [← hs3]
    refine I2.laid (t' := s2.toks) (fun b o e => Heap.get?_push_of_some _ e) (Nat.le_of_eq hD) ⟨Nat.zero_le _, [], 0, .nil, ?_⟩
    rw [← hD]
    exact Heap.get?_push_size _ rfl
  have h3 : s3.heap = s2.heap.push { cls := .type "list", data := .seq ([] : List Value).toArray } := by rw [← hs3]
  have sz : ∀ b ∈ fp, b < s2.heap.objs.size := fun b hb => by
    obtain ⟨o, e, _⟩ := T.obj _ _ st2 b hb
    exact Heap.lt_size e
  have f3 : ∀ b ∈ fp, FpOk X pins (upd H2 D (.lst [])) b ∧ b < s3.heap.objs.size := fun b hb => by
    have hlt := sz b hb
    refine ⟨⟨?_, (f2 b hb).2⟩, by rw [h3, Heap.size_push]; exact Nat.lt_succ_of_lt hlt⟩
    rw [upd_ne (by rw [← hD]; exact Nat.ne_of_lt hlt)]
    exact (f2 b hb).1
  have st3 : tn 0 s3.heap := T.keep _ _ _ st2 fun b _ o e => by rw [h3]; exact Heap.get?_push_of_some _ e
  have I4 := block_start I3 ok hN f3
  have pg := hg s3 (upd H2 D (.lst [])) s3.heap.objs.size (cellsFrom (s3.heap.objs.size + 1) scope.names (cloFrom X.env.cells scope.names [])) fp
  have pt := ht s3 (upd H2 D (.lst [])) s3.heap.objs.size (cellsFrom (s3.heap.objs.size + 1) scope.names (cloFrom X.env.cells scope.names [])) fp
  have pe := he s3 (upd H2 D (.lst [])) s3.heap.objs.size (cellsFrom (s3.heap.objs.size + 1) scope.names (cloFrom X.env.cells scope.names [])) fp
  show codeAny _ _ (.compStart (.ListComp elt [⟨tg, iter, ifs, 0⟩] scope pos) 0 (.ref it) (.ref D) (compEnvC scope (cellsFrom (s3.heap.objs.size + 1) scope.names (cloFrom X.env.cells scope.names [])) s3.heap.objs.size X.env)) (compPost (model X.prog X.w) X.A X.xe use Qf (.ref D) s3.heap.objs.size) { s3 with heap := pushCells (s3.heap.push { cls := .type "dict", data := .dict #[] }) scope.names }
  have nfp : ∀ b ∈ fp, (upd H2 D (.lst [])) b = none := fun b hb => (f3 b hb).1.1
  generalize hce : compEnvC scope (cellsFrom (s3.heap.objs.size + 1) scope.names (cloFrom X.env.cells scope.names [])) s3.heap.objs.size X.env = ce at I4 pg pt pe ⊢
  have cL : ce.locals = s3.heap.objs.size := by subst hce; rfl
  generalize hH3 : upd H2 D (.lst []) = H3 at I3 I4 pg pt pe w0 nfp f3
  generalize hs4 : ({ s3 with heap := pushCells (s3.heap.push { cls := .type "dict", data := .dict #[] }) scope.names } : Shared) = s4 at I4 ⊢
  have st4 : tn 0 s4.heap := T.keep _ _ _ st3 fun b _ o e => by rw [← hs4]; exact pushCells_keeps _ _ _ _ (Heap.get?_push_of_some _ e)
  have stat : ∀ {σ' : L2.St} {H' : Hp} {s' : Shared}, L2.Inv (X.blk s3 H3 scope ce fp) [] σ' H' s' → (∀ b ∈ fp, H' b = none) → ∀ b ∈ fp, FpOk (X.blk s3 H3 scope ce fp) [] H' b := fun {σ' H' s'} I' hn b hb =>
    ⟨hn b hb, (I'.ok.exf b hb).1, I'.ok.exfs b hb, .inl hb, fun x c e => (I'.ok.exf b hb).2 x c e, fun p hp => absurd (show p ∈ ([] : List (Addr × PySem.Obj)) ++ [] from hp) (by simp)⟩
  have loop : codeAny (model X.prog X.w) X.A (.compLoop (.ListComp elt [⟨tg, iter, ifs, 0⟩] scope pos) 0 (.ref it) (.ref D) ce) (compPost (model X.prog X.w) X.A X.xe use Qf (.ref D) s3.heap.objs.size) s4 := by
    refine compLoop_any (fun n s' => ∃ i H', L2.Inv (X.blk s3 H3 scope ce fp) [] (wipe σ (own.map (·.2))) H' s' ∧ tn i s'.heap ∧ (∀ b ∈ fp, H' b = none) ∧ W i n H') ?_ m0 ⟨0, H3, I4, st4, nfp, w0⟩
    rintro n s5 ⟨i, H5, I5, st5, n5, w5⟩
    rcases turn i n H5 w5 with ⟨stop, qq⟩ | ⟨go, Nx, hNx, step⟩
    · have td := T.done (X.blk s3 H3 scope ce fp) rfl rfl rfl rfl i [] s5 _ H5 (fun _ _ => False) I5 (stat I5 n5) st5 stop
      refine thnF td fun r s6 ⟨hr, I6⟩ => ?_
      subst hr
      have I7 : L2.Inv X pins σ H5 s6 := I3.call' (ch := fp) I6.os I6.base I6.hok I6.bare fun b hb => ⟨(f3 b hb).1.2.2.2.1, (f3 b hb).1.2.1, (f3 b hb).1.2.2.2.2.1, (f3 b hb).1.2.2.2.2.2⟩
      have nC : H5 s3.heap.objs.size = none := by
        have z : H5 ce.locals = none := I6.free
        rw [cL] at z
        exact z
      obtain ⟨m, hn, _⟩ := I6.loc
      have hn : s6.heap.Ns ce.locals m := hn
      rw [cL] at hn
      exact hRR D s3.heap.objs.size s6 m H5 I7 qq hn (I3.fpOk (Nat.le_refl _) nC)
    · have tI := T.item (X.blk s3 H3 scope ce fp) rfl rfl rfl rfl i [] s5 _ H5 (fun _ _ => False) I5 (stat I5 n5) st5 go
      refine thnF tI fun r s6 ⟨u, hr, h6⟩ => ?_
      subst hr
      refine thnF h6 fun _ s7 ⟨x, H7, I7, r7, y7, st7, n7⟩ => ?_
      have I7' := I7.pinned (stat I7 n7) (T.obj _ _ st7)
      refine thnF (pg.run _ s7 _ H7 x u _ I7' r7 (step x H7 y7)) fun _ s8 ⟨σ8, H8, I8, hw8, q8⟩ => ?_
      refine thnF (pt.run _ s8 σ8 H8 _ I8 q8) fun b s9 ⟨H9, I9, q9⟩ => ?_
      have fin : ∀ {s' : Shared} {H' : Hp}, L2.Inv (X.blk s3 H3 scope ce fp) ([] ++ pinsAt fp s7.heap) σ8 H' s' → Nx H' → ∃ m, m < n ∧ ∃ i H', L2.Inv (X.blk s3 H3 scope ce fp) [] (wipe σ (own.map (·.2))) H' s' ∧ tn i s'.heap ∧ (∀ b ∈ fp, H' b = none) ∧ W i m H' := fun {s' H'} I' nx => by
        obtain ⟨m', hm, w'⟩ := hNx H' nx
        have pin' : ∀ b ∈ fp, ∀ o, s7.heap.get? b = some o → s'.heap.get? b = some o ∧ H' b = none := fun b hb o e =>
          let z := I'.pin (b, o) (List.mem_append_right _ (List.mem_append_right _ (mem_pinsAt hb e)))
          ⟨z.1, z.2.1⟩
        have hl : (wipe σ (own.map (·.2))).length = σ8.length := by rw [← hw8, wipe_length]
        refine ⟨m', hm, i + 1, H', (I'.unpinned (pins := [])).weak hl (fun j v e => ?_), T.keep _ _ _ st7 fun b hb o e => (pin' b hb o e).1, fun b hb => ?_, w'⟩
        · rw [← hw8] at e
          exact (wipe_some e).1
        · obtain ⟨o, e, _⟩ := T.obj _ _ st7 b hb
          exact (pin' b hb o e).2
      cases b with
      | false =>
        simp only [Bool.false_eq_true, if_false] at q9 ⊢
        exact fin I9 q9
      | true =>
        simp only [if_true] at q9 ⊢
        refine thnF (pe.run _ s9 σ8 H9 _ I9 q9) fun z s10 ⟨yv, H10, I10, r10, acc, hD10, hz10, nx⟩ => ?_
        exact app_ok (X := X.blk s3 H3 scope ce fp) I10 hD10 hz10 r10 fun s11 I11 => fin I11 nx
  exact codeAny_compStart_list loop (T.self X.A 0 _ _ _ st4 loop)
theorem pe_lcH {elt tg iter : Expr} {ifs : List Expr} {scope : Scope} {own : List (Str × Nat)} {pos : Pos} {wi : TI} {g : TG} {tt : TT} {te : TE} (hN : X.N.Nodup) (hi : PIZ X tg iter wi) (ok : BlkOk X.N X.env.scope scope own)
    (hg : ∀ (s : Shared) (H : Hp) (C : Addr) (cl : List (Str × Addr)) (fp : List Addr), PG (X.blk s H scope (compEnvC scope cl C X.env) fp) tg g) (ht : ∀ (s : Shared) (H : Hp) (C : Addr) (cl : List (Str × Addr)) (fp : List Addr), PTs (X.blk s H scope (compEnvC scope cl C X.env) fp) ifs tt)
    (he : ∀ (s : Shared) (H : Hp) (C : Addr) (cl : List (Str × Addr)) (fp : List Addr), PE (X.blk s H scope (compEnvC scope cl C X.env) fp) elt te) (hs : ∀ x, foldedSetIterable iter X.env x = pure x := by intro _; rfl) :
    PE X (.ListComp elt [⟨tg, iter, ifs, 0⟩] scope pos) (tLc wi g tt te (own.map (·.2))) := by
  refine ⟨fun pins s σ H Q I h => ?_⟩
  rw [eval_ListComp]
  refine lc_coreH hN I hi ok hg ht he hs h fun D C s' m H' I' q hn f => ⟨m, hn, fun h'' sb => ?_⟩
  obtain ⟨f0, f1, f2, f3, f4, f5⟩ := f
  exact ⟨.ref D, H', I'.turned (t' := s'.toks) (fun b o hb e => (sb.2 b hb).trans e) f0 f1 f3 f4 f5, rfl, q⟩
end
end ML

set_option Elab.async false
set_option maxRecDepth 100000
set_option linter.all false
set_option maxHeartbeats 4000000
/-! ML: the exceptions' classes; a def that names the class of a handled exception. -/
namespace ML
open PySem PySem.Spec PyProof.Rows L2 HotX
def xcOne (K : PySem.W.Frag) (cs : List Addr) (qe : Addr) (i : Nat) (C : Addr) : Bool :=
  (decide (i = 10) || PySem.W.excIn K C vTail "ValueError.__new__") && PySem.W.keepIn K (.ref C) &&
  decide (PySem.W.findIn K (.ref C) "__getattribute__" = some (some (.builtin "BaseException.__getattribute__"))) && decide (PySem.W.findIn K (.ref C) "__getattr__" = some none) && decide (PySem.W.subIn K (.ref C) (.type "BaseException") = some true) &&
  PySem.W.hasDictIn K C && decide (PySem.W.findIn K (.ref C) "__class__" = some (some (.builtin "object.__class__"))) && decide (PySem.W.mroIn K C (.type "object") = some true) && decide (PySem.W.typeIn K (.ref C) = some (.type "type")) &&
  cs.zipIdx.all (fun p => decide (PySem.W.kitOne K (.ref C) (.ref p.1) = some (decide (i = p.2))) && decide (PySem.W.exmOne K (.ref C) (.ref p.1) = some (decide (i = p.2)))) &&
  decide (PySem.W.kitOne K (.ref C) (.type "ValueError") = some true) && decide (PySem.W.exmOne K (.ref C) (.ref qe) = some true)
/-- all that is asked of the classes -/
def xcAll (K : PySem.W.Frag) (cs : List Addr) (qe : Addr) : Bool := decide (cs.length = 11) && cs.zipIdx.all (fun p => xcOne K cs qe p.2 p.1) &&
  decide (PySem.W.specialIn K (.builtin "object.__class__") "__get__" = some (some (.builtin "getset_descriptor.__get__"))) && decide (PySem.W.takesIn K (.builtin "object.__class__") = some true) &&
  (cs[10]?).all (fun C => decide (PySem.W.findIn K (.ref C) "limit" = some none))
structure Xc (K : PySem.W.Frag) (mg : Str → Option Value) (cs : List Addr) (qe : Addr) : Prop where
  ok : xcAll K cs qe = true
  at_ : ∀ (i : Nat) (x : Str) (C : Addr), xcNames[i]? = some x → cs[i]? = some C → mg x = some (.ref C)
  q : mg "QueueError" = some (.ref qe)
  v : mg "ValueError" = none
section
variable {K : PySem.W.Frag} {mg : Str → Option Value} {cs : List Addr} {qe : Addr}
theorem Xc.len (T : Xc K mg cs qe) : cs.length = 11 := by
  have h := T.ok
  unfold xcAll at h
  simp only [Bool.and_eq_true, decide_eq_true_eq] at h
  exact h.1.1.1.1
theorem Xc.limit (T : Xc K mg cs qe) {C : Addr} (h : cs[10]? = some C) : PySem.W.findIn K (.ref C) "limit" = some none := by
  have h0 := T.ok
  unfold xcAll at h0
  simp only [Bool.and_eq_true] at h0
  have h1 := h0.2
  rw [h] at h1
  exact of_decide_eq_true h1
theorem Xc.one (T : Xc K mg cs qe) {i : Nat} {C : Addr} (h : cs[i]? = some C) : xcOne K cs qe i C = true := by
  have h0 := T.ok
  unfold xcAll at h0
  simp only [Bool.and_eq_true, List.all_eq_true] at h0
  exact h0.1.1.1.2 (C, i) (by
    rw [List.mk_mem_zipIdx_iff_getElem?]
    exact h)
theorem Xc.exc (T : Xc K mg cs qe) {i : Nat} {C : Addr} (h : cs[i]? = some C) : ExcC K C := by
  have h0 := T.ok
  have h1 := T.one h
  unfold xcAll at h0
  unfold xcOne at h1
  simp only [Bool.and_eq_true, decide_eq_true_eq] at h0 h1
  obtain ⟨⟨⟨_, g1⟩, g2⟩, _⟩ := h0
  obtain ⟨⟨⟨⟨⟨⟨⟨⟨⟨⟨⟨_, _⟩, a1⟩, a2⟩, a3⟩, a4⟩, a5⟩, a6⟩, _⟩, _⟩, _⟩, _⟩ := h1
  exact ⟨a1, a2, a3, a4, a5, g1, g2, a6⟩
theorem Xc.kit (T : Xc K mg cs qe) {i j : Nat} {C D : Addr} (h : cs[i]? = some C) (h2 : cs[j]? = some D) : PySem.W.kitOne K (.ref C) (.ref D) = some (decide (i = j)) ∧ PySem.W.exmOne K (.ref C) (.ref D) = some (decide (i = j)) := by
  have h1 := T.one h
  unfold xcOne at h1
  simp only [Bool.and_eq_true, decide_eq_true_eq, List.all_eq_true] at h1
  obtain ⟨⟨⟨_, a⟩, _⟩, _⟩ := h1
  exact a (D, j) (by
    rw [List.mk_mem_zipIdx_iff_getElem?]
    exact h2)
theorem Xc.kitV (T : Xc K mg cs qe) {i : Nat} {C : Addr} (h : cs[i]? = some C) : PySem.W.kitOne K (.ref C) (.type "ValueError") = some true ∧ PySem.W.exmOne K (.ref C) (.ref qe) = some true := by
  have h1 := T.one h
  unfold xcOne at h1
  simp only [Bool.and_eq_true, decide_eq_true_eq] at h1
  exact ⟨h1.1.2, h1.2⟩
theorem Xc.raises (T : Xc K mg cs qe) {X : Cx} (hK : X.K = K) {i : Nat} {C : Addr} (h : cs[i]? = some C) : Raises X (.ref C) := by
  have h1 := T.one h
  unfold xcOne at h1
  simp only [Bool.and_eq_true, decide_eq_true_eq] at h1
  obtain ⟨⟨⟨⟨⟨⟨⟨⟨⟨⟨⟨_, _⟩, _⟩, _⟩, a3⟩, _⟩, _⟩, _⟩, a7⟩, _⟩, _⟩, _⟩ := h1
  subst hK
  exact raises_own a3 a7
theorem Xc.made (T : Xc K mg cs qe) {i : Nat} {C : Addr} (h : cs[i]? = some C) (hi : i ≠ 10) : PySem.W.excIn K C vTail "ValueError.__new__" = true ∧ PySem.W.keepIn K (.ref C) = true := by
  have h1 := T.one h
  unfold xcOne at h1
  simp only [Bool.and_eq_true, decide_eq_true_eq, Bool.or_eq_true] at h1
  obtain ⟨⟨⟨⟨⟨⟨⟨⟨⟨⟨⟨a, b⟩, _⟩, _⟩, a3⟩, _⟩, _⟩, _⟩, a7⟩, _⟩, _⟩, _⟩ := h1
  exact ⟨a.resolve_left hi, b⟩
/-- no dict of its own, or one that holds a limit -/
def DictOk (H : Hp) (oe : PySem.Obj) : Prop := oe.dict = none ∨ ∃ dx n, oe.dict = some dx ∧ H dx = some (.xd [("limit", .int n)])
theorem DictOk.mono {H H' : Hp} {oe : PySem.Obj} (h : DictOk H oe) (k : ∀ b o, H b = some o → H' b = some o) : DictOk H' oe := h.imp id fun ⟨dx, n, e, hd⟩ => ⟨dx, n, e, k _ _ hd⟩
theorem DictOk.upd {H : Hp} {oe : PySem.Obj} {b : Addr} {o : HO} (h : DictOk H oe) (hb : H b = none) : DictOk (upd H b o) oe := h.mono fun _ _ e => (upd_ne (ne_of_none e hb)).trans e
/-- a handled exception of the i-th class -/
structure IsX (cs : List Addr) (A : Around) (H : Hp) (i : Nat) (a : Addr) (oe : PySem.Obj) : Prop where
  hot : HotH A H a oe
  cls : ∃ C, cs[i]? = some C ∧ oe.cls = .ref C
  dict : DictOk H oe
theorem IsX.upd {A : Around} {H : Hp} {i : Nat} {a b : Addr} {oe : PySem.Obj} {o : HO} (hh : IsX cs A H i a oe) (h : H b = none) : IsX cs A (upd H b o) i a oe := ⟨hh.hot.upd h, hh.cls, hh.dict.upd h⟩
section
open PySem.W
variable {prog : Program} {w : World} {A : Around} {E : Value → Shared → Prop} {s : Shared} {x D : Addr} {ox : PySem.Obj} {od : Option PySem.Obj}
theorem find_class (T : ExcC K D) : findObj K D od "__class__" = some (.bind (.builtin "getset_descriptor.__get__") (.builtin "object.__class__")) := by
  have hd := T.hd
  unfold hasDictIn at hd
  obtain ⟨cd, hc⟩ : ∃ cd, clsIn K D = some cd := by
    cases e : clsIn K D with
    | none => rw [e] at hd; cases hd
    | some cd => exact ⟨cd, rfl⟩
  unfold findObj
  rw [hc, Option.bind_some, T.ha, Option.bind_some]
  simp [T.hn, T.ht]
/-- e.__class__, whatever its dict holds -/
theorem class_exc {Q : Option Value → Shared → Prop} (T : ExcC K D) (X : K.In s.heap) (I : InstAt s.heap x ox D od) (h : Q (some (.ref D)) { s with toks := s.toks + 1 }) : wpAny (model prog w) A (getAttr? (.ref x) "__class__") Q E s := by
  obtain ⟨hp, g, d, t, os⟩ := s
  have q0 := I.type (M := model prog w)
  have q1 := looks_findIn (M := model prog w) X T.hg
  have q2 := looks_findIn (M := model prog w) X T.hk
  have q3 := looks_find (M := model prog w) X I (find_class (od := od) T)
  have q4 : Looks (model prog w) hp (isInstance (.ref x) (.type "BaseException")) true := q0.andThen (looks_subIn X T.hs)
  have n2 : (Value.builtin "BaseException.__getattribute__" == Value.builtin "object.__getattribute__") = false := by decide +kernel
  unfold getAttr? getAttrBy? getAttrBy
  refine wpAny_bind (wpAny_mkText (wpAny_bind (wpAny_attempt (wpAny_holding (wpAny_bind (q0.at (wpAny_bind (q1.at ?_))))))))
  show wpAny _ _ (if (onTheHeap (Value.ref D) && Value.builtin "BaseException.__getattribute__" == Value.builtin "object.__getattribute__") = true then _ else _) _ _ _
  rw [show (onTheHeap (Value.ref D) && Value.builtin "BaseException.__getattribute__" == Value.builtin "object.__getattribute__") = false by rw [n2]; rfl, if_neg Bool.false_ne_true]
  unfold getAttrByItsOwn hookBefore
  refine wpAny_bind ?_
  rw [if_pos (show onTheHeap (Value.ref D) = true from rfl)]
  refine q2.at (wpAny_bind (wpAny_attempt (wpAny_holding ?_)))
  unfold callGetattribute
  rw [show (false && onTheHeap (Value.builtin "BaseException.__getattribute__")) = false from rfl, if_neg Bool.false_ne_true]
  unfold boundAndCalled
  rw [PySem.F.excAttr_ValueError.ga.bind (.ref x)]
  refine wpAny_bind (wpAny_pure ?_)
  show wpAny _ _ (call (.builtin "BaseException.__getattribute__") [.ref x, .str "__class__" t]) _ _ _
  refine wpAny_call (codeAny_call_builtin PySem.F.excAttr_ValueError.ga.plain PySem.F.entry_bexc_ga ?_)
  refine @check_slot (model prog w) _ _ ⟨hp, g, d, t + 1, os⟩ "BaseException.__getattribute__" "BaseException" "__getattribute__" (.ref x) [.str "__class__" t] [] _ (by decide +kernel) (by decide +kernel) q4 (PySem.F.args_bexc_ga (.ref x) (.str "__class__" t)) ?_
  unfold Builtin.«object.__getattribute__»
  refine wpAny_bind (wpAny_of_eq (a := ((Value.ref x : Value), [Value.str "__class__" t])) (by first | rfl | (simp only [slotArgs]; rfl)) ?_)
  refine wpAny_bind (wpAny_pure (wpAny_bind (q0.at (wpAny_bind (q3.at ?_)))))
  show wpAny _ _ (holding [Value.builtin "object.__class__"] (call (.builtin "getset_descriptor.__get__") [.builtin "object.__class__", .ref x, .ref D]) >>= ret) _ _ _
  refine wpAny_bind (wpAny_holding (wpAny_call (class_get (s := ⟨hp, g, d, t + 1, os⟩) (ox := ox) (od := od) X I T.hm ?_)))
  refine wpAny_pure ?_
  show wpAny _ _ (handedOut (.ref D)) _ _ _
  rw [handedOut_of (v := .ref D) rfl]
  first
    | exact wpAny_pure (wpAny_pure h)
    | exact wpAny_pure h
    | exact wpAny_pure (wpAny_bind (wpAny_pure (wpAny_pure h)))
theorem kitx_excD (T : ExcC K D) : KitX K (.ref x) (.ref D) (fun h => InstAt h x ox D od) where
  ty := fun _ _ _ I => I.type
  it := fun M h X _ => by
    have hd := T.hd
    unfold hasDictIn at hd
    cases e : clsIn K D with
    | none => rw [e] at hd; cases hd
    | some cd =>
      unfold clsIn at e
      split at e
      · rename_i ho
        intro A' Q' E' s' k q
        unfold isType loadHead
        exact wpAny_bind (wpAny_loadPart (k _ _ (X _ _ ho)) (wpAny_pure q))
      · cases e
  ne := (handS_kitx_exc (x := x) (ox := ox) T.hg T.hk T.hs T.hd T.ha T.hn T.ht T.hm).ne
  ca := fun X I k => class_exc T X I k
end
/-- isinstance(e, c) -/
def rIsX (K : PySem.W.Frag) (A : Around) (cs : List Addr) : List V → Hp → VK → Prop := fun xs H Q => ∃ a oe i C c cv b, xs = [.ref a, c] ∧ IsX cs A H i a oe ∧ cs[i]? = some C ∧ (∀ u, RelV c u → u = cv) ∧ PySem.W.kitOne K (.ref C) cv = some b ∧ Q (.bl b) H
theorem call_isX {X : Cx} (T : Xc X.K X.mg cs qe) : CallR X (.builtin "isinstance") (rIsX X.K X.A cs) := by
  intro pins s σ H xs us Q I r h
  obtain ⟨a, oe, i, C, c, cv, b, rfl, hx, hC, hcv, e, q⟩ := h
  cases r with
  | cons rx rr =>
    cases rr with
    | cons rt rr =>
      cases rr
      cases rx
      have ec := hcv _ rt
      subst ec
      have hget := exAt_get I.hok hx.hot.at_
      obtain ⟨vs, hv, _⟩ := hx.hot.ctx
      obtain ⟨C', hC', hcls⟩ := hx.cls
      rw [hC] at hC'
      cases hC'
      obtain ⟨od, J⟩ : ∃ od, PySem.W.InstAt s.heap a oe C od := by
        rcases hx.dict with hdict | ⟨dx, n, hdict, hdx⟩
        · obtain ⟨oc, od, oda, osl⟩ := oe
          dsimp only at hcls hdict hv
          subst hcls hdict hv
          exact ⟨none, hget, rfl, rfl, trivial⟩
        · have hz : ObjOk X.prog X.w H s.heap dx (.xd [("limit", .int n)]) := I.hok dx _ hdx
          obtain ⟨mA, ⟨o, es, ep, ho, hr⟩, _⟩ := hz
          obtain ⟨oc, od, oda, osl⟩ := oe
          dsimp only at hcls hdict hv
          subst hcls hdict hv
          exact ⟨some o, hget, rfl, rfl, ho⟩
      have E := T.exc hC
      exact PySem.W.kia_one (kitx_excD E) I.kIn J e (fun z => nomatch z) fun tk => ⟨.bl b, H, I.kept (t' := tk) fun _ _ z => z, rfl, q⟩
end
end ML

set_option Elab.async false
set_option maxRecDepth 100000
set_option linter.all false
set_option maxHeartbeats 4000000
/-! ML: a def that names the class of a handled exception. -/
namespace ML
open PySem PySem.Spec PyProof.Rows L2 HotX
/-- the context of a def's body, an exception being handled outside -/
def cxHot (P : Program) (w : World) (K : PySem.W.Frag) (mg : Str → Option Value) (base : Heap) (N : List Str) (qual : Str) (scope : Scope) (f : Addr) (cd : Value) (A : Around) (outer : List PySem.Env) (s : Shared) (H : Hp) : Cx :=
  { cxOf C8.CX0 P w K mg base N qual scope f cd A outer s H C8.E0 with calm := false }
theorem inv_startHot {P : Program} {w : World} {K : PySem.W.Frag} {mg : Str → Option Value} {base : Heap} {N ps : List Str} {qual : Str} {scope : Scope} {f : Addr} {cd : Value} {A : Around} {outer : List PySem.Env} {s s1 : Shared} {H : Hp} {us : List Value} {vs : List V}
    (S : FnScope N ps scope) (e0 : Env0 P w K mg base A outer s H) (hl : vs.length = ps.length) (r : Vals vs us)
    (x : InCallC s s.heap.objs.size (bindL (envOfC qual scope s.heap.objs.size f cd).kindOf (ps.zip us) fun _ => none) (cellsFrom (s.heap.objs.size + 1) scope.names []) (bindC (envOfC qual scope s.heap.objs.size f cd).kindOf (ps.zip us) fun _ => none) s1) :
    L2.Inv (cxHot P w K mg base N qual scope f cd A outer s H) [] (L2.start N vs) H s1 := by
  have hpl : ps.length ≤ N.length := by have := congrArg List.length S.pre; rw [List.length_take] at this; omega
  obtain ⟨h1, tk, rfl, hk⟩ := x.done
  have noA : ∀ b : Addr, b ∉ (cxHot P w K mg base N qual scope f cd A outer s H).ex := fun b z => absurd (show b ∈ ([] : List Addr) from z) (by simp)
  refine ⟨⟨e0.mod, S.kind, rfl, rfl, Nat.le_refl _, fun y z c h1 h2 => ?_, fun y hy => ?_, fun y c _ h => ?_, (fun z => Bool.noConfusion (show false = true from z)), Around.frames_deeper e0.frames, .inr ⟨rfl, rfl⟩, fun b z => absurd z (noA b), e0.bs, e0.bsz, fun b _ _ => noA b, fun b z => absurd z (noA b), e0.funs, e0.frf⟩,
    rfl, e0.bare, Un.kept hk, ⟨_, x.toInCall.ns, fun i y v h1 h2 h3 => ?_⟩, fun y c h => ⟨_, x.cell y c h⟩, e0.hok.fresh (Nat.le_refl _), fun y c h => ?_, fun q hq => absurd (show q ∈ ([] : List (Addr × PySem.Obj)) ++ [] from hq) (by simp), e0.hok.kept hk, ?_⟩
  · exact name_of_addr x.apart (PySem.mem_of_lookup h1) (PySem.mem_of_lookup h2)
  · have hy : scope.names.lookup y = some .cell ∨ scope.names.lookup y = some .free := hy
    rcases hy with hy | hy
    · exact cell_has hy
    · exact absurd rfl (S.nofree _ (PySem.mem_of_lookup hy))
  · exact Nat.le_of_lt (x.above y c (PySem.mem_of_lookup h))
  · have hi : i < vs.length := by
      unfold L2.start at h2
      by_cases hi : i < vs.length
      · exact hi
      · rw [List.getElem?_append_right (by simpa using hi), List.getElem?_replicate] at h2
        split at h2 <;> cases h2
    have ha : vs[i]? = some v := by
      unfold L2.start at h2
      rw [List.getElem?_append_left (by simpa using hi), List.getElem?_map] at h2
      cases e : vs[i]? with
      | none => rw [e] at h2; cases h2
      | some a => rw [e] at h2; cases h2; rfl
    obtain ⟨u, hu, rv⟩ := r.get ha
    have hp : ps[i]? = some y := by
      rw [← S.pre, List.getElem?_take_of_lt (by omega)]; exact h1
    have ndP : ps.Nodup := by rw [← S.pre]; exact S.nd.sublist (List.take_sublist _ _)
    refine ⟨u, rv, ?_⟩
    rcases S.par y (List.mem_of_getElem? hp) with k | k
    · exact .inl ⟨k, bindL_get ndP hp hu k⟩
    · obtain ⟨c, e⟩ := cell_has (n := s.heap.objs.size + 1) k
      refine .inr ⟨.inl k, c, e, ?_⟩
      have q := x.cell y c e
      rw [bindC_get ndP hp hu (by show scope.names.lookup y ≠ _; rw [k]; decide)] at q
      exact q
  · exact e0.hok.fresh (Nat.le_of_lt (x.above y c (PySem.mem_of_lookup h)))
  · unfold L2.start
    show _ = N.length
    rw [List.length_append, List.length_map, List.length_replicate]
    omega
/-- what a def promises, an exception being handled outside -/
abbrev SpH := Around → List V → Hp → VK → Prop
structure FnHot (P : Program) (w : World) (K : PySem.W.Frag) (mg : Str → Option Value) (base : Heap) (f : Addr) (fd : FuncData) (ps : List Str) (sp : SpH) : Prop where
  run : ∀ (A : Around) (outer : List PySem.Env) (s : Shared) (H : Hp) (args : Args) (us : List Value) (vs : List V) (Q : VK), A.depth < recursionLimit → Env0 P w K mg base A outer s H → BindsTo s fd args (ps.zip us) → Vals vs us → vs.length = ps.length → sp A vs H Q →
    codeAny (model P w) A (.call (.ref f) args) (CR C8.CX0 outer P w H s Q C8.E0) s
theorem fn_hot {P : Program} {w : World} {K : PySem.W.Frag} {mg : Str → Option Value} {base : Heap} {x : Str} {st : Stmt} {f : Addr} {fd : FuncData} {N ps : List Str} {sp : SpH} (F : Fun K x x st f fd) (S : FnScope N ps (defScope st))
    (hbody : ∀ (A : Around) (outer : List PySem.Env) (s : Shared) (H : Hp) (vs : List V) (Q : VK) (cdv : Value), vs.length = ps.length → sp A vs H Q →
      ∃ t, PSs (cxHot P w K mg base N x (defScope st) f cdv A outer s H) (defBody st) t ∧ t { nx := fun _ H' => Q .non H', rt := Q } (L2.start N vs) H) : FnHot P w K mg base f fd ps sp := by
  obtain ⟨oc, od, kV, doc, pm, an, cdv, ct, osl, rfl, lk, hcd⟩ := F.ex
  refine ⟨fun A outer s H args us vs Q hr e0 hb r hl hsp => ?_⟩
  have KX : K.In s.heap := e0.mod.kin.keeps fun b o e => (e0.bs b o e).1
  have lim : s.heap.NoLimit := e0.mod.nolimit.keeps fun b o e => (e0.bs b o e).1
  have hkind : ∀ y ∈ ps.zip us, (defScope st).names.lookup y.1 = some .local ∨ ((defScope st).names.lookup y.1 = some .cell ∧ ((cellsFrom (s.heap.objs.size + 1) (defScope st).names []).lookup y.1).isSome = true) := fun ⟨n, v⟩ hy => by
    rcases S.par n (List.of_mem_zip hy).1 with q | q
    · exact .inl q
    · exact .inr ⟨q, PySem.W.cellsFrom_some _ _ _ (.inl q)⟩
  refine codeAny_call_function hr (KX _ _ lk) rfl S.co S.gen rfl (PySem.W.codeRec_of KX hcd) (hb _ _ _ _ ?_)
  refine wpAny_newFunctionEnv_cells S.kind hkind fun env he s1 xx => ?_
  subst he
  refine ⟨lim.keeps xx.toInCall.keep, codeAny_func ?_⟩
  obtain ⟨t, ht, hq⟩ := hbody (A) outer s H vs Q cdv hl hsp
  have I : L2.Inv (cxHot P w K mg base N x (defScope st) f cdv A outer s H) [] (L2.start N vs) H s1 := inv_startHot S e0 hl r xx
  refine wpAny_mono (ht.run [] s1 (L2.start N vs) H _ I hq) (fun fl s' hs => ?_) fun e s' hs => hs
  have fin : ∀ {σ' : L2.St} {H' : Hp} {v : V} {u : Value}, L2.Inv (cxHot P w K mg base N x (defScope st) f cdv A outer s H) [] σ' H' s' → RelV v u → Q v H' → CE outer P w H s Q u s' :=
    fun {σ' H' v u} J rv q => ⟨v, H', J.os, J.bare, J.base, J.hok, rv, q⟩
  cases fl with
  | ret u =>
    obtain ⟨v, σ', H', J, rv, q⟩ := hs
    exact fin J rv q
  | next =>
    obtain ⟨σ', H', J, q⟩ := hs
    exact fin (v := V.non) (u := Value.none) J rfl q
  | brk =>
    obtain ⟨_, _, _, q⟩ := hs
    exact False.elim q
  | cont =>
    obtain ⟨_, _, _, q⟩ := hs
    exact False.elim q
end ML

set_option Elab.async false
set_option maxRecDepth 100000
set_option linter.all false
set_option maxHeartbeats 4000000
/-! ML: the def that names the class of a handled exception: its text, what it gives. -/
namespace ML
open PySem PySem.Spec PyProof.Rows L2 HotX
/-- isinstance(e, the j-th) -/
def isB (sc : Scope) (j : Nat) : Expr → Bool
  | .Call (.Name f _) [.Name e _, .Name c _] [] _ => f == ("isinstance" : Str) && e == ("e" : Str) && decide (xcAllN[j]? = some c) && globB sc f && globB sc c && visB sc e && plainN c && decide (j < 12)
  | _ => false
def isBs (sc : Scope) : List Nat → List Expr → Bool
  | [], [] => true
  | j :: js, e :: es => isB sc j e && isBs sc js es
  | _, _ => false
def strB : List Str → List Expr → Bool
  | [], [] => true
  | x :: xs, .Constant (.str y) _ _ :: es => decide (x = y) && strB xs es
  | _, _ => false
def locB (sc : Scope) (x : Str) : Bool := decide (sc.names.lookup x = some .local)
/-- the def's names -/
def nmN : List Str := ["e", "matching", "words", "word", "good"]
def addB (sc : Scope) (js : List Nat) : Stmt → Bool
  | .Assign [.Name m2 _] (.BinOp (.Name m3 _) .Add (.List bs _) _) _ => m2 == ("matching" : Str) && m3 == ("matching" : Str) && isBs sc js bs
  | _ => false
def nmB (sc : Scope) : List Stmt → Bool
  | [.Assign [.Name m1 _] (.List as _) _, s2, s3, s4, .Assign [.Name w1 _] (.List ws _) _,
      .Return (some (.Call (.Attribute (.Constant (.str sep) _ _) jn apos) [.ListComp (.Name x1 _) [⟨.Tuple [.Name x2 _, .Name g1 _] _ _, .Call (.Name z _) [.Name w2 _, .Name m8 _] [] _, [.Name g2 _], 0⟩] scope _] [] pos)) _] =>
    m1 == ("matching" : Str) && isBs sc [0, 1, 2] as && addB sc [3, 4, 5] s2 && addB sc [6, 7, 8] s3 && addB sc [9, 10, 11] s4 && w1 == ("words" : Str) && strB xcAllW ws && decide (sep = "") && jn == ("join" : Str) &&
      x1 == ("word" : Str) && x2 == ("word" : Str) && g1 == ("good" : Str) && g2 == ("good" : Str) && z == ("zip" : Str) && w2 == ("words" : Str) && m8 == ("matching" : Str) && globB sc z &&
      (apos.endLine == pos.line) && blkC nmN sc scope [("word", 3), ("good", 4)] && locB sc "matching" && locB sc "words" && visB sc "matching" && visB sc "words" &&
      locB (relS scope sc) "word" && locB (relS scope sc) "good" && visB (relS scope sc) "word" && visB (relS scope sc) "good"
  | _ => false
section
variable {X : Cx} {cs : List Addr} {qe : Addr} {sc : Scope}
def t3 (cs : List Addr) (A : Around) (js : List Nat) : TA := fun σ H Q => ∃ a oe i, σ[0]? = some (some (.ref a)) ∧ IsX cs A H i a oe ∧ Q (js.map fun j => V.bl (isOne i j)) H
theorem pe_isB (T : Xc X.K X.mg cs qe) (hN : X.N = nmN) (hsc : X.env.scope = sc) (hi : X.mg "isinstance" = none) {j : Nat} {e' : Expr} (h : isB sc j e' = true) : PE X e' (fun σ H Q => ∃ a oe i, σ[0]? = some (some (.ref a)) ∧ IsX cs X.A H i a oe ∧ Q (.bl (isOne i j)) H) := by
  unfold isB at h
  split at h
  · rename_i f pf e pe c pc pos
    simp only [Bool.and_eq_true, beq_iff_eq, decide_eq_true_eq] at h
    obtain ⟨⟨⟨⟨⟨⟨⟨rfl, rfl⟩, h3⟩, h4⟩, h5⟩, h6⟩, h7⟩, h8⟩ := h
    have gl : ∀ {x : Str}, globB sc x = true → Gl X x := fun {x} h => by
      unfold globB at h
      show X.env.scope.names.lookup x = some .globalImplicit
      rw [hsc]
      split at h <;> simp_all
    obtain ⟨d1, d2, d3⟩ := plain_of h7
    by_cases hj : j = 11
    · subst hj
      have ec : c = "ValueError" := by
        have : xcAllN[11]? = some ("ValueError" : Str) := rfl
        rw [this] at h3
        exact (Option.some.inj h3).symm
      subst ec
      refine pe_imp (pe_callB (call_isX T) (gl h4) hi (by decide +kernel) (pa_cons (pe_var (i := 0) (by rw [hN]; rfl) (by rw [hsc]; exact vis_of h6) (by decide) (by decide)) (pa_cons (pe_bltn (v := .ty "ValueError") (gl h5) T.v (by decide +kernel) rfl d3 d1) pa_nil) rfl) (by decide) (by decide) rfl rfl) fun σ H Q h => ?_
      obtain ⟨a, oe, i, hs, hx, q⟩ := h
      obtain ⟨C, hC, hcls⟩ := hx.cls
      exact ⟨.ref a, hs, a, oe, i, C, .ty "ValueError", .type "ValueError", true, rfl, hx, hC, fun u r => r, (T.kitV hC).1, q⟩
    · have hj2 : j < 11 := by omega
      have ec : xcNames[j]? = some c := by
        have e0 : xcAllN[j]? = xcNames[j]? := List.getElem?_append_left hj2
        rw [← e0]
        exact h3
      obtain ⟨D, hD⟩ : ∃ D, cs[j]? = some D := ⟨_, List.getElem?_eq_getElem (by rw [T.len]; exact hj2)⟩
      refine pe_imp (pe_callB (call_isX T) (gl h4) hi (by decide +kernel) (pa_cons (pe_var (i := 0) (by rw [hN]; rfl) (by rw [hsc]; exact vis_of h6) (by decide) (by decide)) (pa_cons (pe_glob (v := .ref D) (gl h5) (T.at_ j c D ec hD) rfl d1) pa_nil) rfl) (by decide) (by decide) rfl rfl) fun σ H Q h => ?_
      obtain ⟨a, oe, i, hs, hx, q⟩ := h
      obtain ⟨C, hC, hcls⟩ := hx.cls
      refine ⟨.ref a, hs, a, oe, i, C, .ref D, .ref D, decide (i = j), rfl, hx, hC, fun u r => r, (T.kit hC hD).1, ?_⟩
      have e1 : isOne i j = decide (i = j) := by
        unfold isOne
        rw [decide_eq_false hj, Bool.false_or]
      rw [← e1]
      exact q
  · cases h
theorem pa_isB (T : Xc X.K X.mg cs qe) (hN : X.N = nmN) (hsc : X.env.scope = sc) (hi : X.mg "isinstance" = none) : ∀ (js : List Nat) (es : List Expr), isBs sc js es = true → PA X es (t3 cs X.A js)
  | [], [], _ => pa_imp pa_nil fun σ H Q ⟨a, oe, i, h1, h2, q⟩ => q
  | [], _ :: _, h => by simp [isBs] at h
  | _ :: _, [], h => by simp [isBs] at h
  | j :: js, e :: es, h => by
    unfold isBs at h
    rw [Bool.and_eq_true] at h
    have h1 := pe_isB T hN hsc hi h.1
    have hs : starEach (e :: es) X.env = (false, eval e X.env) :: starEach es X.env := star_cons (by
      have := h.1
      unfold isB at this
      split at this
      · rfl
      · cases this)
    refine pa_imp (pa_cons h1 (pa_isB T hN hsc hi js es h.2) hs) fun σ H Q ⟨a, oe, i, hs, hx, q⟩ => ?_
    exact ⟨a, oe, i, hs, hx, a, oe, i, hs, hx, q⟩
theorem pa_strB : ∀ (xs : List Str) (es : List Expr), strB xs es = true → PA X es (fun σ H Q => Q (xs.map V.str) H)
  | [], [], _ => pa_imp pa_nil fun σ H Q q => q
  | [], _ :: _, h => by simp [strB] at h
  | _ :: _, [], h => by simp [strB] at h
  | x :: xs, e :: es, h => by
    unfold strB at h
    split at h
    · rename_i z _
      cases z
    · rename_i x' xs' y j p es' ex ee
      obtain ⟨rfl, rfl⟩ := List.cons.inj ex
      obtain ⟨rfl, rfl⟩ := List.cons.inj ee
      simp only [Bool.and_eq_true, decide_eq_true_eq] at h
      obtain ⟨rfl, h2⟩ := h
      exact pa_imp (pa_cons pe_str (pa_strB xs es h2) (star_cons rfl)) fun σ H Q q => q
    · cases h
/-- the names as they stand: what is known of the classes so far, whether the words are there -/
structure NS (cs : List Addr) (A : Around) (H0 : Hp) (i : Nat) (a : Addr) (oe : PySem.Obj) (bs : List Bool) (ws : Bool) (σ : L2.St) (H : Hp) : Prop where
  len : σ.length = 5
  e : σ[0]? = some (some (.ref a))
  x : IsX cs A H i a oe
  k : ∀ b o, H0 b = some o → H b = some o
  m : ∃ p, σ[1]? = some (some (.ref p)) ∧ H p = some (.lst (bs.map V.bl))
  w : ws = true → ∃ p, σ[2]? = some (some (.ref p)) ∧ H p = some (.lst (xcAllW.map V.str))
theorem loc_of {x : Str} (hsc : X.env.scope = sc) (h : locB sc x = true) : Loc X.env.scope x := by
  unfold locB at h
  rw [hsc]
  exact .inl (of_decide_eq_true h)
theorem sizeL (n : Nat) (h : n ≤ 1000) : n ≤ sizeLine := by
  rw [sizeLine_eq]
  omega
theorem gl_of {x : Str} (hsc : X.env.scope = sc) (h : globB sc x = true) : Gl X x := by
  unfold globB at h
  show X.env.scope.names.lookup x = some .globalImplicit
  rw [hsc]
  split at h <;> simp_all
theorem nm_add (T : Xc X.K X.mg cs qe) (hN : X.N = nmN) (hsc : X.env.scope = sc) (hi : X.mg "isinstance" = none) (hl : locB sc "matching" = true) (hv : visB sc "matching" = true) {js : List Nat} {st : Stmt} (h : addB sc js st = true) (hjs : js.length ≤ 10) :
    PS X st (fun D σ H => ∃ H0 i a oe bs, NS cs X.A H0 i a oe bs false σ H ∧ bs.length ≤ 100 ∧ ∀ σ' H', NS cs X.A H0 i a oe (bs ++ js.map (isOne i)) false σ' H' → D.nx σ' H') := by
  unfold addB at h
  split at h
  · rename_i m2 p2 m3 p3 es pl pb ps
    simp only [Bool.and_eq_true, beq_iff_eq] at h
    obtain ⟨⟨rfl, rfl⟩, h3⟩ := h
    have nd : X.N.Nodup := by rw [hN]; decide
    refine ps_imp (ps_set (i := 1) nd (by rw [hN]; rfl) (loc_of hsc hl) (pe_op (op_catL rfl) (pe_var (i := 1) (by rw [hN]; rfl) (by rw [hsc]; exact vis_of hv) (by decide) (by decide)) (pe_lst (pa_isB T hN hsc hi js es h3))) (swaps_no rfl) (.inr (by
      rw [hsc]
      exact of_decide_eq_true hl))) fun D σ H h => ?_
    obtain ⟨H0, i, a, oe, bs, ns, hb, q⟩ := h
    obtain ⟨p, m1, m2⟩ := ns.m
    refine ⟨.ref p, m1, a, oe, i, ns.e, ns.x, sizeL _ (by rw [List.length_map]; omega), fun l hl2 => ?_⟩
    refine ⟨p, l, bs.map V.bl, (js.map (isOne i)).map V.bl, rfl, rfl, .inl (.inl ((upd_ne (ne_of_none m2 hl2)).trans m2)), .inl (.inl (upd_same.trans (by rw [List.map_map]; rfl))), sizeL _ (by rw [List.length_map, List.length_map, List.length_map]; omega), fun r hr => ?_⟩
    refine q _ _ ⟨by rw [List.length_set]; exact ns.len, by rw [List.getElem?_set_ne (by decide)]; exact ns.e, (ns.x.upd hl2).upd hr, fun b o e => ?_, ⟨r, List.getElem?_set_self (by rw [ns.len]; decide), by rw [upd_same, List.map_append]⟩, fun z => nomatch z⟩
    have e1 := ns.k b o e
    have e2 : upd H l (.lst (js.map fun j => V.bl (isOne i j))) b = some o := (upd_ne (ne_of_none e1 hl2)).trans e1
    exact (upd_ne (ne_of_none e2 hr)).trans e2
  · cases h
/-- the pairs' names, hot -/
theorem nm_comp (hN : X.N = nmN) (hsc : X.env.scope = sc) (hz : X.mg "zip" = none) {bs : List Bool} {i : Nat} {a : Addr} {oe : PySem.Obj} {H0 : Hp} (hbl : bs.length = 12)
    {p0 p0' p1 p2 p3 p4 p5 p6 p7 p8 : Pos} {kk : Nat} {scope : Scope} (gz : globB sc "zip" = true) (hb : blkC nmN sc scope [("word", 3), ("good", 4)] = true) (v1 : visB sc "matching" = true) (v2 : visB sc "words" = true) (l3 : locB (relS scope sc) "word" = true) (l4 : locB (relS scope sc) "good" = true) (v3 : visB (relS scope sc) "word" = true) (v4 : visB (relS scope sc) "good" = true) :
    PE X (.ListComp (.Name "word" p0) [⟨.Tuple [.Name "word" p1, .Name "good" p2] kk p3, .Call (.Name "zip" p4) [.Name "words" p5, .Name "matching" p6] [] p7, [.Name "good" p8], 0⟩] scope p0')
      (fun σ H Q => NS cs X.A H0 i a oe bs true σ H ∧ ∀ D H', (∀ b o, H0 b = some o → H' b = some o) → H' D = some (.lst (((xcAllW.zip bs).filter (·.2)).map fun p => V.str p.1)) → Q (.ref D) H') := by
  have nd : X.N.Nodup := by rw [hN]; decide
  have gl : Gl X "zip" := gl_of hsc gz
  have hb' : BlkOk X.N X.env.scope scope [("word", 3), ("good", 4)] := by rw [hN, hsc]; exact blkOk_by hb
  have rs : ∀ (s : Shared) (H : Hp) (C : Addr) (cl : List (Str × Addr)) (fp : List Addr), (X.blk s H scope (compEnvC scope cl C X.env) fp).env.scope = relS scope sc := fun s H C cl fp => by
    rw [← hsc]
    rfl
  have pgB : ∀ Y : Cx, Y.N = nmN → Y.env.scope = relS scope sc → PG Y (.Tuple [.Name "word" p1, .Name "good" p2] kk p3) (gTupH Y.K Y.A 2 (gCons (gName 3) (gCons (gName 4) gNil))) := fun Y h1 h2 =>
    pg_tupH (pgs_cons (pg_name (i := 3) (by rw [h1]; decide) (by rw [h1]; rfl) (loc_of h2 l3) (.inr (by rw [h2]; exact of_decide_eq_true l3))) (pgs_cons (pg_name (i := 4) (by rw [h1]; decide) (by rw [h1]; rfl) (loc_of h2 l4) (.inr (by rw [h2]; exact of_decide_eq_true l4))) pgs_nil))
  have ptB : ∀ Y : Cx, Y.N = nmN → Y.env.scope = relS scope sc → PTs Y [.Name "good" p8] (tB fun σ H Q => ∃ v, σ[4]? = some (some v) ∧ Q v H) := fun Y h1 h2 => pts_one (pt_val (pe_var (i := 4) (by rw [h1]; rfl) (by rw [h2]; exact vis_of v4) (by decide) (by decide)))
  have peB : ∀ Y : Cx, Y.N = nmN → Y.env.scope = relS scope sc → PE Y (.Name "word" p0) (fun σ H Q => ∃ v, σ[3]? = some (some v) ∧ Q v H) := fun Y h1 h2 => pe_var (i := 3) (by rw [h1]; rfl) (by rw [h2]; exact vis_of v3) (by decide) (by decide)
  refine pe_imp (pe_lcH (g := gTupH X.K X.A 2 (gCons (gName 3) (gCons (gName 4) gNil))) (tt := tB fun σ H Q => ∃ v, σ[4]? = some (some v) ∧ Q v H) (te := fun σ H Q => ∃ v, σ[3]? = some (some v) ∧ Q v H) (own := [("word", 3), ("good", 4)]) nd (pi_zipH gl hz (pa_cons (pe_var (i := 2) (by rw [hN]; rfl) (by rw [hsc]; exact vis_of v2) (by decide) (by decide)) (pa_cons (pe_var (i := 1) (by rw [hN]; rfl) (by rw [hsc]; exact vis_of v1) (by decide) (by decide)) pa_nil))) hb'
    (fun s H C cl fp => pgB (X.blk s H scope (compEnvC scope cl C X.env) fp) hN (rs s H C cl fp)) (fun s H C cl fp => ptB (X.blk s H scope (compEnvC scope cl C X.env) fp) hN (rs s H C cl fp)) (fun s H C cl fp => peB (X.blk s H scope (compEnvC scope cl C X.env) fp) hN (rs s H C cl fp))) fun σ H Q h => ?_
  obtain ⟨ns, q⟩ := h
  obtain ⟨pm, m1, m2⟩ := ns.m
  obtain ⟨pw, w1, w2⟩ := ns.w rfl
  refine ⟨.ref pw, w1, .ref pm, m1, pw, pm, xcAllW.map V.str, bs.map V.bl, rfl, .inl (.inl w2), .inl (.inl m2), fun D hD => ?_⟩
  have hσ : ∀ (u v : Option V), wipe ((σ.set 3 u).set 4 v) [3, 4] = wipe σ [3, 4] := fun u v => by
    match σ, ns.len with
    | [x0, x1, x2, x3, x4], _ => rfl
  have hw : wipe σ [3, 4] = (σ.set 4 none).set 3 none := rfl
  refine ⟨fun n m H' => m = 12 - n ∧ n ≤ 12 ∧ (∀ b o, upd H D (.lst []) b = some o → b ≠ D → H' b = some o) ∧ H' D = some (.lst ((((xcAllW.zip bs).take n).filter (·.2)).map fun p => V.str p.1)), ⟨12, rfl, Nat.zero_le _, fun b o e _ => e, upd_same⟩, ?_⟩
  rintro n m H' ⟨rfl, hn, hk, hd⟩
  have at_ : ∀ b o, H b = some o → H' b = some o := fun b o e => hk b o ((upd_ne (ne_of_none e hD)).trans e) (ne_of_none e hD)
  have hot : IsX cs X.A H' i a oe := ⟨ns.x.hot.mono ((at_ a _ ns.x.hot.at_).trans ns.x.hot.at_.symm), ns.x.cls, ns.x.dict.mono at_⟩
  have eW : xcAllW.length = 12 := rfl
  have sqw : SqL X.K H' pw (xcAllW.map V.str) := .inl (.inl (at_ _ _ w2))
  have sqm : SqL X.K H' pm (bs.map V.bl) := .inl (.inl (at_ _ _ m2))
  by_cases hlt : n < 12
  · have hw' : (xcAllW.map V.str)[n]? = some (V.str (xcAllW[n]'(by omega))) := by rw [List.getElem?_map, List.getElem?_eq_getElem (by omega)]; rfl
    have hb2 : (bs.map V.bl)[n]? = some (V.bl (bs[n]'(by omega))) := by rw [List.getElem?_map, List.getElem?_eq_getElem (by omega)]; rfl
    refine .inr ⟨⟨_, _, _, _, sqw, sqm, hw', hb2⟩, fun H'' => n + 1 ≤ 12 ∧ (∀ b o, upd H D (.lst []) b = some o → b ≠ D → H'' b = some o) ∧ H'' D = some (.lst ((((xcAllW.zip bs).take (n + 1)).filter (·.2)).map fun p => V.str p.1)), fun H'' h => ⟨12 - (n + 1), by omega, rfl, h⟩, fun x H'' hy => ?_⟩
    obtain ⟨Tp, x', y', rfl, hT, rfl, hx', hy'⟩ := hy
    have ex := hx' _ sqw
    have ey := hy' _ sqm
    rw [hw'] at ex
    rw [hb2] at ey
    cases ex
    cases ey
    have sT : SqT X.K (upd H' Tp (.tup [V.str (xcAllW[n]'(by omega)), V.bl (bs[n]'(by omega))])) Tp [V.str (xcAllW[n]'(by omega)), V.bl (bs[n]'(by omega))] := .inl (.inl upd_same)
    refine ⟨Tp, _, rfl, sT, rfl, ⟨a, oe, hot.hot.upd hT⟩, _, _, rfl, _, _, rfl, rfl, ?_⟩
    have hl5 : ((wipe σ [3, 4]).set 3 (some (V.str (xcAllW[n]'(by omega))))).length = 5 := by
      rw [List.length_set, wipe_length, ns.len]
    have eDT : D ≠ Tp := ne_of_none hd hT
    have etake : (xcAllW.zip bs).take (n + 1) = (xcAllW.zip bs).take n ++ [(xcAllW[n]'(by omega), bs[n]'(by omega))] := by
      rw [List.take_succ, List.getElem?_eq_getElem (by rw [List.length_zip]; omega), List.getElem_zip]
      rfl
    refine ⟨?_, .bl (bs[n]'(by omega)), List.getElem?_set_self (by show 4 < List.length ((wipe σ [3, 4]).set 3 (some (V.str (xcAllW[n]'(by omega))))); rw [hl5]; decide), _, rfl, ?_⟩
    · have e0 : ∀ (u v : Option V), wipe (((wipe σ [3, 4]).set 3 u).set 4 v) [3, 4] = wipe σ [3, 4] := fun u v => by
        match σ, ns.len with
        | [x0, x1, x2, x3, x4], _ => rfl
      exact e0 _ _
    · have kp : ∀ b o, upd H D (.lst []) b = some o → b ≠ D → upd H' Tp (.tup [V.str (xcAllW[n]'(by omega)), V.bl (bs[n]'(by omega))]) b = some o := fun b o e nb => by
        have e1 := hk b o e nb
        exact (upd_ne (ne_of_none e1 hT)).trans e1
      cases hbn : bs[n]'(by omega) with
      | true =>
        show if (true : Bool) = true then (_ : Prop) else _
        rw [if_pos rfl]
        refine ⟨V.str (xcAllW[n]'(by omega)), ?_, _, (upd_ne eDT).trans hd, sizeL _ ?_, by omega, fun b o e nb => ?_, ?_⟩
        · rw [List.getElem?_set_ne (by decide)]
          exact List.getElem?_set_self (by show 3 < List.length (wipe σ [3, 4]); rw [wipe_length, ns.len]; decide)
        · rw [List.length_map]
          refine Nat.le_trans (Nat.succ_le_succ (List.length_filter_le _ _)) ?_
          rw [List.length_take]
          omega
        · rw [upd_ne nb]
          have := kp b o e nb
          rw [hbn] at this
          exact this
        · rw [upd_same, etake, List.filter_append, List.map_append, hbn]
          rfl
      | false =>
        show if (false : Bool) = true then (_ : Prop) else _
        rw [if_neg Bool.false_ne_true]
        refine ⟨by omega, fun b o e nb => ?_, ?_⟩
        · have := kp b o e nb
          rw [hbn] at this
          exact this
        · rw [etake, List.filter_append, List.map_append, hbn]
          rw [upd_ne eDT, hd]
          simp
  · have en : n = 12 := by omega
    subst en
    refine .inl ⟨⟨⟨_, _, sqw, sqm, .inl (by rw [List.length_map]; exact Nat.le_of_eq eW)⟩, a, oe, hot.hot⟩, q D H' (fun b o e => at_ b o (ns.k b o e)) ?_⟩
    rw [hd, List.take_of_length_le (by rw [List.length_zip]; omega)]
theorem nm_compI (hN : X.N = nmN) (hsc : X.env.scope = sc) (hz : X.mg "zip" = none) {p0 p0' p1 p2 p3 p4 p5 p6 p7 p8 : Pos} {kk : Nat} {scope : Scope} (gz : globB sc "zip" = true) (hb : blkC nmN sc scope [("word", 3), ("good", 4)] = true) (v1 : visB sc "matching" = true) (v2 : visB sc "words" = true)
    (l3 : locB (relS scope sc) "word" = true) (l4 : locB (relS scope sc) "good" = true) (v3 : visB (relS scope sc) "word" = true) (v4 : visB (relS scope sc) "good" = true) :
    PE X (.ListComp (.Name "word" p0) [⟨.Tuple [.Name "word" p1, .Name "good" p2] kk p3, .Call (.Name "zip" p4) [.Name "words" p5, .Name "matching" p6] [] p7, [.Name "good" p8], 0⟩] scope p0')
      (fun σ H Q => ∃ H0 i a oe bs, bs.length = 12 ∧ NS cs X.A H0 i a oe bs true σ H ∧ ∀ D H', (∀ b o, H0 b = some o → H' b = some o) → H' D = some (.lst (((xcAllW.zip bs).filter (·.2)).map fun p => V.str p.1)) → Q (.ref D) H') :=
  ⟨fun pins s σ H Q I ⟨H0, i, a, oe, bs, hbl, ns, q⟩ => (nm_comp hN hsc hz hbl gz hb v1 v2 l3 l4 v3 v4).run pins s σ H Q I ⟨ns, q⟩⟩
theorem filt_zip (i : Nat) : ∀ (ws : List Str) (n : Nat), ((ws.zip ((List.range' n ws.length).map (isOne i))).filter (·.2)).map (fun p => V.str p.1) = (((ws.zipIdx n).filter fun p => isOne i p.2).map (·.1)).map V.str
  | [], _ => rfl
  | w :: ws, n => by
    rw [List.length_cons, List.range'_succ, List.map_cons, List.zip_cons_cons, List.zipIdx_cons, List.filter_cons, List.filter_cons]
    have ih := filt_zip i ws (n + 1)
    cases h : isOne i n with
    | true =>
      simp only [if_true, List.map_cons, ih]
    | false => simpa using ih
/-- what the def gives -/
theorem nm_body (T : Xc X.K X.mg cs qe) (hN : X.N = nmN) (hsc : X.env.scope = sc) (hi : X.mg "isinstance" = none) (hz : X.mg "zip" = none) {ss : List Stmt} (h : nmB sc ss = true) :
    PSs X ss (fun D σ H => ∃ i a oe, σ = [some (.ref a), none, none, none, none] ∧ IsX cs X.A H i a oe ∧ i < 11 ∧ ∀ H', (∀ b o, H b = some o → H' b = some o) → D.rt (.str (xcWord i)) H') := by
  unfold nmB at h
  split at h
  · rename_i m1 p1 as p2 p3 s2 s3 s4 w1 p4 ws p5 p6 sep k1 p7 jn apos x1 p8 x2 p9 g1 p10 k2 p11 z p12 w2 p13 m8 p14 p15 g2 p16 scope p17 pos p18
    simp only [Bool.and_eq_true, beq_iff_eq, decide_eq_true_eq] at h
    obtain ⟨⟨⟨⟨⟨⟨⟨⟨⟨⟨⟨⟨⟨⟨⟨⟨⟨⟨⟨⟨⟨⟨⟨⟨⟨⟨rfl, h2⟩, h3⟩, h4⟩, h5⟩, rfl⟩, h7⟩, rfl⟩, rfl⟩, rfl⟩, rfl⟩, rfl⟩, rfl⟩, rfl⟩, rfl⟩, rfl⟩, h17⟩, h18⟩, h19⟩, h20⟩, h21⟩, h22⟩, h23⟩, h24⟩, h25⟩, h26⟩, h27⟩ := h
    have nd : X.N.Nodup := by rw [hN]; decide
    have lm : (Loc X.env.scope "matching") := loc_of hsc h20
    have S1 : PS X (.Assign [.Name "matching" p1] (.List as p2) p3) (fun D σ H => ∃ i a oe, σ = [some (.ref a), none, none, none, none] ∧ IsX cs X.A H i a oe ∧ ∀ σ' H', NS cs X.A H i a oe ([0, 1, 2].map (isOne i)) false σ' H' → D.nx σ' H') := by
      refine ps_imp (ps_set (i := 1) nd (by rw [hN]; rfl) lm (pe_lst (pa_isB T hN hsc hi _ as h2)) (swaps_no rfl) (.inr (by rw [hsc]; exact of_decide_eq_true h20))) fun D σ H h => ?_
      obtain ⟨i, a, oe, rfl, hx, q⟩ := h
      exact ⟨a, oe, i, rfl, hx, sizeL _ (by rw [List.length_map]; decide), fun l hl => q _ _ ⟨rfl, rfl, hx.upd hl, fun b o e => (upd_ne (ne_of_none e hl)).trans e, ⟨l, rfl, upd_same⟩, fun z => nomatch z⟩⟩
    have S5 : PS X (.Assign [.Name "words" p4] (.List ws p5) p6) (fun D σ H => ∃ H0 i a oe bs, NS cs X.A H0 i a oe bs false σ H ∧ ∀ σ' H', NS cs X.A H0 i a oe bs true σ' H' → D.nx σ' H') := by
      refine ps_imp (ps_set (i := 2) nd (by rw [hN]; rfl) (loc_of hsc h21) (pe_lst (pa_strB _ ws h7)) (swaps_no rfl) (.inr (by rw [hsc]; exact of_decide_eq_true h21))) fun D σ H h => ?_
      obtain ⟨H0, i, a, oe, bs, ns, q⟩ := h
      obtain ⟨pm, m1, m2⟩ := ns.m
      refine ⟨sizeL _ (by decide), fun l hl => q _ _ ⟨by rw [List.length_set]; exact ns.len, by rw [List.getElem?_set_ne (by decide)]; exact ns.e, ns.x.upd hl, fun b o e => ?_, ⟨pm, by rw [List.getElem?_set_ne (by decide)]; exact m1, (upd_ne (ne_of_none m2 hl)).trans m2⟩, fun _ => ⟨l, List.getElem?_set_self (by rw [ns.len]; decide), upd_same⟩⟩⟩
      have e1 := ns.k b o e
      exact (upd_ne (ne_of_none e1 hl)).trans e1
    have S6 : PS X (.Return (some (.Call (.Attribute (.Constant (.str "") k1 p7) "join" apos) [.ListComp (.Name "word" p8) [⟨.Tuple [.Name "word" p9, .Name "good" p10] k2 p11, .Call (.Name "zip" p12) [.Name "words" p13, .Name "matching" p14] [] p15, [.Name "good" p16], 0⟩] scope p17] [] pos)) p18)
        (fun D σ H => ∃ H0 i a oe, NS cs X.A H0 i a oe ((List.range' 0 12).map (isOne i)) true σ H ∧ i < 11 ∧ ∀ H', (∀ b o, H0 b = some o → H' b = some o) → D.rt (.str (xcWord i)) H') := by
      refine ps_imp (ps_ret (pe_join pe_str (nm_compI (cs := cs) hN hsc hz h17 h19 h22 h23 h24 h25 h26 h27) rfl rfl (by rw [h18]; exact beq_self_eq_true _))) fun D σ H h => ?_
      obtain ⟨H0, i, a, oe, ns, hi11, q⟩ := h
      refine ⟨⟨"", rfl⟩, ⟨H0, i, a, oe, (List.range' 0 12).map (isOne i), by rw [List.length_map, List.length_range'], ns, fun D' H' hk hd => ?_⟩⟩
      have ef := filt_zip i xcAllW 0
      have e12 : xcAllW.length = 12 := rfl
      rw [e12] at ef
      rw [ef] at hd
      refine ⟨"", D', xcWs i, rfl, rfl, .inl (.inl (.inl hd)), ?_, q H' hk⟩
      have : ∀ j : Fin 11, ((xcWs j).map (·.length)).sum + (xcWs j).length * ("" : Str).length ≤ 16777216 := by decide +kernel
      exact this ⟨i, hi11⟩
    refine pss_imp (pss_cons S1 (pss_cons (nm_add T hN hsc hi h20 h22 h3 (by decide)) (pss_cons (nm_add T hN hsc hi h20 h22 h4 (by decide)) (pss_cons (nm_add T hN hsc hi h20 h22 h5 (by decide)) (pss_cons S5 (pss_one S6)))))) fun D σ H h => ?_
    obtain ⟨i, a, oe, rfl, hx, hi11, q⟩ := h
    exact ⟨i, a, oe, rfl, hx, fun σ1 H1 n1 => ⟨H, i, a, oe, _, n1, by rw [List.length_map]; decide, fun σ2 H2 n2 => ⟨H, i, a, oe, _, n2, by rw [List.length_append, List.length_map, List.length_map]; decide, fun σ3 H3 n3 => ⟨H, i, a, oe, _, n3, by rw [List.length_append, List.length_append, List.length_map, List.length_map, List.length_map]; decide, fun σ4 H4 n4 =>
      ⟨H, i, a, oe, _, n4, fun σ5 H5 n5 => ⟨H, i, a, oe, n5, hi11, q⟩⟩⟩⟩⟩⟩
  · cases h
end
end ML

set_option Elab.async false
set_option maxRecDepth 100000
set_option linter.all false
set_option maxHeartbeats 4000000
/-! ML: in an except clause: the class's name told by a def; several clauses that each name the exception. -/
namespace ML
open PySem PySem.Spec PyProof.Rows L2 HotX
/-- forgotten -/
def gone (H : Hp) (a : Addr) : Hp := fun b => if b = a then none else H b
theorem gone_same {H : Hp} {a : Addr} : gone H a a = none := if_pos rfl
theorem gone_ne {H : Hp} {a b : Addr} (h : b ≠ a) : gone H a b = H b := if_neg h
theorem hok_laidE {P : Program} {w : World} {H : Hp} {h : Heap} {a : Addr} {oe : PySem.Obj} (x : HOk P w H h) (e : h.get? a = some oe) (hn : H a = none) : HOk P w (upd H a (ExAt a oe)) h := fun b u q => by
  by_cases hb : b = a
  · rw [hb, upd_same] at q
    cases q
    rw [hb]
    exact exAt_ok e
  · rw [upd_ne hb] at q
    exact (x b u q).stay (fun c v _ q => q) (fun c q => by rw [upd_ne (ne_of_none q hn)]; exact q) fun c xs q => by rw [upd_ne (ne_of_none q hn)]; exact q
theorem hok_gone {P : Program} {w : World} {H : Hp} {h : Heap} {a : Addr} {oe : PySem.Obj} (x : HOk P w H h) (ha : H a = some (ExAt a oe)) : HOk P w (gone H a) h := fun b u q => by
  by_cases hb : b = a
  · rw [hb, gone_same] at q
    cases q
  · rw [gone_ne hb] at q
    refine (x b u q).stay (fun c v _ q => q) (fun c q => ?_) fun c xs q => ?_
    · rw [gone_ne (fun z => by rw [z, ha] at q; cases q)]
      exact q
    · rw [gone_ne (fun z => by rw [z, ha] at q; cases q)]
      exact q
section
variable {X : Cx} {cs : List Addr} {qe : Addr}
/-- what a handled exception's object is -/
structure ExO1 (cs : List Addr) (H : Hp) (i : Nat) (oe : PySem.Obj) : Prop where
  cls : ∃ C, cs[i]? = some C ∧ oe.cls = .ref C
  dict : DictOk H oe
  ctx : ∃ vs : Array Value, oe.data = .fields vs ∧ vs[2]? = some .none
def spNm (cs : List Addr) : SpH := fun A vs H Q => ∃ a oe i, vs = [.ref a] ∧ IsX cs A H i a oe ∧ i < 11 ∧ ∀ H', (∀ b o, H b = some o → H' b = some o) → Q (.str (xcWord i)) H'
/-- name_of(e) in the clause that handles e -/
theorem pe_name {f : Addr} {fd : FuncData} {x y : Str} {p p2 pos : Pos} {k : Nat} {a : Addr} {oe : PySem.Obj} {pn : List (Addr × PySem.Obj)} (F : FnHot X.prog X.w X.K X.mg X.base f fd ["e"] (spNm cs)) (hb : Binds X.K fd ["e"] []) (hr : X.A.depth < recursionLimit) (hbase : X.base.get? a = none)
    (hg : Gl X x) (hm : X.mg x = some (.ref f)) (hk : PySem.W.keepIn X.K (.ref f) = true) (hN : X.N[k]? = some y) (hv : Vis X.env.scope y)
    (hdb : (x == ("__debug__" : Str)) = false := by decide) (hd : (y == ("__debug__" : Str)) = false := by decide) (hcd : (y == ("__classdict__" : Str)) = false := by decide) :
    PE (X.suite a ((a, oe) :: pn)) (.Call (.Name x p) [.Name y p2] [] pos) (fun σ H Q => σ[k]? = some (some (.ref a)) ∧ (∃ i, ExO1 cs H i oe ∧ i < 11 ∧ ∀ H', (∀ b o, H b = some o → H' b = some o) → H' a = none → Q (.str (xcWord i)) H')) := by
  refine ⟨fun pins s σ H Q I h => ?_⟩
  obtain ⟨hs, i, ho, hi, q⟩ := h
  refine wpAny_Call_Name_kw (ld_glob (X := X.suite a ((a, oe) :: pn)) I hg hm ?_ hdb)
  have ha : PA (X.suite a ((a, oe) :: pn)) [.Name y p2] (tCons (fun σ H Q => ∃ v, σ[k]? = some (some v) ∧ Q v H) tNil) := pa_cons (pe_var (i := k) hN hv hd hcd) pa_nil
  refine PySem.W.callWith_K (h₀ := X.base) I.ok.mod.kin hk (thn (ha.run pos pins s σ H (fun vs H1 => vs = [V.ref a] ∧ H1 = H) I ⟨.ref a, hs, rfl, rfl⟩) fun us s1 ⟨vs, H1, I1, r, ev, eH⟩ => ⟨I1.kIn, ?_⟩)
  subst ev
  subst eH
  have P1 := I1.pin (a, oe) (List.mem_append_left _ List.mem_cons_self)
  have e0 : Env0 X.prog X.w X.K X.mg X.base (X.suite a ((a, oe) :: pn)).A X.stack s1 H1 := I1.env0
  have e1 : Env0 X.prog X.w X.K X.mg X.base (X.suite a ((a, oe) :: pn)).A X.stack s1 (upd H1 a (ExAt a oe)) := { e0 with
    hok := hok_laidE e0.hok P1.1 P1.2.1
    bs := fun b o e => ⟨(e0.bs b o e).1, (upd_ne fun z => by rw [z, hbase] at e; cases e).trans (e0.bs b o e).2⟩
    frf := fun b hb => (upd_ne fun z => by
      rw [z] at hb
      exact (List.mem_cons.mp (I1.stkSub a hb)).elim P1.2.2.1 P1.2.2.2.1).trans (e0.frf b hb) }
  have hlen : us.length = 1 := by rw [← r.length]; rfl
  have b := hb s1 us I1.kIn (by rw [List.append_nil]; exact hlen)
  rw [List.append_nil] at b
  have hx : IsX cs (X.suite a ((a, oe) :: pn)).A (upd H1 a (ExAt a oe)) i a oe := ⟨⟨rfl, upd_same, ho.ctx⟩, ho.cls, ho.dict.upd P1.2.1⟩
  have rn := F.run (X.suite a ((a, oe) :: pn)).A X.stack s1 (upd H1 a (ExAt a oe)) ⟨us, []⟩ us [.ref a] (fun v H2 => v = .str (xcWord i) ∧ ∀ b o, upd H1 a (ExAt a oe) b = some o → H2 b = some o) hr e1 b r rfl ⟨a, oe, i, rfl, hx, hi, fun H' hk => ⟨rfl, hk⟩⟩
  refine wpAny_call (codeAny_mono rn fun r' s' hq => ?_)
  cases r' with
  | error e => exact (show False from hq).elim
  | ok fl =>
    cases fl with
    | ret u =>
      obtain ⟨v, H2, os, bare, un, hok, rv, rfl, hkeep⟩ := hq
      have a2 : H2 a = some (ExAt a oe) := hkeep a _ upd_same
      refine I1.after ⟨.str (xcWord i), gone H2 a, os, bare, ⟨fun b o e n hb hx => ?_, fun b o e n hb hx => ?_, fun b o e n hx => ?_, fun b o e hx => un.there b o e hx, fun b xs e => ?_, fun b o u e => ?_, fun b ps e => ?_⟩, hok_gone hok a2, rv, q _ (fun b o e => ?_) gone_same⟩
      · by_cases z : b = a
        · rw [z] at e ⊢
          rw [P1.1] at e
          cases e
          exact exAt_get hok a2
        · exact un.keep b o e ((upd_ne z).trans n) hb hx
      · by_cases z : b = a
        · rw [z] at e ⊢
          rw [P1.1] at e
          cases e
          exact ⟨oe.slots, by rw [exAt_get hok a2]⟩
        · exact un.slot b o e ((upd_ne z).trans n) hb hx
      · by_cases z : b = a
        · rw [z, gone_same]
        · rw [gone_ne z]
          exact un.free b o e ((upd_ne z).trans n) hx
      · have z := ne_of_none e P1.2.1
        rw [gone_ne z]
        exact un.tups b xs ((upd_ne z).trans e)
      · have z := ne_of_none e P1.2.1
        rw [gone_ne z]
        exact un.frzs b o u ((upd_ne z).trans e)
      · have z := ne_of_none e P1.2.1
        rw [gone_ne z]
        exact un.tbls b ps ((upd_ne z).trans e)
      · have z := ne_of_none e P1.2.1
        rw [gone_ne z]
        exact hkeep b o ((upd_ne z).trans e)
    | next => exact False.elim hq
    | brk => exact False.elim hq
    | cont => exact False.elim hq
end
end ML

set_option Elab.async false
set_option maxRecDepth 100000
set_option linter.all false
set_option maxHeartbeats 4000000
/-! ML: several except clauses that each name the exception. -/
namespace ML
open PySem PySem.Spec PyProof.Rows L2 HotX
/-- the ends of a suite whose name goes -/
def dropE (i : Nat) (D : Ends) : Ends := { nx := fun σ H => D.nx (σ.set i none) H, rt := D.rt, bk := fun σ H => D.bk (σ.set i none) H, ct := fun σ H => D.ct (σ.set i none) H }
def wCls (K : PySem.W.Frag) (D : Ends) : List (Value × Nat × (Addr → Value → Option Addr → TS)) → WX
  | [] => fun _ _ _ _ => False
  | (c, i, ts) :: r => fun cls d σ H => ∃ b, PySem.W.exmOne K cls c = some b ∧ (b = true → ∀ a, H a = none → ts a cls d (dropE i D) (σ.set i (some (.ref a))) H) ∧ (b = false → wCls K D r cls d σ H)
inductive ClsOk (X : Cx) : List ExceptHandler → List (Value × Nat × (Addr → Value → Option Addr → TS)) → Prop
  | nil : ClsOk X [] []
  | cons {x n : Str} {c : Value} {i : Nat} {ts : Addr → Value → Option Addr → TS} {b₀ : Stmt} {suite : List Stmt} {np pos' : Pos} {hds : List ExceptHandler} {l : List (Value × Nat × (Addr → Value → Option Addr → TS))} (hc : L2.Names X x c) (hi : X.N[i]? = some n) (hl : X.env.kindOf n = some .local)
      (hsu : ∀ (a : Addr) (oe : PySem.Obj) (cls : Value) (d : Option Addr) (pn : List (Addr × PySem.Obj)), L2N.Zn cls d oe → (∃ vs, oe.data = .fields vs) → X.base.get? a = none → PSs (X.suite a ((a, oe) :: pn)) (b₀ :: suite) (ts a cls d)) (r : ClsOk X hds l) :
      ClsOk X (.ExceptHandler (some (.Name x np)) (some n) (b₀ :: suite) pos' :: hds) ((c, i, ts) :: l)
section
variable {X : Cx} {body : List Stmt} {h₀ : ExceptHandler} {hds : List ExceptHandler} {l : List (Value × Nat × (Addr → Value → Option Addr → TS))} {pos : Pos} {tb : WX → TS}
theorem ps_try_cls (hs : X.stack = X.env :: X.outer) (hf : X.env.frame = some X.env.locals) (hN : X.N.Nodup) (hex : X.ex = [])
    (hb : ∀ (W : WX) (pn : List (Addr × PySem.Obj)) (xe : Value → Shared → Prop), L2N.Takes (X.tr pn xe) W → PassesOwn (model X.prog X.w) X.A X.env xe → PSs (X.tr pn xe) body (tb W))
    (hh : ClsOk X (h₀ :: hds) l) : PS X (.Try body (h₀ :: hds) [] [] pos) (fun D σ H => tb (wCls X.K D l) D σ H) := by
  refine ⟨fun pins s σ H D I h => ?_⟩
  have ok := I.ok
  have hfr : X.A.frames = some (X.env :: X.outer) := by rw [ok.frames, hs]
  refine wpAny_Try_except ?_
  refine wpAny_mono ((hb (wCls X.K D l) (X.pn ++ pins) (fun e s₁ => wpAny (model X.prog X.w) X.A (noteFrame e X.env) (fun _ s₂ => wpAny (model X.prog X.w) X.A (setFlight e none) (fun _ s₃ =>
    wpAny (model X.prog X.w) X.A (handleBy e X.env (h₀ :: hds)) (SP X pins D) X.xe s₃) X.xe s₂) X.xe s₁) (fun u s' xx => ?_) PassesOwn.looking).run [] s σ H D (I.toTry _) h) (fun f s1 hsp => ?_) (fun e s1 he => he)
  · obtain ⟨a, B, sI, pins', σ', H', cls, d, rfl, J', nb, up, sky, na, os, ag, w⟩ := xx
    have J : L2.Inv X pins σ' H' sI := J'.ofTry ok
    have sky' : Sky B (X.env :: X.outer) a (L2N.Zn cls d) X.env.locals s'.heap := by rw [← hs]; exact sky
    show wpAny (model X.prog X.w) X.A (noteFrame (.ref a) X.env) _ _ _
    refine L2N.Sky.land L2N.Zn.steady hfr hf sky' fun h3 fl3 up3 => ?_
    have J3 : L2.Inv X pins σ' H' { s' with heap := h3 } := J.landed nb fl3.1 (up.trans up3) os ag
    obtain ⟨oe3, vs3, he3, hz3, hd3⟩ := fl3.there
    have notFr : ∀ {h : Heap} {o : PySem.Obj} {vs : Array Value}, h.FunFrames B (X.env :: X.outer) → h.get? a = some o → o.data = .fields vs → a ∉ frs (X.env :: X.outer) := fun {h o vs} ff e dd hm => by
      obtain ⟨_, o', e', hnf⟩ := ff.mem hm
      rw [e] at e'; cases e'
      exact hnf _ dd
    have nfr := notFr fl3.2.2.1 he3 hd3
    have nL : a ≠ X.env.locals := fun z => nfr (List.mem_filterMap.mpr ⟨X.env, List.mem_cons_self, by rw [hf, z]⟩)
    have nF : a ∉ X.fs := fun hm => by
      obtain ⟨e, he, q⟩ := List.mem_filterMap.mp hm
      exact nfr (List.mem_filterMap.mpr ⟨e, List.mem_cons_of_mem _ he, q⟩)
    have hbase : X.base.get? a = none := by
      cases e : X.base.get? a with
      | none => rfl
      | some o =>
        obtain ⟨e1, _⟩ := ok.bs a o e
        obtain ⟨o2, e2⟩ := J.base.there a o e1 (by rw [hex]; exact fun z => nomatch z)
        have e3 := nb a o2 e2 (by rw [hs]; exact nfr)
        have e4 : B.get? a = none := fl3.2.1
        rw [e4] at e3
        cases e3
    have S3 := J3.suite he3 hd3 na nL nF
    have go : ∀ {hds' : List ExceptHandler} {l' : List (Value × Nat × (Addr → Value → Option Addr → TS))}, ClsOk X hds' l' → wCls X.K D l' cls d σ' H' →
        wpAny (model X.prog X.w) X.A (handleBy (.ref a) X.env hds') (SP X pins D) X.xe { s' with heap := h3 } := by
      intro hds' l' hk
      induction hk with
      | nil => exact fun w => w.elim
      | @cons x n c i ts b₀ suite np pos' hds2 l2 hc hi hln hsu r ih =>
        intro w
        obtain ⟨b, hb1, hyes, hno⟩ := w
        have hloc : Loc X.env.scope n := .inl hln
        refine wpAny_handleBy_cons (codeAny_handlers_test ?_) (by intro q; cases q)
        have LT : PySem.W.Looks (model X.prog X.w) h3 (typeOf (.ref a)) cls := fun A Q E s k q => wpAny_typeOf_ref (k _ _ he3) (by rw [hz3.1]; exact q)
        have LM := PySem.W.exm_one (M := model X.prog X.w) (J3.kIn) LT hb1
        have test : ∀ {Q : Value → Shared → Prop} {E : Value → Shared → Prop}, Q c { s' with heap := h3 } → wpAny (model X.prog X.w) (X.A.mark (some (.ref a))) (eval (.Name x np) X.env) Q E { s' with heap := h3 } := fun {Q E} q => by
          obtain ⟨hg, hdbg, hm | ⟨hm, hv, hnn⟩⟩ := hc
          · exact ld_glob (X := X.suite a ((a, oe3) :: (X.pn ++ pins))) S3 hg hm q hdbg
          · exact ld_blt (X := X.suite a ((a, oe3) :: (X.pn ++ pins))) S3 hg hm hv q hnn hdbg
        refine test (LM.here ?_)
        cases b with
        | true =>
          refine codeAny_handlers_suite_as ?_
          refine HandSPX.lands_againZ fl3 fun h4 fl4 up4 => ?_
          have J4 : L2.Inv X pins σ' H' { s' with heap := h4 } := J.landed nb fl4.1 ((up.trans up3).trans up4) os ag
          obtain ⟨oe4, vs4, he4, hz4, hd4⟩ := fl4.there
          have S4 := J4.suite he4 hd4 na nL nF
          refine store_ok (X := X.suite a ((a, oe4) :: (X.pn ++ pins))) (v := .ref a) S4 hN hi hloc rfl (fun s5 S5 => ?_) (.inr hln)
          refine wpAny_mono ((hsu a oe4 cls d (X.pn ++ pins) hz4 ⟨_, hd4⟩ hbase).run [] s5 _ H' _ S5 (hyes rfl a na)) (fun f s6 hsp => ?_) (fun _ _ z => False.elim z)
          have end_ : ∀ {σ6 : L2.St} {H6 : Hp} {Q : Shared → Prop}, L2.Inv (X.suite a ((a, oe4) :: (X.pn ++ pins))) [] σ6 H6 s6 → (∀ s7, L2.Inv X pins (σ6.set i none) H6 s7 → Q s7) →
              wpAny (model X.prog X.w) X.A (do bindName X.env n .none; unbindBehindTheSuite X.env n pos') (fun _ s7 => Q s7) X.xe s6 := fun {σ6 H6 Q} S6 hq => gone_ok (S6.unsuite ok) hN hi hln hq
          cases f with
          | next =>
            obtain ⟨σ6, H6, S6, q6⟩ := hsp
            exact end_ S6 fun s7 J7 => ⟨_, _, J7, q6⟩
          | brk =>
            obtain ⟨σ6, H6, S6, q6⟩ := hsp
            exact end_ S6 fun s7 J7 => ⟨_, _, J7, q6⟩
          | cont =>
            obtain ⟨σ6, H6, S6, q6⟩ := hsp
            exact end_ S6 fun s7 J7 => ⟨_, _, J7, q6⟩
          | ret u =>
            obtain ⟨v6, σ6, H6, S6, r6, q6⟩ := hsp
            exact end_ S6 fun s7 J7 => ⟨_, _, _, J7, r6, q6⟩
        | false =>
          show wpAny _ X.A (handleBy (.ref a) X.env hds2) _ _ _
          exact ih (hno rfl)
    exact go hh w
  · cases f with
    | next =>
      obtain ⟨σ', H', J', q⟩ := hsp
      exact wpAny_execs_nil ⟨σ', H', J'.ofTry ok, q⟩
    | brk =>
      obtain ⟨σ', H', J', q⟩ := hsp
      exact ⟨σ', H', J'.ofTry ok, q⟩
    | cont =>
      obtain ⟨σ', H', J', q⟩ := hsp
      exact ⟨σ', H', J'.ofTry ok, q⟩
    | ret u =>
      obtain ⟨v, σ', H', J', r, q⟩ := hsp
      exact ⟨v, σ', H', J'.ofTry ok, r, q⟩
end
end ML

set_option Elab.async false
set_option maxRecDepth 100000
set_option linter.all false
set_option maxHeartbeats 4000000
/-! ML: a lambda without parameters handed to a def; what it raises has no context. -/
namespace ML
open PySem PySem.Spec PyProof.Rows L2 HotX LamX
section
variable {X : Cx} {pins : List (Addr × PySem.Obj)} {σ : L2.St} {H : Hp} {s : Shared}
theorem lam_makeN {T : List (Addr × Str)} {c P : Addr} {params : Arguments} {body : Expr} {scope : Scope} {pos : Pos} {E : Value → Shared → Prop} {Q : Value → Shared → Prop} (I : L2.Inv X pins σ H s) (TB : TabB X.base X.mg c P) (hcode : X.env.code = .ref c)
    (hm : (P, X.env.qual ++ "<lambda>") ∈ T) (hu : ∀ p ∈ T, p.1 = P → p.2 = X.env.qual ++ "<lambda>") (hT : Tabs T H) (hdef : defaultsOf params X.env = ([], [])) (hfree : ∀ y ∈ scope.names, y.2 = .free → ∃ c, X.env.cells.lookup y.1 = some c)
    (h : ∀ (f c' : Addr) (pm ctv : Value) (H1 : Hp) (s' : Shared), L2.Inv X pins σ H1 s' → ExtT H H1 → Tabs T H1 →
      s'.heap.get? f = some (PySem.W.kla_obj "<lambda>" (X.env.qual ++ "<lambda>") params body scope (cloFrom X.env.cells scope.names []) pm c' ctv) → H1 f = none → f ∉ frs X.stack → H1 c' = some (CodeO c' (X.env.qual ++ "<lambda>")) → Q (.ref f) s') :
    wpAny (model X.prog X.w) X.A (eval (.Lambda params body scope pos) X.env) Q E s := by
  obtain ⟨ps, hP, ht, ha⟩ := hT _ hm
  refine PySem.W.kla_eval hdef ?_
  have bP : s.heap.BuiltinsAt X.mg P := TB.bm.keeps I.bk
  have hP' : s.heap.get? P = some { cls := .none, data := .fields ps } := I.hok P _ hP
  have nofr : ∀ f, s.heap.objs.size ≤ f → f ∉ frs X.stack := fun f hf z => by
    rcases List.mem_cons.mp (I.stkSub _ z) with e | e
    · have h1 := I.lt
      rw [← e] at h1
      exact Nat.lt_irrefl _ (Nat.lt_of_lt_of_le h1 hf)
    · exact I.nofs hf e
  cases hc : codeAmong pos ps.toList with
  | none =>
    refine PySem.W.kla_makeFunction (mg := X.mg) (c := c) (P := P) (ps := ps) (closure_ok hfree) I.ok.glob (I.mod.glob.keeps I.bk) hcode (TB.code.keeps I.bk) hP' ht hc TB.gP bP fun c' ctv h' tk hx hge hlt hrec htb => ?_
    obtain ⟨c2, oc, vs, t, e2, hoc, hd, hv⟩ := hrec
    cases e2
    have hsz : s.heap.objs.size ≤ h'.objs.size := Nat.le_trans hge (Nat.le_of_lt hlt)
    have nC : H c' = none := I.hok.fresh hge
    have I1 := inv_table (t' := tk) (more := #[rawInt pos.line, rawInt pos.col, .ref c']) (h' := h'.push (PySem.W.kla_obj "<lambda>" (X.env.qual ++ "<lambda>") params body scope (cloFrom X.env.cells scope.names []) ((X.mg "__name__").getD .none) c' ctv)) I hP
      (fun b o hb e => Heap.get?_push_of_some _ (hx b o hb e)) (Heap.get?_push_of_some _ htb) hge ⟨oc, vs, t, Heap.get?_push_of_some _ hoc, hd, hv⟩
    have hE : ExtN H (upd (upd H P (.tbl (ps ++ #[rawInt pos.line, rawInt pos.col, .ref c']))) c' (CodeO c' (X.env.qual ++ "<lambda>"))) := fun b o e n => by
      rw [upd_ne (ne_of_none e nC), upd_ne (fun z => n ps (Option.some.inj (e.symm.trans (by rw [z]; exact hP))))]
      exact e
    have hth : ∀ b, upd (upd H P (.tbl (ps ++ #[rawInt pos.line, rawInt pos.col, .ref c']))) c' (CodeO c' (X.env.qual ++ "<lambda>")) b = none → H b = none := fun b e => by
      by_cases hb : b = c'
      · rw [hb]
        exact nC
      · rw [upd_ne hb] at e
        by_cases hb2 : b = P
        · rw [hb2, upd_same] at e
          cases e
        · rw [upd_ne hb2] at e
          exact e
    have eL : (ps ++ #[rawInt pos.line, rawInt pos.col, .ref c']).toList = ps.toList ++ [rawInt pos.line, rawInt pos.col, .ref c'] := by simp
    refine h h'.objs.size c' ((X.mg "__name__").getD .none) ctv _ _ I1 ⟨hE, hth⟩ (fun p hp => ?_) (Heap.get?_push_size _ rfl) ?_ (nofr _ hsz) upd_same
    · by_cases hb : p.1 = P
      · rw [hu p hp hb, hb]
        refine ⟨_, by rw [upd_ne (ne_of_none hP nC), upd_same], by rw [eL]; exact PySem.TriplesOk_snoc _ _ _ _ ht, fun p' cv hcv => ?_⟩
        rw [eL] at hcv
        rcases among_app _ ht hcv with z | z
        · obtain ⟨c0, e1, e2⟩ := ha p' cv z
          exact ⟨c0, e1, hE _ _ e2 codeO_ne⟩
        · exact ⟨c', z, upd_same⟩
      · obtain ⟨ps', a1, a2, a3⟩ := hT p hp
        refine ⟨ps', by rw [upd_ne (ne_of_none a1 nC), upd_ne hb]; exact a1, a2, fun p' cv hcv => ?_⟩
        obtain ⟨c0, e1, e2⟩ := a3 p' cv hcv
        exact ⟨c0, e1, hE _ _ e2 codeO_ne⟩
    · have n1 : h'.objs.size ≠ c' := Nat.ne_of_gt hlt
      have n2 : h'.objs.size ≠ P := Nat.ne_of_gt (Nat.lt_of_lt_of_le (Heap.lt_size hP') hsz)
      rw [upd_ne n1, upd_ne n2]
      exact I.hok.fresh hsz
  | some cv =>
    obtain ⟨c', e, hco⟩ := ha pos cv hc
    subst e
    refine PySem.W.kla_makeFunctionHit (mg := X.mg) (c := c) (P := P) (ps := ps) (closure_ok hfree) I.ok.glob (I.mod.glob.keeps I.bk) hcode (TB.code.keeps I.bk) hP' ht hc bP fun ctv h' tk hx hsz => ?_
    have I1 : L2.Inv X pins σ H { s with heap := h'.push (PySem.W.kla_obj "<lambda>" (X.env.qual ++ "<lambda>") params body scope (cloFrom X.env.cells scope.names []) ((X.mg "__name__").getD .none) c' ctv), toks := tk } := I.kept fun b o e => Heap.get?_push_of_some _ (hx b o e)
    exact h h'.objs.size c' ((X.mg "__name__").getD .none) ctv H _ I1 ⟨ExtN.refl H, fun _ e => e⟩ hT (Heap.get?_push_size _ rfl) (I.hok.fresh hsz) (nofr _ hsz) hco
end
section
variable {X : Cx} {pins : List (Addr × PySem.Obj)} {σ : L2.St} {H HZ : Hp} {s s1 : Shared}
theorem lam_startN {A : Around} {outer : List PySem.Env} {E : XK} {scope : Scope} {f c' : Addr} {h₁ : Heap} {tk : Nat} (I : L2.Inv X pins σ H s) (L : LamS X.env.scope scope) (e0 : Env0 X.prog X.w X.K X.mg X.base A outer s1 HZ) (hd : A.handled = none)
    (un : Un (frs X.stack) [] H HZ s.heap s1.heap) (hns : h₁.Ns s1.heap.objs.size fun y => ([] : List (Str × Value)).reverse.lookup y) (kp : ∀ b o, s1.heap.get? b = some o → h₁.get? b = some o) :
    L2.Inv (lamN X A outer s1 HZ E scope f c') [] σ HZ { s1 with heap := h₁, toks := tk } := by
  obtain ⟨ok, h1, h2, h3, h4, h5, h6, h7, h8, h9, h10⟩ := lam_start2 (E := E) (f := f) (c' := c') (tk := tk) I L e0 hd un hns kp
  exact ⟨⟨ok.mod, ok.kind, ok.glob, ok.blt, ok.above, ok.inj, ok.has, ok.cab, ok.hd, ok.frames, ok.stk, ok.exf, ok.bs, ok.bsz, ok.noex, ok.exfs, ok.funs, ok.frf⟩, h1, h2, h3, h4, h5, h6, h7, h8, h9, h10⟩
/-- x(), in the def that got the lambda -/
theorem pe_actN {CXg : CXT} {Eg : XK} {Ng : List Str} {qg : Str} {sg : Scope} {g f c' : Addr} {cdg pm ctv : Value} {params : Arguments} {body : Expr} {scope : Scope} {k i : Nat} {a : Str} {pn : List (Addr × PySem.Obj)} {xe : Value → Shared → Prop} {W : WX} {E : XK} {tb : TE} {p1 p2 : Pos}
    (I : L2.Inv X pins σ H s) (L : LamS X.env.scope scope) (hf : s.heap.get? f = some (PySem.W.kla_obj "<lambda>" (X.env.qual ++ "<lambda>") params body scope (cloFrom X.env.cells scope.names []) pm c' ctv)) (hfn : H f = none) (hfr : f ∉ frs X.stack)
    (hbind : bindArgs (PySem.W.kla_fn "<lambda>" (X.env.qual ++ "<lambda>") params body scope (cloFrom X.env.cells scope.names []) pm (.ref c') ctv) ⟨[], []⟩ = pure [])
    (tk : L2N.Takes ((cxOf CXg X.prog X.w X.K X.mg X.base Ng qg sg g cdg X.A X.stack s H Eg).tr pn xe) W) (hW : ∀ cls d σ' H', E cls d H' → W cls d σ' H') (hr : Room (k + 1) (X.A.deeper (envOfC qg sg s.heap.objs.size g cdg)))
    (hbody : ∀ (A : Around) (outer : List PySem.Env) (s : Shared) (H : Hp), Room k (A.deeper (lamEnv X scope s.heap.objs.size f c')) → PE (lamN X A outer s H E scope f c') body tb)
    (hN : Ng[i]? = some a) (hv : Vis sg a) (hd : (a == ("__debug__" : Str)) = false) (hcd : (a == ("__classdict__" : Str)) = false) :
    PE ((cxOf CXg X.prog X.w X.K X.mg X.base Ng qg sg g cdg X.A X.stack s H Eg).tr pn xe) (.Call (.Name a p1) [] [] p2)
      (fun σZ HZ Q => σZ[i]? = some (some (.ref f)) ∧ HZ c' = some (CodeO c' (X.env.qual ++ "<lambda>")) ∧ tb σ HZ Q) := by
  refine ⟨fun pinsZ sZ σZ HZ Q IZ h => ?_⟩
  obtain ⟨hs, hc, ht⟩ := h
  refine wpAny_Call_Name_kw (thn ((pe_var (pos := p1) (i := i) hN hv hd hcd).run pinsZ sZ σZ HZ (fun v H1 => v = .ref f ∧ H1 = HZ) IZ ⟨.ref f, hs, rfl, rfl⟩) fun u s1 ⟨v, H1, I1, r1, q1⟩ => ?_)
  obtain ⟨ev, eH⟩ := q1
  subst ev
  rw [eH] at I1
  obtain rfl : u = Value.ref f := r1
  have of1 : s1.heap.get? f = some (PySem.W.kla_obj "<lambda>" (X.env.qual ++ "<lambda>") params body scope (cloFrom X.env.cells scope.names []) pm c' ctv) := I1.base.keep f _ hf hfn hfr (fun z => nomatch (show f ∈ ([] : List Addr) from z))
  refine PySem.W.callWith_F0 ⟨_, _, _, _, of1⟩ ?_
  have un : Un (frs X.stack) [] H HZ s.heap s1.heap := I1.base
  obtain ⟨⟨oc, vs, t, hoc, hdc, hvc⟩, _, _⟩ := I1.hok c' _ hc
  have rc : codeAny (model X.prog X.w) (X.A.deeper (envOfC qg sg s.heap.objs.size g cdg)) (.call (.ref f) ⟨[], []⟩) (CR (L2N.CX X.prog X.w) (envOfC qg sg s.heap.objs.size g cdg :: X.stack) X.prog X.w HZ s1 Q E) s1 := by
    refine PySem.W.kla_callFunE hr.depth of1 rfl L.co L.gen rfl ⟨c', oc, vs, t, rfl, hoc, hdc, hvc⟩ ?_
    rw [hbind]
    refine wpAny_pure (wpAny_newFunctionEnv (fun y hy => (L.own y hy).2) (fun y hy => absurd hy (by simp)) (fun h₁ hns hsb => ⟨I1.nolimit.fresh _ hsb, ?_⟩) L.kind)
    show codeAny _ _ (.expr body (lamEnv X scope s1.heap.objs.size f c')) _ _
    have kp : ∀ b o, s1.heap.get? b = some o → h₁.get? b = some o := fun b o e => hsb.extBut b o (Nat.ne_of_lt (Heap.lt_size e)) (Heap.get?_push_of_some _ e)
    have J : L2.Inv (lamN X (X.A.deeper (envOfC qg sg s.heap.objs.size g cdg)) (envOfC qg sg s.heap.objs.size g cdg :: X.stack) s1 HZ E scope f c') [] σ HZ { s1 with heap := h₁, toks := s1.toks + ([] : List (Str × Value)).length } :=
      lam_startN I L I1.env0 hr.hd un hns kp
    refine PySem.W.kla_codeExpr (wpAny_mono ((hbody _ _ s1 HZ (hr.deeper _)).run [] _ _ HZ Q J ht) (fun v s' hq => ?_) fun e s' hq => hq)
    obtain ⟨w', H', J', rv, q⟩ := hq
    exact ⟨w', H', J'.os, J'.bare, J'.base, J'.hok, rv, q⟩
  have hx : Passes (L2N.CX X.prog X.w) ((cxOf CXg X.prog X.w X.K X.mg X.base Ng qg sg g cdg X.A X.stack s H Eg).tr pn xe) E := L2N.passes_call tk hW
  refine wpAny_call (codeAny_mono rc fun r s' hq => ?_)
  cases r with
  | error e => exact hx pinsZ σZ HZ s1 e s' I1 hq
  | ok fl =>
    cases fl with
    | ret u => exact I1.after hq
    | next => exact False.elim hq
    | brk => exact False.elim hq
    | cont => exact False.elim hq
end
/-- the def that calls what it got -/
def GivesN (X : Cx) (Ng : List Str) (x : Str) (sg : Scope) (g : Addr) (cdg : Value) (bg : List Stmt) (a : Str) (q : Str) (TT : (XK → Hp → VK → Prop) → Hp → VK → Prop) : Prop :=
  ∀ (f c' : Addr) (s : Shared) (H : Hp) (Q : VK) (tl : XK → Hp → VK → Prop), Room 2 (X.A.deeper (envOfC x sg s.heap.objs.size g cdg)) → (∀ E H Q Q', (∀ v H', Q v H' → Q' v H') → tl E H Q → tl E H Q') →
    (∀ (W : WX) (pn : List (Addr × PySem.Obj)) (xe : Value → Shared → Prop) (E : XK) (p1 p2 : Pos), L2N.Takes ((cxOf C8.CX0 X.prog X.w X.K X.mg X.base Ng x sg g cdg X.A X.stack s H C8.E0).tr pn xe) W → (∀ cls d σ' H', E cls d H' → W cls d σ' H') →
      PE ((cxOf C8.CX0 X.prog X.w X.K X.mg X.base Ng x sg g cdg X.A X.stack s H C8.E0).tr pn xe) (.Call (.Name a p1) [] [] p2) (fun σZ HZ Q => σZ[0]? = some (some (.ref f)) ∧ HZ c' = some (CodeO c' q) ∧ tl E HZ Q)) →
    H c' = some (CodeO c' q) → TT tl H Q →
    ∃ t, PSs (cxOf C8.CX0 X.prog X.w X.K X.mg X.base Ng x sg g cdg X.A X.stack s H C8.E0).nox bg t ∧ t { nx := fun _ H' => Q .non H', rt := Q } (L2.start Ng [.ref f]) H
section
variable {X : Cx}
/-- x(lambda: body) -/
theorem pe_lamN {T : List (Addr × Str)} {TT : (XK → Hp → VK → Prop) → Hp → VK → Prop} {x a : Str} {g c P : Addr} {k : Nat} {pg : Arguments} {bg : List Stmt} {sg : Scope} {dV kV doc pm cdv ct oc : Value} {an od : Option Addr} {osl : Array (Option Value)} {Ng : List Str}
    {params : Arguments} {body : Expr} {scope : Scope} {t : XK → TE} {p lpos pos : Pos} (hg : Gl X x) (hm : X.mg x = some (.ref g)) (hk : PySem.W.keepIn X.K (.ref g) = true)
    (lk : X.K.lookup g = some ⟨oc, od, .func (PySem.W.fnOf x x pg bg sg dV kV doc pm an cdv ct), osl⟩) (hcg : PySem.W.codeIn X.K cdv x = true) (hb : L2.Binds X.K (PySem.W.fnOf x x pg bg sg dV kV doc pm an cdv ct) [a] []) (Sg : FnScope Ng [a] sg) (hNg : Ng[0]? = some a) (hva : Vis sg a)
    (hG : GivesN X Ng x sg g cdv bg a (X.env.qual ++ "<lambda>") TT)
    (TB : TabB X.base X.mg c P) (hcode : X.env.code = .ref c) (hmT : (P, X.env.qual ++ "<lambda>") ∈ T) (hu : ∀ p ∈ T, p.1 = P → p.2 = X.env.qual ++ "<lambda>") (hr : Room (k + 2) X.A) (hk2 : 1 ≤ k) (L : LamS X.env.scope scope) (hdef : defaultsOf params X.env = ([], []))
    (hbind : ∀ (q : Str) (cl : List (Str × Addr)) (pm cv ctv : Value), bindArgs (PySem.W.kla_fn "<lambda>" q params body scope cl pm cv ctv) ⟨[], []⟩ = pure [])
    (hmono : ∀ E σ H Q Q', (∀ v H', Q v H' → Q' v H') → t E σ H Q → t E σ H Q') (hbody : ∀ (A : Around) (outer : List PySem.Env) (s : Shared) (H : Hp) (E : XK) (f c' : Addr), Room k (A.deeper (lamEnv X scope s.heap.objs.size f c')) → PE (lamN X A outer s H E scope f c') body (t E))
    (hdb : (x == ("__debug__" : Str)) = false) (hd : (a == ("__debug__" : Str)) = false) (hcd : (a == ("__classdict__" : Str)) = false) :
    PE X (.Call (.Name x p) [.Lambda params body scope lpos] [] pos) (tLamN T TT t) := by
  refine ⟨fun pins s σ H Q I h => ?_⟩
  obtain ⟨hT, h⟩ := h
  refine wpAny_Call_Name_kw (ld_glob I hg hm ?_ hdb)
  refine PySem.W.callWith_K (h₀ := X.base) I.ok.mod.kin hk ?_ (by rfl) (by rfl)
  show wpAny _ _ (spliced ((false, eval (.Lambda params body scope lpos) X.env) :: backTo pos (starEach [] X.env))) _ _ s
  refine Calls.spliced_cons (lam_makeN I TB hcode hmT hu hT hdef (L.has I.ok) fun f c' pm' ctv H1 s' I1 eN T1 hf hfn hfr hco => ?_)
  refine Calls.spliced_nil ⟨I1.kIn, ?_⟩
  have rc : codeAny (model X.prog X.w) X.A (.call (.ref g) ⟨[.ref f], []⟩) (CR C8.CX0 X.stack X.prog X.w H1 s' Q C8.E0) s' := by
    refine run_ofS (N := Ng) (ps := [a]) (us := [.ref f]) (vs := [.ref f]) lk hcg Sg hr I1.env0 (hb s' [.ref f] I1.kIn rfl) (.cons rfl .nil) rfl fun hr' => ?_
    obtain ⟨t', ht', hq'⟩ := hG f c' s' H1 Q (fun E H' Q' => t E σ H' Q') (hr'.mono (by omega)) (fun E H Q Q' hqq => hmono E σ H Q Q' hqq) (fun W pn xe E p1 p2 tk hW => pe_actN (i := 0) I1 L hf hfn hfr (hbind _ _ _ _ _) tk hW hr' (fun A outer s H hr2 => hbody A outer s H E f c' hr2) hNg hva hd hcd) hco (h H1 eN T1)
    exact ⟨t', ht'.nox, hq'⟩
  refine wpAny_call (codeAny_mono rc fun r s2 hq => ?_)
  cases r with
  | error e => exact (show False from hq).elim
  | ok fl =>
    cases fl with
    | ret u => exact I1.after hq
    | next => exact False.elim hq
    | brk => exact False.elim hq
    | cont => exact False.elim hq
end
end ML

set_option Elab.async false
set_option maxRecDepth 100000
set_option linter.all false
set_option maxHeartbeats 4000000
/-! ML: a lambda with one parameter, nothing captured: made, and running. -/
namespace ML
open PySem PySem.Spec PyProof.Rows L2 LamX
theorem clo_nil {cells : List (Str × Addr)} : ∀ (names : List (Str × NameKind)) (acc : List (Str × Addr)), (∀ y ∈ names, y.2 ≠ .free) → cloFrom cells names acc = acc
  | [], _, _ => rfl
  | (n, k) :: r, acc, h => by
    have h1 : (k == NameKind.free) = false := by
      rw [beq_eq_false_iff_ne]
      exact h (n, k) List.mem_cons_self
    rw [cloFrom, h1, if_neg Bool.false_ne_true]
    exact clo_nil r acc fun y hy => h y (List.mem_cons_of_mem _ hy)
theorem lam_binds {W : LamW} {pm cdv ct : Value} : ∀ (us : List Value), us.length = 1 → bindArgs (PySem.W.kla_fn "<lambda>" lamQ W.params W.body W.scope [] pm cdv ct) ⟨us, []⟩ = pure ([W.x].zip us)
  | [u], _ => by
    have hl : List.lookup W.x [(W.x, u)] = some u := by simp [List.lookup]
    have hs : seqItems? (Value.none) = pure none := rfl
    unfold bindArgs
    simp [hl, hs]
/-- THE RULE: a lambda by its body -/
theorem lamF_of {CX : CXT} {P : Program} {w : World} {K : PySem.W.Frag} {mg : Str → Option Value} {base : Heap} {k : Nat} {W : LamW} {sp : Sp} (S : FnScope [W.x] [W.x] W.scope) (len : ∀ vs H Q E, sp vs H Q E → vs.length = 1)
    (hbody : ∀ (a c' : Addr) (A : Around) (outer : List PySem.Env) (s : Shared) (H : Hp) (vs : List V) (Q : VK) (E : XK), Room k (A.deeper (envOfC lamQ W.scope s.heap.objs.size a (.ref c'))) → sp vs H Q E →
      ∃ t, PE (cxOf CX P w K mg base [W.x] lamQ W.scope a (.ref c') A outer s H E) W.body t ∧ t (L2.start [W.x] vs) H Q) : LamFn P w K mg base CX (k + 1) W sp := by
  refine ⟨len, fun a c' A outer s H us vs Q E hr e0 ha hc r hsp => ?_⟩
  have hl := len _ _ _ _ hsp
  have lim : s.heap.NoLimit := e0.mod.nolimit.keeps fun b o e => (e0.bs b o e).1
  obtain ⟨⟨od, sl, pm, ctv, ho⟩, _, _⟩ := e0.hok a _ ha
  have hkind : ∀ y ∈ [W.x].zip us, W.scope.names.lookup y.1 = some .local ∨ (W.scope.names.lookup y.1 = some .cell ∧ ((cellsFrom (s.heap.objs.size + 1) W.scope.names []).lookup y.1).isSome = true) := fun ⟨n, v⟩ hy => by
    rcases S.par n (List.of_mem_zip hy).1 with q | q
    · exact .inl q
    · exact .inr ⟨q, PySem.W.cellsFrom_some _ _ _ (.inl q)⟩
  refine PySem.W.kla_callFunE hr.depth ho rfl S.co S.gen rfl (NdefX.codeO_at e0.hok hc) ?_
  rw [lam_binds us (by rw [← r.length]; exact hl)]
  refine wpAny_pure ?_
  refine wpAny_newFunctionEnv_cells S.kind hkind fun env he s1 x => ?_
  subst he
  refine ⟨lim.keeps x.toInCall.keep, ?_⟩
  obtain ⟨t, ht, hq⟩ := hbody a c' A outer s H vs Q E (hr.deeper _) hsp
  have I : L2.Inv (cxOf CX P w K mg base [W.x] lamQ W.scope a (.ref c') A outer s H E) [] (L2.start [W.x] vs) H s1 := inv_start S hr.hd e0 hl r x
  refine PySem.W.kla_codeExpr (wpAny_mono (ht.run [] s1 (L2.start [W.x] vs) H Q I hq) (fun u s' hq => ?_) fun e s' hs => hs)
  obtain ⟨v, H', J, rv, q⟩ := hq
  exact ⟨v, H', J.os, J.bare, J.base, J.hok, rv, q⟩
section
variable {X : Cx} {pins : List (Addr × PySem.Obj)} {σ : L2.St} {H : Hp} {s : Shared}
theorem inv_lam {W : LamW} {c' : Addr} {o : PySem.Obj} {t' : Nat} {pm ctv : Value} (I : L2.Inv X pins σ H s) (ho : o = PySem.W.kla_obj "<lambda>" lamQ W.params W.body W.scope [] pm c' ctv) :
    L2.Inv X pins σ (upd H s.heap.objs.size (LamO s.heap.objs.size W c')) { s with heap := s.heap.push o, toks := t' } := by
  subst ho
  refine I.laid (a := s.heap.objs.size) (fun b u e => Heap.get?_push_of_some _ e) (Nat.le_refl _) ?_
  have e : (s.heap.push (PySem.W.kla_obj "<lambda>" lamQ W.params W.body W.scope [] pm c' ctv)).get? s.heap.objs.size = some (PySem.W.kla_obj "<lambda>" lamQ W.params W.body W.scope [] pm c' ctv) := Heap.get?_push_size _ rfl
  exact ⟨⟨_, _, pm, ctv, e⟩, ⟨_, e⟩, fun h1 h2 ⟨od, sl, p, t, z⟩ st => ⟨od, sl, p, t, st _ z⟩⟩
end
/-- it is made -/
theorem lamMk_ok {FA : Gv} {X : Cx} {c P : Addr} {W : LamW} (TB : TabB X.base X.mg c P) (hcode : X.env.code = .ref c) (hq : X.env.qual ++ "<lambda>" = lamQ) (hT : FA.tab = [(P, lamQ)]) (hfree : ∀ y ∈ W.scope.names, y.2 ≠ .free) : LamMk FA X W := by
  intro lpos
  refine ⟨fun pins s σ H Q I h => ?_⟩
  obtain ⟨hT0, h⟩ := h
  have hT1 := hT0
  rw [hT] at hT1
  obtain ⟨ps, hP, ht, ha⟩ := hT1 (P, lamQ) List.mem_cons_self
  have hP : H P = some (.tbl ps) := hP
  have hcl : closureFor W.scope X.env = pure [] := by
    have e := closure_ok (env := X.env) (scope := W.scope) fun y hy e => absurd e (hfree y hy)
    rw [clo_nil _ _ hfree] at e
    exact e
  have bP : s.heap.BuiltinsAt X.mg P := TB.bm.keeps I.bk
  have hP' : s.heap.get? P = some { cls := .none, data := .fields ps } := I.hok P _ hP
  refine PySem.W.kla_eval rfl ?_
  rw [hq]
  cases hc : codeAmong lpos ps.toList with
  | none =>
    refine PySem.W.kla_makeFunction (mg := X.mg) (c := c) (P := P) (ps := ps) hcl I.ok.glob (I.mod.glob.keeps I.bk) hcode (TB.code.keeps I.bk) hP' ht hc TB.gP bP fun c' ctv h' tk hx hge hlt hrec htb => ?_
    obtain ⟨c2, oc, vs, t, e2, hoc, hd, hv⟩ := hrec
    cases e2
    have nC : H c' = none := I.hok.fresh hge
    have I1 := inv_table (t' := tk) (more := #[rawInt lpos.line, rawInt lpos.col, .ref c']) (h' := h') I hP (fun b o hb e => hx b o hb e) htb hge ⟨oc, vs, t, hoc, hd, hv⟩
    have nF := I1.hok.fresh (Nat.le_refl _)
    have I2 := inv_lam (W := W) (c' := c') (t' := tk) (pm := (X.mg "__name__").getD .none) (ctv := ctv) I1 rfl
    have hE : ExtN H (upd (upd H P (.tbl (ps ++ #[rawInt lpos.line, rawInt lpos.col, .ref c']))) c' (CodeO c' lamQ)) := fun b o e n => by
      rw [upd_ne (ne_of_none e nC), upd_ne (fun z => n ps (Option.some.inj (e.symm.trans (by rw [z]; exact hP))))]
      exact e
    have eL : (ps ++ #[rawInt lpos.line, rawInt lpos.col, .ref c']).toList = ps.toList ++ [rawInt lpos.line, rawInt lpos.col, .ref c'] := by simp
    refine ⟨V.ref h'.objs.size, _, I2, rfl, h _ c' _ ⟨fun b o e n => ?_, fun b e => NdefX.upd_none (NdefX.upd_none (NdefX.upd_none e))⟩ ?_ upd_same ?_⟩
    · have e1 := hE b o e n
      exact (upd_ne (ne_of_none e1 nF)).trans e1
    · rw [hT]
      refine Tabs.ext (H := upd (upd H P (.tbl (ps ++ #[rawInt lpos.line, rawInt lpos.col, .ref c']))) c' (CodeO c' lamQ)) (fun p hp => ?_) fun b o e => (upd_ne (ne_of_none e nF)).trans e
      have ep : p = (P, lamQ) := by simpa using hp
      subst ep
      refine ⟨_, by rw [upd_ne (ne_of_none hP nC), upd_same], by rw [eL]; exact PySem.TriplesOk_snoc _ _ _ _ ht, fun p' cv hcv => ?_⟩
      rw [eL] at hcv
      rcases among_app _ ht hcv with z | z
      · obtain ⟨c0, e1, e2⟩ := ha p' cv z
        exact ⟨c0, e1, hE _ _ e2 codeO_ne⟩
      · exact ⟨c', z, upd_same⟩
    · exact (upd_ne (Nat.ne_of_lt hlt)).trans upd_same
  | some cv =>
    obtain ⟨c', e, hco⟩ := ha lpos cv hc
    subst e
    refine PySem.W.kla_makeFunctionHit (mg := X.mg) (c := c) (P := P) (ps := ps) hcl I.ok.glob (I.mod.glob.keeps I.bk) hcode (TB.code.keeps I.bk) hP' ht hc bP fun ctv h' tk hx hsz => ?_
    have I1 : L2.Inv X pins σ H { s with heap := h', toks := tk } := I.kept fun b o e => hx b o e
    have nF : H h'.objs.size = none := I1.hok.fresh (Nat.le_refl _)
    have I2 := inv_lam (W := W) (c' := c') (t' := tk) (pm := (X.mg "__name__").getD .none) (ctv := ctv) I1 rfl
    refine ⟨V.ref h'.objs.size, _, I2, rfl, h _ c' _ ⟨fun b o e n => (upd_ne (ne_of_none e nF)).trans e, fun b e => NdefX.upd_none e⟩ (hT0.ext fun b o e => (upd_ne (ne_of_none e nF)).trans e) upd_same ?_⟩
    exact (upd_ne (ne_of_none hco nF)).trans hco
end ML

set_option Elab.async false
set_option maxRecDepth 10000
set_option linter.all false
set_option maxHeartbeats 4000000
/-! ML: defs keep what the evaluator says, at every depth of calls; the law's own def. -/
namespace ML
open PySem PySem.Spec PyProof.Rows L2 MlI
structure Item where
  st : Stmt
  x : Str
  N : List Str
  ps : List Str
  d : Def
  kw : Bool
def itemB (M : MT) (it : Item) : Bool := C8.scC it.N it.ps (defScope it.st) && decide (it.d.np = it.ps.length) && decide (it.d.nn = it.N.length) && mSs M it.N (defScope it.st) it.d.body (defBody it.st)
def tabOf (its : List (Nat × Item)) : Nat → Option Def := fun f => (its.lookup f).map Item.d
def kwsOf (it : Item) : List (Str × V) := if it.kw then [("patience", V.non)] else []
section
variable {P : Program} {w : World} {K : PySem.W.Frag} {mg : Str → Option Value} {base : Heap}
/-- a def of the text as it stands -/
structure Have (K : PySem.W.Frag) (mg : Str → Option Value) (it : Item) (a : Addr) : Prop where
  mgx : mg it.x = some (.ref a)
  ok : ∃ fd, FunD K it.x it.x (defArgs it.st) (defBody it.st) (defScope it.st) [] (kwsOf it) a fd ∧ (it.kw = false → Binds K fd it.ps []) ∧
    (it.kw = true → (∃ ds, Vals [.non] ds ∧ Binds K fd it.ps ds) ∧ ∃ n, it.ps.length = n + 1 ∧ KBn K fd it.ps n ["patience"] (fun us ws => us ++ ws) (fun vs zs => vs ++ zs))
/-- how an exception lies: its class, and no dict, or one that holds the limit -/
def rxOf (cs : List Addr) : PV → Value → Option Addr → Hp → Prop := fun e cls d H => match e with
  | .exn c [] => d = none ∧ ∃ C, cs[c]? = some C ∧ cls = .ref C
  | .exn 10 [.int i] => ∃ dx C, d = some dx ∧ cs[10]? = some C ∧ cls = .ref C ∧ H dx = some (.xd [("limit", .int i)])
  | _ => False
variable (RX : PV → Value → Option Addr → Hp → Prop)
theorem start_rep {FA : Gv} {L : Nm} {n : Nat} {H : Hp} {ps : List PV} {vs : List V} {N : List Str} (r : Reps FA L n H ps vs) (hl : ps.length ≤ N.length) : RepE FA L n H (L2.start N vs) (ps.map some ++ List.replicate (N.length - ps.length) none) := by
  refine ⟨?_, fun i p e => ?_⟩
  · unfold L2.start
    rw [List.length_append, List.length_append, List.length_map, List.length_map, List.length_replicate, List.length_replicate, r.length]
  · by_cases hi : i < ps.length
    · rw [List.getElem?_append_left (by simpa using hi), List.getElem?_map] at e
      cases e2 : ps[i]? with
      | none => rw [e2] at e; cases e
      | some q =>
        rw [e2] at e
        cases e
        obtain ⟨v, h1, h2⟩ := r.get e2
        refine ⟨v, ?_, h2⟩
        unfold L2.start
        rw [List.getElem?_append_left (by rw [List.length_map, ← r.length]; exact hi), List.getElem?_map, h1]
        rfl
    · rw [List.getElem?_append_right (by simpa using hi), List.getElem?_replicate] at e
      split at e <;> cases e
theorem evF_len {its : List (Nat × Item)} {T : Nat → Option Def} {M : MT} (hT : ∀ (f : Nat) (it : Item), its.lookup f = some it → T f = some it.d) (hall : ∀ (f : Nat) (it : Item), its.lookup f = some it → itemB M it = true) {f : Nat} {it : Item} (hf : its.lookup f = some it) : ∀ (k : Nat) (vs : List PV) (s : Store), evF T k f vs s ≠ .bad → vs.length = it.ps.length
  | 0, vs, s, h => absurd rfl h
  | k + 1, vs, s, h => by
    have e : evF T (k + 1) f vs s = runD (evF T k) it.d vs s := by
      show (match T f with
        | some d => runD (evF T k) d vs s
        | none => .bad) = _
      rw [hT f it hf]
    rw [e] at h
    have hi := hall f it hf
    unfold itemB at hi
    simp only [Bool.and_eq_true, decide_eq_true_eq] at hi
    unfold runD at h
    split at h
    · rename_i hl
      rw [hl, hi.1.1.2]
    · exact absurd rfl h
/-- what a law's text offers -/
def lamB (M : MT) (e : E) (W : LamW) : Bool := C8.scC [W.x] [W.x] W.scope && mE M [W.x] W.scope e W.body
structure World0 (K : PySem.W.Frag) (mg : Str → Option Value) (FA : Gv) (M : MT) (its : List (Nat × Item)) (T : Nat → Option Def) : Prop where
  blt : ∀ x ∈ bltNames, mg x = none
  gint : ∀ x i, M.gi x = some i → ∃ t, mg x = some (.int i t)
  fname : ∀ (f : Nat) (x : Str), M.fname f = some x → ∃ it, its.lookup f = some it ∧ it.x = x ∧ M.fkw f = it.kw
  all : ∀ (f : Nat) (it : Item), its.lookup f = some it → itemB M it = true
  xc : ∀ c x, M.xc c = some x → ∃ C, FA.cs[c]? = some C ∧ mg x = some (.ref C) ∧ PySem.W.excIn K C vTail "ValueError.__new__" = true ∧ PySem.W.keepIn K (.ref C) = true ∧ PySem.W.subIn K (.ref C) (.type "BaseException") = some true ∧ PySem.W.typeIn K (.ref C) = some (.type "type")
  notr : M.tr = none
  tmw : ∀ x, M.tm = some x → ∃ C, FA.cs[10]? = some C ∧ TmW K mg x C
  tabT : ∀ (f : Nat) (it : Item), its.lookup f = some it → T f = some it.d
  nolm : ∀ f W, M.lm f W = false
  lam : ∀ f W, FA.lm f W = true → ∃ e, T f = some ⟨1, 1, .cons (.ret e) .nil⟩ ∧ lamB M e W = true
  have_ : ∀ (f : Nat) (it : Item), its.lookup f = some it → ∃ a, FA f = some a ∧ PySem.W.keepIn K (.ref a) = true ∧ Have K mg it a
variable {RX}
variable {FA : Gv} {M : MT} {its : List (Nat × Item)} {T : Nat → Option Def}
/-- at k calls deep all defs keep their promises -/
def AllOk (P : Program) (w : World) (K : PySem.W.Frag) (mg : Str → Option Value) (base : Heap) (RX : PV → Value → Option Addr → Hp → Prop) (FA : Gv) (its : List (Nat × Item)) (T : Nat → Option Def) (k : Nat) : Prop :=
  ∀ (f : Nat) (it : Item) (a : Addr), its.lookup f = some it → FA f = some a → Have K mg it a → ∀ fd, FunD K it.x it.x (defArgs it.st) (defBody it.st) (defScope it.st) [] (kwsOf it) a fd → FnOk P w K mg base (L2N.CX P w) (k + 2) a fd it.ps (spF RX FA (evF T k) f it.ps.length)
/-- .. and all lambdas -/
def LamAll (P : Program) (w : World) (K : PySem.W.Frag) (mg : Str → Option Value) (base : Heap) (RX : PV → Value → Option Addr → Hp → Prop) (FA : Gv) (T : Nat → Option Def) (k : Nat) : Prop :=
  ∀ (f : Nat) (W : LamW), FA.lm f W = true → LamFn P w K mg base (L2N.CX P w) (k + 2) W (spF RX FA (evF T k) f 1)
theorem lam_len (W : World0 K mg FA M its T) {f : Nat} {W' : LamW} (h : FA.lm f W' = true) : ∀ (k : Nat) (vs : List PV) (s : Store), evF T k f vs s ≠ .bad → vs.length = 1
  | 0, vs, s, z => absurd rfl z
  | k + 1, vs, s, z => by
    obtain ⟨e, hT, _⟩ := W.lam f W' h
    have e1 : evF T (k + 1) f vs s = runD (evF T k) ⟨1, 1, .cons (.ret e) .nil⟩ vs s := by
      show (match T f with
        | some d => runD (evF T k) d vs s
        | none => .bad) = _
      rw [hT]
    rw [e1] at z
    unfold runD at z
    split at z
    · rename_i hl
      exact hl
    · exact absurd rfl z
theorem ctx_of {k : Nat} {N : List Str} {ps : List Str} {qual : Str} {sc : Scope} {f : Addr} {cdv : Value} {A : Around} {outer : List PySem.Env} {s : Shared} {H : Hp} {E : XK} (W : World0 K mg FA M its T) (ih : AllOk P w K mg base (rxOf FA.cs) FA its T k) (il : LamAll P w K mg base (rxOf FA.cs) FA T k) (S : FnScope N ps sc)
    (hr : Room (k + 2) (A.deeper (envOfC qual sc s.heap.objs.size f cdv))) : Ctx (rxOf FA.cs) FA M (exE (rxOf FA.cs) E) (evF T k) k N sc (cxOf (L2N.CX P w) P w K mg base N qual sc f cdv A outer s H E) where
  hN := rfl
  nd := S.nd
  hsc := rfl
  calm := rfl
  hr := hr
  own := passes_of rfl
  blt := W.blt
  gint := W.gint
  call := fun g x hg => by
    obtain ⟨it, e1, e2, e3⟩ := W.fname g x hg
    obtain ⟨a, h1, h2, h3⟩ := W.have_ g it e1
    obtain ⟨fd, F, b1, b2⟩ := h3.ok
    refine ⟨a, fd, it.ps, by rw [← e2]; exact h3.mgx, h2, h1, ih g it a e1 h1 h3 fd F, evF_len W.tabT W.all e1 k, fun hk => b1 (by rw [← e3]; exact hk), fun hk => b2 (by rw [← e3]; exact hk)⟩
  pass := L2N.passes_call (L2N.takes_of rfl rfl rfl rfl) fun cls d σ H h => by
    obtain ⟨e, s, L, rx, q⟩ := h
    exact q cls d rx
  takes := (L2N.takes_of rfl rfl rfl rfl).imp fun cls d σ H h => by
    obtain ⟨e, s, L, rx, q⟩ := h
    exact q cls d rx
  xc := fun c x h => by
    obtain ⟨C, h1, h2, h3, h4, h5, h6⟩ := W.xc c x h
    exact ⟨C, h2, h3, h4, raises_own h5 h6, fun H => ⟨rfl, C, h1, rfl⟩⟩
  rx := fun c cls d H h => h
  rx1 := fun i cls d H h => h
  tm := fun x h => by
    obtain ⟨C, h1, W2⟩ := W.tmw x h
    refine ⟨C, fun i dx H hd => ⟨dx, C, rfl, h1, rfl, hd⟩, fun e' te p pos he hg hdb hs => tm_ok W2 (hr.mono (by omega)) (L2N.passes_call (L2N.takes_of rfl rfl rfl rfl) fun cls d σ H h => h.elim) e' te p pos he hg hdb hs⟩
  att := fun x h => by
    rw [W.notr] at h
    cases h
  lmv := fun f w h => by
    rw [W.nolm] at h
    cases h
  clo := fun f w h => ⟨il f w h, fun vs s z => lam_len W h k vs s z⟩
theorem runD_ret {e : E} {C : Calls} {ps : List PV} {st : Store} (hl : ps.length = 1) : runD C ⟨1, 1, .cons (.ret e) .nil⟩ ps st = evE C e (ps.map some ++ List.replicate (1 - ps.length) none) st := by
  rw [hl]
  unfold runD
  rw [if_pos hl]
  simp only [exSs, exS]
  show Res.bind (thenS (Res.bind (evE C e (ps.map some ++ List.replicate (1 - 1) none) st) _) _) _ = _
  cases evE C e (ps.map some ++ List.replicate (1 - 1) none) st <;> rfl
theorem all2 (W : World0 K mg FA M its T) : ∀ k, AllOk P w K mg base (rxOf FA.cs) FA its T k ∧ LamAll P w K mg base (rxOf FA.cs) FA T k
  | 0 => ⟨fun f it a hf ha hh fd F => ⟨fun vs H Q E h => h.1, fun A outer s H args us vs Q E hr e0 hb r h => by
      obtain ⟨_, L, st, ps, _, _, h⟩ := h
      exact h.elim⟩, fun f W' h => ⟨fun vs H Q E h => h.1, fun a c' A outer s H us vs Q E hr e0 ha hc r h => by
      obtain ⟨_, L, st, ps, _, _, h⟩ := h
      exact h.elim⟩⟩
  | k + 1 => by
    obtain ⟨ih, il⟩ := all2 W k
    refine ⟨fun f it a hf ha hh fd F => ?_, fun f W' hW => ?_⟩
    · have hi := W.all f it hf
      unfold itemB at hi
      simp only [Bool.and_eq_true, decide_eq_true_eq] at hi
      obtain ⟨⟨⟨h1, h2⟩, h3⟩, h4⟩ := hi
      have S := C8.fnScope_by h1
      refine F.ok S (fun vs H Q E h => h.1) fun cdv A outer s H vs Q E hr h => ?_
      have cx := ctx_of (E := E) (H := H) (outer := outer) (P := P) (w := w) (base := base) W ih il S hr
      refine ⟨_, sSs (fun _ => rfl) it.d.body (defBody it.st) cx h4, ?_⟩
      obtain ⟨hl, L, st, ps, sm, r, h⟩ := h
      have e : evF T (k + 1) f ps st = runD (evF T k) it.d ps st := by
        show (match T f with
          | some d => runD (evF T k) d ps st
          | none => .bad) = _
        rw [W.tabT f it hf]
      rw [e] at h
      unfold runD at h
      split at h
      · rename_i hlen
        have hle : ps.length ≤ it.N.length := by
          have := congrArg List.length S.pre
          rw [List.length_take] at this
          omega
        refine ⟨L, _, st, start_rep (N := it.N) r hle, sm, ?_⟩
        rw [h3, show it.d.np = ps.length from hlen.symm] at h
        refine h.bind.mono fun fl s1 L1 H1 st1 sm1 q => ?_
        cases fl with
        | nx r1 => exact fun _ _ => okA.at (K := kV FA Q) q sm1 _ .non
        | rt v => exact okA.at (K := kV FA Q) q sm1
      · exact h.elim
    · obtain ⟨e0, hT, hb⟩ := W.lam f W' hW
      unfold lamB at hb
      rw [Bool.and_eq_true] at hb
      have S := C8.fnScope_by hb.1
      refine lamF_of S (fun vs H Q E h => h.1) fun a c' A outer s H vs Q E hr h => ?_
      have cx := ctx_of (E := E) (H := H) (outer := outer) (P := P) (w := w) (base := base) W ih il S hr
      refine ⟨_, (sE e0 W'.body M _ _ _ cx hb.2).pe, ?_⟩
      obtain ⟨hl, L, st, ps, sm, r, h⟩ := h
      have e : evF T (k + 1) f ps st = runD (evF T k) ⟨1, 1, .cons (.ret e0) .nil⟩ ps st := by
        show (match T f with
          | some d => runD (evF T k) d ps st
          | none => .bad) = _
        rw [hT]
      have hlen : ps.length = 1 := by rw [r.length]; exact hl
      rw [e, runD_ret hlen] at h
      refine ⟨L, _, st, start_rep (N := [W'.x]) r (by rw [hlen]; exact Nat.le_refl _), sm, ?_⟩
      exact h
theorem all_ok (W : World0 K mg FA M its T) (k : Nat) : AllOk P w K mg base (rxOf FA.cs) FA its T k := (all2 W k).1
theorem lam_all (W : World0 K mg FA M its T) (k : Nat) : LamAll P w K mg base (rxOf FA.cs) FA T k := (all2 W k).2
end
end ML

set_option Elab.async false
set_option maxRecDepth 100000
set_option linter.all false
set_option maxHeartbeats 4000000
/-! ML: the def that calls a lambda and tells the exception's name. -/
namespace ML
open PySem PySem.Spec PyProof.Rows L2 HotX LamX
def trN : List Str := ["door", "found", "e"]
/-- its text; nm: the def that names the class -/
def tryB (sc : Scope) (nm : Str) : List Stmt → Bool
  | [.Assign [.Name f1 _] (.Constant .none _ _) _,
      .Try [.Assign [.Name f2 _] (.Tuple [.Constant (.str told) _ _, .Call (.Name dr _) [] [] _] _ _) _]
        [.ExceptHandler (some (.Name tm _)) (some e1) [.Assign [.Name f3 _] (.BinOp (.Call (.Name n2 _) [.Name e4 _] [] _) .Add (.Call (.Name st _) [.Attribute (.Name e5 _) lim _] [] _) _) _] _, .ExceptHandler (some (.Name qe _)) (some e2) [.Assign [.Name f4 _] (.Call (.Name n1 _) [.Name e3 _] [] _) _] _] [] [] _,
      .Return (some (.Name f5 _)) _] =>
    f1 == ("found" : Str) && f2 == ("found" : Str) && f3 == ("found" : Str) && f4 == ("found" : Str) && f5 == ("found" : Str) && told == ("told" : Str) && dr == ("door" : Str) && tm == ("TooMany" : Str) && qe == ("QueueError" : Str) &&
      e1 == ("e" : Str) && e2 == ("e" : Str) && e3 == ("e" : Str) && decide (n1 = nm) && plainN nm && globB sc nm && globB sc tm && globB sc qe && locB sc "found" && locB sc "e" && visB sc "found" && visB sc "e" && visB sc "door" &&
      n2 == n1 && e4 == ("e" : Str) && e5 == ("e" : Str) && st == ("str" : Str) && lim == ("limit" : Str) && globB sc st
  | _ => false
section
variable {X : Cx} {cs : List Addr} {qe : Addr}
theorem try_gives {x nm q : Str} {sg : Scope} {g fn : Addr} {fdn : FuncData} {cdg : Value} {bg : List Stmt} (T : Xc X.K X.mg cs qe) (h : tryB sg nm bg = true) (F : FnHot X.prog X.w X.K X.mg X.base fn fdn ["e"] (spNm cs)) (hbn : Binds X.K fdn ["e"] []) (hst : X.mg "str" = none) (hmn : X.mg nm = some (.ref fn)) (hkn : PySem.W.keepIn X.K (.ref fn) = true) :
    GivesN X trN x sg g cdg bg "door" q (TTry cs) := by
  unfold tryB at h
  split at h
  · rename_i f1 p1 k1 p2 p3 f2 p4 told k2 p5 dr p6 p7 k3 p8 p9 tm p10 e1 f3 p11 n2 q1 e4 q2 q3 st q4 e5 q5 lim q6 q7 q8 p12 p13 qn p14 e2 f4 p15 n1 p16 e3 p17 p18 p19 p20 p21 f5 p22 p23
    simp only [Bool.and_eq_true, beq_iff_eq, decide_eq_true_eq] at h
    obtain ⟨⟨⟨⟨⟨⟨⟨⟨⟨⟨⟨⟨⟨⟨⟨⟨⟨⟨⟨⟨⟨⟨⟨⟨⟨⟨⟨rfl, rfl⟩, rfl⟩, rfl⟩, rfl⟩, rfl⟩, rfl⟩, rfl⟩, rfl⟩, rfl⟩, rfl⟩, rfl⟩, rfl⟩, hp⟩, g1⟩, g2⟩, g3⟩, l1⟩, l2⟩, v1⟩, v2⟩, v3⟩, rfl⟩, rfl⟩, rfl⟩, rfl⟩, rfl⟩, g4⟩ := h
    intro f c' s H Q tl hr hmono act hc hq
    generalize hY : (cxOf C8.CX0 X.prog X.w X.K X.mg X.base trN x sg g cdg X.A X.stack s H C8.E0).nox = Y
    have yN : Y.N = trN := by rw [← hY]; rfl
    have ysc : Y.env.scope = sg := by rw [← hY]; rfl
    have yK : Y.K = X.K := by rw [← hY]; rfl
    have ymg : Y.mg = X.mg := by rw [← hY]; rfl
    have ybase : Y.base = X.base := by rw [← hY]; rfl
    have yp : Y.prog = X.prog := by rw [← hY]; rfl
    have yw : Y.w = X.w := by rw [← hY]; rfl
    have ys : Y.stack = Y.env :: Y.outer := by rw [← hY]; rfl
    have yf : Y.env.frame = some Y.env.locals := by rw [← hY]; rfl
    have yx : Y.ex = [] := by rw [← hY]; rfl
    have yd : Y.A.depth < recursionLimit := by rw [← hY]; exact hr.depth
    have nd : Y.N.Nodup := by rw [yN]; decide
    have lf : Loc Y.env.scope "found" := loc_of ysc l1
    have lf2 : Y.env.scope.names.lookup ("found" : Str) = some .local := by rw [ysc]; exact of_decide_eq_true l1
    have le2 : Y.env.kindOf "e" = some .local := by
      show Y.env.scope.names.lookup ("e" : Str) = some .local
      rw [ysc]
      exact of_decide_eq_true l2
    obtain ⟨d1, d2, _⟩ := plain_of hp
    obtain ⟨C10, hC10⟩ : ∃ D, cs[10]? = some D := ⟨_, List.getElem?_eq_getElem (by rw [T.len]; decide)⟩
    have F' : FnHot Y.prog Y.w Y.K Y.mg Y.base fn fdn ["e"] (spNm cs) := by rw [yp, yw, yK, ymg, ybase]; exact F
    have S2 : ∀ (a : Addr) (oe : PySem.Obj) (cls : Value) (d : Option Addr) (pn : List (Addr × PySem.Obj)), L2N.Zn cls d oe → (∃ vs, oe.data = .fields vs) → Y.base.get? a = none →
        PSs (Y.suite a ((a, oe) :: pn)) [.Assign [.Name "found" p15] (.Call (.Name n2 p16) [.Name "e" p17] [] p18) p19]
          (fun D σ H => σ[2]? = some (some (.ref a)) ∧ d = none ∧ ∃ i C, cs[i]? = some C ∧ i < 10 ∧ cls = .ref C ∧ ∀ H', (∀ b o, H b = some o → H' b = some o) → D.nx (σ.set 1 (some (.str (xcWord i)))) H') := fun a oe cls d pn hz hd hba => by
      refine pss_one (ps_imp (ps_set (X := Y.suite a ((a, oe) :: pn)) (i := 1) nd (by show Y.N[1]? = _; rw [yN]; rfl) lf (pe_name (k := 2) F' (by rw [yK]; exact hbn) yd hba (gl_of ysc g1) (by rw [ymg]; exact hmn) (by rw [yK]; exact hkn) (by rw [yN]; rfl) (by rw [ysc]; exact vis_of v2) d1 (by decide) (by decide)) (swaps_no rfl) (.inr lf2)) fun D σ H h => ?_)
      obtain ⟨hs, rfl, i, C, hC, hi, rfl, q⟩ := h
      obtain ⟨vs, hv⟩ := hd
      exact ⟨hs, i, ⟨⟨C, hC, hz.1⟩, .inl hz.2.1, vs, hv, hz.2.2 vs hv⟩, by omega, fun H' hk _ => q H' hk⟩
    have S1 : ∀ (a : Addr) (oe : PySem.Obj) (cls : Value) (d : Option Addr) (pn : List (Addr × PySem.Obj)), L2N.Zn cls d oe → (∃ vs, oe.data = .fields vs) → Y.base.get? a = none →
        PSs (Y.suite a ((a, oe) :: pn)) [.Assign [.Name "found" p11] (.BinOp (.Call (.Name n2 q1) [.Name "e" q2] [] q3) .Add (.Call (.Name "str" q4) [.Attribute (.Name "e" q5) "limit" q6] [] q7) q8) p12]
          (fun D σ H => σ[2]? = some (some (.ref a)) ∧ ∃ dx n, d = some dx ∧ cls = .ref C10 ∧ H dx = some (.xd [("limit", .int n)]) ∧ 0 ≤ n ∧ n < 1000 ∧ ∀ H', (∀ b o, H b = some o → H' b = some o) → D.nx (σ.set 1 (some (.str (manyS n)))) H') := fun a oe cls d pn hz hd hba => by
      have ex := T.exc hC10
      have xf : XfC Y.K C10 := by rw [yK]; exact ⟨ex.hg, ex.hk, ex.hs, ex.hd⟩
      have hno : PySem.W.findIn Y.K (.ref C10) "limit" = some none := by rw [yK]; exact T.limit hC10
      have pn1 : PE (Y.suite a ((a, oe) :: pn)) (.Call (.Name n2 q1) [.Name "e" q2] [] q3) _ := pe_name (k := 2) F' (by rw [yK]; exact hbn) yd hba (gl_of ysc g1) (by rw [ymg]; exact hmn) (by rw [yK]; exact hkn) (by rw [yN]; rfl) (by rw [ysc]; exact vis_of v2) d1 (by decide) (by decide)
      have pn2 : PE (Y.suite a ((a, oe) :: pn)) (.Attribute (.Name "e" q5) "limit" q6) (tXf a cls d C10 "limit" fun σ H Q => ∃ v, σ[2]? = some (some v) ∧ Q v H) := pe_xf xf hno ⟨hz.1, hz.2.1⟩ hd (pe_var (i := 2) (by show Y.N[2]? = _; rw [yN]; rfl) (by show Vis Y.env.scope "e"; rw [ysc]; exact vis_of v2) (by decide) (by decide))
      refine pss_one (ps_imp (ps_set (X := Y.suite a ((a, oe) :: pn)) (i := 1) nd (by show Y.N[1]? = _; rw [yN]; rfl) lf
        (pe_op op_add_str pn1 (pe_callTy call_str_int (gl_of ysc g4) (by show Y.mg "str" = none; rw [ymg]; exact hst) (by decide +kernel) (pa_cons pn2 pa_nil))) (swaps_no rfl) (.inr lf2)) fun D σ H h => ?_)
      obtain ⟨hs, dx, n, rfl, rfl, hdx, n0, n1', q⟩ := h
      obtain ⟨vs, hv⟩ := hd
      refine ⟨hs, 10, ⟨⟨C10, hC10, hz.1⟩, .inr ⟨dx, n, hz.2.1, hdx⟩, vs, hv, hz.2.2 vs hv⟩, by decide, fun H' hk _ => ?_⟩
      refine ⟨.ref a, hs, rfl, rfl, dx, _, .int n, rfl, hk _ _ hdx, rfl, n, rfl, ?_, ?_⟩
      · have : n.natAbs < 2 ^ 1920 := by
          refine Nat.lt_of_lt_of_le (show n.natAbs < 1000 by omega) ?_
          decide +kernel
        by_cases hz0 : n.natAbs = 0
        · rw [hz0]; decide
        · exact (Nat.log2_lt hz0).mpr this
      · refine ⟨xcWord 10, _, rfl, rfl, ?_, ?_⟩
        · rw [many_word]
          exact many_len n ⟨n0, n1'⟩
        · rw [many_word]
          exact q H' hk
    have hcls : ClsOk Y [.ExceptHandler (some (.Name "TooMany" p10)) (some "e") [.Assign [.Name "found" p11] (.BinOp (.Call (.Name n2 q1) [.Name "e" q2] [] q3) .Add (.Call (.Name "str" q4) [.Attribute (.Name "e" q5) "limit" q6] [] q7) q8) p12] p13, .ExceptHandler (some (.Name "QueueError" p14)) (some "e") [.Assign [.Name "found" p15] (.Call (.Name n2 p16) [.Name "e" p17] [] p18) p19] p20]
        [(.ref C10, 2, fun a cls d D σ H => σ[2]? = some (some (.ref a)) ∧ ∃ dx n, d = some dx ∧ cls = .ref C10 ∧ H dx = some (.xd [("limit", .int n)]) ∧ 0 ≤ n ∧ n < 1000 ∧ ∀ H', (∀ b o, H b = some o → H' b = some o) → D.nx (σ.set 1 (some (.str (manyS n)))) H'), (.ref qe, 2, fun a cls d D σ H => σ[2]? = some (some (.ref a)) ∧ d = none ∧ ∃ i C, cs[i]? = some C ∧ i < 10 ∧ cls = .ref C ∧ ∀ H', (∀ b o, H b = some o → H' b = some o) → D.nx (σ.set 1 (some (.str (xcWord i)))) H')] :=
      .cons ⟨gl_of ysc g2, by decide, .inl (by rw [ymg]; exact T.at_ 10 "TooMany" C10 rfl hC10)⟩ (by rw [yN]; rfl) le2 S1 (.cons ⟨gl_of ysc g3, by decide, .inl (by rw [ymg]; exact T.q)⟩ (by rw [yN]; rfl) le2 S2 .nil)
    have S0 : PS Y (.Assign [.Name "found" p1] (.Constant .none k1 p2) p3) (tAsg (fun σ H Q => Q .non H) (gName 1)) := ps_set (i := 1) nd (by rw [yN]; rfl) lf pe_non (swaps_no rfl) (.inr lf2)
    have SR : PS Y (.Return (some (.Name "found" p22)) p23) (tRet fun σ H Q => ∃ v, σ[1]? = some (some v) ∧ Q v H) := ps_ret (pe_var (i := 1) (by rw [yN]; rfl) (by rw [ysc]; exact vis_of v1) (by decide) (by decide))
    have ST := ps_try_cls (pos := p21) (body := [.Assign [.Name "found" p4] (.Tuple [.Constant (.str "told") k2 p5, .Call (.Name "door" p6) [] [] p7] k3 p8) p9])
      (tb := fun W D σ H => ∃ E : XK, (∀ cls d σ' H', σ'.length = 3 → E cls d H' → W cls d σ' H') ∧ σ[0]? = some (some (.ref f)) ∧ H c' = some (CodeO c' q) ∧ tl E H fun v H' => [V.str "told", v].length ≤ sizeLine ∧ ∀ p, H' p = none → D.nx (σ.set 1 (some (.ref p))) (upd H' p (.tup [.str "told", v]))) ys yf nd yx (fun W pn xe tk _ => by
        refine ⟨fun pins s2 σ H2 D I h => ?_⟩
        obtain ⟨E, hW, h1, h2, h3⟩ := h
        have tk2 : L2N.Takes (Y.tr pn xe) (fun cls d σ' H' => σ'.length = 3 → W cls d σ' H') := fun u s' ⟨a, B, sI, pins, σ', H', cls, d, e, I', nb, up, sky, na, os, ag, w⟩ =>
          tk u s' ⟨a, B, sI, pins, σ', H', cls, d, e, I', nb, up, sky, na, os, ag, w (by
            have z : σ'.length = Y.N.length := I'.len
            rw [yN] at z
            exact z)⟩
        subst hY
        have hp := act (fun cls d σ' H' => σ'.length = 3 → W cls d σ' H') pn xe E p6 p7 tk2 fun cls d σ' H' e hl => hW cls d σ' H' hl e
        exact (pss_one (ps_set (X := (cxOf C8.CX0 X.prog X.w X.K X.mg X.base trN x sg g cdg X.A X.stack s H C8.E0).tr pn xe) (i := 1) (by show trN.Nodup; decide) rfl lf (pe_tup (pa_cons pe_str (pa_cons hp pa_nil rfl) rfl)) (swaps_no rfl) (.inl rfl))).run pins s2 σ H2 D I ⟨h1, h2, h3⟩) hcls
    refine ⟨_, pss_cons S0 (pss_cons ST (pss_one SR)), ?_⟩
    refine ⟨_, fun cls d σ' H' hl he => ?_, rfl, hc, hmono _ _ _ _ (fun v H' hv => ⟨hv.1, fun p hp => ⟨.ref p, rfl, hv.2 p hp⟩⟩) hq⟩
    rcases he with ⟨rfl, i, C, hC, hi, rfl, hk⟩ | ⟨dx, C, n, rfl, hC, rfl, hdx, n0, n1', hk⟩
    · refine ⟨false, ?_, fun z => (nomatch z), fun _ => ⟨true, ?_, fun _ a na => ⟨?_, rfl, i, C, hC, hi, rfl, fun H'' hkk => ⟨_, ?_, hk H'' hkk⟩⟩, fun z => nomatch z⟩⟩
      · have e := (T.kit hC hC10).2
        rw [yK, e, decide_eq_false (by omega)]
      · rw [yK]
        exact (T.kitV hC).2
      · exact List.getElem?_set_self (by omega)
      · rw [List.getElem?_set_ne (by decide)]
        exact List.getElem?_set_self (by rw [List.length_set]; omega)
    · rw [hC] at hC10
      cases hC10
      refine ⟨true, ?_, fun _ a na => ⟨?_, dx, n, rfl, rfl, hdx, n0, n1', fun H'' hkk => ⟨_, ?_, hk H'' hkk⟩⟩, fun z => nomatch z⟩
      · have e := (T.kit hC hC).2
        rw [yK, e, decide_eq_true rfl]
      · exact List.getElem?_set_self (by omega)
      · rw [List.getElem?_set_ne (by decide)]
        exact List.getElem?_set_self (by rw [List.length_set]; omega)
  · cases h
end
end ML

set_option Elab.async false
set_option maxRecDepth 10000
set_option linter.all false
set_option maxHeartbeats 4000000
/-! ML: the law's own def: for cell in ([0] + script)[:m]: .., then a rest. -/
namespace ML
open PySem PySem.Spec PyProof.Rows L2 MlI
section
variable {RX : PV → Value → Option Addr → Hp → Prop} {FA : Gv} {M : MT} {Ex : XW} {C : Calls} {k : Nat} {N : List Str} {sc : Scope} {X : Cx}
theorem for_core {tg : List Nat} {one : Bool} {a : Ss} {σ : L2.St} {r : Env} {s1 : Store} {L1 : Nm} {H1 : Hp} {xs : List PV} {J : It} {D : Ends} (wk : Wk FA L1 s1.length H1 xs J) (sm1 : Sim FA L1 H1 s1) (hE : RepE FA L1 s1.length H1 σ r)
    (q : okA FA Ex L1 s1.length H1 (kF FA D) (forL (fun x r => bindT tg one x r) (fun r s => exSs C a r s) xs r s1)) :
    ∃ W : Nat → Nat → L2.St → Hp → Prop, (∃ m, W 0 m σ H1) ∧ ∀ i m σ H, W i m σ H →
      (J.stop i H ∧ D.nx σ H) ∨ (J.go i H ∧ ∃ N : L2.St → Hp → Prop, (∀ σ' H', N σ' H' → ∃ m', m' < m ∧ W (i + 1) m' σ' H') ∧ ∀ x H', J.yld i H x H' → (tG FA tg one) x σ H' fun σ2 H2 => (tSs FA Ex C a) { D with nx := N, ct := N, bk := D.nx } σ2 H2) := by
  refine ⟨fun i m σ' H' => m = xs.length - i ∧ i ≤ xs.length ∧ ∃ (L' : Nm) (r' : Env) (s' : Store), Step L1 s1.length H1 L' s'.length H' ∧ Sim FA L' H' s' ∧ RepE FA L' s'.length H' σ' r' ∧
    okA FA Ex L1 s1.length H1 (kF FA D) (forL (fun x r => bindT tg one x r) (fun r s => exSs C a r s) (xs.drop i) r' s'), ⟨_, rfl, Nat.zero_le _, L1, r, s1, Step.refl, sm1, hE, by rw [List.drop_zero]; exact q⟩, ?_⟩
  rintro i m σ' H' ⟨rfl, hi', L', r', s', st', sm', hE', hq⟩
  by_cases hlt : i < xs.length
  · refine .inr ⟨wk.goes i L' s'.length H' st' hlt, fun σ'' H'' => ∃ mm', mm' < xs.length - i ∧ (mm' = xs.length - (i + 1) ∧ i + 1 ≤ xs.length ∧ ∃ (L' : Nm) (r' : Env) (s' : Store), Step L1 s1.length H1 L' s'.length H'' ∧ Sim FA L' H'' s' ∧ RepE FA L' s'.length H'' σ'' r' ∧
      okA FA Ex L1 s1.length H1 (kF FA D) (forL (fun x r => bindT tg one x r) (fun r s => exSs C a r s) (xs.drop (i + 1)) r' s')), fun σ'' H'' h => h, fun x H'' hy => ?_⟩
    obtain ⟨p, ep, st2, sm2, rp, same⟩ := wk.yields i L' s' H' x H'' st' sm' hlt hy
    have ed : xs.drop i = p :: xs.drop (i + 1) := by
      rw [List.drop_eq_getElem_cons hlt]
      rw [List.getElem?_eq_getElem hlt] at ep
      rw [Option.some.inj ep]
    rw [ed] at hq
    have hq : okA FA Ex L1 s1.length H1 (kF FA D) (match bindT tg one p r' with
      | none => .bad
      | some r => thenS (exSs C a r s') fun r s => forL (fun x r => bindT tg one x r) (fun r s => exSs C a r s) (xs.drop (i + 1)) r s) := hq
    cases eb : bindT tg one p r' with
    | none => rw [eb] at hq; exact hq.elim
    | some r2 =>
      rw [eb] at hq
      have st3 := st'.trans st2
      refine ⟨L', r', s', p, r2, hE'.up st2, sm2, rp, eb, fun σ2 hEs _ => ⟨L', r2, s', hEs, sm2, ?_⟩⟩
      have hq : okA FA Ex L1 s1.length H1 (kF FA D) (thenS (exSs C a r2 s') fun r s => forL (fun x r => bindT tg one x r) (fun r s => exSs C a r s) (xs.drop (i + 1)) r s) := hq
      refine ((okA.bind0 hq).step st3).mono fun f s4 L4 H4 st4 sm4 q4 => ?_
      cases f with
      | nx r4 => exact fun σ'' hE'' => ⟨_, by omega, rfl, hlt, L4, r4, s4, st3.trans st4, sm4, hE'', q4⟩
      | rt v => exact okA.at (K := kF FA D) (okA.step q4 (st3.trans st4)) sm4
  · have e : i = xs.length := by omega
    subst e
    refine .inl ⟨wk.stops L' s'.length H' st', ?_⟩
    rw [List.drop_length] at hq
    exact okA.at (K := kF FA D) (okA.step (x := .ok (.nx r') s') hq st') sm' _ hE'
/-- no places yet -/
def L00 (T : List (Addr × Str)) : Nm := ⟨fun _ => 0, fun _ => False, T⟩
theorem sim00 {H : Hp} (h : LamX.Tabs FA.tab H) : Sim FA (L00 FA.tab) H [] := ⟨fun l xs e => by simp at e, fun a b ha => absurd ha (Nat.not_lt_zero _), fun a z => z.elim, fun l hl => absurd hl (Nat.not_lt_zero _), rfl, h⟩
theorem rep00 {H : Hp} {σ : L2.St} {n : Nat} (h : σ.length = n) : RepE FA (L00 FA.tab) 0 H σ (List.replicate n none) := ⟨by rw [List.length_replicate, h], fun i p e => by
  rw [List.getElem?_replicate] at e
  split at e <;> cases e⟩
def cells (m : Nat) (ns : List Int) : List Int := (0 :: ns).take m
def tLaw (K : PySem.W.Frag) (FA : Gv) (Ex : XW) (C : Calls) (m : Nat) (tg : List Nat) (a : Ss) : TS := fun D σ H => ∃ (L : Nm) (r : Env) (s : Store) (ad : Addr) (ns : List Int), RepE FA L s.length H σ r ∧ Sim FA L H s ∧ σ[0]? = some (some (.ref ad)) ∧ SqL K H ad (ns.map V.int) ∧ ns.length ≤ 63 ∧
  ∀ H1, Step L s.length H L s.length H1 → okA FA Ex L s.length H1 (kF FA D) (forL (fun x r => bindT tg true x r) (fun r s => exSs C a r s) ((cells m ns).map PV.int) r s)
theorem ps_m_law (cx : Ctx RX FA M Ex C k N sc X) {m : Nat} {x : Str} {tg : List Nat} {a : Ss} {tg' : Expr} {a' : List Stmt} {j1 j2 : Nat} {p1 p2 p3 p4 p5 p6 p7 pos : Pos} (h0 : N[0]? = some x) (hv : visB sc x = true) (hp : plainN x = true) (hg : PG X tg' (tG FA tg true)) (ha : PSs X a' (tSs FA Ex C a)) :
    PS X (.For tg' (.Subscript (.BinOp (.List [.Constant (.int 0) j1 p1] p2) .Add (.Name x p3) p4) (.Slice none (some (.Constant (.int m) j2 p5)) none p6) p7) a' [] pos) (tLaw X.K FA Ex C m tg a) := by
  obtain ⟨d1, d2, _⟩ := plain_of hp
  refine ps_imp (ps_for cx.own cx.calm (pi_list (pe_slice sl_list (pe_op (op_catL rfl) (pe_lst (pa_cons pe_int pa_nil)) (pe_var (i := 0) (by rw [cx.hN]; exact h0) (by rw [cx.hsc]; exact vis_of hv) d1 d2)) po_none (po_some pe_int))) hg ha (fun _ => rfl)) fun D σ H h => ?_
  obtain ⟨L, r, s, ad, ns, hE, hS, hs, hq, hz, q⟩ := h
  have same : ∀ {H : Hp} {p : Addr} {o : HO}, H p = none → Same H (upd H p o) := fun {H p o} h b x e => by
    rw [upd_ne (ne_of_none e h)]
    exact e
  refine ⟨by decide, fun c0 n0 => ⟨.ref ad, hs, c0, ad, [.int 0], ns.map V.int, rfl, rfl, .inl (.inl upd_same), (same n0).seq hq, ?_, fun c1 n1 => ?_⟩⟩
  · rw [List.length_map]
    show 1 + ns.length ≤ sizeLine
    rw [sizeLine_eq]
    omega
  · refine ⟨_, rfl, c1, _, rfl, .inl (.inl upd_same), fun c2 n2 => ⟨c2, rfl, ⟨_, .inl (.inl upd_same)⟩, ?_⟩⟩
    have ec : cutV ([V.int 0] ++ ns.map V.int) none (some (m : Int)) = (cells m ns).map V.int := by
      unfold cutV
      rw [HT.sIx_nat, HT.sIx_none, List.drop_zero, Nat.sub_zero]
      unfold cells
      show List.take (min m ((0 :: ns).map V.int).length) ((0 :: ns).map V.int) = _
      rw [← List.take_eq_take_min, ← List.map_take]
    rw [ec]
    have st := ((Step.alloc (L := L) (n := s.length) n0).trans (Step.alloc n1)).trans (Step.alloc (o := .lst ((cells m ns).map V.int)) n2)
    have sm2 : Sim FA L (upd (upd H c0 (.lst [V.int 0])) c1 (.lst ([V.int 0] ++ ns.map V.int))) s := (hS.alloc n0).alloc n1
    exact for_core (wk_l ⟨_, .inl upd_same, fun _ => sm2.free n2, reps_ints _⟩) (sm2.alloc n2) (hE.up st) (q _ st)
/-- does a law's body spell: a walk over the script's first cells, then a rest -/
def lawB0 (M : MT) (N : List Str) (sc : Scope) (m : Nat) (tg : List Nat) (a b : Ss) : List Stmt → Bool
  | .For tg' (.Subscript (.BinOp (.List [.Constant (.int 0) _ _] _) .Add (.Name x _) _) (.Slice none (some (.Constant (.int m') _ _)) none _) _) a' [] _ :: b' =>
    decide (N[0]? = some x) && visB sc x && plainN x && decide (m' = (m : Int)) && mG anyFn N sc true tg tg' && mSs M N sc a a' && mSs M N sc b b'
  | _ => false
/-- .. after one assignment -/
def lawB (M : MT) (N : List Str) (sc : Scope) (pre : Option (Nat × E)) (m : Nat) (tg : List Nat) (a b : Ss) (ss : List Stmt) : Bool := match pre with
  | none => lawB0 M N sc m tg a b ss
  | some (i, e) => match ss with
    | .Assign [.Name x p] e' _ :: ss => decide (i ≠ 0) && mN anyFn N sc i (.Name x p) && notComp e' && mE M N sc e e' && lawB0 M N sc m tg a b ss
    | _ => false
def tPre (FA : Gv) (Ex : XW) (C : Calls) (pre : Option (Nat × E)) (t : TS) : TS := match pre with
  | none => t
  | some (i, e) => tSeq (tAsg (tE FA Ex C e) (gName i)) t
theorem sLaw0 (hf : ∀ x, X.fn x = true) {m : Nat} {tg : List Nat} {a b : Ss} {ss : List Stmt} (cx : Ctx RX FA M Ex C k N sc X) (h : lawB0 M N sc m tg a b ss = true) : PSs X ss (tSeq (tLaw X.K FA Ex C m tg a) (tSs FA Ex C b)) := by
  unfold lawB0 at h
  split at h
  · simp only [Bool.and_eq_true, decide_eq_true_eq] at h
    obtain ⟨⟨⟨⟨⟨⟨h1, h2⟩, h3⟩, h4⟩, h5⟩, h6⟩, h7⟩ := h
    subst h4
    exact pss_cons (ps_m_law cx h1 h2 h3 (sG cx.hN cx.nd cx.hsc cx.calm (fun x _ => hf x) h5) (sSs hf a _ cx h6)) (sSs hf b _ cx h7)
  · cases h
theorem sLaw (hf : ∀ x, X.fn x = true) {pre : Option (Nat × E)} {m : Nat} {tg : List Nat} {a b : Ss} {ss : List Stmt} (cx : Ctx RX FA M Ex C k N sc X) (h : lawB M N sc pre m tg a b ss = true) : PSs X ss (tPre FA Ex C pre (tSeq (tLaw X.K FA Ex C m tg a) (tSs FA Ex C b))) := by
  unfold lawB at h
  cases pre with
  | none => exact sLaw0 hf cx h
  | some q =>
    obtain ⟨i, e⟩ := q
    simp only at h
    split at h
    · simp only [Bool.and_eq_true] at h
      obtain ⟨⟨⟨⟨_, h2⟩, h3⟩, h4⟩, h5⟩ := h
      obtain ⟨x2, p2, e2, st⟩ := sto_of cx.hN cx.nd cx.hsc (fun x _ => hf x) h2
      cases e2
      show PSs X _ (tSeq (tAsg (tE FA Ex C e) (gName i)) (tSeq (tLaw X.K FA Ex C m tg a) (tSs FA Ex C b)))
      refine pss_cons ?_ (sLaw0 hf cx h5)
      exact ps_set st.nd st.at_ st.loc (sE e _ M Ex sc X cx h4).pe (swaps_no h3) st.fn
    · cases h
end
section
variable {P' : Program} {w : World} {K : PySem.W.Frag} {mg : Str → Option Value} {base : Heap} {FA : Gv} {M : MT} {its : List (Nat × Item)} {T : Nat → Option Def}
/-- the law's text, as ML reads it -/
structure LawT where
  st : Stmt
  N : List Str
  m : Nat
  tg : List Nat
  body : Ss
  rest : Ss
  pre : Option (Nat × E)
def preOk (pre : Option (Nat × E)) : Bool := match pre with
  | none => true
  | some q => decide (q.1 ≠ 0)
def LawT.ok (M : MT) (l : LawT) : Bool := C8.scC l.N ["script"] (defScope l.st) && lawB M l.N (defScope l.st) l.pre l.m l.tg l.body l.rest (defBody l.st)
/-- .. from the names and the store -/
def LawT.go (l : LawT) (C : Calls) (ns : List Int) (r : Env) (s : Store) : Res Flow :=
  thenS (forL (fun x r => bindT l.tg true x r) (fun r s => exSs C l.body r s) ((cells l.m ns).map PV.int) r s) fun r s => exSs C l.rest r s
/-- what the law gives for a script -/
def LawT.run (l : LawT) (C : Calls) (ns : List Int) : Res Flow := match l.pre with
  | none => l.go C ns (List.replicate l.N.length none) []
  | some q => (evE C q.2 (List.replicate l.N.length none) []).bind fun v s => l.go C ns ((List.replicate l.N.length none).set q.1 (some v)) s
def spLaw (K : PySem.W.Frag) (T : List (Addr × Str)) : Sp := fun vs H Q _ => ∃ (ad : Addr) (ns : List Int), vs = [.ref ad] ∧ SqL K H ad (ns.map V.int) ∧ ns.length ≤ 63 ∧ (∀ p ∈ T, H p.1 = some (.tbl #[])) ∧ ∀ H', Q (.bl true) H'
/-- with the def that tells exceptions -/
def MT.withTr (M : MT) (x : Option Str) : MT := { M with tr := x }
/-- with its lambdas -/
def MT.withLm (M : MT) (lm : Nat → LamW → Bool) : MT := { M with lm := lm }
/-- a def of one parameter, as the written part has it -/
structure Def1 (K : PySem.W.Frag) (mg : Str → Option Value) (x : Str) (st : Stmt) (a : Addr) (fd : FuncData) : Prop where
  mgx : mg x = some (.ref a)
  kp : PySem.W.keepIn K (.ref a) = true
  ex : ∃ (oc : Value) (od : Option Addr) (kV dc pm : Value) (an : Option Addr) (cd ct : Value) (sl : Array (Option Value)), fd = PySem.W.fnOf x x (defArgs st) (defBody st) (defScope st) .none kV dc pm an cd ct ∧ K.lookup a = some ⟨oc, od, .func fd, sl⟩ ∧ PySem.W.codeIn K cd x = true
/-- what the telling of exceptions asks of the text -/
def trB (tst nst : Stmt) (nx : Str) : Bool := C8.scC trN ["door"] (defScope tst) && tryB (defScope tst) nx (defBody tst) && visB (defScope tst) "door" && C8.scC nmN ["e"] (defScope nst) && nmB (defScope nst) (defBody nst)
structure TrW (K : PySem.W.Frag) (mg : Str → Option Value) (FA : Gv) (tx : Str) (q : Str) (c P : Addr) : Prop where
  cls : ∃ qe, Xc K mg FA.cs qe
  txt : ∃ (tst nst : Stmt) (nx : Str) (ta na : Addr) (tfd nfd : FuncData), trB tst nst nx = true ∧ Def1 K mg tx tst ta tfd ∧ Def1 K mg nx nst na nfd ∧ L2.Binds K tfd ["door"] [] ∧ L2.Binds K nfd ["e"] []
  plain : plainN tx = true
  isi : mg "isinstance" = none
  zip : mg "zip" = none
  st : mg "str" = none
  tab : FA.tab = [(P, q)]
theorem att_ok {k : Nat} {X : Cx} {tx : Str} {c P : Addr} (W : TrW X.K X.mg FA tx (X.env.qual ++ "<lambda>") c P) (TB : LamX.TabB X.base X.mg c P) (hcode : X.env.code = .ref c) (hr : Room (k + 4) X.A) (hk : 1 ≤ k) : AttOk FA X k tx := by
  intro p lpos pos body scope t hg L hmono hbody
  obtain ⟨qe, T⟩ := W.cls
  obtain ⟨tst, nst, nx, ta, na, tfd, nfd, hb, D1, D2, b1, b2⟩ := W.txt
  unfold trB at hb
  simp only [Bool.and_eq_true] at hb
  obtain ⟨⟨⟨⟨h1, h2⟩, h3⟩, h4⟩, h5⟩ := hb
  obtain ⟨oc, od, kV, dc, pm, an, cd, ct, sl, rfl, lk, hcd⟩ := D1.ex
  obtain ⟨d1, d2, _⟩ := plain_of W.plain
  have S1 := C8.fnScope_by h1
  have S2 := C8.fnScope_by h4
  have FN : FnHot X.prog X.w X.K X.mg X.base na nfd ["e"] (spNm FA.cs) := by
    obtain ⟨oc2, od2, kV2, dc2, pm2, an2, cd2, ct2, sl2, rfl, lk2, hcd2⟩ := D2.ex
    have F2 : Fun X.K nx nx nst na _ := ⟨⟨oc2, od2, kV2, dc2, pm2, an2, cd2, ct2, sl2, rfl, lk2, hcd2⟩, D2.kp⟩
    refine fn_hot F2 S2 fun A outer s H vs Q cdv hl hsp => ?_
    obtain ⟨a, oe, i, rfl, hx, hi, q⟩ := hsp
    exact ⟨_, nm_body (X := cxHot X.prog X.w X.K X.mg X.base nmN nx (defScope nst) na cdv A outer s H) T rfl rfl W.isi W.zip h5, i, a, oe, rfl, ⟨⟨hx.hot.hd, hx.hot.at_, hx.hot.ctx⟩, hx.cls, hx.dict⟩, hi, q⟩
  exact pe_lamN (k := k + 2) (c := c) (P := P) (Ng := trN) (a := "door") hg D1.mgx D1.kp lk hcd b1 S1 rfl (vis_of h3) (try_gives T h2 FN b2 W.st D2.mgx D2.kp) TB hcode (by rw [W.tab]; exact List.mem_cons_self) (fun p hp _ => by
    rw [W.tab] at hp
    have e : p = (P, X.env.qual ++ "<lambda>") := by simpa using hp
    rw [e]) hr (by omega) L rfl (fun _ _ _ _ _ => rfl) hmono hbody d1 (by decide) (by decide)
/-- the law's def: with or without the telling of exceptions -/
theorem law_ok {k : Nat} {l : LawT} {fa c P : Addr} {tr : Option Str} {oc kV dc pm ct cd : Value} {od an : Option Addr} {sl : Array (Option Value)} (W : World0 K mg FA M its T) (hb : l.ok ((M.withTr tr).withLm FA.lm) = true)
    (lk : K.lookup fa = some ⟨oc, od, .func (PySem.W.fnOf "law" "law" (defArgs l.st) (defBody l.st) (defScope l.st) .none kV dc pm an cd ct), sl⟩) (hcd : PySem.W.codeIn K cd "law" = true) (hk : 1 ≤ k)
    (ht : ∀ tx, tr = some tx → cd = .ref c ∧ TrW K mg FA tx "law.<locals>.<lambda>" c P ∧ LamX.TabB base mg c P)
    (hlm : tr = none → ∀ f W, FA.lm f W = false)
    (hl : ∀ ns : List Int, ns.length ≤ 63 → ∃ s, l.run (evF T k) ns = .ok (.rt (.bl true)) s) : FnOk P' w K mg base (L2N.CX P' w) (k + 5) fa (PySem.W.fnOf "law" "law" (defArgs l.st) (defBody l.st) (defScope l.st) .none kV dc pm an cd ct) ["script"] (spLaw K FA.tab) := by
  unfold LawT.ok at hb
  rw [Bool.and_eq_true] at hb
  have S := C8.fnScope_by hb.1
  refine fn_of lk hcd S (fun vs H Q E h => ?_) fun A outer s H vs Q E hr h => ?_
  · obtain ⟨_, _, rfl, _⟩ := h
    rfl
  obtain ⟨ad, ns, rfl, hs, hz, hT, q⟩ := h
  have cx0 := ctx_of (E := E) (H := H) (outer := outer) (P := P') (w := w) (base := base) W (all_ok W k) (lam_all W k) S (hr.mono (by omega))
  have cx : Ctx (rxOf FA.cs) FA ((M.withTr tr).withLm FA.lm) (exE (rxOf FA.cs) E) (evF T k) k l.N (defScope l.st) (cxOf (L2N.CX P' w) P' w K mg base l.N "law" (defScope l.st) fa cd A outer s H E) :=
    { cx0 with
      att := fun x h => by
        obtain ⟨e1, e2, e3⟩ := ht x h
        exact att_ok (c := c) (P := P) e2 e3 e1 hr hk
      lmv := fun f w h => by
        have h : FA.lm f w = true := h
        refine ⟨h, ?_⟩
        cases htr : tr with
        | none =>
          rw [hlm htr f w] at h
          cases h
        | some tx =>
          obtain ⟨e1, e2, e3⟩ := ht tx htr
          obtain ⟨e0, _, hb0⟩ := W.lam f w h
          unfold lamB at hb0
          rw [Bool.and_eq_true] at hb0
          exact lamMk_ok (c := c) (P := P) e3 e1 rfl e2.tab (C8.fnScope_by hb0.1).nofree }
  refine ⟨_, sLaw (fun _ => rfl) cx hb.2, ?_⟩
  obtain ⟨st, e⟩ := hl ns hz
  have hle : 1 ≤ l.N.length := by
    have := congrArg List.length S.pre
    rw [List.length_take] at this
    have e1 : (["script"] : List Str).length = 1 := rfl
    omega
  have hlen : (L2.start l.N [.ref ad]).length = l.N.length := by
    unfold L2.start
    rw [List.length_append, List.length_map, List.length_replicate]
    show 1 + (l.N.length - 1) = _
    omega
  have hT0 : LamX.Tabs FA.tab H := fun p hp => LamX.TabS.nil (hT p hp)
  have key : ∀ (L : Nm) (r : Env) (s : Store) (σ : L2.St) (H : Hp), RepE FA L s.length H σ r → Sim FA L H s → σ[0]? = some (some (.ref ad)) → SqL K H ad (ns.map V.int) → (∃ st, l.go (evF T k) ns r s = .ok (.rt (.bl true)) st) →
      tSeq (tLaw K FA (exE (rxOf FA.cs) E) (evF T k) l.m l.tg l.body) (tSs FA (exE (rxOf FA.cs) E) (evF T k) l.rest) { nx := fun _ H' => Q .non H', rt := Q } σ H := by
    intro L r s σ H hE hS h0 hq e
    obtain ⟨st, e⟩ := e
    refine ⟨L, r, s, ad, ns, hE, hS, h0, hq, hz, fun H1 _ => ?_⟩
    unfold LawT.go at e
    generalize forL (fun x r => bindT l.tg true x r) (fun r s => exSs (evF T k) l.body r s) ((cells l.m ns).map PV.int) r s = z at e
    cases z with
    | ok f s1 =>
      intro L' H' st' sm'
      cases f with
      | nx r1 =>
        rw [thenS_nx] at e
        refine fun σ' hE => ⟨L', r1, s1, hE, sm', ?_⟩
        rw [e]
        intro L2 H2 st2 sm2 w2 rw2
        cases rw2
        exact q H2
      | rt v =>
        rw [thenS_rt] at e
        cases e
        intro w2 rw2
        cases rw2
        exact q H'
    | exc v s1 => cases e
    | bad => cases e
  unfold LawT.run at e
  have hbp := hb.2
  generalize hpre : l.pre = pre at e hbp
  cases pre with
  | none => exact key (L00 FA.tab) _ [] _ H (rep00 hlen) (sim00 hT0) rfl hs ⟨st, e⟩
  | some pq =>
    obtain ⟨i, ex⟩ := pq
    have hi : i ≠ 0 := by
      unfold lawB at hbp
      simp only at hbp
      split at hbp
      · simp only [Bool.and_eq_true, decide_eq_true_eq] at hbp
        exact hbp.1.1.1.1
      · cases hbp
    refine ⟨L00 FA.tab, List.replicate l.N.length none, [], rep00 hlen, sim00 hT0, ?_⟩
    simp only at e
    generalize evE (evF T k) ex (List.replicate l.N.length none) [] = x at e
    cases x with
    | bad => cases e
    | exc v s1 => cases e
    | ok v s1 =>
      intro L' H' st' sm' u ru
      refine key L' _ s1 _ H' ((rep00 hlen |>.up st').set ru) sm' ?_ ?_ ⟨st, e⟩
      · show (List.set _ i _)[0]? = _
        rw [List.getElem?_set_ne hi]
        rfl
      · rcases hs with (hs | ⟨o, hs⟩) | hs
        · exact .inl (.inl (st'.keep _ _ hs (fun l hl => absurd hl (Nat.not_lt_zero _)) (fun _ z => nomatch z)))
        · exact .inl (.inr ⟨o, st'.keep _ _ hs (fun l hl => absurd hl (Nat.not_lt_zero _)) (fun _ z => nomatch z)⟩)
        · exact .inr hs
end
end ML

set_option Elab.async false
set_option maxRecDepth 10000
set_option linter.all false
set_option maxHeartbeats 4000000
/-! ML: what the written part of the heap gives. -/
namespace ML
open PySem PySem.Spec PyProof.Rows L2
section
variable {K : PySem.W.Frag} {h : Heap} {mg : Str → Option Value} {x : Str} {st : Stmt} {N ps : List Str} {d : Def} {a : Addr} {oc : Value} {od an : Option Addr} {sl : Array (Option Value)} {kV dc pm cd ct : Value}
theorem have_plain (X : K.In h) (G : h.Ns mainGlobals mg) (n : PySem.W.nsIn K mainGlobals x = some (some (.ref a)))
    (l : K.lookup a = some ⟨oc, od, .func (PySem.W.fnOf x x (defArgs st) (defBody st) (defScope st) .none kV dc pm an cd ct), sl⟩) (c : PySem.W.codeIn K cd x = true) (k : PySem.W.keepIn K (.ref a) = true)
    (hb : ∀ (kV doc pm : Value) (an : Option Addr) (cdv ct : Value) (us : List Value), us.length = ps.length → bindArgs (PySem.W.fnOf x x (defArgs st) (defBody st) (defScope st) .none kV doc pm an cdv ct) ⟨us, []⟩ = pure (ps.zip us)) :
    PySem.W.keepIn K (.ref a) = true ∧ Have K mg ⟨st, x, N, ps, d, false⟩ a := by
  have F : FunD K x x (defArgs st) (defBody st) (defScope st) [] [] a (PySem.W.fnOf x x (defArgs st) (defBody st) (defScope st) .none kV dc pm an cd ct) :=
    ⟨⟨oc, od, .none, kV, dc, pm, an, cd, ct, sl, rfl, l, c, .inl ⟨rfl, rfl⟩, .inl rfl⟩, k⟩
  exact ⟨k, PySem.W.mg_of X G n, _, F, fun _ => F.bindsN hb, (fun z => nomatch z)⟩
theorem have_kw {D : Addr} {m : Nat} (X : K.In h) (G : h.Ns mainGlobals mg) (n : PySem.W.nsIn K mainGlobals x = some (some (.ref a)))
    (l : K.lookup a = some ⟨oc, od, .func (PySem.W.fnOf x x (defArgs st) (defBody st) (defScope st) .none (.ref D) dc pm an cd ct), sl⟩) (c : PySem.W.codeIn K cd x = true) (k : PySem.W.keepIn K (.ref a) = true)
    (e : PySem.W.nsIn K D "patience" = some (some .none)) (hm : ps.length = m + 1)
    (hb : ∀ (D : Addr) (doc pm : Value) (an : Option Addr) (cdv ct : Value) (us ks : List Value), us.length = m → ks.length = 1 →
      KwChain D ((["patience"] : List Str).zip ks) (bindArgs (PySem.W.fnOf x x (defArgs st) (defBody st) (defScope st) .none (.ref D) doc pm an cdv ct) ⟨us, []⟩) (ps.zip (us ++ ks)))
    (hk : ∀ (D : Addr) (doc pm : Value) (an : Option Addr) (cdv ct : Value) (us ws : List Value), us.length = m → ws.length = 1 →
      bindArgs (PySem.W.fnOf x x (defArgs st) (defBody st) (defScope st) .none (.ref D) doc pm an cdv ct) ⟨us, (["patience"] : List Str).zip ws⟩ = pure (ps.zip (us ++ ws))) :
    PySem.W.keepIn K (.ref a) = true ∧ Have K mg ⟨st, x, N, ps, d, true⟩ a := by
  have F : FunD K x x (defArgs st) (defBody st) (defScope st) [] [("patience", V.non)] a (PySem.W.fnOf x x (defArgs st) (defBody st) (defScope st) .none (.ref D) dc pm an cd ct) :=
    ⟨⟨oc, od, .none, .ref D, dc, pm, an, cd, ct, sl, rfl, l, c, .inl ⟨rfl, rfl⟩, .inr ⟨D, rfl, fun q hq => by
      have hq : q = (("patience" : Str), V.non) := by simpa using hq
      subst hq
      exact ⟨.none, e, rfl⟩⟩⟩, k⟩
  refine ⟨k, PySem.W.mg_of X G n, _, F, (fun z => nomatch z), fun _ => ⟨?_, m, hm, ?_⟩⟩
  · exact F.binds0 m (by simp) (by rw [hm]; rfl) fun D doc pm an cdv ct us ks h1 h2 => hb D doc pm an cdv ct us ks h1 h2
  · exact ⟨fun s us ws X' l1 l2 => .of_eq (hk D dc pm an cd ct us ws l1 l2), fun r1 r2 => r1.append r2⟩
theorem fun_law (l : K.lookup a = some ⟨oc, od, .func (PySem.W.fnOf x x (defArgs st) (defBody st) (defScope st) .none kV dc pm an cd ct), sl⟩) (c : PySem.W.codeIn K cd x = true) (k : PySem.W.keepIn K (.ref a) = true) :
    FunD K x x (defArgs st) (defBody st) (defScope st) [] [] a (PySem.W.fnOf x x (defArgs st) (defBody st) (defScope st) .none kV dc pm an cd ct) := ⟨⟨oc, od, .none, kV, dc, pm, an, cd, ct, sl, rfl, l, c, .inl ⟨rfl, rfl⟩, .inl rfl⟩, k⟩
end
theorem mem_lk {α : Type} : ∀ {l : List (Nat × α)} {f : Nat} {v : α}, l.lookup f = some v → (f, v) ∈ l
  | [], _, _, h => by cases h
  | (g, u) :: r, f, v, h => by
    rw [List.lookup_cons] at h
    split at h
    · rename_i e
      have e2 : f = g := by simpa using e
      cases h
      rw [e2]
      exact List.mem_cons_self
    · exact List.mem_cons_of_mem _ (mem_lk h)
theorem cx_off (P : Program) (w : World) (H : Hp) (s : Shared) (e : Value) (s' : Shared) (h : L2N.CX P w [] H s (fun _ _ _ => False) e s') : False := by
  obtain ⟨_, _, _, _, _, _, _, _, _, _, _, _, z⟩ := h
  exact z
theorem def1_of {K : PySem.W.Frag} {h : Heap} {mg : Str → Option Value} {x : Str} {st : Stmt} {ps : List Str} {a : Addr} {oc : Value} {od an : Option Addr} {sl : Array (Option Value)} {kV dc pm cd ct : Value} (X : K.In h) (G : h.Ns mainGlobals mg) (n : PySem.W.nsIn K mainGlobals x = some (some (.ref a)))
    (l : K.lookup a = some ⟨oc, od, .func (PySem.W.fnOf x x (defArgs st) (defBody st) (defScope st) .none kV dc pm an cd ct), sl⟩) (c : PySem.W.codeIn K cd x = true) (k : PySem.W.keepIn K (.ref a) = true)
    (hb : ∀ (kV doc pm : Value) (an : Option Addr) (cdv ct : Value) (us : List Value), us.length = ps.length → bindArgs (PySem.W.fnOf x x (defArgs st) (defBody st) (defScope st) .none kV doc pm an cdv ct) ⟨us, []⟩ = pure (ps.zip us)) :
    Def1 K mg x st a (PySem.W.fnOf x x (defArgs st) (defBody st) (defScope st) .none kV dc pm an cd ct) ∧ L2.Binds K (PySem.W.fnOf x x (defArgs st) (defBody st) (defScope st) .none kV dc pm an cd ct) ps [] := by
  have F : FunD K x x (defArgs st) (defBody st) (defScope st) [] [] a (PySem.W.fnOf x x (defArgs st) (defBody st) (defScope st) .none kV dc pm an cd ct) :=
    ⟨⟨oc, od, .none, kV, dc, pm, an, cd, ct, sl, rfl, l, c, .inl ⟨rfl, rfl⟩, .inl rfl⟩, k⟩
  exact ⟨⟨PySem.W.mg_of X G n, k, oc, od, kV, dc, pm, an, cd, ct, sl, rfl, l, c⟩, F.bindsN hb⟩
/-- the names of the classes, as the written part has them -/
def xcNs (K : PySem.W.Frag) : List Str → List Addr → Bool
  | x :: xs, C :: Cs => decide (PySem.W.nsIn K mainGlobals x = some (some (.ref C))) && xcNs K xs Cs
  | _, _ => true
theorem xcNs_get {K : PySem.W.Frag} {h : Heap} {mg : Str → Option Value} (X : K.In h) (G : h.Ns mainGlobals mg) : ∀ {xs : List Str} {cs : List Addr}, xcNs K xs cs = true → ∀ (i : Nat) (x : Str) (C : Addr), xs[i]? = some x → cs[i]? = some C → mg x = some (.ref C)
  | [], _, _, i, x, C, h1, _ => by simp at h1
  | _ :: _, [], _, i, x, C, _, h2 => by simp at h2
  | y :: xs, D :: cs, hh, i, x, C, h1, h2 => by
    unfold xcNs at hh
    rw [Bool.and_eq_true] at hh
    cases i with
    | zero =>
      cases h1
      cases h2
      exact PySem.W.mg_of X G (of_decide_eq_true hh.1)
    | succ i => exact xcNs_get X G hh.2 i x C h1 h2
theorem Xc.thrown {K : PySem.W.Frag} {mg : Str → Option Value} {cs : List Addr} {qe : Addr} (T : Xc K mg cs qe) {i : Nat} {x : Str} (hi : i < 10) (hx : xcNames[i]? = some x) :
    ∃ C, cs[i]? = some C ∧ mg x = some (.ref C) ∧ PySem.W.excIn K C vTail "ValueError.__new__" = true ∧ PySem.W.keepIn K (.ref C) = true ∧ PySem.W.subIn K (.ref C) (.type "BaseException") = some true ∧ PySem.W.typeIn K (.ref C) = some (.type "type") := by
  have hl := T.len
  obtain ⟨C, hC⟩ : ∃ D, cs[i]? = some D := ⟨_, List.getElem?_eq_getElem (by omega)⟩
  have h1 := T.one hC
  unfold xcOne at h1
  simp only [Bool.and_eq_true, Bool.or_eq_true, decide_eq_true_eq] at h1
  obtain ⟨⟨⟨⟨⟨⟨⟨⟨⟨⟨⟨a0, a1⟩, a2⟩, a3⟩, a4⟩, a5⟩, a6⟩, a7⟩, a8⟩, a9⟩, _⟩, _⟩ := h1
  exact ⟨C, hC, T.at_ i x C hx hC, by rcases a0 with z | z; · omega
                                      · exact z, a1, a4, a8⟩
/-- the head's goal, from the law's promise -/
theorem law_at {l : PySem.W.OpenLaw} {w : World} {K : PySem.W.Frag} {mg : Str → Option Value} {fa : Addr} {h : Heap} {k : Nat} {fd : FuncData} {T : List (Addr × Str)} {cs : List (Addr × Addr)}
    (hcs : cs.map (·.2) = T.map (·.1)) (hT : ∀ p ∈ cs, h.get? p.2 = some { cls := .none, data := .fields #[] }) (nT : ∀ p ∈ cs, K.lookup p.2 = none) (C : ∀ p ∈ cs, PySem.W.CodeHd h p.1 p.2)
    (hb : ∀ (s : Shared) (u : Value), BindsTo s fd ⟨[u], []⟩ [("script", u)])
    (hf : ∀ base : Heap, K.In base → base.Ns mainGlobals mg → (∀ p ∈ cs, LamX.TabB base mg p.1 p.2) → FnOk l.prog w K mg base (L2N.CX l.prog w) k fa fd ["script"] (spLaw K T)) :
    LamX.LawAtS l w K (L2N.CX l.prog w) k 63 "script" mg fa h :=
  ⟨fd, cs, spLaw K T, hT, nT, C, hb, fun H a ns hl _ hH hS => ⟨a, ns, rfl, hS, hl, fun p hp => by
    have : p.1 ∈ cs.map (·.2) := by rw [hcs]; exact List.mem_map_of_mem hp
    obtain ⟨q, hq, e⟩ := List.mem_map.mp this
    rw [← e]
    exact hH q hq, fun _ => rfl⟩, hf⟩
end ML

set_option Elab.async false
set_option maxRecDepth 10000
/-! ML: the defs of the texts (printed by gen.py). -/
namespace ML
open PySem (Str)
/-- is_from(value, low, high): names value, low, high -/
def d_is_from : Def := ⟨3, 3, (.cons (.ret (.and_ (.bi .isint (.cons (.var 0) .nil)) (.and_ (.not_ (.bi .isbool (.cons (.var 0) .nil))) (.chain .le .le (.var 1) (.var 0) (.var 2))))) .nil)⟩
/-- is_parties(value): names value, size -/
def d_is_parties : Def := ⟨1, 2, (.cons (.ifs (.or_ (.not_ (.bi .istuple (.cons (.var 0) .nil))) (.cmp .gt (.bi .len (.cons (.var 0) .nil)) (.gint "MOST_PARTIES" 16))) (.cons (.ret (.bl false)) .nil) .nil) (.cons (.ret (.bi .all (.cons (.comp false [1] [1] true (.seq (.var 0)) .no (.frz (.call 0 (.cons (.var 1) (.cons (.int 1) (.cons (.gint "LARGEST" 50) .nil))) .no))) .nil))) .nil))⟩
/-- need_parties(parties): names parties -/
def d_need_parties : Def := ⟨1, 1, (.cons (.ifs (.not_ (.frz (.call 1 (.cons (.var 0) .nil) .no))) (.cons (.raise 0) .nil) .nil) .nil)⟩
/-- need_seats(seats): names seats -/
def d_need_seats : Def := ⟨1, 1, (.cons (.ifs (.not_ (.frz (.call 0 (.cons (.var 0) (.cons (.int 0) (.cons (.gint "MOST_SEATS" 1000) .nil))) .no))) (.cons (.raise 1) .nil) .nil) .nil)⟩
/-- need_patience(patience): names patience -/
def d_need_patience : Def := ⟨1, 1, (.cons (.ifs (.and_ (.cmp .notn (.var 0) .non) (.not_ (.frz (.call 0 (.cons (.var 0) (.cons (.int 0) (.cons (.gint "MOST_PARTIES" 16) .nil))) .no)))) (.cons (.raise 2) .nil) .nil) .nil)⟩
/-- need_house(parties, seats, patience): names parties, seats, patience -/
def d_need_house : Def := ⟨3, 3, (.cons (.expr (.frz (.call 2 (.cons (.var 0) .nil) .no))) (.cons (.expr (.frz (.call 3 (.cons (.var 1) .nil) .no))) (.cons (.expr (.frz (.call 4 (.cons (.var 2) .nil) .no))) .nil)))⟩
/-- run(parties, seats, patience): names parties, seats, patience, rest, refused, found, size -/
def d_run : Def := ⟨3, 7, (.cons (.sets [3, 4, 5] (.cons (.var 1) (.cons (.int 0) (.cons (.newl .nil) .nil)))) (.cons (.for_ [6] true (.seq (.var 0)) (.cons (.ifs (.and_ (.cmp .notn (.var 2) .non) (.cmp .gt (.var 4) (.var 2))) (.cons (.expr (.append (.var 5) (.tup (.cons (.str "closed") (.cons (.var 3) .nil))))) .nil) (.cons (.ifs (.cmp .le (.var 6) (.var 3)) (.cons (.expr (.append (.var 5) (.tup (.cons (.str "enters") (.cons (.var 3) .nil))))) (.cons (.aug 3 true (.var 6)) .nil)) (.cons (.expr (.append (.var 5) (.tup (.cons (.str "large") (.cons (.var 3) .nil))))) (.cons (.aug 4 false (.int 1)) .nil))) .nil)) .nil)) (.cons (.ret (.var 5)) .nil)))⟩
/-- entering(parties, seats, patience): names parties, seats, patience, at, row -/
def d_entering : Def := ⟨3, 5, (.cons (.ret (.bi .tuple (.cons (.comp false [3, 4] [3, 4] false (.enum (.frz (.call 6 (.cons (.var 0) (.cons (.var 1) (.cons (.var 2) .nil))) .no))) (.yes (.cmp .eq (.ix (.var 4) (.int 0)) (.str "enters"))) (.var 3)) .nil))) .nil)⟩
/-- taken_by(parties, chosen): names parties, chosen, at -/
def d_taken_by : Def := ⟨2, 3, (.cons (.ret (.bi .sum (.cons (.comp false [2] [2] true (.seq (.var 1)) .no (.ix (.var 0) (.var 2))) .nil))) .nil)⟩
/-- decisions(parties, seats, patience): names parties, seats, patience, row -/
def d_decisions : Def := ⟨3, 4, (.cons (.expr (.frz (.call 5 (.cons (.var 0) (.cons (.var 1) (.cons (.var 2) .nil))) .no))) (.cons (.ret (.comp true [3] [3] true (.seq (.frz (.call 6 (.cons (.var 0) (.cons (.var 1) (.cons (.var 2) .nil))) .no))) .no (.ix (.var 3) (.int 0)))) .nil))⟩
/-- enter(parties, seats, patience): names parties, seats, patience -/
def d_enter : Def := ⟨3, 3, (.cons (.expr (.frz (.call 5 (.cons (.var 0) (.cons (.var 1) (.cons (.var 2) .nil))) .no))) (.cons (.ret (.call 7 (.cons (.var 0) (.cons (.var 1) (.cons (.var 2) .nil))) .no)) .nil))⟩
/-- seats_taken(parties, seats, patience): names parties, seats, patience -/
def d_seats_taken : Def := ⟨3, 3, (.cons (.expr (.frz (.call 5 (.cons (.var 0) (.cons (.var 1) (.cons (.var 2) .nil))) .no))) (.cons (.ret (.call 8 (.cons (.var 0) (.cons (.frz (.call 7 (.cons (.var 0) (.cons (.var 1) (.cons (.var 2) .nil))) .no)) .nil)) .no)) .nil))⟩
/-- rests(parties, seats, patience): names parties, seats, patience, row -/
def d_rests : Def := ⟨3, 4, (.cons (.expr (.frz (.call 5 (.cons (.var 0) (.cons (.var 1) (.cons (.var 2) .nil))) .no))) (.cons (.ret (.comp true [3] [3] true (.seq (.frz (.call 6 (.cons (.var 0) (.cons (.var 1) (.cons (.var 2) .nil))) .no))) .no (.ix (.var 3) (.int 1)))) .nil))⟩
/-- _law_deck(cell, turn): names cell, turn -/
def d_law_deck : Def := ⟨2, 2, (.cons (.ifs (.cmp .ge (.var 0) (.bin .pow (.int 10) (.int 18))) (.cons (.ret (.newl (.cons (.bin .sub (.var 0) (.bin .pow (.int 10) (.int 18))) (.cons (.bin .mod (.var 0) (.int 2147483579)) (.cons (.var 1) .nil))))) .nil) .nil) (.cons (.ret (.newl (.cons (.int 0) (.cons (.bin .mod (.var 0) (.int 2147483579)) (.cons (.var 1) .nil))))) .nil))⟩
/-- _law_pick(deck, limit): names deck, limit, found, number -/
def d_law_pick : Def := ⟨2, 4, (.cons (.ifs (.cmp .gt (.ix (.var 0) (.int 0)) (.int 1)) (.cons (.set 2 (.bin .mod (.ix (.var 0) (.int 0)) (.var 1))) (.cons (.seti (.var 0) (.int 0) (.bin .fdiv (.ix (.var 0) (.int 0)) (.var 1))) (.cons (.ret (.var 2)) .nil))) .nil) (.cons (.seti (.var 0) (.int 2) (.bin .add (.ix (.var 0) (.int 2)) (.int 1))) (.cons (.set 3 (.bin .mod (.bin .pow (.bin .add (.ix (.var 0) (.int 1)) (.bin .mul (.int 15485867) (.ix (.var 0) (.int 2)))) (.int 5)) (.int 2147483647))) (.cons (.set 2 (.bin .fdiv (.bin .mod (.bin .pow (.bin .add (.var 3) (.bin .mul (.int 7919) (.ix (.var 0) (.int 2)))) (.int 3)) (.int 2147483629)) (.int 32))) (.cons (.ifs (.cmp .gt (.var 1) (.int 1000000)) (.cons (.ret (.bin .mod (.bin .add (.bin .mul (.var 2) (.int 2147483563)) (.var 3)) (.var 1))) .nil) .nil) (.cons (.ret (.bin .mod (.var 2) (.var 1))) .nil))))))⟩
/-- _law_whole(thing): names thing -/
def d_law_whole : Def := ⟨1, 1, (.cons (.ret (.and_ (.bi .isint (.cons (.var 0) .nil)) (.not_ (.bi .isbool (.cons (.var 0) .nil))))) .nil)⟩
/-- _law_one(deck, some): names deck, some -/
def d_law_one : Def := ⟨2, 2, (.cons (.ret (.ix (.var 1) (.frz (.call 14 (.cons (.var 0) (.cons (.bi .len (.cons (.var 1) .nil)) .nil)) .no)))) .nil)⟩
/-- _law_sort(thing): names thing -/
def d_law_sort : Def := ⟨1, 1, (.cons (.ifs (.bi .isbool (.cons (.var 0) .nil)) (.cons (.ret (.int 1)) .nil) .nil) (.cons (.ifs (.bi .isint (.cons (.var 0) .nil)) (.cons (.ret (.int 2)) .nil) .nil) (.cons (.ifs (.bi .isstr (.cons (.var 0) .nil)) (.cons (.ret (.int 3)) .nil) .nil) (.cons (.ifs (.bi .islist (.cons (.var 0) .nil)) (.cons (.ret (.int 4)) .nil) .nil) (.cons (.ret (.ite (.bi .istuple (.cons (.var 0) .nil)) (.int 5) (.int 6))) .nil)))))⟩
/-- _law_same(told, due): names told, due, k, part -/
def d_law_same : Def := ⟨2, 4, (.cons (.ifs (.cmp .ne (.frz (.call 19 (.cons (.var 0) .nil) .no)) (.frz (.call 19 (.cons (.var 1) .nil) .no))) (.cons (.ret (.bl false)) .nil) .nil) (.cons (.ifs (.and_ (.cmp .gt (.frz (.call 19 (.cons (.var 0) .nil) .no)) (.int 3)) (.cmp .lt (.frz (.call 19 (.cons (.var 0) .nil) .no)) (.int 6))) (.cons (.ifs (.cmp .ne (.bi .len (.cons (.var 0) .nil)) (.bi .len (.cons (.var 1) .nil))) (.cons (.ret (.bl false)) .nil) .nil) (.cons (.ret (.cmp .eq (.comp false [2, 3] [2, 3] false (.enum (.var 0)) (.yes (.not_ (.frz (.call 20 (.cons (.var 3) (.cons (.ix (.var 1) (.var 2)) .nil)) .no)))) (.var 2)) (.lst .nil))) .nil)) .nil) (.cons (.ret (.cmp .eq (.var 0) (.var 1))) .nil)))⟩
/-- _law_row(deck, many): names deck, many, top, k -/
def d_law_row : Def := ⟨2, 4, (.cons (.set 2 (.frz (.call 18 (.cons (.var 0) (.cons (.lst (.cons (.int 3) (.cons (.int 6) (.cons (.int 12) (.cons (.int 50) .nil))))) .nil)) .no))) (.cons (.ret (.bi .tuple (.cons (.comp false [3] [3] true (.range1 (.frz (.call 14 (.cons (.var 0) (.cons (.bin .add (.var 1) (.int 1)) .nil)) .no))) .no (.bin .add (.int 1) (.frz (.call 14 (.cons (.var 0) (.cons (.frz (.call 18 (.cons (.var 0) (.cons (.lst (.cons (.var 2) (.cons (.var 2) (.cons (.int 2) .nil)))) .nil)) .no)) .nil)) .no)))) .nil))) .nil))⟩
/-- _law_calm(deck): names deck -/
def d_law_calm : Def := ⟨1, 1, (.cons (.ret (.call 18 (.cons (.var 0) (.cons (.lst (.cons .non (.cons .non (.cons .non (.cons (.int 0) (.cons (.int 1) (.cons (.int 2) (.cons (.frz (.call 14 (.cons (.var 0) (.cons (.int 17) .nil)) .no)) .nil)))))))) .nil)) .no)) .nil)⟩
/-- _law_room(deck, sizes): names deck, sizes -/
def d_law_room : Def := ⟨2, 2, (.cons (.ret (.call 14 (.cons (.var 0) (.cons (.bin .add (.bi .min2 (.cons (.int 1000) (.cons (.bin .add (.bi .sum (.cons (.var 1) .nil)) (.int 4)) .nil))) (.int 1)) .nil)) .no)) .nil)⟩
/-- _law_run(sizes, room, calm): names sizes, room, calm, left, refused, found, size, word -/
def d_law_run : Def := ⟨3, 8, (.cons (.sets [3, 4, 5] (.cons (.var 1) (.cons (.int 0) (.cons (.newl .nil) .nil)))) (.cons (.for_ [6] true (.seq (.var 0)) (.cons (.set 7 (.ite (.cmp .le (.var 6) (.var 3)) (.str "enters") (.str "large"))) (.cons (.set 7 (.ite (.and_ (.cmp .notn (.var 2) .non) (.cmp .gt (.var 4) (.var 2))) (.str "closed") (.var 7))) (.cons (.expr (.append (.var 5) (.tup (.cons (.var 7) (.cons (.var 3) .nil))))) (.cons (.set 3 (.bin .sub (.var 3) (.bin .mul (.var 6) (.bi .int1 (.cons (.cmp .eq (.var 7) (.str "enters")) .nil))))) (.cons (.set 4 (.bin .add (.var 4) (.bi .int1 (.cons (.cmp .eq (.var 7) (.str "large")) .nil)))) .nil)))))) (.cons (.ret (.var 5)) .nil)))⟩
/-- _law_set(sizes, room, calm): names sizes, room, calm, at, row -/
def d_law_set : Def := ⟨3, 5, (.cons (.ret (.bi .tuple (.cons (.comp false [3, 4] [3, 4] false (.enum (.frz (.call 24 (.cons (.var 0) (.cons (.var 1) (.cons (.var 2) .nil))) .no))) (.yes (.cmp .eq (.ix (.var 4) (.int 0)) (.str "enters"))) (.var 3)) .nil))) .nil)⟩
/-- _law_sum(sizes, chosen): names sizes, chosen, at -/
def d_law_sum : Def := ⟨2, 3, (.cons (.ret (.bi .sum (.cons (.comp false [2] [2] true (.seq (.var 1)) .no (.ix (.var 0) (.var 2))) .nil))) .nil)⟩
/-- _law_spoilt(deck, value): names deck, value, at -/
def d_law_spoilt : Def := ⟨2, 3, (.cons (.ifs (.and_ (.bi .istuple (.cons (.var 1) .nil)) (.and_ (.cmp .gt (.bi .len (.cons (.var 1) .nil)) (.int 0)) (.cmp .gt (.frz (.call 14 (.cons (.var 0) (.cons (.int 5) .nil)) .no)) (.int 0)))) (.cons (.set 2 (.frz (.call 14 (.cons (.var 0) (.cons (.bi .len (.cons (.var 1) .nil)) .nil)) .no))) (.cons (.ret (.bin .add (.bin .add (.slice (.var 1) .no (.yes (.var 2))) (.tup (.cons (.frz (.call 27 (.cons (.var 0) (.cons (.ix (.var 1) (.var 2)) .nil)) .no)) .nil))) (.slice (.var 1) (.yes (.bin .add (.var 2) (.int 1))) .no))) .nil)) .nil) (.cons (.ifs (.bi .istuple (.cons (.var 1) .nil)) (.cons (.ret (.ix (.lst (.cons (.bi .list (.cons (.var 1) .nil)) (.cons (.bin .add (.var 1) (.slice (.var 1) .no (.yes (.int 1)))) (.cons (.slice (.var 1) (.yes (.int 1)) .no) (.cons .non (.cons (.tup .nil) (.cons (.int 7) (.cons (.tup (.cons (.int 0) .nil)) (.cons (.tup (.cons (.int 51) .nil)) .nil))))))))) (.frz (.call 14 (.cons (.var 0) (.cons (.int 8) .nil)) .no)))) .nil) .nil) (.cons (.ifs (.bi .isint (.cons (.var 1) .nil)) (.cons (.ret (.ix (.lst (.cons (.bin .add (.var 1) (.int 1)) (.cons (.bin .sub (.var 1) (.int 1)) (.cons (.bl true) (.cons .non (.cons (.int 0) (.cons (.int 50) (.cons (.int 51) (.cons (.str "1") (.cons (.neg (.int 1)) (.cons (.tup (.cons (.int 1) .nil)) .nil))))))))))) (.frz (.call 14 (.cons (.var 0) (.cons (.int 10) .nil)) .no)))) .nil) .nil) (.cons (.ret (.ix (.lst (.cons .non (.cons (.int 7) (.cons (.str "") (.cons (.tup .nil) .nil))))) (.frz (.call 14 (.cons (.var 0) (.cons (.int 4) .nil)) .no)))) .nil))))⟩
/-- _law_is_parties(value): names value, one -/
def d_law_is_parties : Def := ⟨1, 2, (.cons (.ifs (.or_ (.not_ (.bi .istuple (.cons (.var 0) .nil))) (.cmp .gt (.bi .len (.cons (.var 0) .nil)) (.int 16))) (.cons (.ret (.bl false)) .nil) .nil) (.cons (.ret (.cmp .eq (.comp false [1] [1] true (.seq (.var 0)) (.yes (.or_ (.not_ (.frz (.call 15 (.cons (.var 1) .nil) .no))) (.not_ (.chain .le .le (.int 1) (.var 1) (.int 50))))) (.var 1)) (.lst .nil))) .nil))⟩
/-- _law_right(deck, sizes): names deck, sizes, turn, room, calm, rows, words, lefts, told, chosen_so, row -/
def d_law_right_k01 : Def := ⟨2, 11, (.cons (.for_ [2] true (.range1 (.int 4)) (.cons (.sets [3, 4] (.cons (.frz (.call 23 (.cons (.var 0) (.cons (.var 1) .nil)) .no)) (.cons (.frz (.call 22 (.cons (.var 0) .nil) .no)) .nil))) (.cons (.set 5 (.frz (.call 24 (.cons (.var 1) (.cons (.var 3) (.cons (.var 4) .nil))) .no))) (.cons (.sets [6, 7] (.cons (.comp false [10] [10] true (.seq (.var 5)) .no (.ix (.var 10) (.int 0))) (.cons (.comp false [10] [10] true (.seq (.var 5)) .no (.ix (.var 10) (.int 1))) .nil))) (.cons (.set 8 (.lst (.cons (.mutc (.call 9 (.cons (.var 1) (.cons (.var 3) .nil)) (.yes (.var 4)))) (.cons (.mutc (.call 12 (.cons (.var 1) (.cons (.var 3) .nil)) (.yes (.var 4)))) .nil)))) (.cons (.set 9 (.frz (.call 25 (.cons (.var 1) (.cons (.var 3) (.cons (.var 4) .nil))) .no))) (.cons (.ifs (.not_ (.lend 2 (.frz (.call 20 (.cons (.var 8) (.cons (.lst (.cons (.var 6) (.cons (.var 7) .nil))) .nil)) .no)))) (.cons (.ret (.bl false)) .nil) .nil) (.cons (.ifs (.not_ (.frz (.call 20 (.cons (.frz (.call 10 (.cons (.var 1) (.cons (.var 3) .nil)) (.yes (.var 4)))) (.cons (.var 9) .nil)) .no))) (.cons (.ret (.bl false)) .nil) .nil) (.cons (.ifs (.not_ (.frz (.call 20 (.cons (.frz (.call 11 (.cons (.var 1) (.cons (.var 3) .nil)) (.yes (.var 4)))) (.cons (.frz (.call 26 (.cons (.var 1) (.cons (.var 9) .nil)) .no)) .nil)) .no))) (.cons (.ret (.bl false)) .nil) .nil) (.cons (.expr (.append (.ix (.var 8) (.int 0)) (.int 0))) (.cons (.expr (.append (.ix (.var 8) (.int 1)) (.int 0))) (.cons (.ifs (.cmp .ne (.frz (.call 9 (.cons (.var 1) (.cons (.var 3) .nil)) (.yes (.var 4)))) (.var 6)) (.cons (.ret (.bl false)) .nil) .nil) (.cons (.ifs (.cmp .ne (.frz (.call 12 (.cons (.var 1) (.cons (.var 3) .nil)) (.yes (.var 4)))) (.var 7)) (.cons (.ret (.bl false)) .nil) .nil) .nil))))))))))))) (.cons (.ret (.cmp .eq (.frz (.call 10 (.cons (.var 1) (.cons (.int 1000) .nil)) .dfl)) (.trange (.bi .len (.cons (.var 1) .nil))))) .nil))⟩
/-- lack(parties, seats, patience): names parties, seats, patience, some, size, row -/
def d_lack : Def := ⟨3, 6, (.cons (.set 3 (.comp false [4, 5] [4, 5] false (.zip (.var 0) (.frz (.call 6 (.cons (.var 0) (.cons (.var 1) (.cons (.var 2) .nil))) .no))) (.yes (.cmp .eq (.ix (.var 5) (.int 0)) (.str "large"))) (.bin .sub (.var 4) (.ix (.var 5) (.int 1))))) (.cons (.ret (.ite (.cmp .ne (.var 3) (.lst .nil)) (.bi .min1 (.cons (.var 3) .nil)) .non)) .nil))⟩
/-- next_change(parties, seats, patience): names parties, seats, patience, more -/
def d_next_change : Def := ⟨3, 4, (.cons (.expr (.frz (.call 5 (.cons (.var 0) (.cons (.var 1) (.cons (.var 2) .nil))) .no))) (.cons (.set 3 (.frz (.call 30 (.cons (.var 0) (.cons (.var 1) (.cons (.var 2) .nil))) .no))) (.cons (.ret (.ite (.cmp .isn (.var 3) .non) .non (.bin .add (.var 1) (.var 3)))) .nil)))⟩
/-- newcomer(parties, seats, patience): names parties, seats, patience, old, new, at -/
def d_newcomer : Def := ⟨3, 6, (.cons (.expr (.frz (.call 5 (.cons (.var 0) (.cons (.var 1) (.cons (.var 2) .nil))) .no))) (.cons (.set 3 (.frz (.call 7 (.cons (.var 0) (.cons (.var 1) (.cons (.var 2) .nil))) .no))) (.cons (.set 4 (.comp false [5] [5] true (.seq (.frz (.call 7 (.cons (.var 0) (.cons (.bin .add (.var 1) (.int 1)) (.cons (.var 2) .nil))) .no))) (.yes (.cmp .notin (.var 5) (.var 3))) (.var 5))) (.cons (.ret (.ite (.cmp .ne (.var 4) (.lst .nil)) (.ix (.var 4) (.int 0)) .non)) .nil))))⟩
/-- _law_step_right(sizes, room, calm): names sizes, room, calm, old, new, fresh, ahead, at -/
def d_law_step_right : Def := ⟨3, 8, (.cons (.unp [3, 4] (.tup (.cons (.frz (.call 10 (.cons (.var 0) (.cons (.var 1) .nil)) (.yes (.var 2)))) (.cons (.frz (.call 10 (.cons (.var 0) (.cons (.bin .add (.var 1) (.int 1)) .nil)) (.yes (.var 2)))) .nil)))) (.cons (.set 5 (.comp false [7] [7] true (.seq (.var 4)) (.yes (.cmp .notin (.var 7) (.var 3))) (.var 7))) (.cons (.ifs (.or_ (.not_ (.frz (.call 20 (.cons (.frz (.call 32 (.cons (.var 0) (.cons (.var 1) .nil)) (.yes (.var 2)))) (.cons (.ix (.bin .add (.var 5) (.lst (.cons .non .nil))) (.int 0)) .nil)) .no))) (.cmp .gt (.bi .len (.cons (.var 5) .nil)) (.int 1))) (.cons (.ret (.bl false)) .nil) .nil) (.cons (.ifs (.cmp .eq (.var 5) (.lst .nil)) (.cons (.ret (.cmp .eq (.var 3) (.var 4))) .nil) .nil) (.cons (.set 6 (.bi .tuple (.cons (.comp false [7] [7] true (.seq (.var 3)) (.yes (.cmp .lt (.var 7) (.ix (.var 5) (.int 0)))) (.var 7)) .nil))) (.cons (.ret (.and_ (.cmp .eq (.var 4) (.bin .add (.var 6) (.tup (.cons (.ix (.var 5) (.int 0)) .nil)))) (.cmp .eq (.frz (.call 26 (.cons (.var 0) (.cons (.var 4) .nil)) .no)) (.bin .add (.var 1) (.int 1))))) .nil))))))⟩
/-- all_ranges(parties, patience): names parties, patience, low, found, more, after -/
def d_all_ranges : Def := ⟨2, 6, (.cons (.sets [2, 3] (.cons (.int 0) (.cons (.newl .nil) .nil))) (.cons (.while_ (.cmp .notn (.var 2) .non) (.cons (.set 4 (.frz (.call 30 (.cons (.var 0) (.cons (.var 2) (.cons (.var 1) .nil))) .no))) (.cons (.set 5 (.ite (.cmp .isn (.var 4) .non) .non (.bin .add (.var 2) (.var 4)))) (.cons (.expr (.append (.var 3) (.tup (.cons (.var 2) (.cons (.ite (.cmp .isn (.var 5) .non) .non (.bin .sub (.var 5) (.int 1))) (.cons (.frz (.call 7 (.cons (.var 0) (.cons (.var 2) (.cons (.var 1) .nil))) .no)) .nil)))))) (.cons (.set 2 (.var 5)) .nil))))) (.cons (.ret (.var 3)) .nil)))⟩
/-- ranges(parties, patience): names parties, patience -/
def d_ranges : Def := ⟨2, 2, (.cons (.expr (.frz (.call 2 (.cons (.var 0) .nil) .no))) (.cons (.expr (.frz (.call 4 (.cons (.var 1) .nil) .no))) (.cons (.ret (.call 34 (.cons (.var 0) (.cons (.var 1) .nil)) .no)) .nil)))⟩
/-- _law_ranges(sizes, calm): names sizes, calm, found, room, chosen_so -/
def d_law_ranges : Def := ⟨2, 5, (.cons (.set 2 (.newl .nil)) (.cons (.for_ [3] true (.range1 (.bin .add (.bi .sum (.cons (.var 0) .nil)) (.int 2))) (.cons (.set 4 (.frz (.call 25 (.cons (.var 0) (.cons (.var 3) (.cons (.var 1) .nil))) .no))) (.cons (.ifs (.and_ (.cmpl true (.var 2) (.lst .nil)) (.cmp .eq (.ix (.ix (.var 2) (.neg (.int 1))) (.int 2)) (.var 4))) (.cons (.seti (.var 2) (.neg (.int 1)) (.tup (.cons (.ix (.ix (.var 2) (.neg (.int 1))) (.int 0)) (.cons (.var 3) (.cons (.var 4) .nil))))) .nil) (.cons (.expr (.append (.var 2) (.tup (.cons (.var 3) (.cons (.var 3) (.cons (.var 4) .nil)))))) .nil)) .nil))) (.cons (.ret (.bin .add (.slice (.var 2) .no (.yes (.neg (.int 1)))) (.lst (.cons (.tup (.cons (.ix (.ix (.var 2) (.neg (.int 1))) (.int 0)) (.cons .non (.cons (.ix (.ix (.var 2) (.neg (.int 1))) (.int 2)) .nil)))) .nil)))) .nil)))⟩
/-- need_index(parties, index): names parties, index -/
def d_need_index : Def := ⟨2, 2, (.cons (.ifs (.not_ (.frz (.call 0 (.cons (.var 1) (.cons (.int 0) (.cons (.bin .sub (.bi .len (.cons (.var 0) .nil)) (.int 1)) .nil))) .no))) (.cons (.raise 3) .nil) .nil) .nil)⟩
/-- joined(rows): names rows, found, low, high -/
def d_joined : Def := ⟨1, 4, (.cons (.set 1 (.newl .nil)) (.cons (.forP [2, 3] false (.var 0) (.cons (.ifs (.and_ (.cmpl true (.var 1) (.lst .nil)) (.cmp .eq (.ix (.ix (.var 1) (.neg (.int 1))) (.int 1)) (.bin .sub (.var 2) (.int 1)))) (.cons (.seti (.var 1) (.neg (.int 1)) (.tup (.cons (.ix (.ix (.var 1) (.neg (.int 1))) (.int 0)) (.cons (.var 3) .nil)))) .nil) (.cons (.expr (.append (.var 1) (.tup (.cons (.var 2) (.cons (.var 3) .nil))))) .nil)) .nil)) (.cons (.ret (.var 1)) .nil)))⟩
/-- _law_due(sizes, calm, wanted): names sizes, calm, wanted, most, found, room, chosen_so, at, low, high -/
def d_law_due_k04 : Def := ⟨3, 10, (.cons (.unp [3, 4] (.tup (.cons (.bin .add (.bi .sum (.cons (.var 0) .nil)) (.int 1)) (.cons (.newl .nil) .nil)))) (.cons (.for_ [5] true (.range1 (.bin .add (.var 3) (.int 1))) (.cons (.set 6 (.frz (.call 25 (.cons (.var 0) (.cons (.var 5) (.cons (.var 1) .nil))) .no))) (.cons (.ifs (.cmp .eq (.comp false [7] [7] true (.seq (.var 2)) (.yes (.cmp .notin (.var 7) (.var 6))) (.var 7)) (.lst .nil)) (.cons (.ifs (.and_ (.cmpl true (.var 4) (.lst .nil)) (.cmp .eq (.ix (.ix (.var 4) (.neg (.int 1))) (.int 1)) (.bin .sub (.var 5) (.int 1)))) (.cons (.seti (.var 4) (.neg (.int 1)) (.tup (.cons (.ix (.ix (.var 4) (.neg (.int 1))) (.int 0)) (.cons (.var 5) .nil)))) .nil) (.cons (.expr (.append (.var 4) (.tup (.cons (.var 5) (.cons (.var 5) .nil))))) .nil)) .nil) .nil) .nil))) (.cons (.ret (.compP [8, 9] [8, 9] false (.var 4) .no (.tup (.cons (.var 8) (.cons (.ite (.cmp .eq (.var 9) (.var 3)) .non (.var 9)) .nil))))) .nil)))⟩
/-- worst_fall(parties, patience): names parties, patience, rows, best, one, other, fall -/
def d_worst_fall : Def := ⟨2, 7, (.cons (.expr (.frz (.call 2 (.cons (.var 0) .nil) .no))) (.cons (.expr (.frz (.call 4 (.cons (.var 1) .nil) .no))) (.cons (.sets [2, 3] (.cons (.frz (.call 34 (.cons (.var 0) (.cons (.var 1) .nil)) .no)) (.cons .non .nil))) (.cons (.for_ [4, 5] false (.zip (.var 2) (.slice (.var 2) (.yes (.int 1)) .no)) (.cons (.set 6 (.bin .sub (.bi .len (.cons (.ix (.var 4) (.int 2)) .nil)) (.bi .len (.cons (.ix (.var 5) (.int 2)) .nil)))) (.cons (.ifs (.and_ (.cmp .gt (.var 6) (.int 0)) (.or_ (.cmp .isn (.var 3) .non) (.cmp .gt (.var 6) (.ix (.var 3) (.int 0))))) (.cons (.set 3 (.tup (.cons (.var 6) (.cons (.ix (.var 4) (.int 1)) .nil)))) .nil) .nil) .nil))) (.cons (.ret (.var 3)) .nil)))))⟩
/-- differing(parties, seats, other, patience): names parties, seats, other, patience, one, two, some, at -/
def d_differing : Def := ⟨4, 8, (.cons (.expr (.frz (.call 5 (.cons (.var 0) (.cons (.var 1) (.cons (.var 3) .nil))) .no))) (.cons (.expr (.frz (.call 5 (.cons (.var 0) (.cons (.var 2) (.cons (.var 3) .nil))) .no))) (.cons (.unp [4, 5] (.tup (.cons (.frz (.call 7 (.cons (.var 0) (.cons (.var 1) (.cons (.var 3) .nil))) .no)) (.cons (.frz (.call 7 (.cons (.var 0) (.cons (.var 2) (.cons (.var 3) .nil))) .no)) .nil)))) (.cons (.set 6 (.comp false [7] [7] true (.range1 (.bi .len (.cons (.var 0) .nil))) (.yes (.cmp .ne (.cmp .isin (.var 7) (.var 4)) (.cmp .isin (.var 7) (.var 5)))) (.var 7))) (.cons (.ret (.comp false [7] [7] true (.seq (.var 6)) .no (.tup (.cons (.var 7) (.cons (.ite (.cmp .isin (.var 7) (.var 4)) (.str "first") (.str "second")) .nil))))) .nil)))))⟩
/-- _law_worst(sizes, calm): names sizes, calm, best, room, fall -/
def d_law_worst : Def := ⟨2, 5, (.cons (.set 2 .non) (.cons (.for_ [3] true (.range1 (.bin .add (.bi .sum (.cons (.var 0) .nil)) (.int 1))) (.cons (.set 4 (.bin .sub (.bi .len (.cons (.frz (.call 25 (.cons (.var 0) (.cons (.var 3) (.cons (.var 1) .nil))) .no)) .nil)) (.bi .len (.cons (.frz (.call 25 (.cons (.var 0) (.cons (.bin .add (.var 3) (.int 1)) (.cons (.var 1) .nil))) .no)) .nil)))) (.cons (.ifs (.and_ (.cmp .gt (.var 4) (.int 0)) (.or_ (.cmp .isn (.var 2) .non) (.cmp .gt (.var 4) (.ix (.var 2) (.int 0))))) (.cons (.set 2 (.tup (.cons (.var 4) (.cons (.var 3) .nil)))) .nil) .nil) .nil))) (.cons (.ret (.var 2)) .nil)))⟩
/-- _law_pair_right(sizes, room, other, calm): names sizes, room, other, calm, one, two, due, lefts, rights, words, at, house, small, large, low, high -/
def d_law_pair_right : Def := ⟨4, 16, (.cons (.unp [4, 5] (.tup (.cons (.frz (.call 25 (.cons (.var 0) (.cons (.var 1) (.cons (.var 3) .nil))) .no)) (.cons (.frz (.call 25 (.cons (.var 0) (.cons (.var 2) (.cons (.var 3) .nil))) .no)) .nil)))) (.cons (.set 6 (.bin .add (.comp false [10] [10] true (.seq (.var 4)) (.yes (.cmp .notin (.var 10) (.var 5))) (.tup (.cons (.var 10) (.cons (.str "first") .nil)))) (.comp false [10] [10] true (.seq (.var 5)) (.yes (.cmp .notin (.var 10) (.var 4))) (.tup (.cons (.var 10) (.cons (.str "second") .nil)))))) (.cons (.ifs (.not_ (.frz (.call 20 (.cons (.frz (.call 43 (.cons (.var 0) (.cons (.var 1) (.cons (.var 2) .nil))) (.yes (.var 3)))) (.cons (.bi .sorted (.cons (.var 6) .nil)) .nil)) .no))) (.cons (.ret (.bl false)) .nil) .nil) (.cons (.sets [7, 8] (.cons (.frz (.call 12 (.cons (.var 0) (.cons (.var 1) .nil)) (.yes (.var 3)))) (.cons (.frz (.call 12 (.cons (.var 0) (.cons (.var 2) .nil)) (.yes (.var 3)))) .nil))) (.cons (.set 9 (.lst (.cons (.frz (.call 9 (.cons (.var 0) (.cons (.var 1) .nil)) (.yes (.var 3)))) (.cons (.frz (.call 9 (.cons (.var 0) (.cons (.var 2) .nil)) (.yes (.var 3)))) .nil)))) (.cons (.for_ [10, 11] false (.seq (.var 6)) (.cons (.sets [12, 13] (.cons (.bi .min2 (.cons (.ix (.var 7) (.var 10)) (.cons (.ix (.var 8) (.var 10)) .nil))) (.cons (.bi .max2 (.cons (.ix (.var 7) (.var 10)) (.cons (.ix (.var 8) (.var 10)) .nil))) .nil))) (.cons (.ifs (.and_ (.not_ (.chain .lt .le (.var 12) (.ix (.var 0) (.var 10)) (.var 13))) (.and_ (.cmp .ne (.ix (.ix (.var 9) (.int 0)) (.var 10)) (.str "closed")) (.cmp .ne (.ix (.ix (.var 9) (.int 1)) (.var 10)) (.str "closed")))) (.cons (.ret (.bl false)) .nil) .nil) .nil))) (.cons (.sets [14, 15] (.cons (.frz (.call 11 (.cons (.var 0) (.cons (.bi .min2 (.cons (.var 1) (.cons (.var 2) .nil))) .nil)) (.yes (.var 3)))) (.cons (.frz (.call 11 (.cons (.var 0) (.cons (.bi .max2 (.cons (.var 1) (.cons (.var 2) .nil))) .nil)) (.yes (.var 3)))) .nil))) (.cons (.ret (.cmp .le (.var 14) (.var 15))) .nil))))))))⟩
/-- need_size(size): names size -/
def d_need_size : Def := ⟨1, 1, (.cons (.ifs (.not_ (.frz (.call 0 (.cons (.var 0) (.cons (.int 1) (.cons (.gint "LARGEST" 50) .nil))) .no))) (.cons (.raise 5) .nil) .nil) .nil)⟩
/-- changes(old, new): names old, new, lost, at -/
def d_changes : Def := ⟨2, 4, (.cons (.set 2 (.bi .tuple (.cons (.comp false [3] [3] true (.seq (.var 0)) (.yes (.cmp .notin (.var 3) (.var 1))) (.var 3)) .nil))) (.cons (.ret (.tup (.cons (.var 2) (.cons (.bi .tuple (.cons (.comp false [3] [3] true (.seq (.var 1)) (.yes (.cmp .notin (.var 3) (.var 0))) (.var 3)) .nil)) .nil)))) .nil))⟩
/-- after_joining(parties, seats, place, size, patience): names parties, seats, place, size, patience, new, others, at -/
def d_after_joining : Def := ⟨5, 8, (.cons (.expr (.frz (.call 5 (.cons (.var 0) (.cons (.var 1) (.cons (.var 4) .nil))) .no))) (.cons (.ifs (.not_ (.frz (.call 0 (.cons (.var 2) (.cons (.int 0) (.cons (.bi .len (.cons (.var 0) .nil)) .nil))) .no))) (.cons (.raise 4) .nil) .nil) (.cons (.expr (.frz (.call 46 (.cons (.var 3) .nil) .no))) (.cons (.ifs (.cmp .eq (.bi .len (.cons (.var 0) .nil)) (.gint "MOST_PARTIES" 16)) (.cons (.rtm (.gint "MOST_PARTIES" 16)) .nil) .nil) (.cons (.set 5 (.frz (.call 7 (.cons (.bin .add (.bin .add (.slice (.var 0) .no (.yes (.var 2))) (.tup (.cons (.var 3) .nil))) (.slice (.var 0) (.yes (.var 2)) .no)) (.cons (.var 1) (.cons (.var 4) .nil))) .no))) (.cons (.set 6 (.bi .tuple (.cons (.comp false [7] [7] true (.seq (.var 5)) (.yes (.cmp .ne (.var 7) (.var 2))) (.bin .sub (.var 7) (.bi .int1 (.cons (.cmp .gt (.var 7) (.var 2)) .nil)))) .nil))) (.cons (.ret (.call 47 (.cons (.frz (.call 7 (.cons (.var 0) (.cons (.var 1) (.cons (.var 4) .nil))) .no)) (.cons (.var 6) .nil)) .no)) .nil)))))))⟩
/-- after_leaving(parties, seats, index, patience): names parties, seats, index, patience, new, old, at -/
def d_after_leaving : Def := ⟨4, 7, (.cons (.expr (.frz (.call 5 (.cons (.var 0) (.cons (.var 1) (.cons (.var 3) .nil))) .no))) (.cons (.expr (.frz (.call 38 (.cons (.var 0) (.cons (.var 2) .nil)) .no))) (.cons (.set 4 (.frz (.call 7 (.cons (.bin .add (.slice (.var 0) .no (.yes (.var 2))) (.slice (.var 0) (.yes (.bin .add (.var 2) (.int 1))) .no)) (.cons (.var 1) (.cons (.var 3) .nil))) .no))) (.cons (.set 5 (.bi .tuple (.cons (.comp false [6] [6] true (.seq (.frz (.call 7 (.cons (.var 0) (.cons (.var 1) (.cons (.var 3) .nil))) .no))) (.yes (.cmp .ne (.var 6) (.var 2))) (.var 6)) .nil))) (.cons (.ret (.call 47 (.cons (.var 5) (.cons (.bi .tuple (.cons (.comp false [6] [6] true (.seq (.var 4)) .no (.bin .add (.var 6) (.bi .int1 (.cons (.cmp .ge (.var 6) (.var 2)) .nil)))) .nil)) .nil)) .no)) .nil)))))⟩
/-- after_moving(parties, seats, index, place, patience): names parties, seats, index, place, patience, order, new, at -/
def d_after_moving : Def := ⟨5, 8, (.cons (.expr (.frz (.call 5 (.cons (.var 0) (.cons (.var 1) (.cons (.var 4) .nil))) .no))) (.cons (.expr (.frz (.call 38 (.cons (.var 0) (.cons (.var 2) .nil)) .no))) (.cons (.ifs (.not_ (.frz (.call 0 (.cons (.var 3) (.cons (.int 0) (.cons (.bin .sub (.bi .len (.cons (.var 0) .nil)) (.int 1)) .nil))) .no))) (.cons (.raise 4) .nil) .nil) (.cons (.set 5 (.comp true [7] [7] true (.range1 (.bi .len (.cons (.var 0) .nil))) (.yes (.cmp .ne (.var 7) (.var 2))) (.var 7))) (.cons (.expr (.insert (.var 5) (.var 3) (.var 2))) (.cons (.set 6 (.frz (.call 7 (.cons (.bi .tuple (.cons (.compP [7] [7] true (.var 5) .no (.ix (.var 0) (.var 7))) .nil)) (.cons (.var 1) (.cons (.var 4) .nil))) .no))) (.cons (.ret (.call 47 (.cons (.frz (.call 7 (.cons (.var 0) (.cons (.var 1) (.cons (.var 4) .nil))) .no)) (.cons (.bi .tuple (.cons (.bi .sorted (.cons (.comp false [7] [7] true (.seq (.var 6)) .no (.ix (.var 5) (.var 7))) .nil)) .nil)) .nil)) .no)) .nil)))))))⟩
/-- _law_change(sizes, room, calm, order): names sizes, room, calm, order, old, rows, new, kept, lost, at, size -/
def d_law_change : Def := ⟨4, 11, (.cons (.set 4 (.frz (.call 25 (.cons (.var 0) (.cons (.var 1) (.cons (.var 2) .nil))) .no))) (.cons (.set 5 (.frz (.call 25 (.cons (.bi .tuple (.cons (.comp false [9, 10] [9, 10] false (.seq (.var 3)) .no (.var 10)) .nil)) (.cons (.var 1) (.cons (.var 2) .nil))) .no))) (.cons (.set 6 (.bi .sorted (.cons (.comp false [9] [9] true (.seq (.var 5)) (.yes (.cmp .notn (.ix (.ix (.var 3) (.var 9)) (.int 0)) .non)) (.ix (.ix (.var 3) (.var 9)) (.int 0))) .nil))) (.cons (.set 7 (.comp false [9, 10] [9, 10] false (.seq (.var 3)) (.yes (.cmp .notn (.var 9) .non)) (.var 9))) (.cons (.set 8 (.bi .tuple (.cons (.comp false [9] [9] true (.seq (.var 4)) (.yes (.and_ (.cmp .isin (.var 9) (.var 7)) (.cmp .notin (.var 9) (.var 6)))) (.var 9)) .nil))) (.cons (.ret (.tup (.cons (.var 8) (.cons (.bi .tuple (.cons (.comp false [9] [9] true (.seq (.var 6)) (.yes (.cmp .notin (.var 9) (.var 4))) (.var 9)) .nil)) .nil)))) .nil))))))⟩
/-- _law_moves_right(deck, sizes, room, calm): names deck, sizes, room, calm, pairs, place, size, order, due, index, rest, told, at -/
def d_law_moves_right_k06 : Def := ⟨4, 13, (.cons (.set 4 (.comp false [12, 6] [12, 6] false (.enum (.var 1)) .no (.tup (.cons (.var 12) (.cons (.var 6) .nil))))) (.cons (.for_ [5] true (.range1 (.bin .add (.bi .len (.cons (.var 1) .nil)) (.int 1))) (.cons (.set 6 (.bin .add (.int 1) (.frz (.call 14 (.cons (.var 0) (.cons (.int 50) .nil)) .no)))) (.cons (.set 7 (.bin .add (.bin .add (.slice (.var 4) .no (.yes (.var 5))) (.lst (.cons (.tup (.cons .non (.cons (.var 6) .nil))) .nil))) (.slice (.var 4) (.yes (.var 5)) .no))) (.cons (.set 8 (.frz (.call 51 (.cons (.var 1) (.cons (.var 2) (.cons (.var 3) (.cons (.var 7) .nil)))) .no))) (.cons (.ifs (.cmp .lt (.bi .len (.cons (.var 1) .nil)) (.int 16)) (.cons (.ifs (.not_ (.frz (.call 20 (.cons (.frz (.call 48 (.cons (.var 1) (.cons (.var 2) (.cons (.var 5) (.cons (.var 6) .nil)))) (.yes (.var 3)))) (.cons (.var 8) .nil)) .no))) (.cons (.ret (.bl false)) .nil) .nil) .nil) .nil) .nil))))) (.cons (.for_ [9] true (.range1 (.bi .len (.cons (.var 1) .nil))) (.cons (.set 10 (.bin .add (.slice (.var 4) .no (.yes (.var 9))) (.slice (.var 4) (.yes (.bin .add (.var 9) (.int 1))) .no))) (.cons (.set 8 (.frz (.call 51 (.cons (.var 1) (.cons (.var 2) (.cons (.var 3) (.cons (.var 10) .nil)))) .no))) (.cons (.ifs (.not_ (.frz (.call 20 (.cons (.frz (.call 49 (.cons (.var 1) (.cons (.var 2) (.cons (.var 9) .nil))) (.yes (.var 3)))) (.cons (.var 8) .nil)) .no))) (.cons (.ret (.bl false)) .nil) .nil) (.cons (.for_ [5] true (.seq (.lst (.cons (.int 0) (.cons (.frz (.call 14 (.cons (.var 0) (.cons (.bi .len (.cons (.var 1) .nil)) .nil)) .no)) (.cons (.bin .sub (.bi .len (.cons (.var 1) .nil)) (.int 1)) (.cons (.var 9) .nil)))))) (.cons (.set 7 (.bin .add (.bin .add (.slice (.var 10) .no (.yes (.var 5))) (.lst (.cons (.ix (.var 4) (.var 9)) .nil))) (.slice (.var 10) (.yes (.var 5)) .no))) (.cons (.set 8 (.frz (.call 51 (.cons (.var 1) (.cons (.var 2) (.cons (.var 3) (.cons (.var 7) .nil)))) .no))) (.cons (.set 11 (.frz (.call 50 (.cons (.var 1) (.cons (.var 2) (.cons (.var 9) (.cons (.var 5) .nil)))) (.yes (.var 3))))) (.cons (.ifs (.not_ (.frz (.call 20 (.cons (.var 11) (.cons (.var 8) .nil)) .no))) (.cons (.ret (.bl false)) .nil) .nil) .nil))))) .nil))))) (.cons (.ret (.bl true)) .nil))))⟩
/-- is_set(parties, value): names parties, value, one, other -/
def d_is_set : Def := ⟨2, 4, (.cons (.ifs (.or_ (.not_ (.bi .istuple (.cons (.var 1) .nil))) (.not_ (.bi .all (.cons (.comp false [2] [2] true (.seq (.var 1)) .no (.frz (.call 0 (.cons (.var 2) (.cons (.int 0) (.cons (.bin .sub (.bi .len (.cons (.var 0) .nil)) (.int 1)) .nil))) .no))) .nil)))) (.cons (.ret (.bl false)) .nil) .nil) (.cons (.ret (.bi .all (.cons (.comp false [2, 3] [2, 3] false (.zip (.var 1) (.slice (.var 1) (.yes (.int 1)) .no)) .no (.cmp .lt (.var 2) (.var 3))) .nil))) .nil))⟩
/-- need_set(parties, value): names parties, value -/
def d_need_set : Def := ⟨2, 2, (.cons (.ifs (.not_ (.frz (.call 53 (.cons (.var 0) (.cons (.var 1) .nil)) .no))) (.cons (.raise 6) .nil) .nil) .nil)⟩
/-- fit_seats(parties, chosen, patience): names parties, chosen, patience, low, high, found -/
def d_fit_seats : Def := ⟨3, 6, (.cons (.expr (.frz (.call 2 (.cons (.var 0) .nil) .no))) (.cons (.expr (.frz (.call 4 (.cons (.var 2) .nil) .no))) (.cons (.expr (.frz (.call 54 (.cons (.var 0) (.cons (.var 1) .nil)) .no))) (.cons (.for_ [3, 4, 5] false (.seq (.frz (.call 34 (.cons (.var 0) (.cons (.var 2) .nil)) .no))) (.cons (.ifs (.cmp .eq (.var 5) (.var 1)) (.cons (.ret (.tup (.cons (.var 3) (.cons (.var 4) .nil)))) .nil) .nil) .nil)) (.cons (.ret .non) .nil)))))⟩
/-- agrees(chosen, seen): names chosen, seen, at, one -/
def d_agrees : Def := ⟨2, 4, (.cons (.ret (.bi .all (.cons (.comp false [2, 3] [2, 3] false (.enum (.var 1)) .no (.or_ (.cmp .isn (.var 3) .non) (.cmp .eq (.var 3) (.cmp .isin (.var 2) (.var 0))))) .nil))) .nil)⟩
/-- fit_seats_seen(parties, seen, patience): names parties, seen, patience, one, low, high, chosen -/
def d_fit_seats_seen : Def := ⟨3, 7, (.cons (.expr (.frz (.call 2 (.cons (.var 0) .nil) .no))) (.cons (.expr (.frz (.call 4 (.cons (.var 2) .nil) .no))) (.cons (.ifs (.or_ (.not_ (.bi .istuple (.cons (.var 1) .nil))) (.cmp .ne (.bi .len (.cons (.var 1) .nil)) (.bi .len (.cons (.var 0) .nil)))) (.cons (.raise 7) .nil) .nil) (.cons (.ifs (.not_ (.bi .all (.cons (.comp false [3] [3] true (.seq (.var 1)) .no (.or_ (.cmp .isn (.var 3) .non) (.bi .isbool (.cons (.var 3) .nil)))) .nil))) (.cons (.raise 7) .nil) .nil) (.cons (.ret (.call 39 (.cons (.comp false [4, 5, 6] [4, 5, 6] false (.seq (.frz (.call 34 (.cons (.var 0) (.cons (.var 2) .nil)) .no))) (.yes (.frz (.call 56 (.cons (.var 6) (.cons (.var 1) .nil)) .no))) (.tup (.cons (.var 4) (.cons (.var 5) .nil)))) .nil) .no)) .nil)))))⟩
/-- _law_agrees(chosen_so, seen): names chosen_so, seen, at, one -/
def d_law_agrees : Def := ⟨2, 4, (.cons (.ret (.cmp .eq (.comp false [2, 3] [2, 3] false (.enum (.var 1)) (.yes (.and_ (.cmp .notn (.var 3) .non) (.cmp .ne (.var 3) (.cmp .isin (.var 2) (.var 0))))) (.var 2)) (.lst .nil))) .nil)⟩
/-- fit_size(parties, seats, index, chosen, patience): names parties, seats, index, chosen, patience, found, size, other -/
def d_fit_size : Def := ⟨5, 8, (.cons (.expr (.frz (.call 5 (.cons (.var 0) (.cons (.var 1) (.cons (.var 4) .nil))) .no))) (.cons (.expr (.frz (.call 38 (.cons (.var 0) (.cons (.var 2) .nil)) .no))) (.cons (.expr (.frz (.call 54 (.cons (.var 0) (.cons (.var 3) .nil)) .no))) (.cons (.set 5 (.newl .nil)) (.cons (.for_ [6] true (.range2 (.int 1) (.bin .add (.gint "LARGEST" 50) (.int 1))) (.cons (.set 7 (.bin .add (.bin .add (.slice (.var 0) .no (.yes (.var 2))) (.tup (.cons (.var 6) .nil))) (.slice (.var 0) (.yes (.bin .add (.var 2) (.int 1))) .no))) (.cons (.ifs (.cmp .eq (.frz (.call 7 (.cons (.var 7) (.cons (.var 1) (.cons (.var 4) .nil))) .no)) (.var 3)) (.cons (.expr (.append (.var 5) (.var 6))) .nil) .nil) .nil))) (.cons (.ret (.ite (.cmpl true (.var 5) (.lst .nil)) (.tup (.cons (.ix (.var 5) (.int 0)) (.cons (.ix (.var 5) (.neg (.int 1))) .nil))) .non)) .nil))))))⟩
/-- hidden_party(parties, seats, chosen, patience): names parties, seats, chosen, patience, found, place, sizes, size, new, at, low, high -/
def d_hidden_party : Def := ⟨4, 12, (.cons (.expr (.frz (.call 5 (.cons (.var 0) (.cons (.var 1) (.cons (.var 3) .nil))) .no))) (.cons (.expr (.frz (.call 54 (.cons (.var 0) (.cons (.var 2) .nil)) .no))) (.cons (.set 4 (.newl .nil)) (.cons (.for_ [5] true (.range1 (.bin .add (.bi .len (.cons (.var 0) .nil)) (.int 1))) (.cons (.set 6 (.newl .nil)) (.cons (.for_ [7] true (.range2 (.int 1) (.bin .add (.gint "LARGEST" 50) (.int 1))) (.cons (.set 8 (.frz (.call 7 (.cons (.bin .add (.bin .add (.slice (.var 0) .no (.yes (.var 5))) (.tup (.cons (.var 7) .nil))) (.slice (.var 0) (.yes (.var 5)) .no)) (.cons (.var 1) (.cons (.var 3) .nil))) .no))) (.cons (.ifs (.cmp .eq (.bi .tuple (.cons (.comp false [9] [9] true (.seq (.var 8)) (.yes (.cmp .ne (.var 9) (.var 5))) (.bin .sub (.var 9) (.bi .int1 (.cons (.cmp .gt (.var 9) (.var 5)) .nil)))) .nil)) (.var 2)) (.cons (.expr (.append (.var 6) (.tup (.cons (.var 7) (.cons (.var 7) .nil))))) .nil) .nil) .nil))) (.cons (.augl 4 (.comp false [10, 11] [10, 11] false (.seq (.frz (.call 39 (.cons (.var 6) .nil) .no))) .no (.tup (.cons (.var 5) (.cons (.var 10) (.cons (.var 11) .nil)))))) .nil)))) (.cons (.ret (.var 4)) .nil)))))⟩
/-- _law_with(sizes, index, size): names sizes, index, size -/
def d_law_with : Def := ⟨3, 3, (.cons (.ret (.bin .add (.bin .add (.slice (.var 0) .no (.yes (.var 1))) (.tup (.cons (.var 2) .nil))) (.slice (.var 0) (.yes (.bin .add (.var 1) (.int 1))) .no))) .nil)⟩
/-- _law_others(sizes, room, calm, place, size): names sizes, room, calm, place, size, entered, at -/
def d_law_others : Def := ⟨5, 7, (.cons (.set 5 (.frz (.call 25 (.cons (.bin .add (.bin .add (.slice (.var 0) .no (.yes (.var 3))) (.tup (.cons (.var 4) .nil))) (.slice (.var 0) (.yes (.var 3)) .no)) (.cons (.var 1) (.cons (.var 2) .nil))) .no))) (.cons (.ret (.bi .tuple (.cons (.comp false [6] [6] true (.seq (.var 5)) (.yes (.cmp .ne (.var 6) (.var 3))) (.ite (.cmp .lt (.var 6) (.var 3)) (.var 6) (.bin .sub (.var 6) (.int 1)))) .nil))) .nil))⟩
/-- _law_due(sizes, room, calm, chosen_so): names sizes, room, calm, chosen_so, found, place, size -/
def d_law_due_k10 : Def := ⟨4, 7, (.cons (.set 4 (.newl .nil)) (.cons (.for_ [5] true (.range1 (.bin .add (.bi .len (.cons (.var 0) .nil)) (.int 1))) (.cons (.for_ [6] true (.range2 (.int 1) (.int 51)) (.cons (.ifs (.cmp .eq (.frz (.call 63 (.cons (.var 0) (.cons (.var 1) (.cons (.var 2) (.cons (.var 5) (.cons (.var 6) .nil))))) .no)) (.var 3)) (.cons (.ifs (.and_ (.cmpl true (.var 4) (.lst .nil)) (.and_ (.cmp .eq (.ix (.ix (.var 4) (.neg (.int 1))) (.int 0)) (.var 5)) (.cmp .eq (.ix (.ix (.var 4) (.neg (.int 1))) (.int 2)) (.bin .sub (.var 6) (.int 1))))) (.cons (.seti (.var 4) (.neg (.int 1)) (.tup (.cons (.var 5) (.cons (.ix (.ix (.var 4) (.neg (.int 1))) (.int 1)) (.cons (.var 6) .nil))))) .nil) (.cons (.expr (.append (.var 4) (.tup (.cons (.var 5) (.cons (.var 6) (.cons (.var 6) .nil)))))) .nil)) .nil) .nil) .nil)) .nil)) (.cons (.ret (.var 4)) .nil)))⟩
/-- can_enter(parties, seats, patience, chosen): names parties, seats, patience, chosen, rest, others, small, at -/
def d_can_enter : Def := ⟨4, 8, (.cons (.set 4 (.bin .sub (.var 1) (.frz (.call 8 (.cons (.var 0) (.cons (.var 3) .nil)) .no)))) (.cons (.set 5 (.comp false [7] [7] true (.range1 (.bi .len (.cons (.var 0) .nil))) (.yes (.cmp .notin (.var 7) (.var 3))) (.var 7))) (.cons (.set 6 (.comp false [7] [7] true (.seq (.var 5)) (.yes (.cmp .le (.ix (.var 0) (.var 7)) (.var 4))) (.var 7))) (.cons (.ifs (.cmp .lt (.var 4) (.int 0)) (.cons (.ret (.bl false)) .nil) .nil) (.cons (.ret (.or_ (.cmp .eq (.var 6) (.lst .nil)) (.and_ (.cmp .notn (.var 2) .non) (.cmp .gt (.bin .sub (.bi .len (.cons (.var 5) .nil)) (.bi .len (.cons (.var 6) .nil))) (.var 2))))) .nil)))))⟩
/-- is_possible(parties, seats, chosen, patience): names parties, seats, chosen, patience -/
def d_is_possible : Def := ⟨4, 4, (.cons (.expr (.frz (.call 5 (.cons (.var 0) (.cons (.var 1) (.cons (.var 3) .nil))) .no))) (.cons (.expr (.frz (.call 54 (.cons (.var 0) (.cons (.var 2) .nil)) .no))) (.cons (.ret (.call 65 (.cons (.var 0) (.cons (.var 1) (.cons (.var 3) (.cons (.var 2) .nil)))) .no)) .nil)))⟩
/-- need_few(parties, most): names parties, most -/
def d_need_few : Def := ⟨2, 2, (.cons (.ifs (.cmp .gt (.bi .len (.cons (.var 0) .nil)) (.var 1)) (.cons (.rtm (.var 1)) .nil) .nil) .nil)⟩
/-- step(parties, state, at): names parties, state, at, asked, chosen, rest, left -/
def d_step : Def := ⟨3, 7, (.cons (.unp [3, 4, 5, 6] (.var 1)) (.cons (.ifs (.and_ (.cmp .notn (.var 6) .non) (.cmp .lt (.var 6) (.int 0))) (.cons (.ret (.tup (.cons (.bin .add (.var 3) (.tup (.cons (.var 2) .nil))) (.cons (.var 4) (.cons (.var 5) (.cons (.var 6) .nil)))))) .nil) .nil) (.cons (.ifs (.cmp .le (.ix (.var 0) (.var 2)) (.var 5)) (.cons (.ret (.tup (.cons (.bin .add (.var 3) (.tup (.cons (.var 2) .nil))) (.cons (.bi .tuple (.cons (.bi .sorted (.cons (.bin .add (.var 4) (.tup (.cons (.var 2) .nil))) .nil)) .nil)) (.cons (.bin .sub (.var 5) (.ix (.var 0) (.var 2))) (.cons (.var 6) .nil)))))) .nil) .nil) (.cons (.ret (.tup (.cons (.bin .add (.var 3) (.tup (.cons (.var 2) .nil))) (.cons (.var 4) (.cons (.var 5) (.cons (.ite (.cmp .isn (.var 6) .non) .non (.bin .sub (.var 6) (.int 1))) .nil)))))) .nil))))⟩
/-- _law_orders(many): names many, found, turn, longer, order, at -/
def d_law_orders : Def := ⟨1, 6, (.cons (.set 1 (.lst (.cons (.tup .nil) .nil))) (.cons (.for_ [2] true (.range1 (.var 0)) (.cons (.set 3 (.lst .nil)) (.cons (.for_ [4] true (.seq (.var 1)) (.cons (.set 3 (.bin .add (.var 3) (.comp false [5] [5] true (.range1 (.var 0)) (.yes (.cmp .notin (.var 5) (.var 4))) (.bin .add (.var 4) (.tup (.cons (.var 5) .nil)))))) .nil)) (.cons (.set 1 (.var 3)) .nil)))) (.cons (.ret (.var 1)) .nil)))⟩
/-- _law_subsets(many): names many, found, at, chosen_so -/
def d_law_subsets : Def := ⟨1, 4, (.cons (.set 1 (.lst (.cons (.tup .nil) .nil))) (.cons (.for_ [2] true (.range1 (.var 0)) (.cons (.set 1 (.bin .add (.var 1) (.comp false [3] [3] true (.seq (.var 1)) .no (.bin .add (.var 3) (.tup (.cons (.var 2) .nil)))))) .nil)) (.cons (.ret (.var 1)) .nil)))⟩
/-- _law_in_order(sizes, room, calm, order): names sizes, room, calm, order, entered, at -/
def d_law_in_order : Def := ⟨4, 6, (.cons (.set 4 (.frz (.call 25 (.cons (.bi .tuple (.cons (.comp false [5] [5] true (.seq (.var 3)) .no (.ix (.var 0) (.var 5))) .nil)) (.cons (.var 1) (.cons (.var 2) .nil))) .no))) (.cons (.ret (.bi .tuple (.cons (.bi .sorted (.cons (.comp false [5] [5] true (.seq (.var 4)) .no (.ix (.var 3) (.var 5))) .nil)) .nil))) .nil))⟩
/-- _law_can(sizes, room, calm, chosen_so): names sizes, room, calm, chosen_so, left, others, large, at, size -/
def d_law_can : Def := ⟨4, 9, (.cons (.set 4 (.bin .sub (.var 1) (.frz (.call 26 (.cons (.var 0) (.cons (.var 3) .nil)) .no)))) (.cons (.set 5 (.comp false [7] [7] true (.range1 (.bi .len (.cons (.var 0) .nil))) (.yes (.cmp .notin (.var 7) (.var 3))) (.ix (.var 0) (.var 7)))) (.cons (.set 6 (.comp false [8] [8] true (.seq (.var 5)) (.yes (.cmp .gt (.var 8) (.var 4))) (.var 8))) (.cons (.ifs (.or_ (.cmp .lt (.var 4) (.int 0)) (.cmp .eq (.bi .len (.cons (.var 6) .nil)) (.bi .len (.cons (.var 5) .nil)))) (.cons (.ret (.cmp .ge (.var 4) (.int 0))) .nil) .nil) (.cons (.ret (.and_ (.cmp .notn (.var 2) .non) (.cmp .gt (.bi .len (.cons (.var 6) .nil)) (.var 2)))) .nil)))))⟩
/-- _law_right(sizes, room, calm, chosen_so, good): names sizes, room, calm, chosen_so, good, order, at -/
def d_law_right_k11 : Def := ⟨5, 7, (.cons (.ifs (.not_ (.frz (.call 20 (.cons (.frz (.call 66 (.cons (.var 0) (.cons (.var 1) (.cons (.var 3) .nil))) (.yes (.var 2)))) (.cons (.var 4) .nil)) .no))) (.cons (.ret (.bl false)) .nil) .nil) (.cons (.set 5 (.frz (.call 67 (.cons (.var 0) (.cons (.var 1) (.cons (.var 3) .nil))) (.yes (.var 2))))) (.cons (.ifs (.not_ (.var 4)) (.cons (.ret (.cmp .isn (.var 5) .non)) .nil) .nil) (.cons (.ifs (.or_ (.not_ (.bi .istuple (.cons (.var 5) .nil))) (.cmp .ne (.bi .sorted (.cons (.var 5) .nil)) (.lrange (.bi .len (.cons (.var 0) .nil))))) (.cons (.ret (.bl false)) .nil) .nil) (.cons (.ifs (.cmp .ne (.comp false [6] [6] true (.seq (.var 5)) (.yes (.not_ (.frz (.call 15 (.cons (.var 6) .nil) .no)))) (.var 6)) (.lst .nil)) (.cons (.ret (.bl false)) .nil) .nil) (.cons (.ret (.cmp .eq (.frz (.call 73 (.cons (.var 0) (.cons (.var 1) (.cons (.var 2) (.cons (.var 5) .nil)))) .no)) (.var 3))) .nil))))))⟩
/-- all_sets(count): names count, found, at, chosen -/
def d_all_sets : Def := ⟨1, 4, (.cons (.set 1 (.lst (.cons (.tup .nil) .nil))) (.cons (.for_ [2] true (.range1 (.var 0)) (.cons (.set 1 (.bin .add (.var 1) (.comp false [3] [3] true (.seq (.var 1)) .no (.bin .add (.var 3) (.tup (.cons (.var 2) .nil)))))) .nil)) (.cons (.ret (.var 1)) .nil)))⟩
/-- possible_sets(parties, seats, patience): names parties, seats, patience, chosen -/
def d_possible_sets : Def := ⟨3, 4, (.cons (.ret (.comp false [3] [3] true (.seq (.frz (.call 76 (.cons (.bi .len (.cons (.var 0) .nil)) .nil) .no))) (.yes (.frz (.call 65 (.cons (.var 0) (.cons (.var 1) (.cons (.var 2) (.cons (.var 3) .nil)))) .no))) (.var 3))) .nil)⟩
/-- count_sets(parties, seats, patience): names parties, seats, patience -/
def d_count_sets : Def := ⟨3, 3, (.cons (.expr (.frz (.call 5 (.cons (.var 0) (.cons (.var 1) (.cons (.var 2) .nil))) .no))) (.cons (.expr (.frz (.call 68 (.cons (.var 0) (.cons (.gint "MOST_SETS" 12) .nil)) .no))) (.cons (.ret (.bi .len (.cons (.frz (.call 77 (.cons (.var 0) (.cons (.var 1) (.cons (.var 2) .nil))) .no)) .nil))) .nil)))⟩
/-- taken_bounds(parties, seats, patience): names parties, seats, patience, some, chosen -/
def d_taken_bounds : Def := ⟨3, 5, (.cons (.expr (.frz (.call 5 (.cons (.var 0) (.cons (.var 1) (.cons (.var 2) .nil))) .no))) (.cons (.expr (.frz (.call 68 (.cons (.var 0) (.cons (.gint "MOST_SETS" 12) .nil)) .no))) (.cons (.set 3 (.comp false [4] [4] true (.seq (.frz (.call 77 (.cons (.var 0) (.cons (.var 1) (.cons (.var 2) .nil))) .no))) .no (.frz (.call 8 (.cons (.var 0) (.cons (.var 4) .nil)) .no)))) (.cons (.ret (.tup (.cons (.bi .min1 (.cons (.var 3) .nil)) (.cons (.bi .max1 (.cons (.var 3) .nil)) .nil)))) .nil))))⟩
/-- party_bounds(parties, seats, patience): names parties, seats, patience, some, chosen -/
def d_party_bounds : Def := ⟨3, 5, (.cons (.expr (.frz (.call 5 (.cons (.var 0) (.cons (.var 1) (.cons (.var 2) .nil))) .no))) (.cons (.expr (.frz (.call 68 (.cons (.var 0) (.cons (.gint "MOST_SETS" 12) .nil)) .no))) (.cons (.set 3 (.comp false [4] [4] true (.seq (.frz (.call 77 (.cons (.var 0) (.cons (.var 1) (.cons (.var 2) .nil))) .no))) .no (.bi .len (.cons (.var 4) .nil)))) (.cons (.ret (.tup (.cons (.bi .min1 (.cons (.var 3) .nil)) (.cons (.bi .max1 (.cons (.var 3) .nil)) .nil)))) .nil))))⟩
/-- _law_sets_right(sizes, room, calm): names sizes, room, calm, some, sums_so, sizes_so, bounds, chosen_so, one -/
def d_law_sets_right_k12 : Def := ⟨3, 9, (.cons (.set 3 (.comp false [7] [7] true (.seq (.frz (.call 72 (.cons (.bi .len (.cons (.var 0) .nil)) .nil) .no))) (.yes (.frz (.call 74 (.cons (.var 0) (.cons (.var 1) (.cons (.var 2) (.cons (.var 7) .nil)))) .no))) (.var 7))) (.cons (.sets [4, 5] (.cons (.comp false [8] [8] true (.seq (.var 3)) .no (.frz (.call 26 (.cons (.var 0) (.cons (.var 8) .nil)) .no))) (.cons (.comp false [8] [8] true (.seq (.var 3)) .no (.bi .len (.cons (.var 8) .nil))) .nil))) (.cons (.ifs (.not_ (.frz (.call 20 (.cons (.frz (.call 78 (.cons (.var 0) (.cons (.var 1) .nil)) (.yes (.var 2)))) (.cons (.bi .len (.cons (.var 3) .nil)) .nil)) .no))) (.cons (.ret (.bl false)) .nil) .nil) (.cons (.ifs (.not_ (.frz (.call 20 (.cons (.frz (.call 79 (.cons (.var 0) (.cons (.var 1) .nil)) (.yes (.var 2)))) (.cons (.tup (.cons (.bi .min1 (.cons (.var 4) .nil)) (.cons (.bi .max1 (.cons (.var 4) .nil)) .nil))) .nil)) .no))) (.cons (.ret (.bl false)) .nil) .nil) (.cons (.set 6 (.tup (.cons (.bi .min1 (.cons (.var 5) .nil)) (.cons (.bi .max1 (.cons (.var 5) .nil)) .nil)))) (.cons (.ret (.call 20 (.cons (.frz (.call 80 (.cons (.var 0) (.cons (.var 1) .nil)) (.yes (.var 2)))) (.cons (.var 6) .nil)) .no)) .nil))))))⟩
/-- all_evenings(parties, seats, patience): names parties, seats, patience, waiting, found, some, at, one -/
def d_all_evenings : Def := ⟨3, 8, (.cons (.unp [3, 4] (.tup (.cons (.lrange (.bi .len (.cons (.var 0) .nil))) (.cons (.newl .nil) .nil)))) (.cons (.while_ (.cmp .ne (.var 3) (.lst .nil)) (.cons (.set 5 (.frz (.call 7 (.cons (.bi .tuple (.cons (.comp false [6] [6] true (.seq (.var 3)) .no (.ix (.var 0) (.var 6))) .nil)) (.cons (.var 1) (.cons (.var 2) .nil))) .no))) (.cons (.expr (.append (.var 4) (.bi .tuple (.cons (.comp false [6] [6] true (.seq (.var 5)) .no (.ix (.var 3) (.var 6))) .nil)))) (.cons (.set 3 (.comp false [6, 7] [6, 7] false (.enum (.var 3)) (.yes (.cmp .notin (.var 6) (.var 5))) (.var 7))) .nil)))) (.cons (.ret (.var 4)) .nil)))⟩
/-- evenings(parties, seats, patience): names parties, seats, patience -/
def d_evenings : Def := ⟨3, 3, (.cons (.expr (.frz (.call 5 (.cons (.var 0) (.cons (.var 1) (.cons (.var 2) .nil))) .no))) (.cons (.ifs (.and_ (.cmp .ne (.var 0) (.tup .nil)) (.cmp .gt (.bi .max1 (.cons (.var 0) .nil)) (.var 1))) (.cons (.ret .non) .nil) .nil) (.cons (.ret (.call 83 (.cons (.var 0) (.cons (.var 1) (.cons (.var 2) .nil))) .no)) .nil)))⟩
/-- more_evenings(parties, patience): names parties, patience, seats -/
def d_more_evenings : Def := ⟨2, 3, (.cons (.expr (.frz (.call 2 (.cons (.var 0) .nil) .no))) (.cons (.expr (.frz (.call 4 (.cons (.var 1) .nil) .no))) (.cons (.ifs (.cmp .eq (.var 0) (.tup .nil)) (.cons (.ret .non) .nil) .nil) (.cons (.for_ [2] true (.range2 (.bi .max1 (.cons (.var 0) .nil)) (.bi .sum (.cons (.var 0) .nil))) (.cons (.ifs (.cmp .gt (.bi .len (.cons (.frz (.call 83 (.cons (.var 0) (.cons (.bin .add (.var 2) (.int 1)) (.cons (.var 1) .nil))) .no)) .nil)) (.bi .len (.cons (.frz (.call 83 (.cons (.var 0) (.cons (.var 2) (.cons (.var 1) .nil))) .no)) .nil))) (.cons (.ret (.var 2)) .nil) .nil) .nil)) (.cons (.ret .non) .nil)))))⟩
/-- _law_evenings(sizes, room, calm): names sizes, room, calm, waiting, found, entered, at, one -/
def d_law_evenings : Def := ⟨3, 8, (.cons (.unp [3, 4] (.tup (.cons (.lrange (.bi .len (.cons (.var 0) .nil))) (.cons (.newl .nil) .nil)))) (.cons (.while_ (.cmp .ne (.var 3) (.lst .nil)) (.cons (.set 5 (.frz (.call 25 (.cons (.bi .tuple (.cons (.comp false [6] [6] true (.seq (.var 3)) .no (.ix (.var 0) (.var 6))) .nil)) (.cons (.var 1) (.cons (.var 2) .nil))) .no))) (.cons (.expr (.append (.var 4) (.bi .tuple (.cons (.comp false [6] [6] true (.seq (.var 5)) .no (.ix (.var 3) (.var 6))) .nil)))) (.cons (.set 3 (.comp false [6, 7] [6, 7] false (.enum (.var 3)) (.yes (.cmp .notin (.var 6) (.var 5))) (.var 7))) .nil)))) (.cons (.ret (.var 4)) .nil)))⟩
/-- _law_more(sizes, calm): names sizes, calm, many, at, room -/
def d_law_more : Def := ⟨2, 5, (.cons (.ifs (.cmp .eq (.var 0) (.tup .nil)) (.cons (.ret .non) .nil) .nil) (.cons (.set 2 (.comp false [4] [4] true (.range2 (.bi .max1 (.cons (.var 0) .nil)) (.bin .add (.bi .sum (.cons (.var 0) .nil)) (.int 1))) .no (.bi .len (.cons (.frz (.call 86 (.cons (.var 0) (.cons (.var 4) (.cons (.var 1) .nil))) .no)) .nil)))) (.cons (.for_ [3] true (.range1 (.bin .sub (.bi .len (.cons (.var 2) .nil)) (.int 1))) (.cons (.ifs (.cmp .gt (.ix (.var 2) (.bin .add (.var 3) (.int 1))) (.ix (.var 2) (.var 3))) (.cons (.ret (.bin .add (.bi .max1 (.cons (.var 0) .nil)) (.var 3))) .nil) .nil) .nil)) (.cons (.ret .non) .nil))))⟩
/-- _law_flat(rows): names rows, found, row -/
def d_law_flat : Def := ⟨1, 3, (.cons (.set 1 (.lst .nil)) (.cons (.for_ [2] true (.seq (.var 0)) (.cons (.set 1 (.bin .add (.var 1) (.bi .list (.cons (.var 2) .nil)))) .nil)) (.cons (.ret (.bi .sorted (.cons (.var 1) .nil))) .nil)))⟩
/-- _law_known_right(row): names row -/
def d_law_known_right : Def := ⟨1, 1, (.cons (.ifs (.cmp .ne (.frz (.call 84 (.cons (.var 0) (.cons (.int 60) .nil)) .dfl)) (.lst (.cons (.tup (.cons (.int 0) (.cons (.int 6) (.cons (.int 7) .nil)))) (.cons (.tup (.cons (.int 1) (.cons (.int 2) (.cons (.int 8) (.cons (.int 9) .nil))))) (.cons (.tup (.cons (.int 3) (.cons (.int 4) (.cons (.int 5) .nil)))) .nil))))) (.cons (.ret (.bl false)) .nil) .nil) (.cons (.ifs (.cmp .ne (.frz (.call 84 (.cons (.var 0) (.cons (.int 61) .nil)) .dfl)) (.lst (.cons (.tup (.cons (.int 0) (.cons (.int 5) .nil))) (.cons (.tup (.cons (.int 1) (.cons (.int 2) (.cons (.int 6) .nil)))) (.cons (.tup (.cons (.int 3) (.cons (.int 4) (.cons (.int 7) (.cons (.int 8) .nil))))) (.cons (.tup (.cons (.int 9) .nil)) .nil)))))) (.cons (.ret (.bl false)) .nil) .nil) (.cons (.ret (.and_ (.cmp .notn (.frz (.call 85 (.cons (.var 0) .nil) .dfl)) .non) (.frz (.call 20 (.cons (.frz (.call 85 (.cons (.var 0) .nil) .dfl)) (.cons (.frz (.call 87 (.cons (.var 0) (.cons .non .nil)) .no)) .nil)) .no)))) .nil)))⟩
/-- _law_deed(deck, row): names deck, row, way_here, numbers, sizes, number, size, k -/
def d_law_deed : Def := ⟨2, 8, (.cons (.sets [2, 3] (.cons (.frz (.call 14 (.cons (.var 0) (.cons (.int 12) .nil)) .no)) (.cons (.comp false [5, 6] [5, 6] false (.seq (.var 1)) .no (.var 5)) .nil))) (.cons (.ifs (.cmp .lt (.var 2) (.int 6)) (.cons (.set 4 (.comp false [7] [7] true (.range1 (.frz (.call 18 (.cons (.var 0) (.cons (.lst (.cons (.int 0) (.cons (.int 1) (.cons (.int 1) (.cons (.int 1) (.cons (.int 2) (.cons (.int 3) .nil))))))) .nil)) .no))) .no (.bin .add (.int 1) (.frz (.call 14 (.cons (.var 0) (.cons (.frz (.call 18 (.cons (.var 0) (.cons (.lst (.cons (.int 3) (.cons (.int 12) (.cons (.int 50) .nil)))) .nil)) .no)) .nil)) .no))))) (.cons (.ret (.tup (.cons (.str "join") (.cons (.bin .add (.var 4) (.frz (.call 18 (.cons (.var 0) (.cons (.bin .add (.bin .mul (.lst (.cons (.lst .nil) .nil)) (.int 9)) (.lst (.cons (.lst (.cons .non .nil)) (.cons (.lst (.cons (.int 0) .nil)) (.cons (.lst (.cons (.int 51) .nil)) (.cons (.lst (.cons (.bl true) (.cons (.int 1) .nil))) .nil)))))) .nil)) .no))) .nil)))) .nil)) .nil) (.cons (.ifs (.cmp .lt (.var 2) (.int 8)) (.cons (.ret (.tup (.cons (.str "leave") (.cons (.frz (.call 18 (.cons (.var 0) (.cons (.bin .add (.bin .mul (.var 3) (.int 2)) (.lst (.cons .non (.cons (.neg (.int 1)) (.cons (.bl true) (.cons (.int 99) .nil)))))) .nil)) .no)) .nil)))) .nil) .nil) (.cons (.ifs (.cmp .lt (.var 2) (.int 10)) (.cons (.ret (.tup (.cons (.str "seats") (.cons (.frz (.call 18 (.cons (.var 0) (.cons (.lst (.cons (.frz (.call 14 (.cons (.var 0) (.cons (.int 60) .nil)) .no)) (.cons (.frz (.call 14 (.cons (.var 0) (.cons (.int 9) .nil)) .no)) (.cons (.int 1000) (.cons .non (.cons (.neg (.int 1)) (.cons (.int 1001) (.cons (.bl true) .nil)))))))) .nil)) .no)) .nil)))) .nil) .nil) (.cons (.ret (.tup (.cons (.str "undo") (.cons .non .nil)))) .nil)))))⟩
/-- _law_after(state, deed): names state, deed, room, row, after, word, what, some, size, at, number, one -/
def d_law_after : Def := ⟨2, 12, (.cons (.unp [2, 3, 4] (.var 0)) (.cons (.unp [5, 6] (.var 1)) (.cons (.ifs (.cmp .eq (.var 5) (.str "join")) (.cons (.ifs (.cmp .ne (.comp false [8] [8] true (.seq (.var 6)) (.yes (.or_ (.not_ (.frz (.call 15 (.cons (.var 8) .nil) .no))) (.not_ (.chain .le .le (.int 1) (.var 8) (.int 50))))) (.var 8)) (.lst .nil)) (.cons (.ret (.str "Size+")) .nil) .nil) (.cons (.ifs (.cmp .gt (.bin .add (.bi .len (.cons (.var 3) .nil)) (.bi .len (.cons (.var 6) .nil))) (.int 16)) (.cons (.ret (.str "Many+16")) .nil) .nil) (.cons (.set 7 (.bi .tuple (.cons (.comp false [9, 8] [9, 8] false (.enum (.var 6)) .no (.tup (.cons (.bin .add (.var 4) (.var 9)) (.cons (.var 8) .nil)))) .nil))) (.cons (.ret (.tup (.cons (.tup (.cons (.var 2) (.cons (.bin .add (.var 3) (.var 7)) (.cons (.bin .add (.var 4) (.bi .len (.cons (.var 6) .nil))) .nil)))) (.cons (.comp false [10, 8] [10, 8] false (.seq (.var 7)) .no (.var 10)) .nil)))) .nil)))) .nil) (.cons (.ifs (.cmp .eq (.var 5) (.str "leave")) (.cons (.ifs (.or_ (.not_ (.frz (.call 15 (.cons (.var 6) .nil) .no))) (.cmp .notin (.var 6) (.comp false [10, 8] [10, 8] false (.seq (.var 3)) .no (.var 10)))) (.cons (.ret (.str "Unknown+")) .nil) .nil) (.cons (.ret (.tup (.cons (.tup (.cons (.var 2) (.cons (.bi .tuple (.cons (.comp false [11] [11] true (.seq (.var 3)) (.yes (.cmp .ne (.ix (.var 11) (.int 0)) (.var 6))) (.var 11)) .nil)) (.cons (.var 4) .nil)))) (.cons .non .nil)))) .nil)) .nil) (.cons (.ifs (.or_ (.not_ (.frz (.call 15 (.cons (.var 6) .nil) .no))) (.not_ (.chain .le .le (.int 0) (.var 6) (.int 1000)))) (.cons (.ret (.str "Seats+")) .nil) .nil) (.cons (.ret (.tup (.cons (.tup (.cons (.var 6) (.cons (.var 3) (.cons (.var 4) .nil)))) (.cons .non .nil)))) .nil))))))⟩
/-- _law_inside(one, other): names one, other, at -/
def d_law_inside : Def := ⟨2, 3, (.cons (.ret (.cmp .eq (.comp false [2] [2] true (.seq (.var 0)) (.yes (.cmp .notin (.var 2) (.var 1))) (.var 2)) (.lst .nil))) .nil)⟩
/-- _law_suffix_right(sizes, room, calm): names sizes, room, calm, words, lefts, chosen_so, refused, place, word, left, later, at -/
def d_law_suffix_right : Def := ⟨3, 12, (.cons (.sets [3, 4] (.cons (.frz (.call 9 (.cons (.var 0) (.cons (.var 1) .nil)) (.yes (.var 2)))) (.cons (.frz (.call 12 (.cons (.var 0) (.cons (.var 1) .nil)) (.yes (.var 2)))) .nil))) (.cons (.sets [5, 6] (.cons (.frz (.call 10 (.cons (.var 0) (.cons (.var 1) .nil)) (.yes (.var 2)))) (.cons (.int 0) .nil))) (.cons (.for_ [7, 8] false (.enum (.var 3)) (.cons (.ifs (.cmp .ne (.var 8) (.str "closed")) (.cons (.set 9 (.ite (.cmp .isn (.var 2) .non) .non (.bin .sub (.var 2) (.var 6)))) (.cons (.set 10 (.frz (.call 10 (.cons (.slice (.var 0) (.yes (.var 7)) .no) (.cons (.ix (.var 4) (.var 7)) .nil)) (.yes (.var 9))))) (.cons (.ifs (.cmp .ne (.bi .tuple (.cons (.comp false [11] [11] true (.seq (.var 10)) .no (.bin .add (.var 11) (.var 7))) .nil)) (.bi .tuple (.cons (.comp false [11] [11] true (.seq (.var 5)) (.yes (.cmp .ge (.var 11) (.var 7))) (.var 11)) .nil))) (.cons (.ret (.bl false)) .nil) .nil) .nil))) .nil) (.cons (.set 6 (.bin .add (.var 6) (.bi .int1 (.cons (.cmp .eq (.var 8) (.str "large")) .nil)))) .nil))) (.cons (.ret (.bl true)) .nil))))⟩
/-- _law_moves_right(f): names f, row, told -/
def d_law_moves_right_k16 : Def := ⟨1, 3, (.cons (.set 1 (.tup (.cons (.bin .mul (.int 4) (.var 0)) (.cons (.bin .mul (.int 3) (.var 0)) (.cons (.bin .mul (.int 2) (.var 0)) (.cons (.var 0) .nil)))))) (.cons (.ifs (.or_ (.cmp .ne (.frz (.call 10 (.cons (.var 1) (.cons (.bin .mul (.int 7) (.var 0)) .nil)) .dfl)) (.tup (.cons (.int 0) (.cons (.int 1) .nil)))) (.cmp .ne (.frz (.call 49 (.cons (.var 1) (.cons (.bin .mul (.int 7) (.var 0)) (.cons (.int 1) .nil))) .dfl)) (.tup (.cons (.tup .nil) (.cons (.tup (.cons (.int 2) (.cons (.int 3) .nil))) .nil))))) (.cons (.ret (.bl false)) .nil) .nil) (.cons (.ifs (.or_ (.cmp .ne (.frz (.call 50 (.cons (.var 1) (.cons (.bin .mul (.int 7) (.var 0)) (.cons (.int 2) (.cons (.int 0) .nil)))) .dfl)) (.tup (.cons (.tup (.cons (.int 1) .nil)) (.cons (.tup (.cons (.int 2) (.cons (.int 3) .nil))) .nil)))) (.cmp .ne (.frz (.call 48 (.cons (.var 1) (.cons (.bin .mul (.int 7) (.var 0)) (.cons (.int 1) (.cons (.var 0) .nil)))) .dfl)) (.tup (.cons (.tup (.cons (.int 1) .nil)) (.cons (.tup (.cons (.int 2) .nil)) .nil))))) (.cons (.ret (.bl false)) .nil) .nil) (.cons (.ifs (.or_ (.cmp .ne (.frz (.call 55 (.cons (.var 1) (.cons (.tup (.cons (.int 0) (.cons (.int 3) .nil))) .nil)) .dfl)) (.tup (.cons (.bin .mul (.int 5) (.var 0)) (.cons (.bin .sub (.bin .mul (.int 6) (.var 0)) (.int 1)) .nil)))) (.cmp .ne (.frz (.call 55 (.cons (.var 1) (.cons (.tup (.cons (.int 0) (.cons (.int 2) .nil))) .nil)) .dfl)) (.tup (.cons (.bin .mul (.int 6) (.var 0)) (.cons (.bin .sub (.bin .mul (.int 7) (.var 0)) (.int 1)) .nil))))) (.cons (.ret (.bl false)) .nil) .nil) (.cons (.ifs (.cmp .notn (.frz (.call 55 (.cons (.var 1) (.cons (.tup (.cons (.int 2) (.cons (.int 3) .nil))) .nil)) .dfl)) .non) (.cons (.ret (.bl false)) .nil) .nil) (.cons (.set 2 (.frz (.call 57 (.cons (.var 1) (.cons (.tup (.cons .non (.cons (.bl true) (.cons .non (.cons (.bl false) .nil))))) .nil)) .dfl))) (.cons (.ifs (.cmp .ne (.var 2) (.lst (.cons (.tup (.cons (.bin .mul (.int 3) (.var 0)) (.cons (.bin .sub (.bin .mul (.int 4) (.var 0)) (.int 1)) .nil))) (.cons (.tup (.cons (.bin .mul (.int 7) (.var 0)) (.cons (.bin .sub (.bin .mul (.int 8) (.var 0)) (.int 1)) .nil))) (.cons (.tup (.cons (.bin .mul (.int 9) (.var 0)) (.cons (.bin .sub (.bin .mul (.int 10) (.var 0)) (.int 1)) .nil))) .nil))))) (.cons (.ret (.bl false)) .nil) .nil) (.cons (.ifs (.or_ (.cmp .notn (.frz (.call 60 (.cons (.var 1) (.cons (.bin .mul (.int 7) (.var 0)) (.cons (.int 0) (.cons (.tup (.cons (.int 0) (.cons (.int 2) (.cons (.int 3) .nil)))) .nil)))) .dfl)) .non) (.cmp .ne (.frz (.call 60 (.cons (.var 1) (.cons (.bin .mul (.int 7) (.var 0)) (.cons (.int 1) (.cons (.tup (.cons (.int 0) (.cons (.int 2) (.cons (.int 3) .nil)))) .nil)))) .dfl)) (.tup (.cons (.bin .add (.bin .mul (.int 3) (.var 0)) (.int 1)) (.cons (.int 50) .nil))))) (.cons (.ret (.bl false)) .nil) .nil) (.cons (.ret (.and_ (.cmp .eq (.frz (.call 61 (.cons (.tup (.cons (.bin .mul (.int 5) (.var 0)) .nil)) (.cons (.bin .mul (.int 5) (.var 0)) (.cons (.tup .nil) .nil))) .dfl)) (.lst (.cons (.tup (.cons (.int 0) (.cons (.int 1) (.cons (.bin .mul (.int 5) (.var 0)) .nil)))) .nil))) (.cmp .eq (.frz (.call 61 (.cons (.tup (.cons (.bin .mul (.int 5) (.var 0)) .nil)) (.cons (.bin .sub (.bin .mul (.int 5) (.var 0)) (.int 1)) (.cons (.tup (.cons (.int 0) .nil)) .nil))) .dfl)) (.lst .nil)))) .nil)))))))))⟩
/-- _law_orders_right(f): names f, row -/
def d_law_orders_right_k16 : Def := ⟨1, 2, (.cons (.set 1 (.tup (.cons (.bin .mul (.int 4) (.var 0)) (.cons (.bin .mul (.int 3) (.var 0)) (.cons (.bin .mul (.int 2) (.var 0)) .nil))))) (.cons (.ifs (.or_ (.cmp .ne (.frz (.call 78 (.cons (.var 1) (.cons (.bin .mul (.int 5) (.var 0)) .nil)) .dfl)) (.int 2)) (.or_ (.cmp .ne (.frz (.call 78 (.cons (.var 1) (.cons (.bin .mul (.int 4) (.var 0)) .nil)) .dfl)) (.int 3)) (.cmp .ne (.frz (.call 79 (.cons (.var 1) (.cons (.bin .mul (.int 4) (.var 0)) .nil)) .dfl)) (.tup (.cons (.bin .mul (.int 2) (.var 0)) (.cons (.bin .mul (.int 4) (.var 0)) .nil)))))) (.cons (.ret (.bl false)) .nil) .nil) (.cons (.ifs (.or_ (.cmp .ne (.frz (.call 80 (.cons (.var 1) (.cons (.bin .mul (.int 5) (.var 0)) .nil)) .dfl)) (.tup (.cons (.int 1) (.cons (.int 2) .nil)))) (.cmp .ne (.frz (.call 70 (.cons (.var 1) (.cons (.bin .mul (.int 5) (.var 0)) (.cons (.tup (.cons (.int 0) .nil)) .nil))) .dfl)) (.int 2))) (.cons (.ret (.bl false)) .nil) .nil) (.cons (.ifs (.cmp .ne (.frz (.call 70 (.cons (.var 1) (.cons (.bin .mul (.int 5) (.var 0)) (.cons (.tup (.cons (.int 1) (.cons (.int 2) .nil))) .nil))) .dfl)) (.int 4)) (.cons (.ret (.bl false)) .nil) .nil) (.cons (.ifs (.or_ (.cmp .notn (.frz (.call 66 (.cons (.var 1) (.cons (.bin .mul (.int 5) (.var 0)) (.cons (.tup (.cons (.int 0) .nil)) .nil))) .dfl)) (.bl true)) (.cmp .notn (.frz (.call 67 (.cons (.var 1) (.cons (.bin .mul (.int 5) (.var 0)) (.cons (.tup (.cons (.int 2) .nil)) .nil))) .dfl)) .non)) (.cons (.ret (.bl false)) .nil) .nil) (.cons (.ifs (.or_ (.cmp .ne (.frz (.call 84 (.cons (.var 1) (.cons (.bin .mul (.int 6) (.var 0)) .nil)) .dfl)) (.lst (.cons (.tup (.cons (.int 0) (.cons (.int 2) .nil))) (.cons (.tup (.cons (.int 1) .nil)) .nil)))) (.cmp .ne (.frz (.call 84 (.cons (.var 1) (.cons (.bin .mul (.int 6) (.var 0)) .nil)) (.yes (.int 0)))) (.lst (.cons (.tup (.cons (.int 0) .nil)) (.cons (.tup (.cons (.int 1) (.cons (.int 2) .nil))) .nil))))) (.cons (.ret (.bl false)) .nil) .nil) (.cons (.ret (.and_ (.cmp .isn (.frz (.call 85 (.cons (.var 1) .nil) .dfl)) .non) (.cmp .eq (.frz (.call 42 (.cons (.tup (.cons (.bin .mul (.int 4) (.var 0)) (.cons (.var 0) (.cons (.var 0) .nil)))) .nil) .dfl)) (.tup (.cons (.int 1) (.cons (.bin .sub (.bin .mul (.int 4) (.var 0)) (.int 1)) .nil)))))) .nil)))))))⟩
/-- _wall(k): names k -/
def d_wall : Def := ⟨1, 1, (.cons (.while_ (.bl true) (.cons .pass .nil)) .nil)⟩
/-- _law_many_right(): names large, small, k -/
def d_law_many_right : Def := ⟨0, 3, (.cons (.sets [0, 1] (.cons (.bin .mul (.tup (.cons (.int 50) .nil)) (.int 16)) (.cons (.bin .mul (.tup (.cons (.int 1) .nil)) (.int 16)) .nil))) (.cons (.ifs (.or_ (.cmp .ne (.frz (.call 10 (.cons (.var 0) (.cons (.int 800) .nil)) .dfl)) (.trange (.int 16))) (.cmp .ne (.frz (.call 10 (.cons (.var 0) (.cons (.int 799) .nil)) .dfl)) (.trange (.int 15)))) (.cons (.ret (.bl false)) .nil) .nil) (.cons (.ifs (.cmp .ne (.frz (.call 11 (.cons (.var 0) (.cons (.int 1000) .nil)) .dfl)) (.int 800)) (.cons (.ret (.bl false)) .nil) .nil) (.cons (.ifs (.or_ (.cmp .ne (.bi .len (.cons (.frz (.call 35 (.cons (.var 0) .nil) .dfl)) .nil)) (.int 17)) (.or_ (.cmp .ne (.bi .len (.cons (.frz (.call 35 (.cons (.var 1) .nil) .dfl)) .nil)) (.int 17)) (.cmp .notn (.frz (.call 42 (.cons (.var 0) .nil) .dfl)) .non))) (.cons (.ret (.bl false)) .nil) .nil) (.cons (.ifs (.or_ (.cmp .ne (.frz (.call 9 (.cons (.var 0) (.cons (.int 49) .nil)) (.yes (.int 15)))) (.bin .mul (.lst (.cons (.str "large") .nil)) (.int 16))) (.cmp .ne (.ix (.frz (.call 9 (.cons (.var 0) (.cons (.int 49) .nil)) (.yes (.int 14)))) (.int 15)) (.str "closed"))) (.cons (.ret (.bl false)) .nil) .nil) (.cons (.ifs (.or_ (.cmp .ne (.frz (.call 84 (.cons (.var 1) (.cons (.int 1) .nil)) .dfl)) (.comp false [2] [2] true (.range1 (.int 16)) .no (.tup (.cons (.var 2) .nil)))) (.cmp .notn (.frz (.call 84 (.cons (.var 1) (.cons (.int 0) .nil)) .dfl)) .non)) (.cons (.ret (.bl false)) .nil) .nil) (.cons (.ret (.and_ (.cmp .eq (.frz (.call 42 (.cons (.bin .add (.tup (.cons (.int 50) .nil)) (.bin .mul (.tup (.cons (.int 1) .nil)) (.int 15))) .nil) .dfl)) (.tup (.cons (.int 14) (.cons (.int 49) .nil)))) (.cmp .eq (.frz (.call 42 (.cons (.bin .add (.tup (.cons (.int 14) .nil)) (.bin .mul (.tup (.cons (.int 1) .nil)) (.int 15))) .nil) .dfl)) (.tup (.cons (.int 12) (.cons (.int 13) .nil)))))) .nil)))))))⟩
/-- _law_without(sizes, room, calm, index): names sizes, room, calm, index, found, at -/
def d_law_without : Def := ⟨4, 6, (.cons (.set 4 (.frz (.call 25 (.cons (.bin .add (.slice (.var 0) .no (.yes (.var 3))) (.slice (.var 0) (.yes (.bin .add (.var 3) (.int 1))) .no)) (.cons (.var 1) (.cons (.var 2) .nil))) .no))) (.cons (.ret (.bi .tuple (.cons (.comp false [5] [5] true (.seq (.var 4)) .no (.bin .add (.var 5) (.bi .int1 (.cons (.cmp .ge (.var 5) (.var 3)) .nil)))) .nil))) .nil))⟩
/-- _law_leaves_right(sizes, room, calm, index, word): names sizes, room, calm, index, word, entered, later, new, found, at -/
def d_law_leaves_right_k18 : Def := ⟨5, 10, (.cons (.set 5 (.frz (.call 25 (.cons (.var 0) (.cons (.var 1) (.cons (.var 2) .nil))) .no))) (.cons (.set 6 (.frz (.call 107 (.cons (.var 0) (.cons (.var 1) (.cons (.var 2) (.cons (.var 3) .nil)))) .no))) (.cons (.ifs (.cmp .ne (.comp false [9] [9] true (.seq (.var 5)) (.yes (.cmp .notin (.var 9) (.var 6))) (.var 9)) (.lst .nil)) (.cons (.ret (.bl false)) .nil) .nil) (.cons (.ifs (.and_ (.or_ (.cmp .isn (.var 2) .non) (.cmp .eq (.var 4) (.str "closed"))) (.cmp .ne (.var 6) (.var 5))) (.cons (.ret (.bl false)) .nil) .nil) (.cons (.set 7 (.bi .tuple (.cons (.comp false [9] [9] true (.seq (.var 6)) (.yes (.cmp .notin (.var 9) (.var 5))) (.var 9)) .nil))) (.cons (.ifs (.not_ (.frz (.call 20 (.cons (.frz (.call 49 (.cons (.var 0) (.cons (.var 1) (.cons (.var 3) .nil))) (.yes (.var 2)))) (.cons (.tup (.cons (.tup .nil) (.cons (.var 7) .nil))) .nil)) .no))) (.cons (.ret (.bl false)) .nil) .nil) (.cons (.set 8 (.frz (.call 10 (.cons (.bin .add (.slice (.var 0) .no (.yes (.var 3))) (.slice (.var 0) (.yes (.bin .add (.var 3) (.int 1))) .no)) (.cons (.var 1) .nil)) (.yes (.var 2))))) (.cons (.ret (.call 20 (.cons (.var 8) (.cons (.bi .tuple (.cons (.comp false [9] [9] true (.seq (.var 6)) .no (.bin .sub (.var 9) (.bi .int1 (.cons (.cmp .gt (.var 9) (.var 3)) .nil)))) .nil)) .nil)) .no)) .nil))))))))⟩
/-- _law_leaves_right(sizes, room, calm, index): names sizes, room, calm, index, entered, rest, later, before, after, old, new, lost, won, back, at -/
def d_law_leaves_right_k19 : Def := ⟨4, 15, (.cons (.sets [4, 5] (.cons (.frz (.call 25 (.cons (.var 0) (.cons (.var 1) (.cons (.var 2) .nil))) .no)) (.cons (.bin .add (.slice (.var 0) .no (.yes (.var 3))) (.slice (.var 0) (.yes (.bin .add (.var 3) (.int 1))) .no)) .nil))) (.cons (.set 6 (.frz (.call 25 (.cons (.var 5) (.cons (.var 1) (.cons (.var 2) .nil))) .no))) (.cons (.ifs (.cmp .ne (.comp false [14] [14] true (.seq (.var 6)) (.yes (.cmp .lt (.var 14) (.var 3))) (.var 14)) (.comp false [14] [14] true (.seq (.var 4)) (.yes (.cmp .lt (.var 14) (.var 3))) (.var 14))) (.cons (.ret (.bl false)) .nil) .nil) (.cons (.sets [7, 8] (.cons (.bin .sub (.frz (.call 26 (.cons (.var 0) (.cons (.var 4) .nil)) .no)) (.ix (.var 0) (.var 3))) (.cons (.frz (.call 26 (.cons (.var 5) (.cons (.var 6) .nil)) .no)) .nil))) (.cons (.ifs (.or_ (.cmp .lt (.var 8) (.var 7)) (.not_ (.frz (.call 20 (.cons (.frz (.call 11 (.cons (.var 5) (.cons (.var 1) .nil)) (.yes (.var 2)))) (.cons (.var 8) .nil)) .no)))) (.cons (.ret (.bl false)) .nil) .nil) (.cons (.ifs (.cmp .ne (.frz (.call 11 (.cons (.var 0) (.cons (.var 1) .nil)) (.yes (.var 2)))) (.bin .add (.var 7) (.ix (.var 0) (.var 3)))) (.cons (.ret (.bl false)) .nil) .nil) (.cons (.set 9 (.bi .tuple (.cons (.comp false [14] [14] true (.seq (.var 4)) (.yes (.cmp .ne (.var 14) (.var 3))) (.var 14)) .nil))) (.cons (.set 10 (.bi .tuple (.cons (.comp false [14] [14] true (.seq (.var 6)) .no (.bin .add (.var 14) (.bi .int1 (.cons (.cmp .ge (.var 14) (.var 3)) .nil)))) .nil))) (.cons (.set 11 (.bi .tuple (.cons (.comp false [14] [14] true (.seq (.var 9)) (.yes (.cmp .notin (.var 14) (.var 10))) (.var 14)) .nil))) (.cons (.set 12 (.bi .tuple (.cons (.comp false [14] [14] true (.seq (.var 10)) (.yes (.cmp .notin (.var 14) (.var 9))) (.var 14)) .nil))) (.cons (.ifs (.not_ (.frz (.call 20 (.cons (.frz (.call 49 (.cons (.var 0) (.cons (.var 1) (.cons (.var 3) .nil))) (.yes (.var 2)))) (.cons (.tup (.cons (.var 11) (.cons (.var 12) .nil))) .nil)) .no))) (.cons (.ret (.bl false)) .nil) .nil) (.cons (.ifs (.cmp .ne (.slice (.frz (.call 12 (.cons (.var 5) (.cons (.var 1) .nil)) (.yes (.var 2)))) .no (.yes (.var 3))) (.slice (.frz (.call 12 (.cons (.var 0) (.cons (.var 1) .nil)) (.yes (.var 2)))) .no (.yes (.var 3)))) (.cons (.ret (.bl false)) .nil) .nil) (.cons (.set 13 (.frz (.call 25 (.cons (.bin .add (.var 5) (.tup (.cons (.ix (.var 0) (.var 3)) .nil))) (.cons (.var 1) (.cons (.var 2) .nil))) .no))) (.cons (.ifs (.cmp .ne (.slice (.var 13) .no (.yes (.bi .len (.cons (.var 6) .nil)))) (.var 6)) (.cons (.ret (.bl false)) .nil) .nil) (.cons (.ret (.call 20 (.cons (.frz (.call 10 (.cons (.bin .add (.var 5) (.tup (.cons (.ix (.var 0) (.var 3)) .nil))) (.cons (.var 1) .nil)) (.yes (.var 2)))) (.cons (.var 13) .nil)) .no)) .nil)))))))))))))))⟩
/-- all of them, by their numbers -/
def G : Nat → Option Def
  | 0 => some d_is_from
  | 1 => some d_is_parties
  | 2 => some d_need_parties
  | 3 => some d_need_seats
  | 4 => some d_need_patience
  | 5 => some d_need_house
  | 6 => some d_run
  | 7 => some d_entering
  | 8 => some d_taken_by
  | 9 => some d_decisions
  | 10 => some d_enter
  | 11 => some d_seats_taken
  | 12 => some d_rests
  | 13 => some d_law_deck
  | 14 => some d_law_pick
  | 15 => some d_law_whole
  | 18 => some d_law_one
  | 19 => some d_law_sort
  | 20 => some d_law_same
  | 21 => some d_law_row
  | 22 => some d_law_calm
  | 23 => some d_law_room
  | 24 => some d_law_run
  | 25 => some d_law_set
  | 26 => some d_law_sum
  | 27 => some d_law_spoilt
  | 28 => some d_law_is_parties
  | 29 => some d_law_right_k01
  | 30 => some d_lack
  | 31 => some d_next_change
  | 32 => some d_newcomer
  | 33 => some d_law_step_right
  | 34 => some d_all_ranges
  | 35 => some d_ranges
  | 37 => some d_law_ranges
  | 38 => some d_need_index
  | 39 => some d_joined
  | 41 => some d_law_due_k04
  | 42 => some d_worst_fall
  | 43 => some d_differing
  | 44 => some d_law_worst
  | 45 => some d_law_pair_right
  | 46 => some d_need_size
  | 47 => some d_changes
  | 48 => some d_after_joining
  | 49 => some d_after_leaving
  | 50 => some d_after_moving
  | 51 => some d_law_change
  | 52 => some d_law_moves_right_k06
  | 53 => some d_is_set
  | 54 => some d_need_set
  | 55 => some d_fit_seats
  | 56 => some d_agrees
  | 57 => some d_fit_seats_seen
  | 59 => some d_law_agrees
  | 60 => some d_fit_size
  | 61 => some d_hidden_party
  | 62 => some d_law_with
  | 63 => some d_law_others
  | 64 => some d_law_due_k10
  | 65 => some d_can_enter
  | 66 => some d_is_possible
  | 68 => some d_need_few
  | 69 => some d_step
  | 71 => some d_law_orders
  | 72 => some d_law_subsets
  | 73 => some d_law_in_order
  | 74 => some d_law_can
  | 75 => some d_law_right_k11
  | 76 => some d_all_sets
  | 77 => some d_possible_sets
  | 78 => some d_count_sets
  | 79 => some d_taken_bounds
  | 80 => some d_party_bounds
  | 81 => some d_law_sets_right_k12
  | 83 => some d_all_evenings
  | 84 => some d_evenings
  | 85 => some d_more_evenings
  | 86 => some d_law_evenings
  | 87 => some d_law_more
  | 88 => some d_law_flat
  | 89 => some d_law_known_right
  | 90 => some d_law_deed
  | 91 => some d_law_after
  | 97 => some d_law_inside
  | 98 => some d_law_suffix_right
  | 100 => some d_law_moves_right_k16
  | 101 => some d_law_orders_right_k16
  | 102 => some d_wall
  | 105 => some d_law_many_right
  | 107 => some d_law_without
  | 108 => some d_law_leaves_right_k18
  | 109 => some d_law_leaves_right_k19
  | _ => none
def cl_is_from : List Nat := [0]
def cl_is_parties : List Nat := [0, 1]
def cl_need_parties : List Nat := [0, 1, 2]
def cl_need_seats : List Nat := [0, 3]
def cl_need_patience : List Nat := [0, 4]
def cl_need_house : List Nat := [0, 1, 2, 3, 4, 5]
def cl_run : List Nat := [6]
def cl_entering : List Nat := [6, 7]
def cl_taken_by : List Nat := [8]
def cl_decisions : List Nat := [0, 1, 2, 3, 4, 5, 6, 9]
def cl_enter : List Nat := [0, 1, 2, 3, 4, 5, 6, 7, 10]
def cl_seats_taken : List Nat := [0, 1, 2, 3, 4, 5, 6, 7, 8, 11]
def cl_rests : List Nat := [0, 1, 2, 3, 4, 5, 6, 12]
def cl_law_deck : List Nat := [13]
def cl_law_pick : List Nat := [14]
def cl_law_whole : List Nat := [15]
def cl_law_one : List Nat := [14, 18]
def cl_law_sort : List Nat := [19]
def cl_law_same : List Nat := [19, 20]
def cl_law_row : List Nat := [14, 18, 21]
def cl_law_calm : List Nat := [14, 18, 22]
def cl_law_room : List Nat := [14, 23]
def cl_law_run : List Nat := [24]
def cl_law_set : List Nat := [24, 25]
def cl_law_sum : List Nat := [26]
def cl_law_spoilt : List Nat := [14, 27]
def cl_law_is_parties : List Nat := [15, 28]
def cl_law_right_k01 : List Nat := [0, 1, 2, 3, 4, 5, 6, 7, 8, 9, 10, 11, 12, 14, 18, 19, 20, 22, 23, 24, 25, 26, 29]
def cl_lack : List Nat := [6, 30]
def cl_next_change : List Nat := [0, 1, 2, 3, 4, 5, 6, 30, 31]
def cl_newcomer : List Nat := [0, 1, 2, 3, 4, 5, 6, 7, 32]
def cl_law_step_right : List Nat := [0, 1, 2, 3, 4, 5, 6, 7, 10, 19, 20, 26, 32, 33]
def cl_all_ranges : List Nat := [6, 7, 30, 34]
def cl_ranges : List Nat := [0, 1, 2, 4, 6, 7, 30, 34, 35]
def cl_law_ranges : List Nat := [24, 25, 37]
def cl_need_index : List Nat := [0, 38]
def cl_joined : List Nat := [39]
def cl_law_due_k04 : List Nat := [24, 25, 41]
def cl_worst_fall : List Nat := [0, 1, 2, 4, 6, 7, 30, 34, 42]
def cl_differing : List Nat := [0, 1, 2, 3, 4, 5, 6, 7, 43]
def cl_law_worst : List Nat := [24, 25, 44]
def cl_law_pair_right : List Nat := [0, 1, 2, 3, 4, 5, 6, 7, 8, 9, 11, 12, 19, 20, 24, 25, 43, 45]
def cl_need_size : List Nat := [0, 46]
def cl_changes : List Nat := [47]
def cl_after_joining : List Nat := [0, 1, 2, 3, 4, 5, 6, 7, 46, 47, 48]
def cl_after_leaving : List Nat := [0, 1, 2, 3, 4, 5, 6, 7, 38, 47, 49]
def cl_after_moving : List Nat := [0, 1, 2, 3, 4, 5, 6, 7, 38, 47, 50]
def cl_law_change : List Nat := [24, 25, 51]
def cl_law_moves_right_k06 : List Nat := [0, 1, 2, 3, 4, 5, 6, 7, 14, 19, 20, 24, 25, 38, 46, 47, 48, 49, 50, 51, 52]
def cl_is_set : List Nat := [0, 53]
def cl_need_set : List Nat := [0, 53, 54]
def cl_fit_seats : List Nat := [0, 1, 2, 4, 6, 7, 30, 34, 53, 54, 55]
def cl_agrees : List Nat := [56]
def cl_fit_seats_seen : List Nat := [0, 1, 2, 4, 6, 7, 30, 34, 39, 56, 57]
def cl_law_agrees : List Nat := [59]
def cl_fit_size : List Nat := [0, 1, 2, 3, 4, 5, 6, 7, 38, 53, 54, 60]
def cl_hidden_party : List Nat := [0, 1, 2, 3, 4, 5, 6, 7, 39, 53, 54, 61]
def cl_law_with : List Nat := [62]
def cl_law_others : List Nat := [24, 25, 63]
def cl_law_due_k10 : List Nat := [24, 25, 63, 64]
def cl_can_enter : List Nat := [8, 65]
def cl_is_possible : List Nat := [0, 1, 2, 3, 4, 5, 8, 53, 54, 65, 66]
def cl_need_few : List Nat := [68]
def cl_step : List Nat := [69]
def cl_law_orders : List Nat := [71]
def cl_law_subsets : List Nat := [72]
def cl_law_in_order : List Nat := [24, 25, 73]
def cl_law_can : List Nat := [26, 74]
def cl_law_right_k11 : List Nat := [0, 1, 2, 3, 4, 5, 8, 15, 19, 20, 24, 25, 53, 54, 65, 66, 67, 73, 75]
def cl_all_sets : List Nat := [76]
def cl_possible_sets : List Nat := [8, 65, 76, 77]
def cl_count_sets : List Nat := [0, 1, 2, 3, 4, 5, 8, 65, 68, 76, 77, 78]
def cl_taken_bounds : List Nat := [0, 1, 2, 3, 4, 5, 8, 65, 68, 76, 77, 79]
def cl_party_bounds : List Nat := [0, 1, 2, 3, 4, 5, 8, 65, 68, 76, 77, 80]
def cl_law_sets_right_k12 : List Nat := [0, 1, 2, 3, 4, 5, 8, 19, 20, 26, 65, 68, 72, 74, 76, 77, 78, 79, 80, 81]
def cl_all_evenings : List Nat := [6, 7, 83]
def cl_evenings : List Nat := [0, 1, 2, 3, 4, 5, 6, 7, 83, 84]
def cl_more_evenings : List Nat := [0, 1, 2, 4, 6, 7, 83, 85]
def cl_law_evenings : List Nat := [24, 25, 86]
def cl_law_more : List Nat := [24, 25, 86, 87]
def cl_law_flat : List Nat := [88]
def cl_law_known_right : List Nat := [0, 1, 2, 3, 4, 5, 6, 7, 19, 20, 24, 25, 83, 84, 85, 86, 87, 89]
def cl_law_deed : List Nat := [14, 18, 90]
def cl_law_after : List Nat := [15, 91]
def cl_law_inside : List Nat := [97]
def cl_law_suffix_right : List Nat := [0, 1, 2, 3, 4, 5, 6, 7, 9, 10, 12, 98]
def cl_law_moves_right_k16 : List Nat := [0, 1, 2, 3, 4, 5, 6, 7, 10, 30, 34, 38, 39, 46, 47, 48, 49, 50, 53, 54, 55, 56, 57, 60, 61, 100]
def cl_law_orders_right_k16 : List Nat := [0, 1, 2, 3, 4, 5, 6, 7, 8, 30, 34, 42, 53, 54, 65, 66, 67, 68, 69, 70, 76, 77, 78, 79, 80, 83, 84, 85, 101]
def cl_wall : List Nat := [102]
def cl_law_many_right : List Nat := [0, 1, 2, 3, 4, 5, 6, 7, 8, 9, 10, 11, 30, 34, 35, 42, 83, 84, 105]
def cl_law_without : List Nat := [24, 25, 107]
def cl_law_leaves_right_k18 : List Nat := [0, 1, 2, 3, 4, 5, 6, 7, 10, 19, 20, 24, 25, 38, 47, 49, 107, 108]
def cl_law_leaves_right_k19 : List Nat := [0, 1, 2, 3, 4, 5, 6, 7, 8, 10, 11, 12, 19, 20, 24, 25, 26, 38, 47, 49, 109]
end ML

set_option Elab.async false
set_option maxRecDepth 100000
set_option linter.all false
set_option maxHeartbeats 0
/-! k13: the table. -/
namespace ML.K13
open PySem PySem.Spec PyProof.Rows L2
def topS (i : Nat) : Stmt := PySem.Challenge.pw_fitqueue_k13_whole_evenings.main.body.getD i (.Pass ⟨0, 0, 0, 0⟩)
def i_is_from : Item := ⟨topS 17, "is_from", ["value", "low", "high"], ["value", "low", "high"], d_is_from, false⟩
def i_is_parties : Item := ⟨topS 18, "is_parties", ["value", "size"], ["value"], d_is_parties, false⟩
def i_need_parties : Item := ⟨topS 19, "need_parties", ["parties"], ["parties"], d_need_parties, false⟩
def i_need_seats : Item := ⟨topS 20, "need_seats", ["seats"], ["seats"], d_need_seats, false⟩
def i_need_patience : Item := ⟨topS 21, "need_patience", ["patience"], ["patience"], d_need_patience, false⟩
def i_need_house : Item := ⟨topS 22, "need_house", ["parties", "seats", "patience"], ["parties", "seats", "patience"], d_need_house, false⟩
def i_run : Item := ⟨topS 23, "run", ["parties", "seats", "patience", "rest", "refused", "found", "size"], ["parties", "seats", "patience"], d_run, false⟩
def i_entering : Item := ⟨topS 24, "entering", ["parties", "seats", "patience", "at", "row"], ["parties", "seats", "patience"], d_entering, false⟩
def i_all_evenings : Item := ⟨topS 26, "all_evenings", ["parties", "seats", "patience", "waiting", "found", "some", "at", "one"], ["parties", "seats", "patience"], d_all_evenings, false⟩
def i_evenings : Item := ⟨topS 27, "evenings", ["parties", "seats", "patience"], ["parties", "seats", "patience"], d_evenings, true⟩
def i_more_evenings : Item := ⟨topS 28, "more_evenings", ["parties", "patience", "seats"], ["parties", "patience"], d_more_evenings, true⟩
def i_law_deck : Item := ⟨topS 30, "_law_deck", ["cell", "turn"], ["cell", "turn"], d_law_deck, false⟩
def i_law_pick : Item := ⟨topS 31, "_law_pick", ["deck", "limit", "found", "number"], ["deck", "limit"], d_law_pick, false⟩
def i_law_one : Item := ⟨topS 34, "_law_one", ["deck", "some"], ["deck", "some"], d_law_one, false⟩
def i_law_sort : Item := ⟨topS 35, "_law_sort", ["thing"], ["thing"], d_law_sort, false⟩
def i_law_same : Item := ⟨topS 36, "_law_same", ["told", "due", "k", "part"], ["told", "due"], d_law_same, false⟩
def i_law_row : Item := ⟨topS 37, "_law_row", ["deck", "many", "top", "k"], ["deck", "many"], d_law_row, false⟩
def i_law_calm : Item := ⟨topS 38, "_law_calm", ["deck"], ["deck"], d_law_calm, false⟩
def i_law_run : Item := ⟨topS 40, "_law_run", ["sizes", "room", "calm", "left", "refused", "found", "size", "word"], ["sizes", "room", "calm"], d_law_run, false⟩
def i_law_set : Item := ⟨topS 41, "_law_set", ["sizes", "room", "calm", "at", "row"], ["sizes", "room", "calm"], d_law_set, false⟩
def i_law_evenings : Item := ⟨topS 43, "_law_evenings", ["sizes", "room", "calm", "waiting", "found", "entered", "at", "one"], ["sizes", "room", "calm"], d_law_evenings, false⟩
def i_law_more : Item := ⟨topS 44, "_law_more", ["sizes", "calm", "many", "at", "room"], ["sizes", "calm"], d_law_more, false⟩
def i_law_flat : Item := ⟨topS 45, "_law_flat", ["rows", "found", "row"], ["rows"], d_law_flat, false⟩
def i_law_known_right : Item := ⟨topS 46, "_law_known_right", ["row"], ["row"], d_law_known_right, false⟩
def its : List (Nat × Item) := [(0, i_is_from), (1, i_is_parties), (2, i_need_parties), (3, i_need_seats), (4, i_need_patience), (5, i_need_house), (6, i_run), (7, i_entering), (83, i_all_evenings), (84, i_evenings), (85, i_more_evenings), (13, i_law_deck), (14, i_law_pick), (18, i_law_one), (19, i_law_sort), (20, i_law_same), (21, i_law_row), (22, i_law_calm), (24, i_law_run), (25, i_law_set), (86, i_law_evenings), (87, i_law_more), (88, i_law_flat), (89, i_law_known_right)]
def mt : MT := ⟨fun f => (its.lookup f).map Item.x, fun f => ((its.lookup f).map Item.kw).getD false, fun x => if x = "MOST_PARTIES" then some 16 else if x = "LARGEST" then some 50 else if x = "MOST_SEATS" then some 1000 else none, fun c => if c = 0 then some "InvalidParties" else if c = 1 then some "InvalidSeats" else if c = 2 then some "InvalidPatience" else none, none, none, fun _ _ => false⟩
def tr : Option Str := some "_law_try"
def lb1 : Ss := (.cons (.ifs (.cmp .ne (.att (.callv [(85, true)] 10 (.cons (.lst (.cons (.int 1) .nil)) .nil) .no)) (.str "Parties+")) (.cons (.ret (.bl false)) .nil) .nil) .nil)
def lb2 : Ss := (.cons (.ifs (.cmp .ne (.att (.frz (.call 84 (.cons (.var 3) (.cons (.var 9) .nil)) (.yes (.neg (.int 1)))))) (.str "Seats+")) (.cons (.ret (.bl false)) .nil) .nil) .nil)
def lb3 : Ss := (.cons (.sets [7, 8] (.cons (.frz (.call 86 (.cons (.var 3) (.cons (.var 6) (.cons (.var 4) .nil))) .no)) (.cons (.mutc (.call 84 (.cons (.var 3) (.cons (.var 6) .nil)) (.yes (.var 4)))) .nil))) (.cons (.ifs (.not_ (.bor 8 (.frz (.call 20 (.cons (.var 8) (.cons (.var 7) .nil)) .no)))) (.cons (.ret (.bl false)) .nil) .nil) (.cons (.ifs (.cmp .ne (.frz (.call 88 (.cons (.var 7) .nil) .no)) (.lrange (.bi .len (.cons (.var 3) .nil)))) (.cons (.ret (.bl false)) .nil) .nil) (.cons (.expr (.append (.var 8) (.tup .nil))) (.cons (.ifs (.cmp .ne (.frz (.call 84 (.cons (.var 3) (.cons (.var 6) .nil)) (.yes (.var 4)))) (.var 7)) (.cons (.ret (.bl false)) .nil) .nil) .nil)))))
def body : Ss := (.cons (.set 2 (.mutc (.call 13 (.cons (.var 1) (.cons (.int 13) .nil)) .no))) (.cons (.unp [3, 4] (.tup (.cons (.frz (.call 21 (.cons (.var 2) (.cons (.int 14) .nil)) .no)) (.cons (.frz (.call 22 (.cons (.var 2) .nil) .no)) .nil)))) (.cons (.set 5 (.bi .max1 (.cons (.bin .add (.tup (.cons (.int 0) .nil)) (.var 3)) .nil))) (.cons (.for_ [6] true (.seq (.lst (.cons (.var 5) (.cons (.bin .add (.var 5) (.int 1)) (.cons (.bin .add (.var 5) (.frz (.call 14 (.cons (.var 2) (.cons (.int 30) .nil)) .no))) (.cons (.bin .add (.var 5) (.frz (.call 14 (.cons (.var 2) (.cons (.int 200) .nil)) .no))) .nil)))))) lb3) (.cons (.ifs (.and_ (.cmp .ne (.var 3) (.tup .nil)) (.cmp .notn (.frz (.call 84 (.cons (.var 3) (.cons (.bin .sub (.var 5) (.int 1)) .nil)) (.yes (.var 4)))) .non)) (.cons (.ret (.bl false)) .nil) .nil) (.cons (.ifs (.not_ (.frz (.call 20 (.cons (.frz (.call 85 (.cons (.var 3) .nil) (.yes (.var 4)))) (.cons (.frz (.call 87 (.cons (.var 3) (.cons (.var 4) .nil)) .no)) .nil)) .no))) (.cons (.ret (.bl false)) .nil) .nil) (.cons (.for_ [9] true (.seq (.lst (.cons .non (.cons (.bl true) (.cons (.neg (.int 1)) (.cons (.int 1001) .nil)))))) lb2) (.cons (.ifs (.cmp .ne (.att (.frz (.call 84 (.cons (.var 3) (.cons (.int 5) .nil)) (.yes (.int 17))))) (.str "Patience+")) (.cons (.ret (.bl false)) .nil) .nil) (.cons (.ifs (.cmp .ne (.att (.frz (.call 85 (.cons (.var 3) .nil) (.yes (.int 17))))) (.str "Patience+")) (.cons (.ret (.bl false)) .nil) .nil) (.cons (.for_ [10] true (.seq (.tup (.cons (.lamv 200) (.cons (.fn 85) .nil)))) lb1) .nil))))))))))
def rest : Ss := (.cons (.ifs (.or_ (.cmp .ne (.frz (.call 84 (.cons (.tup .nil) (.cons (.int 0) .nil)) .dfl)) (.lst .nil)) (.cmp .notn (.frz (.call 84 (.cons (.tup (.cons (.int 5) (.cons (.int 7) .nil))) (.cons (.int 6) .nil)) .dfl)) .non)) (.cons (.ret (.bl false)) .nil) .nil) (.cons (.ifs (.not_ (.frz (.call 89 (.cons (.tup (.cons (.int 44) (.cons (.int 24) (.cons (.int 24) (.cons (.int 22) (.cons (.int 21) (.cons (.int 17) (.cons (.int 8) (.cons (.int 8) (.cons (.int 6) (.cons (.int 6) .nil))))))))))) .nil) .no))) (.cons (.ret (.bl false)) .nil) .nil) (.cons (.ret (.and_ (.cmp .eq (.frz (.call 84 (.cons (.tup (.cons (.int 5) (.cons (.int 4) (.cons (.int 1) (.cons (.int 1) .nil))))) (.cons (.int 6) .nil)) .dfl)) (.lst (.cons (.tup (.cons (.int 0) (.cons (.int 2) .nil))) (.cons (.tup (.cons (.int 1) (.cons (.int 3) .nil))) .nil)))) (.cmp .eq (.frz (.call 84 (.cons (.tup (.cons (.int 1) (.cons (.int 9) (.cons (.int 1) .nil)))) (.cons (.int 9) .nil)) (.yes (.int 0)))) (.lst (.cons (.tup (.cons (.int 0) .nil)) (.cons (.tup (.cons (.int 1) .nil)) (.cons (.tup (.cons (.int 2) .nil)) .nil))))))) .nil)))
def law : LawT := ⟨topS 47, ["script", "cell", "deck", "sizes", "calm", "large", "room", "due", "told", "odd", "door"], 8, [1], body, rest, none⟩
theorem b_is_from : itemB mt i_is_from = true := by decide +kernel
theorem b_is_parties : itemB mt i_is_parties = true := by decide +kernel
theorem b_need_parties : itemB mt i_need_parties = true := by decide +kernel
theorem b_need_seats : itemB mt i_need_seats = true := by decide +kernel
theorem b_need_patience : itemB mt i_need_patience = true := by decide +kernel
theorem b_need_house : itemB mt i_need_house = true := by decide +kernel
theorem b_run : itemB mt i_run = true := by decide +kernel
theorem b_entering : itemB mt i_entering = true := by decide +kernel
theorem b_all_evenings : itemB mt i_all_evenings = true := by decide +kernel
theorem b_evenings : itemB mt i_evenings = true := by decide +kernel
theorem b_more_evenings : itemB mt i_more_evenings = true := by decide +kernel
theorem b_law_deck : itemB mt i_law_deck = true := by decide +kernel
theorem b_law_pick : itemB mt i_law_pick = true := by decide +kernel
theorem b_law_one : itemB mt i_law_one = true := by decide +kernel
theorem b_law_sort : itemB mt i_law_sort = true := by decide +kernel
theorem b_law_same : itemB mt i_law_same = true := by decide +kernel
theorem b_law_row : itemB mt i_law_row = true := by decide +kernel
theorem b_law_calm : itemB mt i_law_calm = true := by decide +kernel
theorem b_law_run : itemB mt i_law_run = true := by decide +kernel
theorem b_law_set : itemB mt i_law_set = true := by decide +kernel
theorem b_law_evenings : itemB mt i_law_evenings = true := by decide +kernel
theorem b_law_more : itemB mt i_law_more = true := by decide +kernel
theorem b_law_flat : itemB mt i_law_flat = true := by decide +kernel
theorem b_law_known_right : itemB mt i_law_known_right = true := by decide +kernel
def e_lam200 : E := (.frz (.call 84 (.cons (.var 0) (.cons .non .nil)) .dfl))
def lmb : Nat → LamW → Bool := fun f W => (decide (f = 200) && lamB mt e_lam200 W) || false
def tab : Nat → Option Def := fun f => if f = 200 then some ⟨1, 1, .cons (.ret e_lam200) .nil⟩ else tabOf its f
theorem b_law : law.ok ((mt.withTr tr).withLm lmb) = true := by decide +kernel
theorem b_tr : trB (topS 33) (topS 32) "_law_name_of" = true := by decide +kernel
end ML.K13

set_option Elab.async false
set_option maxRecDepth 100000
set_option linter.all false
set_option maxHeartbeats 0
/-! k13: what the written part gives. -/
namespace ML.K13
open PySem PySem.Spec PyProof.Rows L2
theorem mk {rw : PySem.W.OpenLaw} {w : World} {K : PySem.W.Frag} {h : Heap} {mg : Str → Option Value} {fa : Addr} {k : Nat} (hk : 1 ≤ k) (X : K.In h) (G : h.Ns mainGlobals mg) (hfa : mg "law" = some (.ref fa))
    {a0 : Addr} {oc0 kV0 dc0 pm0 cd0 ct0 : Value} {od0 an0 : Option Addr} {sl0 : Array (Option Value)}
    {a1 : Addr} {oc1 kV1 dc1 pm1 cd1 ct1 : Value} {od1 an1 : Option Addr} {sl1 : Array (Option Value)}
    {a2 : Addr} {oc2 kV2 dc2 pm2 cd2 ct2 : Value} {od2 an2 : Option Addr} {sl2 : Array (Option Value)}
    {a3 : Addr} {oc3 kV3 dc3 pm3 cd3 ct3 : Value} {od3 an3 : Option Addr} {sl3 : Array (Option Value)}
    {a4 : Addr} {oc4 kV4 dc4 pm4 cd4 ct4 : Value} {od4 an4 : Option Addr} {sl4 : Array (Option Value)}
    {a5 : Addr} {oc5 kV5 dc5 pm5 cd5 ct5 : Value} {od5 an5 : Option Addr} {sl5 : Array (Option Value)}
    {a6 : Addr} {oc6 kV6 dc6 pm6 cd6 ct6 : Value} {od6 an6 : Option Addr} {sl6 : Array (Option Value)}
    {a7 : Addr} {oc7 kV7 dc7 pm7 cd7 ct7 : Value} {od7 an7 : Option Addr} {sl7 : Array (Option Value)}
    {a8 : Addr} {oc8 kV8 dc8 pm8 cd8 ct8 : Value} {od8 an8 : Option Addr} {sl8 : Array (Option Value)}
    {a9 : Addr} {oc9 dc9 pm9 cd9 ct9 : Value} {od9 an9 : Option Addr} {sl9 : Array (Option Value)} {D9 : Addr}
    {a10 : Addr} {oc10 dc10 pm10 cd10 ct10 : Value} {od10 an10 : Option Addr} {sl10 : Array (Option Value)} {D10 : Addr}
    {a11 : Addr} {oc11 kV11 dc11 pm11 cd11 ct11 : Value} {od11 an11 : Option Addr} {sl11 : Array (Option Value)}
    {a12 : Addr} {oc12 kV12 dc12 pm12 cd12 ct12 : Value} {od12 an12 : Option Addr} {sl12 : Array (Option Value)}
    {a13 : Addr} {oc13 kV13 dc13 pm13 cd13 ct13 : Value} {od13 an13 : Option Addr} {sl13 : Array (Option Value)}
    {a14 : Addr} {oc14 kV14 dc14 pm14 cd14 ct14 : Value} {od14 an14 : Option Addr} {sl14 : Array (Option Value)}
    {a15 : Addr} {oc15 kV15 dc15 pm15 cd15 ct15 : Value} {od15 an15 : Option Addr} {sl15 : Array (Option Value)}
    {a16 : Addr} {oc16 kV16 dc16 pm16 cd16 ct16 : Value} {od16 an16 : Option Addr} {sl16 : Array (Option Value)}
    {a17 : Addr} {oc17 kV17 dc17 pm17 cd17 ct17 : Value} {od17 an17 : Option Addr} {sl17 : Array (Option Value)}
    {a18 : Addr} {oc18 kV18 dc18 pm18 cd18 ct18 : Value} {od18 an18 : Option Addr} {sl18 : Array (Option Value)}
    {a19 : Addr} {oc19 kV19 dc19 pm19 cd19 ct19 : Value} {od19 an19 : Option Addr} {sl19 : Array (Option Value)}
    {a20 : Addr} {oc20 kV20 dc20 pm20 cd20 ct20 : Value} {od20 an20 : Option Addr} {sl20 : Array (Option Value)}
    {a21 : Addr} {oc21 kV21 dc21 pm21 cd21 ct21 : Value} {od21 an21 : Option Addr} {sl21 : Array (Option Value)}
    {a22 : Addr} {oc22 kV22 dc22 pm22 cd22 ct22 : Value} {od22 an22 : Option Addr} {sl22 : Array (Option Value)}
    {a23 : Addr} {oc23 kV23 dc23 pm23 cd23 ct23 : Value} {od23 an23 : Option Addr} {sl23 : Array (Option Value)}
    {aL : Addr} {ocL kVL dcL pmL ctL : Value} {odL anL : Option Addr} {slL : Array (Option Value)}
    {aT : Addr} {ocT kVT dcT pmT cdT ctT : Value} {odT anT : Option Addr} {slT : Array (Option Value)}
    {aN : Addr} {ocN kVN dcN pmN cdN ctN : Value} {odN anN : Option Addr} {slN : Array (Option Value)}
    {c P : Addr} {ocC : Value} {odC : Option Addr} {vsC : Array Value} {slC : Array (Option Value)}
    {C0 C1 C2 C3 C4 C5 C6 C7 C8 C9 C10 : Addr}
    {CQ : Addr}
    {tMOST_PARTIES : Tok}
    {tLARGEST : Tok}
    {tMOST_SEATS : Tok}
    (n0 : PySem.W.nsIn K mainGlobals "is_from" = some (some (.ref a0))) (l0 : K.lookup a0 = some ⟨oc0, od0, .func (PySem.W.fnOf "is_from" "is_from" (defArgs (topS 17)) (defBody (topS 17)) (defScope (topS 17)) .none kV0 dc0 pm0 an0 cd0 ct0), sl0⟩) (c0 : PySem.W.codeIn K cd0 "is_from" = true) (k0 : PySem.W.keepIn K (.ref a0) = true)
    (n1 : PySem.W.nsIn K mainGlobals "is_parties" = some (some (.ref a1))) (l1 : K.lookup a1 = some ⟨oc1, od1, .func (PySem.W.fnOf "is_parties" "is_parties" (defArgs (topS 18)) (defBody (topS 18)) (defScope (topS 18)) .none kV1 dc1 pm1 an1 cd1 ct1), sl1⟩) (c1 : PySem.W.codeIn K cd1 "is_parties" = true) (k1 : PySem.W.keepIn K (.ref a1) = true)
    (n2 : PySem.W.nsIn K mainGlobals "need_parties" = some (some (.ref a2))) (l2 : K.lookup a2 = some ⟨oc2, od2, .func (PySem.W.fnOf "need_parties" "need_parties" (defArgs (topS 19)) (defBody (topS 19)) (defScope (topS 19)) .none kV2 dc2 pm2 an2 cd2 ct2), sl2⟩) (c2 : PySem.W.codeIn K cd2 "need_parties" = true) (k2 : PySem.W.keepIn K (.ref a2) = true)
    (n3 : PySem.W.nsIn K mainGlobals "need_seats" = some (some (.ref a3))) (l3 : K.lookup a3 = some ⟨oc3, od3, .func (PySem.W.fnOf "need_seats" "need_seats" (defArgs (topS 20)) (defBody (topS 20)) (defScope (topS 20)) .none kV3 dc3 pm3 an3 cd3 ct3), sl3⟩) (c3 : PySem.W.codeIn K cd3 "need_seats" = true) (k3 : PySem.W.keepIn K (.ref a3) = true)
    (n4 : PySem.W.nsIn K mainGlobals "need_patience" = some (some (.ref a4))) (l4 : K.lookup a4 = some ⟨oc4, od4, .func (PySem.W.fnOf "need_patience" "need_patience" (defArgs (topS 21)) (defBody (topS 21)) (defScope (topS 21)) .none kV4 dc4 pm4 an4 cd4 ct4), sl4⟩) (c4 : PySem.W.codeIn K cd4 "need_patience" = true) (k4 : PySem.W.keepIn K (.ref a4) = true)
    (n5 : PySem.W.nsIn K mainGlobals "need_house" = some (some (.ref a5))) (l5 : K.lookup a5 = some ⟨oc5, od5, .func (PySem.W.fnOf "need_house" "need_house" (defArgs (topS 22)) (defBody (topS 22)) (defScope (topS 22)) .none kV5 dc5 pm5 an5 cd5 ct5), sl5⟩) (c5 : PySem.W.codeIn K cd5 "need_house" = true) (k5 : PySem.W.keepIn K (.ref a5) = true)
    (n6 : PySem.W.nsIn K mainGlobals "run" = some (some (.ref a6))) (l6 : K.lookup a6 = some ⟨oc6, od6, .func (PySem.W.fnOf "run" "run" (defArgs (topS 23)) (defBody (topS 23)) (defScope (topS 23)) .none kV6 dc6 pm6 an6 cd6 ct6), sl6⟩) (c6 : PySem.W.codeIn K cd6 "run" = true) (k6 : PySem.W.keepIn K (.ref a6) = true)
    (n7 : PySem.W.nsIn K mainGlobals "entering" = some (some (.ref a7))) (l7 : K.lookup a7 = some ⟨oc7, od7, .func (PySem.W.fnOf "entering" "entering" (defArgs (topS 24)) (defBody (topS 24)) (defScope (topS 24)) .none kV7 dc7 pm7 an7 cd7 ct7), sl7⟩) (c7 : PySem.W.codeIn K cd7 "entering" = true) (k7 : PySem.W.keepIn K (.ref a7) = true)
    (n8 : PySem.W.nsIn K mainGlobals "all_evenings" = some (some (.ref a8))) (l8 : K.lookup a8 = some ⟨oc8, od8, .func (PySem.W.fnOf "all_evenings" "all_evenings" (defArgs (topS 26)) (defBody (topS 26)) (defScope (topS 26)) .none kV8 dc8 pm8 an8 cd8 ct8), sl8⟩) (c8 : PySem.W.codeIn K cd8 "all_evenings" = true) (k8 : PySem.W.keepIn K (.ref a8) = true)
    (n9 : PySem.W.nsIn K mainGlobals "evenings" = some (some (.ref a9))) (l9 : K.lookup a9 = some ⟨oc9, od9, .func (PySem.W.fnOf "evenings" "evenings" (defArgs (topS 27)) (defBody (topS 27)) (defScope (topS 27)) .none (.ref D9) dc9 pm9 an9 cd9 ct9), sl9⟩) (c9 : PySem.W.codeIn K cd9 "evenings" = true) (k9 : PySem.W.keepIn K (.ref a9) = true) (e9 : PySem.W.nsIn K D9 "patience" = some (some .none))
    (n10 : PySem.W.nsIn K mainGlobals "more_evenings" = some (some (.ref a10))) (l10 : K.lookup a10 = some ⟨oc10, od10, .func (PySem.W.fnOf "more_evenings" "more_evenings" (defArgs (topS 28)) (defBody (topS 28)) (defScope (topS 28)) .none (.ref D10) dc10 pm10 an10 cd10 ct10), sl10⟩) (c10 : PySem.W.codeIn K cd10 "more_evenings" = true) (k10 : PySem.W.keepIn K (.ref a10) = true) (e10 : PySem.W.nsIn K D10 "patience" = some (some .none))
    (n11 : PySem.W.nsIn K mainGlobals "_law_deck" = some (some (.ref a11))) (l11 : K.lookup a11 = some ⟨oc11, od11, .func (PySem.W.fnOf "_law_deck" "_law_deck" (defArgs (topS 30)) (defBody (topS 30)) (defScope (topS 30)) .none kV11 dc11 pm11 an11 cd11 ct11), sl11⟩) (c11 : PySem.W.codeIn K cd11 "_law_deck" = true) (k11 : PySem.W.keepIn K (.ref a11) = true)
    (n12 : PySem.W.nsIn K mainGlobals "_law_pick" = some (some (.ref a12))) (l12 : K.lookup a12 = some ⟨oc12, od12, .func (PySem.W.fnOf "_law_pick" "_law_pick" (defArgs (topS 31)) (defBody (topS 31)) (defScope (topS 31)) .none kV12 dc12 pm12 an12 cd12 ct12), sl12⟩) (c12 : PySem.W.codeIn K cd12 "_law_pick" = true) (k12 : PySem.W.keepIn K (.ref a12) = true)
    (n13 : PySem.W.nsIn K mainGlobals "_law_one" = some (some (.ref a13))) (l13 : K.lookup a13 = some ⟨oc13, od13, .func (PySem.W.fnOf "_law_one" "_law_one" (defArgs (topS 34)) (defBody (topS 34)) (defScope (topS 34)) .none kV13 dc13 pm13 an13 cd13 ct13), sl13⟩) (c13 : PySem.W.codeIn K cd13 "_law_one" = true) (k13 : PySem.W.keepIn K (.ref a13) = true)
    (n14 : PySem.W.nsIn K mainGlobals "_law_sort" = some (some (.ref a14))) (l14 : K.lookup a14 = some ⟨oc14, od14, .func (PySem.W.fnOf "_law_sort" "_law_sort" (defArgs (topS 35)) (defBody (topS 35)) (defScope (topS 35)) .none kV14 dc14 pm14 an14 cd14 ct14), sl14⟩) (c14 : PySem.W.codeIn K cd14 "_law_sort" = true) (k14 : PySem.W.keepIn K (.ref a14) = true)
    (n15 : PySem.W.nsIn K mainGlobals "_law_same" = some (some (.ref a15))) (l15 : K.lookup a15 = some ⟨oc15, od15, .func (PySem.W.fnOf "_law_same" "_law_same" (defArgs (topS 36)) (defBody (topS 36)) (defScope (topS 36)) .none kV15 dc15 pm15 an15 cd15 ct15), sl15⟩) (c15 : PySem.W.codeIn K cd15 "_law_same" = true) (k15 : PySem.W.keepIn K (.ref a15) = true)
    (n16 : PySem.W.nsIn K mainGlobals "_law_row" = some (some (.ref a16))) (l16 : K.lookup a16 = some ⟨oc16, od16, .func (PySem.W.fnOf "_law_row" "_law_row" (defArgs (topS 37)) (defBody (topS 37)) (defScope (topS 37)) .none kV16 dc16 pm16 an16 cd16 ct16), sl16⟩) (c16 : PySem.W.codeIn K cd16 "_law_row" = true) (k16 : PySem.W.keepIn K (.ref a16) = true)
    (n17 : PySem.W.nsIn K mainGlobals "_law_calm" = some (some (.ref a17))) (l17 : K.lookup a17 = some ⟨oc17, od17, .func (PySem.W.fnOf "_law_calm" "_law_calm" (defArgs (topS 38)) (defBody (topS 38)) (defScope (topS 38)) .none kV17 dc17 pm17 an17 cd17 ct17), sl17⟩) (c17 : PySem.W.codeIn K cd17 "_law_calm" = true) (k17 : PySem.W.keepIn K (.ref a17) = true)
    (n18 : PySem.W.nsIn K mainGlobals "_law_run" = some (some (.ref a18))) (l18 : K.lookup a18 = some ⟨oc18, od18, .func (PySem.W.fnOf "_law_run" "_law_run" (defArgs (topS 40)) (defBody (topS 40)) (defScope (topS 40)) .none kV18 dc18 pm18 an18 cd18 ct18), sl18⟩) (c18 : PySem.W.codeIn K cd18 "_law_run" = true) (k18 : PySem.W.keepIn K (.ref a18) = true)
    (n19 : PySem.W.nsIn K mainGlobals "_law_set" = some (some (.ref a19))) (l19 : K.lookup a19 = some ⟨oc19, od19, .func (PySem.W.fnOf "_law_set" "_law_set" (defArgs (topS 41)) (defBody (topS 41)) (defScope (topS 41)) .none kV19 dc19 pm19 an19 cd19 ct19), sl19⟩) (c19 : PySem.W.codeIn K cd19 "_law_set" = true) (k19 : PySem.W.keepIn K (.ref a19) = true)
    (n20 : PySem.W.nsIn K mainGlobals "_law_evenings" = some (some (.ref a20))) (l20 : K.lookup a20 = some ⟨oc20, od20, .func (PySem.W.fnOf "_law_evenings" "_law_evenings" (defArgs (topS 43)) (defBody (topS 43)) (defScope (topS 43)) .none kV20 dc20 pm20 an20 cd20 ct20), sl20⟩) (c20 : PySem.W.codeIn K cd20 "_law_evenings" = true) (k20 : PySem.W.keepIn K (.ref a20) = true)
    (n21 : PySem.W.nsIn K mainGlobals "_law_more" = some (some (.ref a21))) (l21 : K.lookup a21 = some ⟨oc21, od21, .func (PySem.W.fnOf "_law_more" "_law_more" (defArgs (topS 44)) (defBody (topS 44)) (defScope (topS 44)) .none kV21 dc21 pm21 an21 cd21 ct21), sl21⟩) (c21 : PySem.W.codeIn K cd21 "_law_more" = true) (k21 : PySem.W.keepIn K (.ref a21) = true)
    (n22 : PySem.W.nsIn K mainGlobals "_law_flat" = some (some (.ref a22))) (l22 : K.lookup a22 = some ⟨oc22, od22, .func (PySem.W.fnOf "_law_flat" "_law_flat" (defArgs (topS 45)) (defBody (topS 45)) (defScope (topS 45)) .none kV22 dc22 pm22 an22 cd22 ct22), sl22⟩) (c22 : PySem.W.codeIn K cd22 "_law_flat" = true) (k22 : PySem.W.keepIn K (.ref a22) = true)
    (n23 : PySem.W.nsIn K mainGlobals "_law_known_right" = some (some (.ref a23))) (l23 : K.lookup a23 = some ⟨oc23, od23, .func (PySem.W.fnOf "_law_known_right" "_law_known_right" (defArgs (topS 46)) (defBody (topS 46)) (defScope (topS 46)) .none kV23 dc23 pm23 an23 cd23 ct23), sl23⟩) (c23 : PySem.W.codeIn K cd23 "_law_known_right" = true) (k23 : PySem.W.keepIn K (.ref a23) = true)
    (nL : PySem.W.nsIn K mainGlobals "law" = some (some (.ref aL))) (lL : K.lookup aL = some ⟨ocL, odL, .func (PySem.W.fnOf "law" "law" (defArgs (topS 47)) (defBody (topS 47)) (defScope (topS 47)) .none kVL dcL pmL anL (.ref c) ctL), slL⟩) (cL : PySem.W.codeIn K (.ref c) "law" = true) (kL : PySem.W.keepIn K (.ref aL) = true)
    (nT : PySem.W.nsIn K mainGlobals "_law_try" = some (some (.ref aT))) (lT : K.lookup aT = some ⟨ocT, odT, .func (PySem.W.fnOf "_law_try" "_law_try" (defArgs (topS 33)) (defBody (topS 33)) (defScope (topS 33)) .none kVT dcT pmT anT cdT ctT), slT⟩) (cT : PySem.W.codeIn K cdT "_law_try" = true) (kT : PySem.W.keepIn K (.ref aT) = true)
    (nN : PySem.W.nsIn K mainGlobals "_law_name_of" = some (some (.ref aN))) (lN : K.lookup aN = some ⟨ocN, odN, .func (PySem.W.fnOf "_law_name_of" "_law_name_of" (defArgs (topS 32)) (defBody (topS 32)) (defScope (topS 32)) .none kVN dcN pmN anN cdN ctN), slN⟩) (cN : PySem.W.codeIn K cdN "_law_name_of" = true) (kN : PySem.W.keepIn K (.ref aN) = true)
    (lC : K.lookup c = some ⟨ocC, odC, .fields vsC, slC⟩) (pC : (vsC[11]? : Option Value) = some (.ref P)) (hC : PySem.W.codeHdIn K c P = true) (nP : K.lookup P = none) (tP : h.get? P = some (PySem.W.tabObj #[]))
    (nX0 : PySem.W.nsIn K mainGlobals "InvalidParties" = some (some (.ref C0)))
    (nX1 : PySem.W.nsIn K mainGlobals "InvalidSeats" = some (some (.ref C1)))
    (nX2 : PySem.W.nsIn K mainGlobals "InvalidPatience" = some (some (.ref C2)))
    (nX3 : PySem.W.nsIn K mainGlobals "InvalidIndex" = some (some (.ref C3)))
    (nX4 : PySem.W.nsIn K mainGlobals "InvalidPlace" = some (some (.ref C4)))
    (nX5 : PySem.W.nsIn K mainGlobals "InvalidSize" = some (some (.ref C5)))
    (nX6 : PySem.W.nsIn K mainGlobals "InvalidSet" = some (some (.ref C6)))
    (nX7 : PySem.W.nsIn K mainGlobals "InvalidSeen" = some (some (.ref C7)))
    (nX8 : PySem.W.nsIn K mainGlobals "UnknownParty" = some (some (.ref C8)))
    (nX9 : PySem.W.nsIn K mainGlobals "NothingToUndo" = some (some (.ref C9)))
    (nX10 : PySem.W.nsIn K mainGlobals "TooMany" = some (some (.ref C10)))
    (nQ : PySem.W.nsIn K mainGlobals "QueueError" = some (some (.ref CQ)))
    (xA : xcAll K [C0, C1, C2, C3, C4, C5, C6, C7, C8, C9, C10] CQ = true)
    (z0 : PySem.W.nsIn K mainGlobals "len" = some none)
    (z1 : PySem.W.nsIn K mainGlobals "int" = some none)
    (z2 : PySem.W.nsIn K mainGlobals "sum" = some none)
    (z3 : PySem.W.nsIn K mainGlobals "min" = some none)
    (z4 : PySem.W.nsIn K mainGlobals "max" = some none)
    (z5 : PySem.W.nsIn K mainGlobals "tuple" = some none)
    (z6 : PySem.W.nsIn K mainGlobals "list" = some none)
    (z7 : PySem.W.nsIn K mainGlobals "all" = some none)
    (z8 : PySem.W.nsIn K mainGlobals "sorted" = some none)
    (z9 : PySem.W.nsIn K mainGlobals "isinstance" = some none)
    (z10 : PySem.W.nsIn K mainGlobals "range" = some none)
    (z11 : PySem.W.nsIn K mainGlobals "enumerate" = some none)
    (z12 : PySem.W.nsIn K mainGlobals "zip" = some none)
    (z13 : PySem.W.nsIn K mainGlobals "bool" = some none)
    (z14 : PySem.W.nsIn K mainGlobals "str" = some none)
    (z15 : PySem.W.nsIn K mainGlobals "ValueError" = some none)
    (gMOST_PARTIES : PySem.W.nsIn K mainGlobals "MOST_PARTIES" = some (some (.int 16 tMOST_PARTIES)))
    (gLARGEST : PySem.W.nsIn K mainGlobals "LARGEST" = some (some (.int 50 tLARGEST)))
    (gMOST_SEATS : PySem.W.nsIn K mainGlobals "MOST_SEATS" = some (some (.int 1000 tMOST_SEATS)))
    (hl : ∀ ns : List Int, ns.length ≤ 63 → ∃ s, law.run (evF tab k) ns = .ok (.rt (.bl true)) s) :
    LamX.LawAtS rw w K (L2N.CX rw.prog w) (k + 5) 63 "script" mg fa h := by
  have e := hfa.symm.trans (PySem.W.mg_of X G nL)
  cases e
  have h0 : PySem.W.keepIn K (.ref a0) = true ∧ Have K mg i_is_from a0 := have_plain X G n0 l0 c0 k0 (fun _ _ _ _ _ _ us hl => match us, hl with | [_, _, _], _ => rfl)
  have h1 : PySem.W.keepIn K (.ref a1) = true ∧ Have K mg i_is_parties a1 := have_plain X G n1 l1 c1 k1 (fun _ _ _ _ _ _ us hl => match us, hl with | [_], _ => rfl)
  have h2 : PySem.W.keepIn K (.ref a2) = true ∧ Have K mg i_need_parties a2 := have_plain X G n2 l2 c2 k2 (fun _ _ _ _ _ _ us hl => match us, hl with | [_], _ => rfl)
  have h3 : PySem.W.keepIn K (.ref a3) = true ∧ Have K mg i_need_seats a3 := have_plain X G n3 l3 c3 k3 (fun _ _ _ _ _ _ us hl => match us, hl with | [_], _ => rfl)
  have h4 : PySem.W.keepIn K (.ref a4) = true ∧ Have K mg i_need_patience a4 := have_plain X G n4 l4 c4 k4 (fun _ _ _ _ _ _ us hl => match us, hl with | [_], _ => rfl)
  have h5 : PySem.W.keepIn K (.ref a5) = true ∧ Have K mg i_need_house a5 := have_plain X G n5 l5 c5 k5 (fun _ _ _ _ _ _ us hl => match us, hl with | [_, _, _], _ => rfl)
  have h6 : PySem.W.keepIn K (.ref a6) = true ∧ Have K mg i_run a6 := have_plain X G n6 l6 c6 k6 (fun _ _ _ _ _ _ us hl => match us, hl with | [_, _, _], _ => rfl)
  have h7 : PySem.W.keepIn K (.ref a7) = true ∧ Have K mg i_entering a7 := have_plain X G n7 l7 c7 k7 (fun _ _ _ _ _ _ us hl => match us, hl with | [_, _, _], _ => rfl)
  have h8 : PySem.W.keepIn K (.ref a8) = true ∧ Have K mg i_all_evenings a8 := have_plain X G n8 l8 c8 k8 (fun _ _ _ _ _ _ us hl => match us, hl with | [_, _, _], _ => rfl)
  have h9 : PySem.W.keepIn K (.ref a9) = true ∧ Have K mg i_evenings a9 := have_kw (m := 2) X G n9 l9 c9 k9 e9 rfl (fun _ _ _ _ _ _ us ks h1 h2 => match us, ks, h1, h2 with | [_, _], [_], _, _ => ⟨_, _, _, _, _, _, rfl, rfl, rfl⟩) (fun _ _ _ _ _ _ us ks h1 h2 => match us, ks, h1, h2 with | [_, _], [_], _, _ => rfl)
  have h10 : PySem.W.keepIn K (.ref a10) = true ∧ Have K mg i_more_evenings a10 := have_kw (m := 1) X G n10 l10 c10 k10 e10 rfl (fun _ _ _ _ _ _ us ks h1 h2 => match us, ks, h1, h2 with | [_], [_], _, _ => ⟨_, _, _, _, _, _, rfl, rfl, rfl⟩) (fun _ _ _ _ _ _ us ks h1 h2 => match us, ks, h1, h2 with | [_], [_], _, _ => rfl)
  have h11 : PySem.W.keepIn K (.ref a11) = true ∧ Have K mg i_law_deck a11 := have_plain X G n11 l11 c11 k11 (fun _ _ _ _ _ _ us hl => match us, hl with | [_, _], _ => rfl)
  have h12 : PySem.W.keepIn K (.ref a12) = true ∧ Have K mg i_law_pick a12 := have_plain X G n12 l12 c12 k12 (fun _ _ _ _ _ _ us hl => match us, hl with | [_, _], _ => rfl)
  have h13 : PySem.W.keepIn K (.ref a13) = true ∧ Have K mg i_law_one a13 := have_plain X G n13 l13 c13 k13 (fun _ _ _ _ _ _ us hl => match us, hl with | [_, _], _ => rfl)
  have h14 : PySem.W.keepIn K (.ref a14) = true ∧ Have K mg i_law_sort a14 := have_plain X G n14 l14 c14 k14 (fun _ _ _ _ _ _ us hl => match us, hl with | [_], _ => rfl)
  have h15 : PySem.W.keepIn K (.ref a15) = true ∧ Have K mg i_law_same a15 := have_plain X G n15 l15 c15 k15 (fun _ _ _ _ _ _ us hl => match us, hl with | [_, _], _ => rfl)
  have h16 : PySem.W.keepIn K (.ref a16) = true ∧ Have K mg i_law_row a16 := have_plain X G n16 l16 c16 k16 (fun _ _ _ _ _ _ us hl => match us, hl with | [_, _], _ => rfl)
  have h17 : PySem.W.keepIn K (.ref a17) = true ∧ Have K mg i_law_calm a17 := have_plain X G n17 l17 c17 k17 (fun _ _ _ _ _ _ us hl => match us, hl with | [_], _ => rfl)
  have h18 : PySem.W.keepIn K (.ref a18) = true ∧ Have K mg i_law_run a18 := have_plain X G n18 l18 c18 k18 (fun _ _ _ _ _ _ us hl => match us, hl with | [_, _, _], _ => rfl)
  have h19 : PySem.W.keepIn K (.ref a19) = true ∧ Have K mg i_law_set a19 := have_plain X G n19 l19 c19 k19 (fun _ _ _ _ _ _ us hl => match us, hl with | [_, _, _], _ => rfl)
  have h20 : PySem.W.keepIn K (.ref a20) = true ∧ Have K mg i_law_evenings a20 := have_plain X G n20 l20 c20 k20 (fun _ _ _ _ _ _ us hl => match us, hl with | [_, _, _], _ => rfl)
  have h21 : PySem.W.keepIn K (.ref a21) = true ∧ Have K mg i_law_more a21 := have_plain X G n21 l21 c21 k21 (fun _ _ _ _ _ _ us hl => match us, hl with | [_, _], _ => rfl)
  have h22 : PySem.W.keepIn K (.ref a22) = true ∧ Have K mg i_law_flat a22 := have_plain X G n22 l22 c22 k22 (fun _ _ _ _ _ _ us hl => match us, hl with | [_], _ => rfl)
  have h23 : PySem.W.keepIn K (.ref a23) = true ∧ Have K mg i_law_known_right a23 := have_plain X G n23 l23 c23 k23 (fun _ _ _ _ _ _ us hl => match us, hl with | [_], _ => rfl)
  have FN : ∃ FN : Nat → Option Addr, FN 0 = some a0 ∧ FN 1 = some a1 ∧ FN 2 = some a2 ∧ FN 3 = some a3 ∧ FN 4 = some a4 ∧ FN 5 = some a5 ∧ FN 6 = some a6 ∧ FN 7 = some a7 ∧ FN 83 = some a8 ∧ FN 84 = some a9 ∧ FN 85 = some a10 ∧ FN 13 = some a11 ∧ FN 14 = some a12 ∧ FN 18 = some a13 ∧ FN 19 = some a14 ∧ FN 20 = some a15 ∧ FN 21 = some a16 ∧ FN 22 = some a17 ∧ FN 24 = some a18 ∧ FN 25 = some a19 ∧ FN 86 = some a20 ∧ FN 87 = some a21 ∧ FN 88 = some a22 ∧ FN 89 = some a23 := ⟨fun f => if f = 0 then some a0 else if f = 1 then some a1 else if f = 2 then some a2 else if f = 3 then some a3 else if f = 4 then some a4 else if f = 5 then some a5 else if f = 6 then some a6 else if f = 7 then some a7 else if f = 83 then some a8 else if f = 84 then some a9 else if f = 85 then some a10 else if f = 13 then some a11 else if f = 14 then some a12 else if f = 18 then some a13 else if f = 19 then some a14 else if f = 20 then some a15 else if f = 21 then some a16 else if f = 22 then some a17 else if f = 24 then some a18 else if f = 25 then some a19 else if f = 86 then some a20 else if f = 87 then some a21 else if f = 88 then some a22 else if f = 89 then some a23 else none, rfl, rfl, rfl, rfl, rfl, rfl, rfl, rfl, rfl, rfl, rfl, rfl, rfl, rfl, rfl, rfl, rfl, rfl, rfl, rfl, rfl, rfl, rfl, rfl⟩
  obtain ⟨FN, f0, f1, f2, f3, f4, f5, f6, f7, f8, f9, f10, f11, f12, f13, f14, f15, f16, f17, f18, f19, f20, f21, f22, f23⟩ := FN
  have XA : Xc K mg [C0, C1, C2, C3, C4, C5, C6, C7, C8, C9, C10] CQ := ⟨xA, xcNs_get X G (by simp [xcNs, xcNames, nX0, nX1, nX2, nX3, nX4, nX5, nX6, nX7, nX8, nX9, nX10]), PySem.W.mg_of X G nQ, PySem.W.mg_none_of X G z15⟩
  have W : World0 K mg ⟨FN, [(P, ("law.<locals>.<lambda>" : Str))], [C0, C1, C2, C3, C4, C5, C6, C7, C8, C9, C10], lmb⟩ mt its tab := by
    refine ⟨fun x hx => ?_, fun x i hx => ?_, fun f x hx => ?_, fun f it hf => ?_, fun c x hx => ?_, rfl, fun x hx => ?_, fun f it hf => ?_, fun _ _ => rfl, fun f w hw => ?_, fun f it hf => ?_⟩
    · simp only [bltNames, List.mem_cons, List.not_mem_nil, or_false] at hx
      rcases hx with rfl | rfl | rfl | rfl | rfl | rfl | rfl | rfl | rfl | rfl | rfl | rfl | rfl | rfl | rfl
      · exact PySem.W.mg_none_of X G z0
      · exact PySem.W.mg_none_of X G z1
      · exact PySem.W.mg_none_of X G z2
      · exact PySem.W.mg_none_of X G z3
      · exact PySem.W.mg_none_of X G z4
      · exact PySem.W.mg_none_of X G z5
      · exact PySem.W.mg_none_of X G z6
      · exact PySem.W.mg_none_of X G z7
      · exact PySem.W.mg_none_of X G z8
      · exact PySem.W.mg_none_of X G z9
      · exact PySem.W.mg_none_of X G z10
      · exact PySem.W.mg_none_of X G z11
      · exact PySem.W.mg_none_of X G z12
      · exact PySem.W.mg_none_of X G z13
      · exact PySem.W.mg_none_of X G z14
    · unfold mt at hx
      simp only at hx
      split at hx
      · rename_i e; subst e; cases hx; exact ⟨tMOST_PARTIES, PySem.W.mg_of X G gMOST_PARTIES⟩
      split at hx
      · rename_i e; subst e; cases hx; exact ⟨tLARGEST, PySem.W.mg_of X G gLARGEST⟩
      split at hx
      · rename_i e; subst e; cases hx; exact ⟨tMOST_SEATS, PySem.W.mg_of X G gMOST_SEATS⟩
      cases hx
    · unfold mt at hx ⊢
      simp only at hx ⊢
      cases e : its.lookup f with
      | none => rw [e] at hx; cases hx
      | some it => rw [e] at hx; cases hx; exact ⟨it, rfl, rfl, rfl⟩
    · have m := mem_lk hf
      simp only [its, List.mem_cons, List.not_mem_nil, or_false, Prod.mk.injEq] at m
      rcases m with ⟨rfl, rfl⟩ | ⟨rfl, rfl⟩ | ⟨rfl, rfl⟩ | ⟨rfl, rfl⟩ | ⟨rfl, rfl⟩ | ⟨rfl, rfl⟩ | ⟨rfl, rfl⟩ | ⟨rfl, rfl⟩ | ⟨rfl, rfl⟩ | ⟨rfl, rfl⟩ | ⟨rfl, rfl⟩ | ⟨rfl, rfl⟩ | ⟨rfl, rfl⟩ | ⟨rfl, rfl⟩ | ⟨rfl, rfl⟩ | ⟨rfl, rfl⟩ | ⟨rfl, rfl⟩ | ⟨rfl, rfl⟩ | ⟨rfl, rfl⟩ | ⟨rfl, rfl⟩ | ⟨rfl, rfl⟩ | ⟨rfl, rfl⟩ | ⟨rfl, rfl⟩ | ⟨rfl, rfl⟩
      · exact b_is_from
      · exact b_is_parties
      · exact b_need_parties
      · exact b_need_seats
      · exact b_need_patience
      · exact b_need_house
      · exact b_run
      · exact b_entering
      · exact b_all_evenings
      · exact b_evenings
      · exact b_more_evenings
      · exact b_law_deck
      · exact b_law_pick
      · exact b_law_one
      · exact b_law_sort
      · exact b_law_same
      · exact b_law_row
      · exact b_law_calm
      · exact b_law_run
      · exact b_law_set
      · exact b_law_evenings
      · exact b_law_more
      · exact b_law_flat
      · exact b_law_known_right
    · unfold mt at hx
      simp only at hx
      split at hx
      · rename_i e; subst e; cases hx; exact XA.thrown (i := 0) (by decide) rfl
      split at hx
      · rename_i e; subst e; cases hx; exact XA.thrown (i := 1) (by decide) rfl
      split at hx
      · rename_i e; subst e; cases hx; exact XA.thrown (i := 2) (by decide) rfl
      cases hx
    · have hx : (none : Option Str) = some x := hx
      cases hx
    · unfold tab
      rw [if_neg fun z => by subst z; have q : its.lookup 200 = none := rfl; rw [q] at hf; cases hf]
      unfold tabOf
      rw [hf]
      rfl
    · have hw2 : lmb f w = true := hw
      unfold lmb at hw2
      simp only [Bool.or_eq_true, Bool.and_eq_true, decide_eq_true_eq, Bool.false_eq_true, or_false] at hw2
      obtain ⟨rfl, hw3⟩ := hw2
      exact ⟨e_lam200, rfl, hw3⟩
    · have m := mem_lk hf
      simp only [its, List.mem_cons, List.not_mem_nil, or_false, Prod.mk.injEq] at m
      rcases m with ⟨rfl, rfl⟩ | ⟨rfl, rfl⟩ | ⟨rfl, rfl⟩ | ⟨rfl, rfl⟩ | ⟨rfl, rfl⟩ | ⟨rfl, rfl⟩ | ⟨rfl, rfl⟩ | ⟨rfl, rfl⟩ | ⟨rfl, rfl⟩ | ⟨rfl, rfl⟩ | ⟨rfl, rfl⟩ | ⟨rfl, rfl⟩ | ⟨rfl, rfl⟩ | ⟨rfl, rfl⟩ | ⟨rfl, rfl⟩ | ⟨rfl, rfl⟩ | ⟨rfl, rfl⟩ | ⟨rfl, rfl⟩ | ⟨rfl, rfl⟩ | ⟨rfl, rfl⟩ | ⟨rfl, rfl⟩ | ⟨rfl, rfl⟩ | ⟨rfl, rfl⟩ | ⟨rfl, rfl⟩
      · exact ⟨a0, f0, h0⟩
      · exact ⟨a1, f1, h1⟩
      · exact ⟨a2, f2, h2⟩
      · exact ⟨a3, f3, h3⟩
      · exact ⟨a4, f4, h4⟩
      · exact ⟨a5, f5, h5⟩
      · exact ⟨a6, f6, h6⟩
      · exact ⟨a7, f7, h7⟩
      · exact ⟨a8, f8, h8⟩
      · exact ⟨a9, f9, h9⟩
      · exact ⟨a10, f10, h10⟩
      · exact ⟨a11, f11, h11⟩
      · exact ⟨a12, f12, h12⟩
      · exact ⟨a13, f13, h13⟩
      · exact ⟨a14, f14, h14⟩
      · exact ⟨a15, f15, h15⟩
      · exact ⟨a16, f16, h16⟩
      · exact ⟨a17, f17, h17⟩
      · exact ⟨a18, f18, h18⟩
      · exact ⟨a19, f19, h19⟩
      · exact ⟨a20, f20, h20⟩
      · exact ⟨a21, f21, h21⟩
      · exact ⟨a22, f22, h22⟩
      · exact ⟨a23, f23, h23⟩
  have F := fun_law lL cL kL
  obtain ⟨dT, bT⟩ := def1_of (ps := ["door"]) X G nT lT cT kT (fun _ _ _ _ _ _ us hl => match us, hl with | [_], _ => rfl)
  obtain ⟨dN, bN⟩ := def1_of (ps := ["e"]) X G nN lN cN kN (fun _ _ _ _ _ _ us hl => match us, hl with | [_], _ => rfl)
  have TW : TrW K mg ⟨FN, [(P, ("law.<locals>.<lambda>" : Str))], [C0, C1, C2, C3, C4, C5, C6, C7, C8, C9, C10], lmb⟩ "_law_try" "law.<locals>.<lambda>" c P := ⟨⟨CQ, XA⟩, ⟨_, _, _, _, _, _, _, b_tr, dT, dN, bT, bN⟩, by decide, PySem.W.mg_none_of X G z9, PySem.W.mg_none_of X G z12, PySem.W.mg_none_of X G z14, rfl⟩
  exact law_at (T := [(P, ("law.<locals>.<lambda>" : Str))]) (cs := [(c, P)]) rfl (fun p hp => by rw [List.mem_singleton.mp hp]; exact tP) (fun p hp => by rw [List.mem_singleton.mp hp]; exact nP) (fun p hp => by rw [List.mem_singleton.mp hp]; exact PySem.W.codeHd_of_K X hC) (fun s v => F.bindsA (ps := ["script"]) (fun _ _ _ _ _ _ us hl => match us, hl with | [_], _ => rfl) s [v] rfl) fun base _ _ tb => law_ok W b_law lL cL hk (fun tx e => by cases e; exact ⟨rfl, TW, tb _ List.mem_cons_self⟩) (fun e => nomatch e) hl
end ML.K13

set_option Elab.async false
set_option maxRecDepth 10000
set_option linter.all false
set_option maxHeartbeats 1000000
/-! ML: how the evaluator is run by simp: one equation a construct, comprehensions and walks over plain lists. -/
namespace ML
open PySem (Str)
theorem nr {α : Sort _} {a b : α} (h : a = b) : a = b := h
/-- the table has these defs -/
def Sub (l : List Nat) (T : Nat → Option Def) : Prop := ∀ f ∈ l, T f = G f
theorem Sub.mono {l m : List Nat} {T : Nat → Option Def} (h : Sub l T) (hs : (m.all fun f => decide (f ∈ l)) = true) : Sub m T := fun f hf => h f (of_decide_eq_true (List.all_eq_true.mp hs f hf))
theorem ev_run {T : Nat → Option Def} {k f : Nat} {d : Def} {vs : List PV} {s : Store} (h : T f = some d) (hk : 1 ≤ k) : evF T k f vs s = runD (evF T (k - 1)) d vs s := by
  cases k with
  | zero => omega
  | succ k =>
    show (match T f with
      | some d => runD (evF T k) d vs s
      | none => .bad) = _
    rw [h]
    rfl
def outV : Flow → PV
  | .nx _ => .non
  | .rt v => v
theorem runD_ok {C : Calls} {d : Def} {vs : List PV} {s : Store} {fl : Flow} {s' : Store} (h1 : vs.length = d.np) (h2 : exSs C d.body (vs.map some ++ List.replicate (d.nn - d.np) none) s = .ok fl s') :
    runD C d vs s = .ok (outV fl) s' := by
  unfold runD
  rw [if_pos h1, h2]
  cases fl <;> rfl
theorem ev_ret {T : Nat → Option Def} {k f : Nat} {d : Def} {vs : List PV} {s s' : Store} {v : PV} (h : T f = some d) (hk : 1 ≤ k) (h1 : vs.length = d.np) (h2 : exSs (evF T (k - 1)) d.body (vs.map some ++ List.replicate (d.nn - d.np) none) s = .ok (.rt v) s') :
    evF T k f vs s = .ok v s' := by
  rw [ev_run h hk, runD_ok h1 h2]
  rfl
theorem ev_non {T : Nat → Option Def} {k f : Nat} {d : Def} {vs : List PV} {s s' : Store} {r : Env} (h : T f = some d) (hk : 1 ≤ k) (h1 : vs.length = d.np) (h2 : exSs (evF T (k - 1)) d.body (vs.map some ++ List.replicate (d.nn - d.np) none) s = .ok (.nx r) s') :
    evF T k f vs s = .ok .non s' := by
  rw [ev_run h hk, runD_ok h1 h2]
  rfl
/-! ### behind a call -/
@[simp] theorem noloc_non : noloc .non = true := by rw [noloc]
@[simp] theorem noloc_bl (b : Bool) : noloc (.bl b) = true := by rw [noloc]
@[simp] theorem noloc_int (i : Int) : noloc (.int i) = true := by rw [noloc]
@[simp] theorem noloc_str (x : Str) : noloc (.str x) = true := by rw [noloc]
@[simp] theorem noloc_fn (f : Nat) : noloc (.fn f) = true := by rw [noloc]
@[simp] theorem noloc_tup (xs : List PV) : noloc (.tup xs) = nolocs xs := by rw [noloc]
@[simp] theorem noloc_lst (xs : List PV) : noloc (.lst xs) = nolocs xs := by rw [noloc]
@[simp] theorem nolocs_nil : nolocs [] = true := by rw [nolocs]
@[simp] theorem nolocs_cons (x : PV) (r : List PV) : nolocs (x :: r) = (noloc x && nolocs r) := by rw [nolocs]
theorem nolocs_all : ∀ xs : List PV, (∀ x ∈ xs, noloc x = true) → nolocs xs = true
  | [], _ => rfl
  | x :: r, h => by
    rw [nolocs_cons, h x List.mem_cons_self, nolocs_all r fun y hy => h y (List.mem_cons_of_mem _ hy)]
    rfl
theorem nolocs_map {α : Type} (f : α → PV) (h : ∀ a, noloc (f a) = true) (xs : List α) : nolocs (xs.map f) = true := nolocs_all _ fun x hx => by
  obtain ⟨a, _, rfl⟩ := List.mem_map.mp hx
  exact h a
theorem fin_pure {kk : Bool} {n : Nat} {v : PV} {s : Store} (h : noloc v = true) : fin kk n v s = .ok v (s.take n) := by
  have hb : below n v = true := below_noloc v h
  unfold fin
  split
  · simp [noloc] at h
  · rw [if_pos hb]
@[simp] theorem fin_self {kk : Bool} {v : PV} {s : Store} (h : noloc v = true) : fin kk s.length v s = .ok v s := by
  rw [fin_pure h, List.take_length]
theorem fin_same {kk : Bool} {v : PV} {s s' : Store} (h : noloc v = true) (hl : s'.length = s.length) : fin kk s.length v s' = .ok v s' := by
  rw [← hl, fin_self h]
@[simp] theorem fin_last {kk : Bool} {v : PV} {s : Store} {o o' : Obj} (h : noloc v = true) : fin kk (s ++ [o]).length v (s ++ [o']) = .ok v (s ++ [o']) := fin_same h (by simp)
@[simp] theorem fin_last' {kk : Bool} {v : PV} {s : Store} {o : Obj} (h : noloc v = true) : fin kk (s.length + 1) v (s ++ [o]) = .ok v (s ++ [o]) := by
  have e : s.length + 1 = (s ++ [o]).length := by simp
  rw [e, fin_self h]
@[simp] theorem fin_new {s : Store} {xs : List PV} : fin true s.length (.loc s.length) (s ++ [Obj.lst xs]) = .ok (.lst xs) s := by
  unfold fin
  simp
@[simp] theorem fin_new2 {s : Store} {o : Obj} {xs : List PV} : fin true (s.length + 1) (.loc (s.length + 1)) (s ++ [o, Obj.lst xs]) = .ok (.lst xs) (s ++ [o]) := by
  have h := fin_new (s := s ++ [o]) (xs := xs)
  rw [List.length_append, List.append_assoc] at h
  exact h
@[simp] theorem fin_keep {s : Store} {xs : List PV} : fin false s.length (.loc s.length) (s ++ [Obj.lst xs]) = .ok (.loc s.length) (s ++ [Obj.lst xs]) := by
  unfold fin
  simp
/-! ### a comprehension over any list -/
def setE : List Nat → List PV → Env → Env
  | i :: is, x :: xs, r => setE is xs (r.set i (some x))
  | _, _, r => r
def bindE (tg : List Nat) (one : Bool) (v : PV) (r : Env) : Env := if one then setE tg [v] r else match v with
  | .tup xs => setE tg xs r
  | _ => r
def okB (tg : List Nat) (one : Bool) (v : PV) : Bool := if one then tg.length == 1 else match v with
  | .tup xs => xs.length == tg.length
  | _ => false
theorem setAll_eq : ∀ (is : List Nat) (xs : List PV) (r : Env), setAllE is xs r = if xs.length == is.length then some (setE is xs r) else none
  | [], [], r => rfl
  | [], _ :: _, r => by simp [setAllE]
  | _ :: _, [], r => by simp [setAllE]
  | i :: is, x :: xs, r => by
    have e := setAll_eq is xs (r.set i (some x))
    simp only [setAllE, setE, List.length_cons]
    rw [e]
    by_cases hh : xs.length = is.length <;> simp [hh]
theorem bindT_eq (tg : List Nat) (one : Bool) (v : PV) (r : Env) : bindT tg one v r = if okB tg one v then some (bindE tg one v r) else none := by
  unfold bindT okB bindE
  cases one with
  | true =>
    rw [if_pos rfl, if_pos rfl, if_pos rfl, setAll_eq]
    have e : ((([v] : List PV).length == tg.length) : Bool) = (tg.length == 1) := by
      rw [Bool.eq_iff_iff]
      simp only [beq_iff_eq]
      exact eq_comm
    rw [e]
  | false =>
    rw [if_neg Bool.false_ne_true, if_neg Bool.false_ne_true, if_neg Bool.false_ne_true]
    cases v <;> simp [setAll_eq]
def compM {α : Type} (t : α → Store → Res Bool) (g : α → Store → Res PV) : List α → List PV → Store → Res (List PV)
  | [], acc, s => .ok acc s
  | x :: r, acc, s => (t x s).bind fun b s => if b then (g x s).bind fun y s => compM t g r (acc ++ [y]) s else compM t g r acc s
theorem noX_bind {α β : Type} (x : Res α) (f : α → Store → Res β) : noX (x.bind f) = (noX x).bind fun a s => noX (f a s) := by cases x <;> rfl
theorem bind_bad {α β : Type} (x : Res α) : ((noX x).bind fun _ _ => (Res.bad : Res β)) = .bad := by cases x <;> rfl
theorem compL_eq (tg : List Nat) (one : Bool) (r0 : Env) (test : Env → Store → Res Bool) (elt : Env → Store → Res PV) : ∀ (xs : List PV) (acc : List PV) (s : Store),
    noX (compL (fun x => bindT tg one x r0) test elt xs acc s) = if xs.all (okB tg one) then noX (compM (fun x s => test (bindE tg one x r0) s) (fun x s => elt (bindE tg one x r0) s) xs acc s) else .bad
  | [], acc, s => rfl
  | x :: r, acc, s => by
    have ih := compL_eq tg one r0 test elt r
    unfold compL compM
    rw [bindT_eq]
    cases hx : okB tg one x with
    | false => simp [hx, noX]
    | true =>
      rw [if_pos rfl]
      dsimp only
      rw [noX_bind, noX_bind]
      cases ha : r.all (okB tg one) with
      | true =>
        rw [if_pos (by simp [hx, ha])]
        congr 1
        funext b s
        cases b with
        | true =>
          rw [if_pos rfl, if_pos rfl, noX_bind, noX_bind]
          congr 1
          funext y s
          rw [ih, if_pos ha]
        | false => rw [if_neg Bool.false_ne_true, if_neg Bool.false_ne_true, ih, if_pos ha]
      | false =>
        rw [if_neg (by simp [hx, ha])]
        have e : (fun (b : Bool) (s : Store) => noX (if b = true then (elt (bindE tg one x r0) s).bind fun y s => compL (fun x => bindT tg one x r0) test elt r (acc ++ [y]) s else compL (fun x => bindT tg one x r0) test elt r acc s)) = fun _ _ => (Res.bad : Res (List PV)) := by
          funext b s
          cases b with
          | true =>
            rw [if_pos rfl, noX_bind]
            have e2 : (fun (y : PV) (s : Store) => noX (compL (fun x => bindT tg one x r0) test elt r (acc ++ [y]) s)) = fun _ _ => (Res.bad : Res (List PV)) := by
              funext y s
              rw [ih, ha]
              rfl
            rw [e2, bind_bad]
          | false =>
            rw [if_neg Bool.false_ne_true, ih, ha]
            rfl
        rw [e, bind_bad]
@[simp] theorem compM_pure {α : Type} (t : α → Bool) (g : α → PV) : ∀ (xs : List α) (acc : List PV) (s : Store), compM (fun x s => .ok (t x) s) (fun x s => .ok (g x) s) xs acc s = .ok (acc ++ (xs.filter t).map g) s
  | [], acc, s => by simp [compM]
  | x :: r, acc, s => by
    have ih := compM_pure t g r
    unfold compM
    rw [Res.bind_ok]
    cases ht : t x with
    | true => rw [if_pos rfl, Res.bind_ok, ih, List.filter_cons, if_pos ht, List.append_assoc]; rfl
    | false => rw [if_neg Bool.false_ne_true, ih, List.filter_cons, if_neg (by rw [ht]; exact Bool.false_ne_true)]
theorem compM_map {α β : Type} (t : β → Store → Res Bool) (g : β → Store → Res PV) (h : α → β) : ∀ (xs : List α) (acc : List PV) (s : Store), compM t g (xs.map h) acc s = compM (fun x s => t (h x) s) (fun x s => g (h x) s) xs acc s
  | [], acc, s => rfl
  | x :: r, acc, s => by
    have ih := compM_map t g h r
    rw [List.map_cons]
    unfold compM
    congr 1
    funext b s
    cases b with
    | true =>
      rw [if_pos rfl, if_pos rfl]
      congr 1
      funext y s
      rw [ih]
    | false => rw [if_neg Bool.false_ne_true, if_neg Bool.false_ne_true, ih]
/-- over the members alone -/
theorem compM_on {α : Type} {t : α → Store → Res Bool} {g : α → Store → Res PV} {s : Store} (t' : α → Bool) (g' : α → PV) : ∀ (xs : List α) (acc : List PV), (∀ x ∈ xs, t x s = .ok (t' x) s ∧ (t' x = true → g x s = .ok (g' x) s)) → compM t g xs acc s = .ok (acc ++ (xs.filter t').map g') s
  | [], acc, _ => by simp [compM]
  | x :: r, acc, h => by
    obtain ⟨h1, h2⟩ := h x List.mem_cons_self
    have ih := fun acc => compM_on t' g' r acc fun y hy => h y (List.mem_cons_of_mem _ hy)
    unfold compM
    rw [h1, Res.bind_ok]
    cases ht : t' x with
    | true => rw [if_pos rfl, h2 ht, Res.bind_ok, ih, List.filter_cons, if_pos ht, List.append_assoc]; rfl
    | false => rw [if_neg Bool.false_ne_true, ih, List.filter_cons, if_neg (by rw [ht]; exact Bool.false_ne_true)]
/-! ### the equations -/
section
variable {C : Calls} {r : Env} {s : Store} {α β : Type}
def getE (r : Env) (i : Nat) : Option PV := (r[i]?).getD none
@[simp] theorem getE_zero (x : Option PV) (r : Env) : getE (x :: r) 0 = x := nr rfl
@[simp] theorem getE_succ (x : Option PV) (r : Env) (i : Nat) : getE (x :: r) (i + 1) = getE r i := nr rfl
def varR (o : Option PV) (s : Store) : Res PV := match o with
  | some v => .ok v s
  | none => .bad
@[simp] theorem varR_some (v : PV) (s : Store) : varR (some v) s = .ok v s := nr rfl
@[simp] theorem sv_var (i : Nat) : evE C (.var i) r s = varR (getE r i) s := by
  simp only [evE, getE]
  cases h : r[i]? with
  | none => rfl
  | some o => cases o <;> rfl
@[simp] theorem sv_int (i : Int) : evE C (.int i) r s = .ok (.int i) s := by simp only [evE]
@[simp] theorem sv_bl (b : Bool) : evE C (.bl b) r s = .ok (.bl b) s := by simp only [evE]
@[simp] theorem sv_non : evE C .non r s = .ok .non s := by simp only [evE]
@[simp] theorem sv_str (x : Str) : evE C (.str x) r s = .ok (.str x) s := by simp only [evE]
@[simp] theorem sv_gint (x : Str) (i : Int) : evE C (.gint x i) r s = .ok (.int i) s := by simp only [evE]
@[simp] theorem sv_fn (f : Nat) : evE C (.fn f) r s = .ok (.fn f) s := by simp only [evE]
/-- then f -/
def u1 (x : Res α) (f : α → Store → Res β) : Res β := x.bind f
@[simp] theorem u1_ok (v : α) (s : Store) (f : α → Store → Res β) : u1 (.ok v s) f = f v s := nr rfl
/-- then b, then f -/
def b2 (v : PV) (y : Res PV) (f : PV → PV → Store → Res β) : Res β := y.bind fun w s => f v w s
@[simp] theorem b2_ok (v w : PV) (s : Store) (f : PV → PV → Store → Res β) : b2 v (.ok w s) f = f v w s := nr rfl
def b1 (x : Res PV) (C : Calls) (b : E) (r : Env) (f : PV → PV → Store → Res β) : Res β := x.bind fun v s => b2 v (evE C b r s) f
@[simp] theorem b1_ok (v : PV) (s : Store) (C : Calls) (b : E) (r : Env) (f : PV → PV → Store → Res β) : b1 (.ok v s) C b r f = b2 v (evE C b r s) f := nr rfl
def binF (o : BOp) (x y : PV) (s : Store) : Res PV := lift (opB o x y) s
@[simp] theorem binF_eq (o : BOp) (x y : PV) (s : Store) : binF o x y s = lift (opB o x y) s := nr rfl
@[simp] theorem sv_bin (o : BOp) (a b : E) : evE C (.bin o a b) r s = b1 (evE C a r s) C b r (binF o) := by simp only [evE]; rfl
def negR (x : PV) (s : Store) : Res PV := match x with
  | .int i => .ok (.int (-i)) s
  | _ => .bad
@[simp] theorem negR_int (i : Int) (s : Store) : negR (.int i) s = .ok (.int (-i)) s := nr rfl
@[simp] theorem sv_neg (a : E) : evE C (.neg a) r s = u1 (evE C a r s) negR := by simp only [evE]; rfl
def cmpF (o : COp) (x y : PV) (s : Store) : Res PV := lift ((opC o x y).map PV.bl) s
@[simp] theorem cmpF_eq (o : COp) (x y : PV) (s : Store) : cmpF o x y s = lift ((opC o x y).map PV.bl) s := nr rfl
@[simp] theorem sv_cmp (o : COp) (a b : E) : evE C (.cmp o a b) r s = b1 (evE C a r s) C b r (cmpF o) := by simp only [evE]; rfl
def ch3 (o : Option Bool) (C : Calls) (o' : COp) (w : PV) (c : E) (r : Env) (s : Store) : Res PV := match o with
  | some true => b2 w (evE C c r s) (cmpF o')
  | some false => .ok (.bl false) s
  | none => .bad
@[simp] theorem ch3_some (b : Bool) (C : Calls) (o' : COp) (w : PV) (c : E) (r : Env) (s : Store) : ch3 (some b) C o' w c r s = if b then b2 w (evE C c r s) (cmpF o') else .ok (.bl false) s := by cases b <;> rfl
def ch2 (v : PV) (y : Res PV) (C : Calls) (o o' : COp) (c : E) (r : Env) : Res PV := y.bind fun w s => ch3 (opC o v w) C o' w c r s
@[simp] theorem ch2_ok (v w : PV) (s : Store) (C : Calls) (o o' : COp) (c : E) (r : Env) : ch2 v (.ok w s) C o o' c r = ch3 (opC o v w) C o' w c r s := nr rfl
def ch1 (x : Res PV) (C : Calls) (o o' : COp) (b c : E) (r : Env) : Res PV := x.bind fun v s => ch2 v (evE C b r s) C o o' c r
@[simp] theorem ch1_ok (v : PV) (s : Store) (C : Calls) (o o' : COp) (b c : E) (r : Env) : ch1 (.ok v s) C o o' b c r = ch2 v (evE C b r s) C o o' c r := nr rfl
@[simp] theorem sv_chain (o o' : COp) (a b c : E) : evE C (.chain o o' a b c) r s = ch1 (evE C a r s) C o o' b c r := by simp only [evE]; rfl
def truR (v : PV) (s : Store) : Res Bool := match v with
  | .bl b => .ok b s
  | _ => .bad
@[simp] theorem truR_bl (b : Bool) (s : Store) : truR (.bl b) s = .ok b s := nr rfl
theorem truth_eq (x : Res PV) : truth x = u1 x truR := rfl
def iteR (x : Res Bool) (C : Calls) (a b : E) (r : Env) : Res PV := x.bind fun c s => if c then evE C a r s else evE C b r s
@[simp] theorem iteR_ok (c : Bool) (s : Store) (C : Calls) (a b : E) (r : Env) : iteR (.ok c s) C a b r = if c then evE C a r s else evE C b r s := nr rfl
@[simp] theorem sv_and (a b : E) : evE C (.and_ a b) r s = iteR (u1 (evE C a r s) truR) C b (.bl false) r := by simp only [evE, truth_eq]; rfl
@[simp] theorem sv_or (a b : E) : evE C (.or_ a b) r s = iteR (u1 (evE C a r s) truR) C (.bl true) b r := by simp only [evE, truth_eq]; rfl
def notF (c : Bool) (s : Store) : Res PV := .ok (.bl (!c)) s
@[simp] theorem notF_eq (c : Bool) (s : Store) : notF c s = .ok (.bl (!c)) s := nr rfl
@[simp] theorem sv_not (a : E) : evE C (.not_ a) r s = u1 (u1 (evE C a r s) truR) notF := by simp only [evE, truth_eq]; rfl
@[simp] theorem sv_ite (c a b : E) : evE C (.ite c a b) r s = iteR (u1 (evE C c r s) truR) C a b r := by simp only [evE, truth_eq]; rfl
def tupF (vs : List PV) (s : Store) : Res PV := .ok (.tup vs) s
@[simp] theorem tupF_eq (vs : List PV) (s : Store) : tupF vs s = .ok (.tup vs) s := nr rfl
@[simp] theorem sv_tup (es : Es) : evE C (.tup es) r s = u1 (evEs C es r s) tupF := by simp only [evE]; rfl
def lstF (vs : List PV) (s : Store) : Res PV := .ok (.lst vs) s
@[simp] theorem lstF_eq (vs : List PV) (s : Store) : lstF vs s = .ok (.lst vs) s := nr rfl
@[simp] theorem sv_lst (es : Es) : evE C (.lst es) r s = u1 (evEs C es r s) lstF := by simp only [evE]; rfl
def newR (vs : List PV) (s : Store) : Res PV := made true vs s
@[simp] theorem newR_ok (vs : List PV) (s : Store) (h : nolocs vs = true) : newR vs s = .ok (.loc s.length) (s ++ [Obj.lst vs]) := by
  unfold newR made
  rw [if_pos rfl, if_pos h]
@[simp] theorem sv_newl (es : Es) : evE C (.newl es) r s = u1 (evEs C es r s) newR := by simp only [evE]; rfl
def ixR (x y : PV) (s : Store) : Res PV := match y with
  | .int i => lift ((items s x).bind fun xs => getN xs i) s
  | _ => .bad
def getP (s : Store) (x : PV) (i : Int) : Option PV := (items s x).bind fun xs => getN xs i
@[simp] theorem getP_tup (s : Store) (xs : List PV) (i : Int) : getP s (.tup xs) i = getN xs i := nr rfl
@[simp] theorem getP_lst (s : Store) (xs : List PV) (i : Int) : getP s (.lst xs) i = getN xs i := nr rfl
@[simp] theorem getP_last (s : Store) (xs : List PV) (i : Int) : getP (s ++ [Obj.lst xs]) (.loc s.length) i = getN xs i := by
  unfold getP
  simp [items]
@[simp] theorem ixR_int (x : PV) (i : Int) (s : Store) : ixR x (.int i) s = lift (getP s x i) s := nr rfl
@[simp] theorem sv_ix (a b : E) : evE C (.ix a b) r s = b1 (evE C a r s) C b r ixR := by simp only [evE]; rfl
def sl3 (v : PV) (l : Option Int) (h : Res (Option Int)) : Res PV := h.bind fun h s => lift (slV v l h) s
@[simp] theorem sl3_ok (v : PV) (l h : Option Int) (s : Store) : sl3 v l (.ok h s) = lift (slV v l h) s := nr rfl
def sl2 (v : PV) (l : Res (Option Int)) (C : Calls) (hi : Oe) (r : Env) : Res PV := l.bind fun l s => sl3 v l (evO C hi r s)
@[simp] theorem sl2_ok (v : PV) (l : Option Int) (s : Store) (C : Calls) (hi : Oe) (r : Env) : sl2 v (.ok l s) C hi r = sl3 v l (evO C hi r s) := nr rfl
def sl1 (x : Res PV) (C : Calls) (lo hi : Oe) (r : Env) : Res PV := x.bind fun v s => sl2 v (evO C lo r s) C hi r
@[simp] theorem sl1_ok (v : PV) (s : Store) (C : Calls) (lo hi : Oe) (r : Env) : sl1 (.ok v s) C lo hi r = sl2 v (evO C lo r s) C hi r := nr rfl
@[simp] theorem sv_slice (a : E) (lo hi : Oe) : evE C (.slice a lo hi) r s = sl1 (evE C a r s) C lo hi r := by simp only [evE]; rfl
def k2 (vs : List PV) (x : Res (List PV)) (C : Calls) (f : Nat) : Res PV := x.bind fun ks s => C f (vs ++ ks) s
@[simp] theorem k2_ok (vs ks : List PV) (s : Store) (C : Calls) (f : Nat) : k2 vs (.ok ks s) C f = C f (vs ++ ks) s := nr rfl
def k1 (x : Res (List PV)) (C : Calls) (f : Nat) (kw : Oe) (r : Env) : Res PV := x.bind fun vs s => k2 vs (evK C kw r s) C f
@[simp] theorem k1_ok (vs : List PV) (s : Store) (C : Calls) (f : Nat) (kw : Oe) (r : Env) : k1 (.ok vs s) C f kw r = k2 vs (evK C kw r s) C f := nr rfl
@[simp] theorem sv_call (f : Nat) (es : Es) (kw : Oe) : evE C (.call f es kw) r s = k1 (evEs C es r s) C f kw r := by simp only [evE]; rfl
def fz (kk : Bool) (n : Nat) (x : Res PV) : Res PV := x.bind fun v s' => fin kk n v s'
@[simp] theorem fz_ok (kk : Bool) (n : Nat) (v : PV) (s : Store) : fz kk n (.ok v s) = fin kk n v s := nr rfl
@[simp] theorem sv_frz (a : E) : evE C (.frz a) r s = fz true s.length (evE C a r s) := by simp only [evE]; rfl
@[simp] theorem sv_mutc (a : E) : evE C (.mutc a) r s = fz false s.length (evE C a r s) := by simp only [evE]; rfl
def biF (b : BI) (vs : List PV) (s : Store) : Res PV := lift (opI s b vs) s
@[simp] theorem biF_eq (b : BI) (vs : List PV) (s : Store) : biF b vs s = lift (opI s b vs) s := nr rfl
@[simp] theorem sv_bi (b : BI) (es : Es) : evE C (.bi b es) r s = u1 (evEs C es r s) (biF b) := by simp only [evE]; rfl
def a2 (l : Nat) (y : Res PV) : Res PV := y.bind fun y s => if noloc y then liftS (setL s l fun xs => if xs.length < big then some (xs ++ [y]) else none) else .bad
def appS (s : Store) (l : Nat) (y : PV) : Res PV := liftS (setL s l fun xs => if xs.length < big then some (xs ++ [y]) else none)
@[simp] theorem a2_ok (l : Nat) (y : PV) (s : Store) (h : noloc y = true) : a2 l (.ok y s) = appS s l y := if_pos h
def a1 (x : Res PV) (C : Calls) (b : E) (r : Env) : Res PV := x.bind fun x s => match x with
  | .loc l => a2 l (evE C b r s)
  | _ => .bad
@[simp] theorem a1_ok (l : Nat) (s : Store) (C : Calls) (b : E) (r : Env) : a1 (.ok (.loc l) s) C b r = a2 l (evE C b r s) := nr rfl
@[simp] theorem sv_append (a b : E) : evE C (.append a b) r s = a1 (evE C a r s) C b r := by simp only [evE]; rfl
@[simp] theorem setL_last (s : Store) (xs : List PV) (f : List PV → Option (List PV)) : setL (s ++ [Obj.lst xs]) s.length f = (f xs).map fun ys => s ++ [Obj.lst ys] := by
  unfold setL
  simp
theorem appS_last (s : Store) (xs : List PV) (y : PV) (h : xs.length < big) : appS (s ++ [Obj.lst xs]) s.length y = .ok .non (s ++ [Obj.lst (xs ++ [y])]) := by
  unfold appS
  rw [setL_last, if_pos h]
  rfl
@[simp] theorem sv_Es_nil : evEs C .nil r s = .ok [] s := by simp only [evEs]
def c2 (v : PV) (x : Res (List PV)) : Res (List PV) := x.bind fun vs s => .ok (v :: vs) s
@[simp] theorem c2_ok (v : PV) (vs : List PV) (s : Store) : c2 v (.ok vs s) = .ok (v :: vs) s := nr rfl
def c1 (x : Res PV) (C : Calls) (es : Es) (r : Env) : Res (List PV) := x.bind fun v s => c2 v (evEs C es r s)
@[simp] theorem c1_ok (v : PV) (s : Store) (C : Calls) (es : Es) (r : Env) : c1 (.ok v s) C es r = c2 v (evEs C es r s) := nr rfl
@[simp] theorem sv_Es_cons (e : E) (es : Es) : evEs C (.cons e es) r s = c1 (evE C e r s) C es r := by simp only [evEs]; rfl
@[simp] theorem sv_K_no : evK C .no r s = .ok [] s := by simp only [evK]
def oneF (v : PV) (s : Store) : Res (List PV) := .ok [v] s
@[simp] theorem oneF_eq (v : PV) (s : Store) : oneF v s = .ok [v] s := nr rfl
@[simp] theorem sv_K_yes (e : E) : evK C (.yes e) r s = u1 (evE C e r s) oneF := by simp only [evK]; rfl
@[simp] theorem sv_K_dfl : evK C .dfl r s = .ok [.non] s := by simp only [evK]
def intR (v : PV) (s : Store) : Res (Option Int) := match v with
  | .int i => .ok (some i) s
  | _ => .bad
@[simp] theorem intR_int (i : Int) (s : Store) : intR (.int i) s = .ok (some i) s := nr rfl
@[simp] theorem sv_O_no : evO C .no r s = .ok none s := by simp only [evO]
@[simp] theorem sv_O_yes (e : E) : evO C (.yes e) r s = u1 (evE C e r s) intR := by simp only [evO]; rfl
@[simp] theorem sv_T_no : evT C .no r s = .ok true s := by simp only [evT]
@[simp] theorem sv_T_yes (e : E) : evT C (.yes e) r s = u1 (evE C e r s) truR := by simp only [evT, truth_eq]
def seqR (v : PV) (s : Store) : Res (List PV) := match seqOf v with
  | some xs => .ok xs s
  | none => .bad
@[simp] theorem seqR_tup (xs : List PV) (s : Store) : seqR (.tup xs) s = .ok xs s := nr rfl
@[simp] theorem seqR_lst (xs : List PV) (s : Store) : seqR (.lst xs) s = .ok xs s := nr rfl
@[simp] theorem sv_I_seq (e : E) : evI C (.seq e) r s = u1 (evE C e r s) seqR := by simp only [evI]; rfl
theorem rangeL_map : ∀ (n : Nat) (lo : Int), rangeL lo n = (List.range n).map fun (i : Nat) => PV.int (lo + (i : Int))
  | 0, _ => rfl
  | n + 1, lo => by
    rw [List.range_succ_eq_map, List.map_cons, List.map_map]
    unfold rangeL
    rw [rangeL_map n (lo + 1)]
    congr 1
    · simp
    · apply List.map_congr_left
      intro i _
      show PV.int (lo + 1 + (i : Int)) = PV.int (lo + ((i + 1 : Nat) : Int))
      congr 1
      omega
def rngR (lo : Int) (v : PV) (s : Store) : Res (List PV) := match v with
  | .int j => if small62 lo && small62 j then .ok ((List.range (j - lo).toNat).map fun (i : Nat) => PV.int (lo + (i : Int))) s else .bad
  | _ => .bad
theorem rngR_int (lo j : Int) (s : Store) (h1 : small62 lo = true) (h2 : small62 j = true) : rngR lo (.int j) s = .ok ((List.range (j - lo).toNat).map fun (i : Nat) => PV.int (lo + (i : Int))) s := by
  unfold rngR
  simp only [h1, h2]
  rfl
@[simp] theorem sv_I_range1 (a : E) : evI C (.range1 a) r s = u1 (evE C a r s) (rngR 0) := by
  simp only [evI, u1]
  congr 1
  funext v s
  cases v <;> simp only [rngR]
  rename_i j
  rw [rangeL_map]
  have e : small62 0 = true := rfl
  rw [e, Bool.true_and, Int.sub_zero]
def rng2R (v w : PV) (s : Store) : Res (List PV) := match v with
  | .int i => rngR i w s
  | _ => .bad
@[simp] theorem rng2R_int (i : Int) (w : PV) (s : Store) : rng2R (.int i) w s = rngR i w s := nr rfl
@[simp] theorem sv_I_range2 (a b : E) : evI C (.range2 a b) r s = b1 (evE C a r s) C b r rng2R := by
  simp only [evI, b1, b2]
  congr 1
  funext v s
  congr 1
  funext w s
  cases v <;> cases w <;> simp only [rngR, rng2R, rangeL_map]
theorem enumL_map (f : α → PV) : ∀ (xs : List α) (i : Nat), enumL i (xs.map f) = (xs.zipIdx i).map fun p => PV.tup [.int (p.2 : Nat), f p.1]
  | [], _ => rfl
  | x :: r, i => by
    rw [List.zipIdx_cons, List.map_cons, List.map_cons]
    unfold enumL
    rw [enumL_map f r (i + 1)]
theorem zipL_map (f : α → PV) (g : β → PV) : ∀ (xs : List α) (ys : List β), zipL (xs.map f) (ys.map g) = (xs.zip ys).map fun p => PV.tup [f p.1, g p.2]
  | [], _ => rfl
  | _ :: _, [] => rfl
  | x :: r, y :: t => by
    rw [List.zip_cons_cons, List.map_cons, List.map_cons, List.map_cons]
    unfold zipL
    rw [zipL_map f g r t]
theorem zipL3_map {γ : Type} (f : α → PV) (g : β → PV) (h : γ → PV) : ∀ (xs : List α) (ys : List β) (zs : List γ), zipL3 (xs.map f) (ys.map g) (zs.map h) = (xs.zip (ys.zip zs)).map fun p => PV.tup [f p.1, g p.2.1, h p.2.2]
  | [], _, _ => rfl
  | _ :: _, [], _ => rfl
  | _ :: _, _ :: _, [] => rfl
  | x :: r, y :: t, z :: u => by
    rw [List.zip_cons_cons, List.zip_cons_cons, List.map_cons, List.map_cons, List.map_cons, List.map_cons]
    unfold zipL3
    rw [zipL3_map f g h r t u]
def enR (v : PV) (s : Store) : Res (List PV) := match seqOf v with
  | some xs => .ok (enumL 0 xs) s
  | none => .bad
@[simp] theorem enR_tup (f : α → PV) (xs : List α) (s : Store) : enR (.tup (xs.map f)) s = .ok (xs.zipIdx.map fun p => PV.tup [.int (p.2 : Nat), f p.1]) s := by
  rw [← enumL_map]; rfl
@[simp] theorem enR_lst (f : α → PV) (xs : List α) (s : Store) : enR (.lst (xs.map f)) s = .ok (xs.zipIdx.map fun p => PV.tup [.int (p.2 : Nat), f p.1]) s := by
  rw [← enumL_map]; rfl
@[simp] theorem sv_I_enum (e : E) : evI C (.enum e) r s = u1 (evE C e r s) enR := by simp only [evI]; rfl
def zpR (v w : PV) (s : Store) : Res (List PV) := match seqOf v, seqOf w with
  | some xs, some ys => .ok (zipL xs ys) s
  | _, _ => .bad
theorem zpR_map (f : α → PV) (g : β → PV) (xs : List α) (ys : List β) {v w : PV} (s : Store) (h1 : seqOf v = some (xs.map f)) (h2 : seqOf w = some (ys.map g)) : zpR v w s = .ok ((xs.zip ys).map fun p => PV.tup [f p.1, g p.2]) s := by
  unfold zpR
  rw [h1, h2, ← zipL_map]
@[simp] theorem zpR_tl (f : α → PV) (g : β → PV) (xs : List α) (ys : List β) (s : Store) : zpR (.tup (xs.map f)) (.lst (ys.map g)) s = .ok ((xs.zip ys).map fun p => PV.tup [f p.1, g p.2]) s := zpR_map f g xs ys s rfl rfl
@[simp] theorem zpR_ll (f : α → PV) (g : β → PV) (xs : List α) (ys : List β) (s : Store) : zpR (.lst (xs.map f)) (.lst (ys.map g)) s = .ok ((xs.zip ys).map fun p => PV.tup [f p.1, g p.2]) s := zpR_map f g xs ys s rfl rfl
@[simp] theorem sv_I_zip (a b : E) : evI C (.zip a b) r s = b1 (evE C a r s) C b r zpR := by simp only [evI]; rfl
def zp3R (v w u : PV) (s : Store) : Res (List PV) := match seqOf v, seqOf w, seqOf u with
  | some xs, some ys, some zs => .ok (zipL3 xs ys zs) s
  | _, _, _ => .bad
def zpB (v w : PV) (C : Calls) (c : E) (r : Env) (s : Store) : Res (List PV) := (evE C c r s).bind fun u s => zp3R v w u s
def z3b (v w : PV) (x : Res PV) : Res (List PV) := x.bind fun u s => zp3R v w u s
@[simp] theorem z3b_ok (v w u : PV) (s : Store) : z3b v w (.ok u s) = zp3R v w u s := nr rfl
def z3a (C : Calls) (c : E) (r : Env) (v w : PV) (s : Store) : Res (List PV) := z3b v w (evE C c r s)
@[simp] theorem z3a_eq (C : Calls) (c : E) (r : Env) (v w : PV) (s : Store) : z3a C c r v w s = z3b v w (evE C c r s) := nr rfl
@[simp] theorem sv_I_zip3 (a b c : E) : evI C (.zip3 a b c) r s = b1 (evE C a r s) C b r (z3a C c r) := by simp only [evI]; rfl
theorem zp3R_map {γ : Type} (f : α → PV) (g : β → PV) (h : γ → PV) (xs : List α) (ys : List β) (zs : List γ) {v w u : PV} (s : Store) (h1 : seqOf v = some (xs.map f)) (h2 : seqOf w = some (ys.map g)) (h3 : seqOf u = some (zs.map h)) :
    zp3R v w u s = .ok ((xs.zip (ys.zip zs)).map fun p => PV.tup [f p.1, g p.2.1, h p.2.2]) s := by
  unfold zp3R
  rw [h1, h2, h3, ← zipL3_map]
@[simp] theorem zp3R_tll {γ : Type} (f : α → PV) (g : β → PV) (h : γ → PV) (xs : List α) (ys : List β) (zs : List γ) (s : Store) :
    zp3R (.tup (xs.map f)) (.lst (ys.map g)) (.lst (zs.map h)) s = .ok ((xs.zip (ys.zip zs)).map fun p => PV.tup [f p.1, g p.2.1, h p.2.2]) s := zp3R_map f g h xs ys zs s rfl rfl rfl
/-- a comprehension's loop -/
def cpM (C : Calls) (tg : List Nat) (one : Bool) (cond : Oe) (elt : E) (r0 : Env) (h : α → PV) (xs : List α) (s : Store) : Res (List PV) :=
  noX (compM (fun a s => evT C cond (bindE tg one (h a) r0) s) (fun a s => evE C elt (bindE tg one (h a) r0) s) xs [] s)
def cp2 (m : Bool) (x : Res (List PV)) : Res PV := x.bind fun ys s => made m ys s
@[simp] theorem cp2_ok (m : Bool) (ys : List PV) (s : Store) : cp2 m (.ok ys s) = made m ys s := nr rfl
def compR (m : Bool) (own tg : List Nat) (one : Bool) (C : Calls) (cond : Oe) (elt : E) (r : Env) (xs : List PV) (s : Store) : Res PV :=
  if big < xs.length then .bad else if xs.all (okB tg one) then cp2 m (cpM C tg one cond elt (wipeN r own) id xs s) else .bad
def cp1 (x : Res (List PV)) (m : Bool) (own tg : List Nat) (one : Bool) (C : Calls) (cond : Oe) (elt : E) (r : Env) : Res PV := x.bind fun xs s => compR m own tg one C cond elt r xs s
@[simp] theorem cp1_ok (xs : List PV) (s : Store) (m : Bool) (own tg : List Nat) (one : Bool) (C : Calls) (cond : Oe) (elt : E) (r : Env) : cp1 (.ok xs s) m own tg one C cond elt r = compR m own tg one C cond elt r xs s := nr rfl
@[simp] theorem sv_comp (m : Bool) (own tg : List Nat) (one : Bool) (it : I) (cond : Oe) (elt : E) : evE C (.comp m own tg one it cond elt) r s = cp1 (evI C it r s) m own tg one C cond elt r := by
  simp only [evE, cp1]
  congr 1
  funext xs s
  unfold compR
  split
  · rfl
  · rw [compL_eq]
    split <;> rfl
/-- a comprehension over a plain list -/
theorem compR_map (h : α → PV) (xs : List α) {m : Bool} {own tg : List Nat} {one : Bool} {cond : Oe} {elt : E} (hl : xs.length ≤ big) (ho : ∀ a, okB tg one (h a) = true) :
    compR m own tg one C cond elt r (xs.map h) s = cp2 m (cpM C tg one cond elt (wipeN r own) h xs s) := by
  unfold compR cpM
  rw [if_neg (by rw [List.length_map]; omega), if_pos (by simp [ho]), compM_map]
  rfl
theorem cpM_on {tg : List Nat} {one : Bool} {cond : Oe} {elt : E} {r0 : Env} {h : α → PV} (t : α → Bool) (g : α → PV) (xs : List α) (H : ∀ a ∈ xs, evT C cond (bindE tg one (h a) r0) s = .ok (t a) s ∧ (t a = true → evE C elt (bindE tg one (h a) r0) s = .ok (g a) s)) :
    cpM C tg one cond elt r0 h xs s = .ok ((xs.filter t).map g) s := by
  unfold cpM
  rw [compM_on t g xs [] H]
  rfl
@[simp] theorem made_false (ys : List PV) (s : Store) : made false ys s = .ok (.lst ys) s := nr rfl
@[simp] theorem bindE_true (i : Nat) (v : PV) (r : Env) : bindE [i] true v r = r.set i (some v) := nr rfl
@[simp] theorem bindE_two (i j : Nat) (v w : PV) (r : Env) : bindE [i, j] false (.tup [v, w]) r = (r.set i (some v)).set j (some w) := nr rfl
@[simp] theorem bindE_three (i j l : Nat) (v w u : PV) (r : Env) : bindE [i, j, l] false (.tup [v, w, u]) r = ((r.set i (some v)).set j (some w)).set l (some u) := nr rfl
@[simp] theorem okB_true (i : Nat) (v : PV) : okB [i] true v = true := nr rfl
@[simp] theorem okB_two (i j : Nat) (v w : PV) : okB [i, j] false (.tup [v, w]) = true := nr rfl
@[simp] theorem okB_three (i j l : Nat) (v w u : PV) : okB [i, j, l] false (.tup [v, w, u]) = true := nr rfl
@[simp] theorem wipeN_nil (r : Env) : wipeN r [] = r := nr rfl
@[simp] theorem wipeN_cons (r : Env) (v : Nat) (vs : List Nat) : wipeN r (v :: vs) = (wipeN r vs).set v none := nr rfl
def stF (i : Nat) (r : Env) (v : PV) (s : Store) : Res Flow := .ok (.nx (r.set i (some v))) s
@[simp] theorem stF_eq (i : Nat) (r : Env) (v : PV) (s : Store) : stF i r v s = .ok (.nx (r.set i (some v))) s := nr rfl
@[simp] theorem sv_set (i : Nat) (e : E) : exS C (.set i e) r s = u1 (evE C e r s) (stF i r) := by simp only [exS]; rfl
def goR (is : List Nat) (r : Env) (vs : List PV) (s : Store) : Res Flow := goOn (setAllE is vs r) s
@[simp] theorem goR_two (i j : Nat) (v w : PV) (r : Env) (s : Store) : goR [i, j] r [v, w] s = .ok (.nx ((r.set i (some v)).set j (some w))) s := nr rfl
@[simp] theorem goR_three (i j l : Nat) (v w u : PV) (r : Env) (s : Store) : goR [i, j, l] r [v, w, u] s = .ok (.nx (((r.set i (some v)).set j (some w)).set l (some u))) s := nr rfl
@[simp] theorem sv_sets (is : List Nat) (es : Es) : exS C (.sets is es) r s = u1 (evEs C es r s) (goR is r) := by simp only [exS]; rfl
def unpR (is : List Nat) (r : Env) (v : PV) (s : Store) : Res Flow := match v with
  | .tup xs => goR is r xs s
  | _ => .bad
@[simp] theorem unpR_tup (is : List Nat) (xs : List PV) (r : Env) (s : Store) : unpR is r (.tup xs) s = goR is r xs s := nr rfl
@[simp] theorem sv_unp (is : List Nat) (e : E) : exS C (.unp is e) r s = u1 (evE C e r s) (unpR is r) := by simp only [exS]; rfl
def augF (x : Int) (i : Nat) (sub : Bool) (r : Env) (v : PV) (s : Store) : Res Flow := match v with
  | .int y => .ok (.nx (r.set i (some (.int (if sub then x - y else x + y))))) s
  | _ => .bad
@[simp] theorem augF_int (x y : Int) (i : Nat) (sub : Bool) (r : Env) (s : Store) : augF x i sub r (.int y) s = .ok (.nx (r.set i (some (.int (if sub then x - y else x + y))))) s := nr rfl
def augR (o : Option PV) (i : Nat) (sub : Bool) (C : Calls) (e : E) (r : Env) (s : Store) : Res Flow := match o with
  | some (.int x) => u1 (evE C e r s) (augF x i sub r)
  | _ => .bad
@[simp] theorem augR_int (x : Int) (i : Nat) (sub : Bool) (C : Calls) (e : E) (r : Env) (s : Store) : augR (some (.int x)) i sub C e r s = u1 (evE C e r s) (augF x i sub r) := nr rfl
@[simp] theorem sv_aug (i : Nat) (sub : Bool) (e : E) : exS C (.aug i sub e) r s = augR (getE r i) i sub C e r s := by
  simp only [exS, getE]
  cases h : r[i]? with
  | none => rfl
  | some o =>
    cases o with
    | none => rfl
    | some v => cases v <;> rfl
def setiR (v : PV) (r : Env) (x y : PV) (s : Store) : Res Flow := match x, y with
  | .loc l, .int k => if noloc v then (match setL s l fun xs => (place xs.length k).map fun j => xs.set j v with
    | some s => .ok (.nx r) s
    | none => .bad) else .bad
  | _, _ => .bad
def setP (xs : List PV) (k : Int) (v : PV) : Option (List PV) := (place xs.length k).map fun j => xs.set j v
def goS (o : Option (List PV)) (r : Env) (s : Store) : Res Flow := match o with
  | some ys => .ok (.nx r) (s ++ [Obj.lst ys])
  | none => .bad
@[simp] theorem goS_some (ys : List PV) (r : Env) (s : Store) : goS (some ys) r s = .ok (.nx r) (s ++ [Obj.lst ys]) := nr rfl
@[simp] theorem setiR_last (v : PV) (k : Int) (r : Env) (s : Store) (xs : List PV) (hn : noloc v = true) : setiR v r (.loc s.length) (.int k) (s ++ [Obj.lst xs]) = goS (setP xs k v) r s := by
  unfold setiR setP
  dsimp only
  rw [if_pos hn, setL_last]
  cases place xs.length k <;> rfl
def si1 (v : Res PV) (C : Calls) (a i : E) (r : Env) : Res Flow := v.bind fun v s => b1 (evE C a r s) C i r (setiR v r)
@[simp] theorem si1_ok (v : PV) (s : Store) (C : Calls) (a i : E) (r : Env) : si1 (.ok v s) C a i r = b1 (evE C a r s) C i r (setiR v r) := nr rfl
@[simp] theorem sv_seti (a i e : E) : exS C (.seti a i e) r s = si1 (evE C e r s) C a i r := by simp only [exS]; rfl
def exF (r : Env) (_ : PV) (s : Store) : Res Flow := .ok (.nx r) s
@[simp] theorem exF_eq (r : Env) (v : PV) (s : Store) : exF r v s = .ok (.nx r) s := nr rfl
@[simp] theorem sv_expr (e : E) : exS C (.expr e) r s = u1 (evE C e r s) (exF r) := by simp only [exS]; rfl
def rtF (v : PV) (s : Store) : Res Flow := .ok (.rt v) s
@[simp] theorem rtF_eq (v : PV) (s : Store) : rtF v s = .ok (.rt v) s := nr rfl
@[simp] theorem sv_ret (e : E) : exS C (.ret e) r s = u1 (evE C e r s) rtF := by simp only [exS]; rfl
@[simp] theorem sv_pass : exS C .pass r s = .ok (.nx r) s := by simp only [exS]
def ifR (x : Res Bool) (C : Calls) (a b : Ss) (r : Env) : Res Flow := x.bind fun c s => if c then exSs C a r s else exSs C b r s
@[simp] theorem ifR_ok (c : Bool) (s : Store) (C : Calls) (a b : Ss) (r : Env) : ifR (.ok c s) C a b r = if c then exSs C a r s else exSs C b r s := nr rfl
@[simp] theorem sv_ifs (c : E) (a b : Ss) : exS C (.ifs c a b) r s = ifR (u1 (evE C c r s) truR) C a b r := by simp only [exS, truth_eq]; rfl
def forR (C : Calls) (tg : List Nat) (one : Bool) (b : Ss) (xs : List PV) (r : Env) (s : Store) : Res Flow := forL (fun x r => bindT tg one x r) (fun r s => exSs C b r s) xs r s
def fo1 (x : Res (List PV)) (C : Calls) (tg : List Nat) (one : Bool) (b : Ss) (r : Env) : Res Flow := x.bind fun xs s => forR C tg one b xs r s
@[simp] theorem fo1_ok (xs : List PV) (s : Store) (C : Calls) (tg : List Nat) (one : Bool) (b : Ss) (r : Env) : fo1 (.ok xs s) C tg one b r = forR C tg one b xs r s := nr rfl
@[simp] theorem sv_for (tg : List Nat) (one : Bool) (it : I) (b : Ss) : exS C (.for_ tg one it b) r s = fo1 (evI C it r s) C tg one b r := by simp only [exS]; rfl
def whR (C : Calls) (c : E) (b : Ss) (n : Nat) (r : Env) (s : Store) : Res Flow := whileL (fun r s => truth (evE C c r s)) (fun r s => exSs C b r s) n r s
@[simp] theorem sv_while (c : E) (b : Ss) : exS C (.while_ c b) r s = whR C c b turns r s := by simp only [exS]; rfl
@[simp] theorem sv_Ss_nil : exSs C .nil r s = .ok (.nx r) s := by simp only [exSs]
/-- then the rest -/
def tB (x : Res Flow) (C : Calls) (b : Ss) : Res Flow := thenS x fun r s => exSs C b r s
@[simp] theorem tB_nx (r : Env) (s : Store) (C : Calls) (b : Ss) : tB (.ok (.nx r) s) C b = exSs C b r s := nr rfl
@[simp] theorem tB_rt (v : PV) (s : Store) (C : Calls) (b : Ss) : tB (.ok (.rt v) s) C b = .ok (.rt v) s := nr rfl
@[simp] theorem tB_nil (x : Res Flow) (C : Calls) : tB x C .nil = x := by
  cases x with
  | ok f s => cases f <;> simp [tB]
  | _ => rfl
@[simp] theorem sv_Ss_cons (a : S) (b : Ss) : exSs C (.cons a b) r s = tB (exS C a r s) C b := by simp only [exSs]; rfl
@[simp] theorem forR_nil (C : Calls) (tg : List Nat) (one : Bool) (b : Ss) (r : Env) (s : Store) : forR C tg one b [] r s = .ok (.nx r) s := nr rfl
def fT (x : Res Flow) (C : Calls) (tg : List Nat) (one : Bool) (b : Ss) (xs : List PV) : Res Flow := thenS x fun r s => forR C tg one b xs r s
@[simp] theorem fT_nx (r : Env) (s : Store) (C : Calls) (tg : List Nat) (one : Bool) (b : Ss) (xs : List PV) : fT (.ok (.nx r) s) C tg one b xs = forR C tg one b xs r s := nr rfl
@[simp] theorem fT_rt (v : PV) (s : Store) (C : Calls) (tg : List Nat) (one : Bool) (b : Ss) (xs : List PV) : fT (.ok (.rt v) s) C tg one b xs = .ok (.rt v) s := nr rfl
theorem forR_cons (C : Calls) (tg : List Nat) (one : Bool) (b : Ss) (x : PV) (xs : List PV) (r : Env) (s : Store) (h : okB tg one x = true) : forR C tg one b (x :: xs) r s = fT (exSs C b (bindE tg one x r) s) C tg one b xs := by
  unfold forR
  rw [forL, bindT_eq, if_pos h]
  rfl
/-- a walk by an invariant over what is left -/
theorem forR_inv {C : Calls} {tg : List Nat} {one : Bool} {b : Ss} (h : α → PV) (ho : ∀ a, okB tg one (h a) = true) (P : List α → Env → Store → Prop)
    (step : ∀ x xs r s, P (x :: xs) r s → ∃ r2 s2, exSs C b (bindE tg one (h x) r) s = .ok (.nx r2) s2 ∧ P xs r2 s2) :
    ∀ (xs : List α) (r : Env) (s : Store), P xs r s → ∃ r' s', forR C tg one b (xs.map h) r s = .ok (.nx r') s' ∧ P [] r' s'
  | [], r, s, p => ⟨r, s, rfl, p⟩
  | x :: xs, r, s, p => by
    obtain ⟨r2, s2, e2, p2⟩ := step x xs r s p
    obtain ⟨r', s', e3, p3⟩ := forR_inv h ho P step xs r2 s2 p2
    exact ⟨r', s', by rw [List.map_cons, forR_cons _ _ _ _ _ _ _ _ (ho x), e2, fT_nx, e3], p3⟩
/-- .. and then the rest -/
theorem tB_for {C C' : Calls} {tg : List Nat} {one : Bool} {b rest : Ss} {h : α → PV} {xs : List α} {r : Env} {s : Store} {fl : Res Flow} (P : List α → Env → Store → Prop) (ho : ∀ a, okB tg one (h a) = true)
    (p : P xs r s) (step : ∀ x xs r s, P (x :: xs) r s → ∃ r2 s2, exSs C b (bindE tg one (h x) r) s = .ok (.nx r2) s2 ∧ P xs r2 s2) (fin : ∀ r s, P [] r s → exSs C' rest r s = fl) :
    tB (forR C tg one b (xs.map h) r s) C' rest = fl := by
  obtain ⟨r', s', e, p'⟩ := forR_inv h ho P step xs r s p
  rw [e, tB_nx, fin r' s' p']
/-! ### lists at a place -/
@[simp] theorem made_true (ys : List PV) (s : Store) (h : nolocs ys = true) : made true ys s = .ok (.loc s.length) (s ++ [Obj.lst ys]) := by
  unfold made
  rw [if_pos rfl, if_pos h]
def lrR (v : PV) (s : Store) : Res PV := match v with
  | .int j => if small62 j && decide (j.toNat ≤ big) then .ok (.lst (rangeL 0 j.toNat)) s else .bad
  | _ => .bad
theorem lrR_nat (n : Nat) (s : Store) (h : n ≤ 100000) : lrR (.int (n : Int)) s = .ok (.lst ((List.range n).map fun i => PV.int ((i : Nat) : Int))) s := by
  have h1 : small62 (n : Int) = true := by
    unfold small62
    simp only [Bool.and_eq_true, decide_eq_true_eq]
    omega
  have h2 : (n : Int).toNat ≤ big := Nat.le_trans (by omega) (show 100000 ≤ big by decide)
  show (if small62 (n : Int) && decide ((n : Int).toNat ≤ big) then Res.ok (PV.lst (rangeL 0 (n : Int).toNat)) s else .bad) = _
  rw [h1, decide_eq_true h2, if_pos (by rfl : (true && true) = true), rangeL_map, Int.toNat_natCast]
  have e : (fun (i : Nat) => PV.int (0 + (i : Int))) = fun (i : Nat) => PV.int (i : Int) := by
    funext i
    rw [Int.zero_add]
  rw [e]
@[simp] theorem sv_lrange (a : E) : evE C (.lrange a) r s = u1 (evE C a r s) lrR := by simp only [evE]; rfl
def insS (s : Store) (l : Nat) (i : Int) (z : PV) : Res PV := liftS (setL s l fun xs => if xs.length < big ∧ 0 ≤ i ∧ i < 1000000 then some (xs.take i.toNat ++ [z] ++ xs.drop i.toNat) else none)
def in3 (l : Nat) (y : PV) (z : Res PV) : Res PV := z.bind fun z s => match y with
  | .int i => if noloc z then insS s l i z else .bad
  | _ => .bad
@[simp] theorem in3_ok (l : Nat) (i : Int) (z : PV) (s : Store) (h : noloc z = true) : in3 l (.int i) (.ok z s) = insS s l i z := if_pos h
def in2 (l : Nat) (y : Res PV) (C : Calls) (c : E) (r : Env) : Res PV := y.bind fun y s => in3 l y (evE C c r s)
@[simp] theorem in2_ok (l : Nat) (y : PV) (s : Store) (C : Calls) (c : E) (r : Env) : in2 l (.ok y s) C c r = in3 l y (evE C c r s) := nr rfl
def in1 (x : Res PV) (C : Calls) (b c : E) (r : Env) : Res PV := x.bind fun x s => match x with
  | .loc l => in2 l (evE C b r s) C c r
  | _ => .bad
@[simp] theorem in1_ok (l : Nat) (s : Store) (C : Calls) (b c : E) (r : Env) : in1 (.ok (.loc l) s) C b c r = in2 l (evE C b r s) C c r := nr rfl
@[simp] theorem sv_insert (a b c : E) : evE C (.insert a b c) r s = in1 (evE C a r s) C b c r := by
  simp only [evE, in1, in2, in3, insS] <;> congr 1
theorem insS_last (s : Store) (xs : List PV) (n : Nat) (z : PV) (h : xs.length < big ∧ n < 1000000) : insS (s ++ [Obj.lst xs]) s.length (n : Int) z = .ok .non (s ++ [Obj.lst (xs.take n ++ [z] ++ xs.drop n)]) := by
  unfold insS
  rw [setL_last, if_pos ⟨h.1, by omega, by omega⟩, Int.toNat_natCast]
  rfl
def cqR (own tg : List Nat) (one : Bool) (C : Calls) (cond : Oe) (elt : E) (r : Env) (v : PV) (s : Store) : Res PV := match v with
  | .loc l => (noX (compP l (fun x => bindT tg one x (wipeN r own)) (fun e s => evT C cond e s) (fun e s => evE C elt e s) turns 0 [] s)).bind fun ys s => .ok (.lst ys) s
  | _ => .bad
@[simp] theorem sv_compP (own tg : List Nat) (one : Bool) (e : E) (cond : Oe) (elt : E) : evE C (.compP own tg one e cond elt) r s = u1 (evE C e r s) (cqR own tg one C cond elt r) := by simp only [evE]; rfl
theorem compP_on {l : Nat} {tg : List Nat} {one : Bool} {r0 : Env} {cond : Oe} {elt : E} {ys : List α} {h : α → PV} (t : α → Bool) (g : α → PV) (hs : s[l]? = some (.lst (ys.map h))) (ho : ∀ a, okB tg one (h a) = true)
    (H : ∀ a ∈ ys, evT C cond (bindE tg one (h a) r0) s = .ok (t a) s ∧ (t a = true → evE C elt (bindE tg one (h a) r0) s = .ok (g a) s)) :
    ∀ (n i : Nat) (acc : List PV), ys.length < n + i → i ≤ ys.length → compP l (fun x => bindT tg one x r0) (fun e s => evT C cond e s) (fun e s => evE C elt e s) n i acc s = .ok (acc ++ ((ys.drop i).filter t).map g) s
  | 0, i, acc, h1, h2 => by omega
  | n + 1, i, acc, h1, h2 => by
    unfold compP
    rw [hs]
    dsimp only
    rcases Nat.lt_or_ge i ys.length with hi | hi
    · have e1 : (ys.map h)[i]? = some (h ys[i]) := by rw [List.getElem?_map, List.getElem?_eq_getElem hi]; rfl
      rw [e1]
      dsimp only
      rw [bindT_eq, if_pos (ho _)]
      dsimp only
      obtain ⟨q1, q2⟩ := H ys[i] (List.getElem_mem hi)
      rw [q1, Res.bind_ok, List.drop_eq_getElem_cons hi, List.filter_cons]
      cases ht : t ys[i] with
      | true =>
        rw [if_pos rfl, if_pos rfl, q2 ht, Res.bind_ok, compP_on t g hs ho H n (i + 1) _ (by omega) (by omega), List.append_assoc]
        rfl
      | false => rw [if_neg Bool.false_ne_true, if_neg Bool.false_ne_true, compP_on t g hs ho H n (i + 1) _ (by omega) (by omega)]
    · have e1 : (ys.map h)[i]? = none := List.getElem?_eq_none (by rw [List.length_map]; exact hi)
      rw [e1, List.drop_of_length_le hi]
      simp
theorem cqR_on {l : Nat} {own tg : List Nat} {one : Bool} {cond : Oe} {elt : E} {ys : List α} {h : α → PV} (t : α → Bool) (g : α → PV) (hs : s[l]? = some (.lst (ys.map h))) (ho : ∀ a, okB tg one (h a) = true) (hl : ys.length < turns)
    (H : ∀ a ∈ ys, evT C cond (bindE tg one (h a) (wipeN r own)) s = .ok (t a) s ∧ (t a = true → evE C elt (bindE tg one (h a) (wipeN r own)) s = .ok (g a) s)) :
    cqR own tg one C cond elt r (.loc l) s = .ok (.lst ((ys.filter t).map g)) s := by
  show (noX (compP l (fun x => bindT tg one x (wipeN r own)) (fun e s => evT C cond e s) (fun e s => evE C elt e s) turns 0 [] s)).bind (fun ys s => Res.ok (PV.lst ys) s) = _
  rw [compP_on t g hs ho H turns 0 [] (by omega) (Nat.zero_le _)]
  rfl
end
end ML

set_option Elab.async false
set_option maxRecDepth 10000
set_option linter.all false
set_option maxHeartbeats 1000000
/-! ML: what the shared defs give, in plain Lean. -/
namespace ML
open PySem (Str)
/-! ### data -/
def ti (xs : List Int) : PV := .tup (xs.map .int)
def li (xs : List Int) : PV := .lst (xs.map .int)
def oi : Option Int → PV
  | none => .non
  | some i => .int i
@[simp] theorem nolocs_int (xs : List Int) : nolocs (xs.map PV.int) = true := nolocs_map _ (fun _ => rfl) xs
@[simp] theorem nolocs_mstr {α : Type} (f : α → Str) (xs : List α) : nolocs (xs.map fun a => PV.str (f a)) = true := nolocs_map _ (by simp) xs
@[simp] theorem nolocs_mint {α : Type} (f : α → Int) (xs : List α) : nolocs (xs.map fun a => PV.int (f a)) = true := nolocs_map _ (by simp) xs
@[simp] theorem noloc_ti (xs : List Int) : noloc (ti xs) = true := by simp [ti]
@[simp] theorem noloc_li (xs : List Int) : noloc (li xs) = true := by simp [li]
@[simp] theorem noloc_oi (c : Option Int) : noloc (oi c) = true := by cases c <;> rfl
@[simp] theorem seqR_ti (xs : List Int) (s : Store) : seqR (ti xs) s = .ok (xs.map PV.int) s := nr rfl
@[simp] theorem enR_ti (xs : List Int) (s : Store) : enR (ti xs) s = .ok (xs.zipIdx.map fun p => PV.tup [.int (p.2 : Nat), .int p.1]) s := enR_tup PV.int xs s
@[simp] theorem getP_ti (xs : List Int) (i : Int) (s : Store) : getP s (ti xs) i = getN (xs.map PV.int) i := nr rfl
@[simp] theorem items_ti (xs : List Int) (s : Store) : items s (ti xs) = some (xs.map PV.int) := nr rfl
@[simp] theorem zpR_til {α : Type} (f : α → PV) (xs : List Int) (ys : List α) (s : Store) : zpR (ti xs) (.lst (ys.map f)) s = .ok ((xs.zip ys).map fun p => PV.tup [.int p.1, f p.2]) s := zpR_tl PV.int f xs ys s
@[simp] theorem zp3R_til {α β : Type} (f : α → PV) (g : β → PV) (xs : List Int) (ys : List α) (zs : List β) (s : Store) : zp3R (ti xs) (.lst (ys.map f)) (.lst (zs.map g)) s = .ok ((xs.zip (ys.zip zs)).map fun p => PV.tup [.int p.1, f p.2.1, g p.2.2]) s := zp3R_tll PV.int f g xs ys zs s
@[simp] theorem len_ti (xs : List Int) (s : Store) : opI s .len [ti xs] = some (.int xs.length) := by simp [opI, oLen]
@[simp] theorem sum_ti (xs : List Int) (s : Store) : opI s .sum [ti xs] = some (.int xs.sum) := by
  have e : ∀ xs : List Int, intsOf (xs.map PV.int) = some xs := fun xs => by
    induction xs with
    | nil => rfl
    | cons x r ih => rw [List.map_cons, intsOf, ih]; rfl
  show (intsOf (xs.map PV.int)).map (fun ns => PV.int ns.sum) = _
  rw [e]
  rfl
/-- sizes as the texts allow them -/
def Sizes (xs : List Int) : Prop := xs.length ≤ 16 ∧ ∀ x ∈ xs, 1 ≤ x ∧ x ≤ 50
def Calm : Option Int → Prop
  | none => True
  | some c => 0 ≤ c ∧ c ≤ 16
def Room (r : Int) : Prop := 0 ≤ r ∧ r ≤ 1000
/-! ### is_from, is_parties, need_.. -/
def isFrom (v : PV) (lo hi : Int) : Bool := match v with
  | .int i => decide (lo ≤ i) && decide (i ≤ hi)
  | _ => false
section
variable {T : Nat → Option Def} {k : Nat} {s : Store}
theorem ev_is_from {v : PV} {lo hi : Int} (h : Sub cl_is_from T) (hk : 1 ≤ k) (hv : tyOf v ≠ .other) : evF T k 0 [v, .int lo, .int hi] s = .ok (.bl (isFrom v lo hi)) s := by
  refine ev_ret (h 0 (by decide)) hk rfl ?_
  cases v with
  | int i => by_cases h1 : lo ≤ i <;> simp [d_is_from, opI, oIs, tyOf, isT, isFrom, opC, h1]
  | bl b => simp [d_is_from, opI, oIs, tyOf, isT, isFrom, opC]
  | _ => first
    | exact absurd rfl hv
    | simp [d_is_from, opI, oIs, tyOf, isT, isFrom, opC]
theorem ev_is_from_int {i lo hi : Int} (h : Sub cl_is_from T) (hk : 1 ≤ k) : evF T k 0 [.int i, .int lo, .int hi] s = .ok (.bl (decide (lo ≤ i) && decide (i ≤ hi))) s := ev_is_from h hk (by simp [tyOf])
theorem bigOf {n : Nat} (h : n ≤ 100000) : n ≤ big := Nat.le_trans h (by decide)
theorem ev_is_parties {xs : List Int} (h : Sub cl_is_parties T) (hk : 2 ≤ k) (hx : Sizes xs) : evF T k 1 [ti xs] s = .ok (.bl true) s := by
  refine ev_ret (h 1 (by decide)) (by omega) rfl ?_
  have hl : ¬ ((16 : Int) < (xs.length : Int)) := by
    have := hx.1
    omega
  simp [d_is_parties, opI, oIs, tyOf, isT, opC, ti, items, oLen, hl]
  rw [compR_map PV.int xs (bigOf (by have := hx.1; omega)) (fun _ => rfl)]
  rw [cpM_on (fun _ => true) (fun _ => PV.bl true) xs fun i hi => ⟨rfl, fun _ => ?_⟩]
  · have hb : ∀ n : Nat, boolsOf (List.replicate n (PV.bl true)) = some (List.replicate n true) := fun n => by
      induction n with
      | zero => rfl
      | succ n ih =>
        rw [List.replicate_succ, List.replicate_succ, boolsOf, ih]
        rfl
    have e : (xs.filter fun _ => true).map (fun _ => PV.bl true) = List.replicate xs.length (PV.bl true) := by
      rw [List.filter_eq_self.mpr (fun _ _ => rfl), List.map_const']
    simp [opI, oAll, e, hb]
  · have e := hx.2 i hi
    simp [ev_is_from_int (h.mono (by decide)) (show 1 ≤ k - 1 by omega), e.1, e.2]
theorem ev_need_parties {xs : List Int} (h : Sub cl_need_parties T) (hk : 3 ≤ k) (hx : Sizes xs) : evF T k 2 [ti xs] s = .ok .non s := by
  refine ev_non (r := [some (ti xs)]) (h 2 (by decide)) (by omega) rfl ?_
  simp [d_need_parties, ev_is_parties (h.mono (by decide)) (show 2 ≤ k - 1 by omega) hx]
theorem ev_need_seats {r : Int} (h : Sub cl_need_seats T) (hk : 2 ≤ k) (hr : Room r) : evF T k 3 [.int r] s = .ok .non s := by
  refine ev_non (r := [some (.int r)]) (h 3 (by decide)) (by omega) rfl ?_
  simp [d_need_seats, ev_is_from_int (h.mono (by decide)) (show 1 ≤ k - 1 by omega), hr.1, hr.2]
theorem ev_need_patience {c : Option Int} (h : Sub cl_need_patience T) (hk : 2 ≤ k) (hc : Calm c) : evF T k 4 [oi c] s = .ok .non s := by
  refine ev_non (r := [some (oi c)]) (h 4 (by decide)) (by omega) rfl ?_
  cases c with
  | none => simp [d_need_patience, oi, opC, isnon]
  | some c => simp [d_need_patience, oi, opC, isnon, ev_is_from_int (h.mono (by decide)) (show 1 ≤ k - 1 by omega), hc.1, hc.2]
theorem ev_need_house {xs : List Int} {r : Int} {c : Option Int} (h : Sub cl_need_house T) (hk : 4 ≤ k) (hx : Sizes xs) (hr : Room r) (hc : Calm c) : evF T k 5 [ti xs, .int r, oi c] s = .ok .non s := by
  refine ev_non (r := [some (ti xs), some (.int r), some (oi c)]) (h 5 (by decide)) (by omega) rfl ?_
  simp [d_need_house, ev_need_parties (h.mono (by decide)) (show 3 ≤ k - 1 by omega) hx, ev_need_seats (h.mono (by decide)) (show 2 ≤ k - 1 by omega) hr, ev_need_patience (h.mono (by decide)) (show 2 ≤ k - 1 by omega) hc]
/-! ### run, entering, taken_by .. -/
end
inductive Wd where | closed | enters | large
  deriving DecidableEq
def Wd.str : Wd → Str
  | .closed => "closed"
  | .enters => "enters"
  | .large => "large"
@[simp] theorem wd_enters (w : Wd) : opC .eq (.str w.str) (.str "enters") = some (decide (w = .enters)) := by cases w <;> decide +kernel
@[simp] theorem wd_large (w : Wd) : opC .eq (.str w.str) (.str "large") = some (decide (w = .large)) := by cases w <;> decide +kernel
@[simp] theorem wd_closed (w : Wd) : opC .eq (.str w.str) (.str "closed") = some (decide (w = .closed)) := by cases w <;> decide +kernel
@[simp] theorem wd_enters' (w : Wd) : opC .ne (.str w.str) (.str "enters") = some (!decide (w = .enters)) := by cases w <;> decide +kernel
@[simp] theorem wd_large' (w : Wd) : opC .ne (.str w.str) (.str "large") = some (!decide (w = .large)) := by cases w <;> decide +kernel
@[simp] theorem wd_closed' (w : Wd) : opC .ne (.str w.str) (.str "closed") = some (!decide (w = .closed)) := by cases w <;> decide +kernel
def over (c : Option Int) (ref : Int) : Bool := match c with
  | none => false
  | some c => decide (c < ref)
def wdOf (c : Option Int) (x rest ref : Int) : Wd := if over c ref then .closed else if x ≤ rest then .enters else .large
def rest' (w : Wd) (x rest : Int) : Int := if w = .enters then rest - x else rest
def ref' (w : Wd) (ref : Int) : Int := if w = .large then ref + 1 else ref
/-- the rows: the word, and the seats left at the door -/
def rowsOf (c : Option Int) : List Int → Int → Int → List (Wd × Int)
  | [], _, _ => []
  | x :: xs, rest, ref => (wdOf c x rest ref, rest) :: rowsOf c xs (rest' (wdOf c x rest ref) x rest) (ref' (wdOf c x rest ref) ref)
theorem rowsOf_len (c : Option Int) : ∀ (xs : List Int) (rest ref : Int), (rowsOf c xs rest ref).length = xs.length
  | [], _, _ => rfl
  | x :: xs, rest, ref => by
    unfold rowsOf
    rw [List.length_cons, rowsOf_len c xs, List.length_cons]
def rwP (p : Wd × Int) : PV := .tup [.str p.1.str, .int p.2]
@[simp] theorem noloc_rwP (p : Wd × Int) : noloc (rwP p) = true := by simp [rwP]
@[simp] theorem nolocs_rwP (ps : List (Wd × Int)) : nolocs (ps.map rwP) = true := nolocs_map _ (by simp) ps
section
variable {T : Nat → Option Def} {k : Nat} {s : Store}
theorem big_lt {n : Nat} (h : n < 100000) : n < big := Nat.lt_of_lt_of_le h (by decide)
theorem ev_rows {xs : List Int} {rest : Int} {c : Option Int} (h : Sub cl_run T) (hk : 1 ≤ k) (hx : xs.length < 50000) : evF T k 6 [ti xs, .int rest, oi c] s = .ok (.loc s.length) (s ++ [Obj.lst ((rowsOf c xs rest 0).map rwP)]) := by
  refine ev_ret (h 6 (by decide)) hk rfl ?_
  simp [d_run, ti]
  refine tB_for (fun ys r st => ∃ (re ref : Int) (acc : List (Wd × Int)) (u : Option PV), r = [some (.tup (xs.map PV.int)), some (.int rest), some (oi c), some (.int re), some (.int ref), some (.loc s.length), u] ∧ st = s ++ [Obj.lst (acc.map rwP)] ∧ acc ++ rowsOf c ys re ref = rowsOf c xs rest 0 ∧ acc.length + ys.length = xs.length)
    (fun _ => rfl) ⟨rest, 0, [], none, rfl, rfl, rfl, by simp⟩ (fun x ys r st p => ?_) (fun r st p => ?_)
  · obtain ⟨re, ref, acc, u, rfl, rfl, ea, el⟩ := p
    have hz : (acc.map rwP).length < big := by
      rw [List.length_map]
      simp at el
      exact big_lt (by omega)
    have fin : ∀ (w : Wd), wdOf c x re ref = w → ∃ (re2 ref2 : Int) (acc2 : List (Wd × Int)) (u : Option PV), [some (.tup (xs.map PV.int)), some (.int rest), some (oi c), some (.int (rest' w x re)), some (.int (ref' w ref)), some (PV.loc s.length), some (.int x)] = [some (.tup (xs.map PV.int)), some (.int rest), some (oi c), some (.int re2), some (.int ref2), some (.loc s.length), u] ∧
        s ++ [Obj.lst (acc.map rwP ++ [rwP (w, re)])] = s ++ [Obj.lst (acc2.map rwP)] ∧ acc2 ++ rowsOf c ys re2 ref2 = rowsOf c xs rest 0 ∧ acc2.length + ys.length = xs.length := fun w hw => by
      refine ⟨_, _, acc ++ [(w, re)], _, rfl, by rw [List.map_append]; rfl, ?_, ?_⟩
      · rw [← ea, List.append_assoc]
        show _ = acc ++ ((wdOf c x re ref, re) :: rowsOf c ys (rest' (wdOf c x re ref) x re) (ref' (wdOf c x re ref) ref))
        rw [hw]
        rfl
      · simp at el ⊢
        omega
    cases c with
    | none =>
      by_cases h2 : x ≤ re
      · refine ⟨_, _, ?_, fin .enters (by simp [wdOf, over, h2])⟩
        simp [oi, opC, isnon, h2, appS_last _ _ _ hz, rest', ref', rwP, Wd.str]
      · refine ⟨_, _, ?_, fin .large (by simp [wdOf, over, h2])⟩
        simp [oi, opC, isnon, h2, appS_last _ _ _ hz, rest', ref', rwP, Wd.str]
    | some c =>
      by_cases h1 : c < ref
      · refine ⟨_, _, ?_, fin .closed (by simp [wdOf, over, h1])⟩
        simp [oi, opC, isnon, h1, appS_last _ _ _ hz, rest', ref', rwP, Wd.str]
      · by_cases h2 : x ≤ re
        · refine ⟨_, _, ?_, fin .enters (by simp [wdOf, over, h1, h2])⟩
          simp [oi, opC, isnon, h1, h2, appS_last _ _ _ hz, rest', ref', rwP, Wd.str]
        · refine ⟨_, _, ?_, fin .large (by simp [wdOf, over, h1, h2])⟩
          simp [oi, opC, isnon, h1, h2, appS_last _ _ _ hz, rest', ref', rwP, Wd.str]
  · obtain ⟨re, ref, acc, u, rfl, rfl, ea, el⟩ := p
    have ea : acc = rowsOf c xs rest 0 := by simpa [rowsOf] using ea
    subst ea
    simp
end
end ML

set_option Elab.async false
set_option maxRecDepth 10000
set_option linter.all false
set_option maxHeartbeats 1000000
/-! ML: what the shared defs give, in plain Lean (2). -/
namespace ML
open PySem (Str)
section
variable {T : Nat → Option Def} {k : Nat} {s : Store}
theorem zipIdx_ok {α : Type} (f : α → PV) : ∀ (p : α × Nat), okB [3, 4] false (PV.tup [.int (p.2 : Nat), f p.1]) = true := fun _ => rfl
/-- the places of the rows that enter -/
def enterIx (ps : List (Wd × Int)) : List Int := (ps.zipIdx.filter fun p => decide (p.1.1 = .enters)).map fun p => ((p.2 : Nat) : Int)
def entering (c : Option Int) (xs : List Int) (r : Int) : List Int := enterIx (rowsOf c xs r 0)
@[simp] theorem getN_zero (x : PV) (r : List PV) : getN (x :: r) 0 = some x := by
  unfold getN place
  simp
@[simp] theorem getN_one (x y : PV) (r : List PV) : getN (x :: y :: r) 1 = some y := by
  unfold getN place
  have h : ((1 : Int) < ((x :: y :: r).length : Int)) := by
    simp only [List.length_cons]
    omega
  rw [if_pos (by decide), if_pos h]
  rfl
@[simp] theorem getN_two (x y z : PV) (r : List PV) : getN (x :: y :: z :: r) 2 = some z := by
  unfold getN place
  have h : ((2 : Int) < ((x :: y :: z :: r).length : Int)) := by
    simp only [List.length_cons]
    omega
  rw [if_pos (by decide), if_pos h]
  rfl
theorem ev_entering {xs : List Int} {r : Int} {c : Option Int} (h : Sub cl_entering T) (hk : 2 ≤ k) (hx : xs.length < 50000) : evF T k 7 [ti xs, .int r, oi c] s = .ok (ti (entering c xs r)) s := by
  refine ev_ret (h 7 (by decide)) (by omega) rfl ?_
  simp [d_entering, ev_rows (h.mono (by decide)) (show 1 ≤ k - 1 by omega) hx]
  rw [compR_map _ _ (bigOf (by rw [List.length_zipIdx, rowsOf_len]; omega)) (fun _ => rfl)]
  rw [cpM_on (fun p : (Wd × Int) × Nat => decide (p.1.1 = .enters)) (fun p => PV.int ((p.2 : Nat) : Int)) _ fun p hp => ⟨by simp [rwP], fun _ => by simp⟩]
  simp [opI, oTuple, items, ti, entering, enterIx, List.map_map]
def takenBy (xs chosen : List Int) : Int := (chosen.map fun i => (xs[i.toNat]?).getD 0).sum
theorem intsOf_map : ∀ xs : List Int, intsOf (xs.map PV.int) = some xs
  | [] => rfl
  | x :: r => by
    rw [List.map_cons, intsOf, intsOf_map r]
    rfl
theorem getN_int (xs : List Int) (i : Int) (h : 0 ≤ i ∧ i < xs.length) : getN (xs.map PV.int) i = some (.int ((xs[i.toNat]?).getD 0)) := by
  have hl : i.toNat < xs.length := by omega
  unfold getN place
  rw [if_pos h.1, List.length_map, if_pos h.2]
  show (xs.map PV.int)[i.toNat]? = _
  rw [List.getElem?_map, List.getElem?_eq_getElem hl]
  rfl
def Places (n : Nat) (is : List Int) : Prop := ∀ i ∈ is, 0 ≤ i ∧ i < (n : Int)
theorem entering_places (c : Option Int) (xs : List Int) (r : Int) : Places xs.length (entering c xs r) := fun i hi => by
  unfold entering enterIx at hi
  obtain ⟨p, hp, rfl⟩ := List.mem_map.mp hi
  have hp2 := (List.mem_filter.mp hp).1
  have := (List.mem_zipIdx (x := p.1) (i := p.2) (k := 0) (by simpa using hp2)).2.1
  rw [rowsOf_len] at this
  constructor <;> omega
theorem places_len {n : Nat} {c : Option Int} {xs : List Int} {r : Int} : (entering c xs r).length ≤ xs.length := by
  unfold entering enterIx
  rw [List.length_map]
  refine Nat.le_trans (List.length_filter_le _ _) ?_
  rw [List.length_zipIdx, rowsOf_len]
  exact Nat.le_refl _
theorem ev_taken_by {xs is : List Int} (h : Sub cl_taken_by T) (hk : 1 ≤ k) (hi : Places xs.length is) (hl : is.length < 50000) : evF T k 8 [ti xs, ti is] s = .ok (.int (takenBy xs is)) s := by
  refine ev_ret (h 8 (by decide)) hk rfl ?_
  simp [d_taken_by, ti]
  rw [compR_map PV.int is (bigOf (by omega)) (fun _ => rfl)]
  rw [cpM_on (fun _ => true) (fun i => PV.int ((xs[i.toNat]?).getD 0)) is fun i hh => ⟨rfl, fun _ => by simp [getN_int xs i (hi i hh)]⟩]
  have e : (is.filter fun _ => true).map (fun i => PV.int ((xs[i.toNat]?).getD 0)) = (is.map fun i => (xs[i.toNat]?).getD 0).map PV.int := by
    rw [List.filter_eq_self.mpr (fun _ _ => rfl), List.map_map]
    rfl
  have e2 : intsOf (List.map (PV.int ∘ fun i => (xs[i.toNat]?).getD 0) is) = some (is.map fun i => (xs[i.toNat]?).getD 0) := by rw [← List.map_map, intsOf_map]
  simp [opI, oSum, e, e2, takenBy]
theorem ev_decisions {xs : List Int} {r : Int} {c : Option Int} (h : Sub cl_decisions T) (hk : 5 ≤ k) (hx : Sizes xs) (hr : Room r) (hc : Calm c) : evF T k 9 [ti xs, .int r, oi c] s = .ok (.loc s.length) (s ++ [Obj.lst ((rowsOf c xs r 0).map fun p => .str p.1.str)]) := by
  refine ev_ret (h 9 (by decide)) (by omega) rfl ?_
  have hl : xs.length < 50000 := by have := hx.1; omega
  simp [d_decisions, ev_need_house (h.mono (by decide)) (show 4 ≤ k - 1 by omega) hx hr hc, ev_rows (h.mono (by decide)) (show 1 ≤ k - 1 by omega) hl]
  rw [compR_map rwP _ (bigOf (by rw [rowsOf_len]; omega)) (fun _ => rfl)]
  rw [cpM_on (fun _ => true) (fun p => PV.str p.1.str) _ fun p hh => ⟨rfl, fun _ => by simp [rwP]⟩]
  rw [List.filter_eq_self.mpr (fun _ _ => rfl)]
  simp
theorem ev_rests {xs : List Int} {r : Int} {c : Option Int} (h : Sub cl_rests T) (hk : 5 ≤ k) (hx : Sizes xs) (hr : Room r) (hc : Calm c) : evF T k 12 [ti xs, .int r, oi c] s = .ok (.loc s.length) (s ++ [Obj.lst ((rowsOf c xs r 0).map fun p => .int p.2)]) := by
  refine ev_ret (h 12 (by decide)) (by omega) rfl ?_
  have hl : xs.length < 50000 := by have := hx.1; omega
  simp [d_rests, ev_need_house (h.mono (by decide)) (show 4 ≤ k - 1 by omega) hx hr hc, ev_rows (h.mono (by decide)) (show 1 ≤ k - 1 by omega) hl]
  rw [compR_map rwP _ (bigOf (by rw [rowsOf_len]; omega)) (fun _ => rfl)]
  rw [cpM_on (fun _ => true) (fun p => PV.int p.2) _ fun p hh => ⟨rfl, fun _ => by simp [rwP]⟩]
  rw [List.filter_eq_self.mpr (fun _ _ => rfl)]
  simp
theorem ev_enter {xs : List Int} {r : Int} {c : Option Int} (h : Sub cl_enter T) (hk : 5 ≤ k) (hx : Sizes xs) (hr : Room r) (hc : Calm c) : evF T k 10 [ti xs, .int r, oi c] s = .ok (ti (entering c xs r)) s := by
  refine ev_ret (h 10 (by decide)) (by omega) rfl ?_
  have hl : xs.length < 50000 := by have := hx.1; omega
  simp [d_enter, ev_need_house (h.mono (by decide)) (show 4 ≤ k - 1 by omega) hx hr hc, ev_entering (h.mono (by decide)) (show 2 ≤ k - 1 by omega) hl]
theorem ev_seats_taken {xs : List Int} {r : Int} {c : Option Int} (h : Sub cl_seats_taken T) (hk : 5 ≤ k) (hx : Sizes xs) (hr : Room r) (hc : Calm c) : evF T k 11 [ti xs, .int r, oi c] s = .ok (.int (takenBy xs (entering c xs r))) s := by
  refine ev_ret (h 11 (by decide)) (by omega) rfl ?_
  have hl : xs.length < 50000 := by have := hx.1; omega
  simp [d_seats_taken, ev_need_house (h.mono (by decide)) (show 4 ≤ k - 1 by omega) hx hr hc, ev_entering (h.mono (by decide)) (show 2 ≤ k - 1 by omega) hl,
    ev_taken_by (h.mono (by decide)) (show 1 ≤ k - 1 by omega) (entering_places c xs r) (Nat.lt_of_le_of_lt (places_len (n := 0)) hl)]
/-! ### _law_run, _law_sort, _law_same -/
theorem ev_law_run {xs : List Int} {rest : Int} {c : Option Int} (h : Sub cl_law_run T) (hk : 1 ≤ k) (hx : xs.length < 50000) (hb : ∀ x ∈ xs, 1 ≤ x ∧ x ≤ 50) : evF T k 24 [ti xs, .int rest, oi c] s = .ok (.loc s.length) (s ++ [Obj.lst ((rowsOf c xs rest 0).map rwP)]) := by
  refine ev_ret (h 24 (by decide)) hk rfl ?_
  simp [d_law_run, ti]
  refine tB_for (fun ys r st => (∀ x ∈ ys, 1 ≤ x ∧ x ≤ 50) ∧ ∃ (re ref : Int) (acc : List (Wd × Int)) (u v : Option PV), r = [some (.tup (xs.map PV.int)), some (.int rest), some (oi c), some (.int re), some (.int ref), some (.loc s.length), u, v] ∧ st = s ++ [Obj.lst (acc.map rwP)] ∧ acc ++ rowsOf c ys re ref = rowsOf c xs rest 0 ∧ acc.length + ys.length = xs.length)
    (fun _ => rfl) ⟨hb, rest, 0, [], none, none, rfl, rfl, rfl, by simp⟩ (fun x ys r st p => ?_) (fun r st p => ?_)
  · obtain ⟨hb, re, ref, acc, u, v, rfl, rfl, ea, el⟩ := p
    have hx50 := hb x List.mem_cons_self
    have hm : x.natAbs < pow64 := by
      have e : pow64 = 18446744073709551616 := rfl
      omega
    have hz : (acc.map rwP).length < big := by
      rw [List.length_map]
      simp at el
      exact big_lt (by omega)
    have fin : ∀ (w : Wd), wdOf c x re ref = w → (∀ x ∈ ys, 1 ≤ x ∧ x ≤ 50) ∧ ∃ (re2 ref2 : Int) (acc2 : List (Wd × Int)) (u v : Option PV), [some (.tup (xs.map PV.int)), some (.int rest), some (oi c), some (.int (rest' w x re)), some (.int (ref' w ref)), some (PV.loc s.length), some (.int x), some (.str w.str)] = [some (.tup (xs.map PV.int)), some (.int rest), some (oi c), some (.int re2), some (.int ref2), some (.loc s.length), u, v] ∧
        s ++ [Obj.lst (acc.map rwP ++ [rwP (w, re)])] = s ++ [Obj.lst (acc2.map rwP)] ∧ acc2 ++ rowsOf c ys re2 ref2 = rowsOf c xs rest 0 ∧ acc2.length + ys.length = xs.length := fun w hw => by
      refine ⟨fun y hy => hb y (List.mem_cons_of_mem _ hy), _, _, acc ++ [(w, re)], _, _, rfl, by rw [List.map_append]; rfl, ?_, ?_⟩
      · rw [← ea, List.append_assoc]
        show _ = acc ++ ((wdOf c x re ref, re) :: rowsOf c ys (rest' (wdOf c x re ref) x re) (ref' (wdOf c x re ref) ref))
        rw [hw]
        rfl
      · simp at el ⊢
        omega
    have dE : opC .eq (.str (Str.ofString "enters")) (.str (Str.ofString "enters")) = some true := by decide +kernel
    have dL : opC .eq (.str (Str.ofString "large")) (.str (Str.ofString "enters")) = some false := by decide +kernel
    have dC : opC .eq (.str (Str.ofString "closed")) (.str (Str.ofString "enters")) = some false := by decide +kernel
    have dE2 : opC .eq (.str (Str.ofString "enters")) (.str (Str.ofString "large")) = some false := by decide +kernel
    have dL2 : opC .eq (.str (Str.ofString "large")) (.str (Str.ofString "large")) = some true := by decide +kernel
    have dC2 : opC .eq (.str (Str.ofString "closed")) (.str (Str.ofString "large")) = some false := by decide +kernel
    have nn : opC .notn (PV.non) .non = some false := rfl
    have ni : ∀ i : Int, opC .notn (.int i) .non = some true := fun _ => rfl
    have gt : ∀ i j : Int, opC .gt (.int i) (.int j) = some (decide (j < i)) := fun _ _ => rfl
    have le : ∀ i j : Int, opC .le (.int i) (.int j) = some (decide (i ≤ j)) := fun _ _ => rfl
    have i1 : ∀ (b : Bool) (st : Store), opI st .int1 [.bl b] = some (.int (if b then 1 else 0)) := fun _ _ => rfl
    have mu : ∀ i : Int, opB .mul (.int x) (.int i) = some (.int (x * i)) := fun i => if_pos hm
    have su : ∀ i j : Int, opB .sub (.int i) (.int j) = some (.int (i - j)) := fun _ _ => rfl
    have ad : ∀ i j : Int, opB .add (.int i) (.int j) = some (.int (i + j)) := fun _ _ => rfl
    cases c with
    | none =>
      by_cases h2 : x ≤ re
      · refine ⟨_, _, ?_, fin .enters (by simp [wdOf, over, h2])⟩
        simp [oi, nn, ni, gt, le, i1, mu, su, ad, dE, dL, dC, dE2, dL2, dC2, h2, appS_last _ _ _ hz, rest', ref', rwP, Wd.str]
      · refine ⟨_, _, ?_, fin .large (by simp [wdOf, over, h2])⟩
        simp [oi, nn, ni, gt, le, i1, mu, su, ad, dE, dL, dC, dE2, dL2, dC2, h2, appS_last _ _ _ hz, rest', ref', rwP, Wd.str]
    | some c =>
      by_cases h1 : c < ref
      · refine ⟨_, _, ?_, fin .closed (by simp [wdOf, over, h1])⟩
        by_cases h2 : x ≤ re <;> simp [oi, nn, ni, gt, le, i1, mu, su, ad, dE, dL, dC, dE2, dL2, dC2, h1, h2, appS_last _ _ _ hz, rest', ref', rwP, Wd.str]
      · by_cases h2 : x ≤ re
        · refine ⟨_, _, ?_, fin .enters (by simp [wdOf, over, h1, h2])⟩
          simp [oi, nn, ni, gt, le, i1, mu, su, ad, dE, dL, dC, dE2, dL2, dC2, h1, h2, appS_last _ _ _ hz, rest', ref', rwP, Wd.str]
        · refine ⟨_, _, ?_, fin .large (by simp [wdOf, over, h1, h2])⟩
          simp [oi, nn, ni, gt, le, i1, mu, su, ad, dE, dL, dC, dE2, dL2, dC2, h1, h2, appS_last _ _ _ hz, rest', ref', rwP, Wd.str]
  · obtain ⟨_, re, ref, acc, u, v, rfl, rfl, ea, el⟩ := p
    have ea : acc = rowsOf c xs rest 0 := by simpa [rowsOf] using ea
    subst ea
    simp
end
end ML

set_option Elab.async false
set_option maxRecDepth 10000
set_option linter.all false
set_option maxHeartbeats 1000000
/-! ML: what is raised, and how it is told. -/
namespace ML
open PySem (Str)
section
variable {C : Calls} {r : Env} {s : Store} {α β : Type}
@[simp] theorem u1_exc (v : PV) (s : Store) (f : α → Store → Res β) : u1 (.exc v s) f = .exc v s := nr rfl
@[simp] theorem b1_exc (v : PV) (s : Store) (C : Calls) (b : E) (r : Env) (f : PV → PV → Store → Res β) : b1 (.exc v s) C b r f = .exc v s := nr rfl
@[simp] theorem b2_exc (w v : PV) (s : Store) (f : PV → PV → Store → Res β) : b2 w (.exc v s) f = .exc v s := nr rfl
@[simp] theorem k1_exc (v : PV) (s : Store) (C : Calls) (f : Nat) (kw : Oe) (r : Env) : k1 (.exc v s) C f kw r = .exc v s := nr rfl
@[simp] theorem fz_exc (kk : Bool) (n : Nat) (v : PV) (s : Store) : fz kk n (.exc v s) = .exc v s := nr rfl
@[simp] theorem c1_exc (v : PV) (s : Store) (C : Calls) (es : Es) (r : Env) : c1 (.exc v s) C es r = .exc v s := nr rfl
@[simp] theorem c2_exc (w v : PV) (s : Store) : c2 w (.exc v s) = .exc v s := nr rfl
@[simp] theorem iteR_exc (v : PV) (s : Store) (C : Calls) (a b : E) (r : Env) : iteR (.exc v s) C a b r = .exc v s := nr rfl
@[simp] theorem ifR_exc (v : PV) (s : Store) (C : Calls) (a b : Ss) (r : Env) : ifR (.exc v s) C a b r = .exc v s := nr rfl
@[simp] theorem tB_exc (v : PV) (s : Store) (C : Calls) (b : Ss) : tB (.exc v s) C b = .exc v s := nr rfl
@[simp] theorem fT_exc (v : PV) (s : Store) (C : Calls) (tg : List Nat) (one : Bool) (b : Ss) (xs : List PV) : fT (.exc v s) C tg one b xs = .exc v s := nr rfl
@[simp] theorem fo1_exc (v : PV) (s : Store) (C : Calls) (tg : List Nat) (one : Bool) (b : Ss) (r : Env) : fo1 (.exc v s) C tg one b r = .exc v s := nr rfl
@[simp] theorem sv_raise (c : Nat) : exS C (.raise c) r s = .exc (.exn c []) s := by simp only [exS]
def atR (x : Res PV) : Res PV := attR x
@[simp] theorem sv_att (e : E) : evE C (.att e) r s = atR (evE C e r s) := by simp only [evE]; rfl
@[simp] theorem atR_ok (v : PV) (s : Store) : atR (.ok v s) = .ok (.tup [.str "told", v]) s := nr rfl
theorem atR_exc {c : Nat} {w : Str} (s : Store) (h : xcTold[c]? = some w) : atR (.exc (.exn c []) s) = .ok (.str w) s := by
  unfold atR attR
  simp only [h]
@[simp] theorem atR_0 (s : Store) : atR (.exc (.exn 0 []) s) = .ok (.str "Parties+") s := nr rfl
@[simp] theorem atR_1 (s : Store) : atR (.exc (.exn 1 []) s) = .ok (.str "Seats+") s := nr rfl
@[simp] theorem atR_2 (s : Store) : atR (.exc (.exn 2 []) s) = .ok (.str "Patience+") s := nr rfl
@[simp] theorem atR_3 (s : Store) : atR (.exc (.exn 3 []) s) = .ok (.str "Index+") s := nr rfl
@[simp] theorem atR_4 (s : Store) : atR (.exc (.exn 4 []) s) = .ok (.str "Place+") s := nr rfl
@[simp] theorem atR_5 (s : Store) : atR (.exc (.exn 5 []) s) = .ok (.str "Size+") s := nr rfl
@[simp] theorem atR_6 (s : Store) : atR (.exc (.exn 6 []) s) = .ok (.str "Set+") s := nr rfl
@[simp] theorem atR_7 (s : Store) : atR (.exc (.exn 7 []) s) = .ok (.str "Seen+") s := nr rfl
def clF (n : Bool) (x y : PV) (s : Store) : Res PV := lift ((opCl n s x y).map PV.bl) s
@[simp] theorem clF_eq (n : Bool) (x y : PV) (s : Store) : clF n x y s = lift ((opCl n s x y).map PV.bl) s := nr rfl
@[simp] theorem sv_cmpl (n : Bool) (a b : E) : evE C (.cmpl n a b) r s = b1 (evE C a r s) C b r (clF n) := by simp only [evE]; rfl
theorem opCl_last (n : Bool) (s : Store) (xs : List PV) (y : PV) : opCl n (s ++ [Obj.lst xs]) (.loc s.length) y = opC (if n then .ne else .eq) (.lst xs) y := by
  unfold opCl
  simp
def xaF (i : Nat) (l : Nat) (r : Env) (v : PV) (s : Store) : Res Flow := match v with
  | .lst ys => if nolocs ys then (match setL s l fun xs => if xs.length + ys.length ≤ big then some (xs ++ ys) else none with
    | some s => .ok (.nx r) s
    | none => .bad) else .bad
  | _ => .bad
def xaR (o : Option PV) (i : Nat) (C : Calls) (e : E) (r : Env) (s : Store) : Res Flow := match o with
  | some (.loc l) => u1 (evE C e r s) (xaF i l r)
  | _ => .bad
@[simp] theorem xaR_loc (l i : Nat) (C : Calls) (e : E) (r : Env) (s : Store) : xaR (some (.loc l)) i C e r s = u1 (evE C e r s) (xaF i l r) := nr rfl
@[simp] theorem sv_augl (i : Nat) (e : E) : exS C (.augl i e) r s = xaR (getE r i) i C e r s := by
  simp only [exS, getE]
  cases h : r[i]? with
  | none => rfl
  | some o =>
    cases o with
    | none => rfl
    | some v => cases v <;> rfl
theorem xaF_last {i : Nat} {r : Env} {s : Store} {xs ys : List PV} (hn : nolocs ys = true) (h : xs.length + ys.length ≤ big) : xaF i s.length r (.lst ys) (s ++ [Obj.lst xs]) = .ok (.nx r) (s ++ [Obj.lst (xs ++ ys)]) := by
  unfold xaF
  simp only [hn, setL_last, if_pos h]
  rfl
@[simp] theorem belowE_nil (l : Nat) : belowE l [] = true := nr rfl
@[simp] theorem belowE_none (l : Nat) (r : Env) : belowE l (none :: r) = belowE l r := nr rfl
@[simp] theorem belowE_some (l : Nat) (v : PV) (r : Env) : belowE l (some v :: r) = (below l v && belowE l r) := nr rfl
theorem below_no {l : Nat} {v : PV} (h : noloc v = true) : below l v = true := below_noloc v h
@[simp] theorem below_loc (l m : Nat) : below l (.loc m) = decide (m < l) := by simp [below]
@[simp] theorem below_int (l : Nat) (i : Int) : below l (.int i) = true := below_no (by simp)
@[simp] theorem below_non (l : Nat) : below l .non = true := below_no (by simp)
@[simp] theorem below_bl (l : Nat) (b : Bool) : below l (.bl b) = true := below_no (by simp)
@[simp] theorem below_str (l : Nat) (x : Str) : below l (.str x) = true := below_no (by simp)
/-- a list at the last place lent to a call -/
theorem ev_bor {a : E} {i : Nat} {xs : List PV} {v : PV} (h0 : r[i]? = some (some (.loc s.length))) (h1 : belowE s.length (r.set i none) = true) (h2 : evE C a (r.set i (some (.lst xs))) s = .ok v s) (h3 : noLst v = true) (h4 : s.all noLstO = true) : evE C (.bor i a) r (s ++ [Obj.lst xs]) = .ok v (s ++ [Obj.lst xs]) := by
  have e1 : (s ++ [Obj.lst xs])[s.length]? = some (Obj.lst xs) := by simp
  have e2 : (s ++ [Obj.lst xs]).take s.length = s := by simp
  simp only [evE, h0, e1]
  rw [if_pos (by rw [h1, Bool.and_true]; exact decide_eq_true (by simp)), e2, h2]
  show (if (noLst v && decide (s.length = s.length) && s.all noLstO) = true then Res.ok v (s ++ [Obj.lst xs]) else .bad) = _
  rw [if_pos (by rw [h3, h4]; simp)]
mutual
theorem lendV_no (st : Store) (l0 : Nat) : ∀ v : PV, noloc v = true → lendV st l0 v = v
  | .non, _ => by rw [lendV] <;> simp
  | .bl _, _ => by rw [lendV] <;> simp
  | .int _, _ => by rw [lendV] <;> simp
  | .str _, _ => by rw [lendV] <;> simp
  | .fn _, _ => by rw [lendV] <;> simp
  | .clo _ _, _ => by rw [lendV] <;> simp
  | .exn _ _, _ => by rw [lendV] <;> simp
  | .tup xs, h => by rw [lendV, lendVs_no st l0 xs (by simpa using h)]
  | .lst xs, h => by rw [lendV, lendVs_no st l0 xs (by simpa using h)]
  | .loc l, h => by simp [noloc] at h
theorem lendVs_no (st : Store) (l0 : Nat) : ∀ xs : List PV, nolocs xs = true → lendVs st l0 xs = xs
  | [], _ => by rw [lendVs]
  | x :: r, h => by
    rw [nolocs_cons, Bool.and_eq_true] at h
    rw [lendVs, lendV_no st l0 x h.1, lendVs_no st l0 r h.2]
end
/-- the lists at the last places lent to a call -/
theorem ev_lend {a : E} {m : Nat} {T : Store} {v : PV} (hm : T.length = m) (h2 : evE C a (r.map (Option.map (lendV (s ++ T) s.length))) s = .ok v s) (h3 : noLst v = true) (h4 : s.all noLstO = true) : evE C (.lend m a) r (s ++ T) = .ok v (s ++ T) := by
  have e0 : (s ++ T).length - m = s.length := by rw [List.length_append]; omega
  have e1 : (s ++ T).take s.length = s := by simp
  have e2 : (s ++ T).drop s.length = T := by simp
  simp only [evE]
  rw [if_pos (by rw [List.length_append]; omega), e0, e1, h2, e2]
  show (if (noLst v && decide (s.length = s.length) && s.all noLstO) = true then Res.ok v (s ++ T) else .bad) = _
  rw [if_pos (by rw [h3, h4]; simp)]
def trR (v : PV) (s : Store) : Res PV := match v with
  | .int j => if small62 j && decide (j.toNat ≤ big) then .ok (.tup (rangeL 0 j.toNat)) s else .bad
  | _ => .bad
@[simp] theorem sv_trange (a : E) : evE C (.trange a) r s = u1 (evE C a r s) trR := by simp only [evE]; rfl
def v2 (vs : List PV) (x : Res (List PV)) (C : Calls) (f : Nat) (b : Bool) : Res PV := x.bind fun ks s => C f (vs ++ (ks ++ if b then [.non] else [])) s
@[simp] theorem v2_ok (vs ks : List PV) (s : Store) (C : Calls) (f : Nat) (b : Bool) : v2 vs (.ok ks s) C f b = C f (vs ++ (ks ++ if b then [.non] else [])) s := nr rfl
def v1 (x : Res (List PV)) (C : Calls) (f : Nat) (b : Bool) (kw : Oe) (r : Env) : Res PV := x.bind fun vs s => v2 vs (evK C kw r s) C f b
@[simp] theorem v1_ok (vs : List PV) (s : Store) (C : Calls) (f : Nat) (b : Bool) (kw : Oe) (r : Env) : v1 (.ok vs s) C f b kw r = v2 vs (evK C kw r s) C f b := nr rfl
def v0 (o : Option Bool) (C : Calls) (f : Nat) (es : Es) (kw : Oe) (r : Env) (s : Store) : Res PV := match o with
  | some b => v1 (evEs C es r s) C f b kw r
  | none => .bad
@[simp] theorem v0_some (b : Bool) (C : Calls) (f : Nat) (es : Es) (kw : Oe) (r : Env) (s : Store) : v0 (some b) C f es kw r s = v1 (evEs C es r s) C f b kw r := nr rfl
def w1 (x : Res (List PV)) (C : Calls) (f : Nat) : Res PV := x.bind fun vs s => C f vs s
@[simp] theorem w1_ok (vs : List PV) (s : Store) (C : Calls) (f : Nat) : w1 (.ok vs s) C f = C f vs s := nr rfl
def w0 (kw : Oe) (C : Calls) (f : Nat) (es : Es) (r : Env) (s : Store) : Res PV := match kw with
  | .no => w1 (evEs C es r s) C f
  | _ => .bad
@[simp] theorem w0_no (C : Calls) (f : Nat) (es : Es) (r : Env) (s : Store) : w0 .no C f es r s = w1 (evEs C es r s) C f := nr rfl
@[simp] theorem sv_lamv (f : Nat) : evE C (.lamv f) r s = .ok (.clo f []) s := by simp only [evE]
def vvR (o : Option PV) (fs : List (Nat × Bool)) (C : Calls) (es : Es) (kw : Oe) (r : Env) (s : Store) : Res PV := match o with
  | some (.fn f) => v0 (fs.lookup f) C f es kw r s
  | some (.clo f []) => w0 kw C f es r s
  | _ => .bad
@[simp] theorem vvR_clo (f : Nat) (fs : List (Nat × Bool)) (C : Calls) (es : Es) (kw : Oe) (r : Env) (s : Store) : vvR (some (.clo f [])) fs C es kw r s = w0 kw C f es r s := nr rfl
@[simp] theorem vvR_fn (f : Nat) (fs : List (Nat × Bool)) (C : Calls) (es : Es) (kw : Oe) (r : Env) (s : Store) : vvR (some (.fn f)) fs C es kw r s = v0 (fs.lookup f) C f es kw r s := nr rfl
@[simp] theorem sv_callv (fs : List (Nat × Bool)) (i : Nat) (es : Es) (kw : Oe) : evE C (.callv fs i es kw) r s = vvR (getE r i) fs C es kw r s := by
  simp only [evE, getE]
  cases h : r[i]? with
  | none => rfl
  | some o =>
    cases o with
    | none => rfl
    | some v =>
      cases v with
      | clo c xs => cases xs <;> cases kw <;> rfl
      | _ => rfl
end
theorem ev_exc {T : Nat → Option Def} {k f : Nat} {d : Def} {vs : List PV} {s s' : Store} {v : PV} (h : T f = some d) (hk : 1 ≤ k) (h1 : vs.length = d.np) (h2 : exSs (evF T (k - 1)) d.body (vs.map some ++ List.replicate (d.nn - d.np) none) s = .exc v s') :
    evF T k f vs s = .exc v s' := by
  rw [ev_run h hk]
  unfold runD
  rw [if_pos h1, h2]
  rfl
/-- is it a tuple of parties -/
def partiesOk : PV → Bool
  | .tup xs => decide (xs.length ≤ 16) && xs.all fun x => isFrom x 1 50
  | _ => false
def seatsOk (v : PV) : Bool := isFrom v 0 1000
def patOk : PV → Bool
  | .non => true
  | v => isFrom v 0 16
theorem partiesOk_ti {xs : List Int} (hx : Sizes xs) : partiesOk (ti xs) = true := by
  unfold ti partiesOk
  rw [Bool.and_eq_true, List.all_eq_true]
  refine ⟨decide_eq_true (by rw [List.length_map]; exact hx.1), fun x h => ?_⟩
  obtain ⟨i, hi, rfl⟩ := List.mem_map.mp h
  have := hx.2 i hi
  simp [isFrom, this.1, this.2]
theorem seatsOk_int {r : Int} (h : Room r) : seatsOk (.int r) = true := by
  simp [seatsOk, isFrom, h.1, h.2]
theorem patOk_oi {c : Option Int} (h : Calm c) : patOk (oi c) = true := by
  cases c with
  | none => rfl
  | some c => simp [oi, patOk, isFrom, h.1, h.2]
/-- items of known types -/
def Flat : PV → Prop
  | .tup xs => xs.length < 50000 ∧ ∀ x ∈ xs, tyOf x ≠ .other
  | v => tyOf v ≠ .other
theorem flat_ti (xs : List Int) (h : xs.length < 50000) : Flat (ti xs) := ⟨by rw [List.length_map]; exact h, fun x hx => by
  obtain ⟨i, _, rfl⟩ := List.mem_map.mp hx
  simp [tyOf]⟩
theorem flat_oi (c : Option Int) : Flat (oi c) := by cases c <;> simp [oi, Flat, tyOf]
theorem boolsOf_map {α : Type} (f : α → Bool) : ∀ xs : List α, boolsOf (xs.map fun a => PV.bl (f a)) = some (xs.map f)
  | [] => rfl
  | x :: r => by
    rw [List.map_cons, boolsOf, boolsOf_map f r]
    rfl
section
variable {T : Nat → Option Def} {k : Nat} {s : Store}
theorem ev_is_parties_any {v : PV} (h : Sub cl_is_parties T) (hk : 2 ≤ k) (hv : Flat v) : evF T k 1 [v] s = .ok (.bl (partiesOk v)) s := by
  refine ev_ret (h 1 (by decide)) (by omega) rfl ?_
  cases v with
  | tup xs =>
    by_cases hl : xs.length ≤ 16
    · have hl' : ¬ ((16 : Int) < (xs.length : Int)) := by omega
      simp [d_is_parties, opI, oIs, tyOf, isT, opC, items, oLen, hl']
      have e := compR_map (C := evF T (k - 1)) (r := [some (PV.tup xs), none]) (s := s) (h := fun x : PV => x) (m := false) (own := [1]) (tg := [1]) (one := true) (cond := .no) (elt := .frz (.call 0 (.cons (.var 1) (.cons (.int 1) (.cons (.gint "LARGEST" 50) .nil))) .no)) xs (bigOf (by omega)) (fun _ => rfl)
      rw [List.map_id'] at e
      rw [e, cpM_on (fun _ => true) (fun x => PV.bl (isFrom x 1 50)) xs fun x hx => ⟨rfl, fun _ => by simp [ev_is_from (h.mono (by decide)) (show 1 ≤ k - 1 by omega) (hv.2 x hx)]⟩]
      rw [List.filter_eq_self.mpr (fun _ _ => rfl)]
      simp [opI, oAll, boolsOf_map, partiesOk, hl, Function.comp_def]
    · have hl' : (16 : Int) < (xs.length : Int) := by omega
      simp [d_is_parties, opI, oIs, tyOf, isT, opC, items, oLen, hl', partiesOk]
      intro z
      omega
  | _ => first
    | exact absurd rfl hv
    | simp [d_is_parties, opI, oIs, tyOf, isT, opC, partiesOk]
theorem ev_need_parties_any {v : PV} (h : Sub cl_need_parties T) (hk : 3 ≤ k) (hv : Flat v) : evF T k 2 [v] s = if partiesOk v then .ok .non s else .exc (.exn 0 []) s := by
  cases hp : partiesOk v with
  | true =>
    rw [if_pos rfl]
    refine ev_non (r := [some v]) (h 2 (by decide)) (by omega) rfl ?_
    simp [d_need_parties, ev_is_parties_any (h.mono (by decide)) (show 2 ≤ k - 1 by omega) hv, hp]
  | false =>
    rw [if_neg (by decide)]
    refine ev_exc (h 2 (by decide)) (by omega) rfl ?_
    simp [d_need_parties, ev_is_parties_any (h.mono (by decide)) (show 2 ≤ k - 1 by omega) hv, hp]
theorem ev_need_seats_any {v : PV} (h : Sub cl_need_seats T) (hk : 2 ≤ k) (hv : tyOf v ≠ .other) : evF T k 3 [v] s = if seatsOk v then .ok .non s else .exc (.exn 1 []) s := by
  cases hp : seatsOk v with
  | true =>
    rw [if_pos rfl]
    refine ev_non (r := [some v]) (h 3 (by decide)) (by omega) rfl ?_
    have hp : isFrom v 0 1000 = true := hp
    simp [d_need_seats, ev_is_from (h.mono (by decide)) (show 1 ≤ k - 1 by omega) hv, hp]
  | false =>
    rw [if_neg (by decide)]
    refine ev_exc (h 3 (by decide)) (by omega) rfl ?_
    have hp : isFrom v 0 1000 = false := hp
    simp [d_need_seats, ev_is_from (h.mono (by decide)) (show 1 ≤ k - 1 by omega) hv, hp]
theorem ev_need_patience_any {v : PV} (h : Sub cl_need_patience T) (hk : 2 ≤ k) (hv : tyOf v ≠ .other) : evF T k 4 [v] s = if patOk v then .ok .non s else .exc (.exn 2 []) s := by
  by_cases hz : v = .non
  · subst hz
    rw [if_pos (show patOk .non = true from rfl)]
    refine ev_non (r := [some .non]) (h 4 (by decide)) (by omega) rfl ?_
    simp [d_need_patience, opC, isnon]
  · have hn : opC .notn v .non = some true := by
      cases v <;> first
        | exact absurd rfl hz
        | exact absurd rfl hv
        | rfl
    have e : patOk v = isFrom v 0 16 := by
      cases v <;> first
        | exact absurd rfl hz
        | rfl
    rw [e]
    cases hp : isFrom v 0 16 with
    | true =>
      rw [if_pos rfl]
      refine ev_non (r := [some v]) (h 4 (by decide)) (by omega) rfl ?_
      simp [d_need_patience, hn, ev_is_from (h.mono (by decide)) (show 1 ≤ k - 1 by omega) hv, hp]
    | false =>
      rw [if_neg (by decide)]
      refine ev_exc (h 4 (by decide)) (by omega) rfl ?_
      simp [d_need_patience, hn, ev_is_from (h.mono (by decide)) (show 1 ≤ k - 1 by omega) hv, hp]
/-- what the check of a house says -/
def houseR (p se pa : PV) (s : Store) : Res PV := if partiesOk p then (if seatsOk se then (if patOk pa then .ok .non s else .exc (.exn 2 []) s) else .exc (.exn 1 []) s) else .exc (.exn 0 []) s
theorem ev_need_house_any {p se pa : PV} (h : Sub cl_need_house T) (hk : 4 ≤ k) (h1 : Flat p) (h2 : tyOf se ≠ .other) (h3 : tyOf pa ≠ .other) : evF T k 5 [p, se, pa] s = houseR p se pa s := by
  have e1 := ev_need_parties_any (s := s) (h.mono (by decide)) (show 3 ≤ k - 1 by omega) h1
  have e2 := ev_need_seats_any (s := s) (h.mono (by decide)) (show 2 ≤ k - 1 by omega) h2
  have e3 := ev_need_patience_any (s := s) (h.mono (by decide)) (show 2 ≤ k - 1 by omega) h3
  unfold houseR
  cases hp : partiesOk p with
  | false =>
    rw [hp] at e1
    rw [if_neg (by decide)]
    refine ev_exc (h 5 (by decide)) (by omega) rfl ?_
    simp [d_need_house, e1]
  | true =>
    rw [hp] at e1
    rw [if_pos rfl]
    cases hs : seatsOk se with
    | false =>
      rw [hs] at e2
      rw [if_neg (by decide)]
      refine ev_exc (h 5 (by decide)) (by omega) rfl ?_
      simp [d_need_house, e1, e2]
    | true =>
      rw [hs] at e2
      rw [if_pos rfl]
      cases ha : patOk pa with
      | false =>
        rw [ha] at e3
        rw [if_neg (by decide)]
        refine ev_exc (h 5 (by decide)) (by omega) rfl ?_
        simp [d_need_house, e1, e2, e3]
      | true =>
        rw [ha] at e3
        rw [if_pos rfl]
        refine ev_non (r := [some p, some se, some pa]) (h 5 (by decide)) (by omega) rfl ?_
        simp [d_need_house, e1, e2, e3]
end
def fpR (C : Calls) (tg : List Nat) (one : Bool) (b : Ss) (r : Env) (v : PV) (s : Store) : Res Flow := match v with
  | .loc l => forPL l (fun x r => bindT tg one x r) (fun r s => exSs C b r s) turns 0 r s
  | _ => .bad
@[simp] theorem sv_forP {C : Calls} {r : Env} {s : Store} (tg : List Nat) (one : Bool) (e : E) (b : Ss) : exS C (.forP tg one e b) r s = u1 (evE C e r s) (fpR C tg one b r) := by simp only [exS]; rfl
/-- a walk over a list at a place that the body leaves alone -/
theorem forPL_on {α : Type} {C : Calls} {tg : List Nat} {one : Bool} {b : Ss} {l : Nat} {xs : List α} (h : α → PV) (ho : ∀ a, okB tg one (h a) = true) (P : List α → Env → Store → Prop) (hs : ∀ ys r s, P ys r s → s[l]? = some (.lst (xs.map h)))
    (step : ∀ x ys r s, P (x :: ys) r s → ∃ r2 s2, exSs C b (bindE tg one (h x) r) s = .ok (.nx r2) s2 ∧ P ys r2 s2) :
    ∀ (n i : Nat) (r : Env) (s : Store), xs.length < n + i → i ≤ xs.length → P (xs.drop i) r s → ∃ r' s', forPL l (fun x r => bindT tg one x r) (fun r s => exSs C b r s) n i r s = .ok (.nx r') s' ∧ P [] r' s'
  | 0, i, r, s, h1, h2, _ => by omega
  | n + 1, i, r, s, h1, h2, p => by
    unfold forPL
    rw [hs _ _ _ p]
    dsimp only
    rcases Nat.lt_or_ge i xs.length with hi | hi
    · have e1 : (xs.map h)[i]? = some (h xs[i]) := by rw [List.getElem?_map, List.getElem?_eq_getElem hi]; rfl
      rw [e1]
      dsimp only
      rw [bindT_eq, if_pos (ho _)]
      dsimp only
      rw [List.drop_eq_getElem_cons hi] at p
      obtain ⟨r2, s2, e2, p2⟩ := step _ _ r s p
      rw [e2, thenS_nx]
      exact forPL_on h ho P hs step n (i + 1) r2 s2 (by omega) (by omega) p2
    · have e1 : (xs.map h)[i]? = none := List.getElem?_eq_none (by rw [List.length_map]; exact hi)
      rw [e1]
      rw [List.drop_of_length_le hi] at p
      exact ⟨r, s, rfl, p⟩
/-- a walk over some things, each keeping P -/
theorem forR_mem {C : Calls} {tg : List Nat} {one : Bool} {b : Ss} (P : Env → Store → Prop) : ∀ (xs : List PV), (∀ x ∈ xs, okB tg one x = true ∧ ∀ r s, P r s → ∃ r2 s2, exSs C b (bindE tg one x r) s = .ok (.nx r2) s2 ∧ P r2 s2) →
    ∀ (r : Env) (s : Store), P r s → ∃ r' s', forR C tg one b xs r s = .ok (.nx r') s' ∧ P r' s'
  | [], _, r, s, p => ⟨r, s, rfl, p⟩
  | x :: xs, h, r, s, p => by
    obtain ⟨h1, h2⟩ := h x List.mem_cons_self
    obtain ⟨r2, s2, e2, p2⟩ := h2 r s p
    obtain ⟨r', s', e3, p3⟩ := forR_mem P xs (fun y hy => h y (List.mem_cons_of_mem _ hy)) r2 s2 p2
    exact ⟨r', s', by rw [forR_cons _ _ _ _ _ _ _ _ h1, e2, fT_nx, e3], p3⟩
/-- a walk over a range -/
theorem forR_rng {C : Calls} {tg : List Nat} {one : Bool} {b : Ss} (h : Nat → PV) (ho : ∀ a, okB tg one (h a) = true) (n : Nat) (P : Nat → Env → Store → Prop) (step : ∀ i, i < n → ∀ r s, P i r s → ∃ r2 s2, exSs C b (bindE tg one (h i) r) s = .ok (.nx r2) s2 ∧ P (i + 1) r2 s2)
    (r : Env) (s : Store) (p : P 0 r s) : ∃ r' s', forR C tg one b ((List.range n).map h) r s = .ok (.nx r') s' ∧ P n r' s' := by
  obtain ⟨r', s', e, i, h1, h2, q⟩ := forR_inv (C := C) (tg := tg) (one := one) (b := b) h ho (fun ys r s => ∃ i, ys = (List.range n).drop i ∧ i ≤ n ∧ P i r s) (fun x ys r s q => by
    obtain ⟨i, e, hi, q⟩ := q
    have hl : i < n := by
      rcases Nat.lt_or_ge i n with z | z
      · exact z
      · rw [List.drop_of_length_le (by rw [List.length_range]; exact z)] at e
        cases e
    rw [List.drop_eq_getElem_cons (by rw [List.length_range]; exact hl)] at e
    injection e with e1 e2
    rw [List.getElem_range] at e1
    subst e1
    obtain ⟨r2, s2, e3, q2⟩ := step x hl r s q
    exact ⟨r2, s2, e3, x + 1, e2, hl, q2⟩) (List.range n) r s ⟨0, by simp, Nat.zero_le _, p⟩
  have hi : i = n := by
    have := congrArg List.length h1
    rw [List.length_drop, List.length_range] at this
    have z : ([] : List Nat).length = 0 := rfl
    omega
  subst hi
  exact ⟨r', s', e, q⟩
theorem rng_nat (n : Nat) (s : Store) (h : n < 1000000) : rngR 0 (.int (n : Int)) s = .ok ((List.range n).map fun i : Nat => PV.int (i : Int)) s := by
  rw [rngR_int _ _ _ rfl (by unfold small62; simp only [Bool.and_eq_true, decide_eq_true_eq]; omega)]
  simp
@[simp] theorem seq_ti (xs : List Int) (s : Store) : seqR (ti xs) s = .ok (xs.map PV.int) s := nr rfl
theorem op_catLs (xs ys : List PV) (h : xs.length + ys.length ≤ big) : opB .add (.lst xs) (.lst ys) = some (.lst (xs ++ ys)) := by
  unfold opB
  simp [h]
end ML

set_option Elab.async false
set_option maxRecDepth 10000
set_option linter.all false
set_option maxHeartbeats 1000000
/-! ML: the deck, the draws; _law_same. -/
namespace ML
open PySem (Str)
structure Dk where
  a : Int
  b : Int
  c : Int
def dkO (d : Dk) : Obj := .lst [.int d.a, .int d.b, .int d.c]
def Dk.Ok (d : Dk) (m : Int) : Prop := 0 ≤ d.b ∧ d.b < 2147483579 ∧ 0 ≤ d.c ∧ d.c ≤ m
theorem Dk.Ok.mono {d : Dk} {m n : Int} (h : d.Ok m) (hm : m ≤ n) : d.Ok n := ⟨h.1, h.2.1, h.2.2.1, Int.le_trans h.2.2.2 hm⟩
section
variable {T : Nat → Option Def} {k : Nat} {s : Store}
theorem op_add (i j : Int) : opB .add (.int i) (.int j) = some (.int (i + j)) := rfl
theorem op_sub (i j : Int) : opB .sub (.int i) (.int j) = some (.int (i - j)) := rfl
theorem op_mul (i j : Int) (h : i.natAbs < pow64) : opB .mul (.int i) (.int j) = some (.int (i * j)) := if_pos h
theorem op_mod (i j : Int) (h : 0 < j) : opB .mod (.int i) (.int j) = some (.int (i % j)) := if_pos h
theorem op_fdiv (i j : Int) (h : 0 < j ∧ j < 1073741824) : opB .fdiv (.int i) (.int j) = some (.int (i / j)) := if_pos h
theorem op_pow (i j : Int) (h : 0 ≤ j ∧ j ≤ 100 ∧ i.natAbs < pow64) : opB .pow (.int i) (.int j) = some (.int (i ^ j.toNat)) := if_pos h
theorem oc_lt (i j : Int) : opC .lt (.int i) (.int j) = some (decide (i < j)) := rfl
theorem oc_le (i j : Int) : opC .le (.int i) (.int j) = some (decide (i ≤ j)) := rfl
theorem oc_gt (i j : Int) : opC .gt (.int i) (.int j) = some (decide (j < i)) := rfl
theorem oc_ge (i j : Int) : opC .ge (.int i) (.int j) = some (decide (j ≤ i)) := rfl
theorem oc_eq (i j : Int) : opC .eq (.int i) (.int j) = some (i == j) := rfl
theorem oc_ne (i j : Int) : opC .ne (.int i) (.int j) = some (!(i == j)) := rfl
theorem ev_deck {cell turn : Int} (h : Sub cl_law_deck T) (hk : 1 ≤ k) (ht : 0 ≤ turn) : ∃ d : Dk, d.Ok turn ∧ evF T k 13 [.int cell, .int turn] s = .ok (.loc s.length) (s ++ [dkO d]) := by
  have p : opB .pow (.int 10) (.int 18) = some (.int 1000000000000000000) := by rfl
  have hb : 0 ≤ cell % 2147483579 ∧ cell % 2147483579 < 2147483579 := by omega
  by_cases hc : 1000000000000000000 ≤ cell
  · refine ⟨⟨cell - 1000000000000000000, cell % 2147483579, turn⟩, ⟨hb.1, hb.2, ht, Int.le_refl _⟩, ev_ret (h 13 (by decide)) hk rfl ?_⟩
    simp [d_law_deck, p, oc_ge, hc, op_sub, op_mod, dkO]
  · refine ⟨⟨0, cell % 2147483579, turn⟩, ⟨hb.1, hb.2, ht, Int.le_refl _⟩, ev_ret (h 13 (by decide)) hk rfl ?_⟩
    simp [d_law_deck, p, oc_ge, hc, op_sub, op_mod, dkO]
theorem set_zero (x y z v : PV) : setP [x, y, z] 0 v = some [v, y, z] := rfl
theorem set_two (x y z v : PV) : setP [x, y, z] 2 v = some [x, y, v] := rfl
theorem ev_pick {d : Dk} {m lim : Int} (h : Sub cl_law_pick T) (hk : 1 ≤ k) (hd : d.Ok m) (hm : m ≤ 1000000) (hl : 0 < lim ∧ lim < 1073741824) :
    ∃ (n : Int) (d' : Dk), 0 ≤ n ∧ n < lim ∧ d'.Ok (m + 1) ∧ evF T k 14 [.loc s.length, .int lim] (s ++ [dkO d]) = .ok (.int n) (s ++ [dkO d']) := by
  obtain ⟨a, b, c⟩ := d
  obtain ⟨h1, h2, h3, h4⟩ := hd
  simp only at h1 h2 h3 h4
  have e64 : pow64 = 18446744073709551616 := rfl
  by_cases ha : 1 < a
  · refine ⟨a % lim, ⟨a / lim, b, c⟩, Int.emod_nonneg _ (by omega), Int.emod_lt_of_pos _ hl.1, ⟨h1, h2, h3, by simp only; omega⟩, ev_ret (h 14 (by decide)) hk rfl ?_⟩
    simp [d_law_pick, dkO, oc_gt, ha, op_mod _ _ hl.1, op_fdiv _ _ hl, set_zero]
  · have q1 : opB .mul (.int 15485867) (.int (c + 1)) = some (.int (15485867 * (c + 1))) := op_mul _ _ (by rw [e64]; decide)
    have q2 : opB .pow (.int (b + 15485867 * (c + 1))) (.int 5) = some (.int ((b + 15485867 * (c + 1)) ^ 5)) := op_pow _ _ ⟨by decide, by decide, by omega⟩
    generalize hN : (b + 15485867 * (c + 1)) ^ 5 % 2147483647 = N at *
    have n1 : 0 ≤ N ∧ N < 2147483647 := by
      rw [← hN]
      exact ⟨Int.emod_nonneg _ (by decide), Int.emod_lt_of_pos _ (by decide)⟩
    have q3 : opB .mul (.int 7919) (.int (c + 1)) = some (.int (7919 * (c + 1))) := op_mul _ _ (by rw [e64]; decide)
    have q4 : opB .pow (.int (N + 7919 * (c + 1))) (.int 3) = some (.int ((N + 7919 * (c + 1)) ^ 3)) := op_pow _ _ ⟨by decide, by decide, by omega⟩
    generalize hF : (N + 7919 * (c + 1)) ^ 3 % 2147483629 / 32 = F at *
    have f1 : 0 ≤ F ∧ F < 2147483629 := by
      rw [← hF]
      have g1 := Int.emod_nonneg ((N + 7919 * (c + 1)) ^ 3) (show (2147483629 : Int) ≠ 0 by decide)
      have g2 := Int.emod_lt_of_pos ((N + 7919 * (c + 1)) ^ 3) (show (0 : Int) < 2147483629 by decide)
      constructor <;> omega
    have q5 : opB .mul (.int F) (.int 2147483563) = some (.int (F * 2147483563)) := op_mul _ _ (by omega)
    have d1 : (⟨a, b, c + 1⟩ : Dk).Ok (m + 1) := ⟨h1, h2, by simp only; omega, by simp only; omega⟩
    by_cases hb : 1000000 < lim
    · refine ⟨(F * 2147483563 + N) % lim, ⟨a, b, c + 1⟩, Int.emod_nonneg _ (by omega), Int.emod_lt_of_pos _ hl.1, d1, ev_ret (h 14 (by decide)) hk rfl ?_⟩
      simp [d_law_pick, dkO, oc_gt, ha, hb, op_add, set_two, q1, q2, op_mod, hN, q3, q4, op_fdiv, hF, q5, hl.1]
    · refine ⟨F % lim, ⟨a, b, c + 1⟩, Int.emod_nonneg _ (by omega), Int.emod_lt_of_pos _ hl.1, d1, ev_ret (h 14 (by decide)) hk rfl ?_⟩
      simp [d_law_pick, dkO, oc_gt, ha, hb, op_add, set_two, q1, q2, op_mod, hN, q3, q4, op_fdiv, hF, q5, hl.1]
theorem getN_mem {xs : List PV} {i : Int} (h : 0 ≤ i ∧ i < xs.length) : ∃ v ∈ xs, getN xs i = some v := by
  have hl : i.toNat < xs.length := by omega
  refine ⟨xs[i.toNat], List.getElem_mem hl, ?_⟩
  unfold getN place
  rw [if_pos h.1, if_pos h.2]
  exact List.getElem?_eq_getElem hl
theorem ev_one {d : Dk} {m : Int} {xs : List PV} (h : Sub cl_law_one T) (hk : 2 ≤ k) (hd : d.Ok m) (hm : m ≤ 1000000) (hx : 0 < xs.length ∧ xs.length < 100000) :
    ∃ (v : PV) (d' : Dk), v ∈ xs ∧ d'.Ok (m + 1) ∧ evF T k 18 [.loc s.length, .lst xs] (s ++ [dkO d]) = .ok v (s ++ [dkO d']) := by
  obtain ⟨n, d', n0, n1, hd', e⟩ := ev_pick (s := s) (k := k - 1) (lim := (xs.length : Int)) (h.mono (by decide)) (by omega) hd hm ⟨by omega, by omega⟩
  obtain ⟨v, hv, ev⟩ := getN_mem (xs := xs) (i := n) ⟨n0, n1⟩
  refine ⟨v, d', hv, hd', ev_ret (h 18 (by decide)) (by omega) rfl ?_⟩
  simp [d_law_one, opI, oLen, items, e, ev]
/-- a comprehension that moves the store -/
theorem compM_st {α : Type} {t : α → Store → Res Bool} {g : α → Store → Res PV} (L : Nat) (P : Nat → Store → Prop) (Q : PV → Prop) (step : ∀ (i : Nat) (a : α) (s : Store), i < L → P i s → t a s = .ok true s ∧ ∃ v s', g a s = .ok v s' ∧ Q v ∧ P (i + 1) s') :
    ∀ (xs : List α) (i : Nat) (acc : List PV) (s : Store), i + xs.length ≤ L → P i s → ∃ ys s', compM t g xs acc s = .ok (acc ++ ys) s' ∧ ys.length = xs.length ∧ (∀ y ∈ ys, Q y) ∧ P (i + xs.length) s'
  | [], i, acc, s, _, p => ⟨[], s, by simp [compM], rfl, fun _ h => by simp at h, p⟩
  | x :: r, i, acc, s, hl, p => by
    rw [List.length_cons] at hl
    obtain ⟨e1, v, s1, e2, q, p1⟩ := step i x s (by omega) p
    obtain ⟨ys, s', e3, l3, q3, p3⟩ := compM_st L P Q step r (i + 1) (acc ++ [v]) s1 (by omega) p1
    refine ⟨v :: ys, s', ?_, by rw [List.length_cons, l3, List.length_cons], fun y hy => ?_, by rw [List.length_cons, show i + (r.length + 1) = i + 1 + r.length by omega]; exact p3⟩
    · unfold compM
      rw [e1, Res.bind_ok, if_pos rfl, e2, Res.bind_ok, e3, List.append_assoc]
      rfl
    · rcases List.mem_cons.mp hy with e | hy
      · rw [e]; exact q
      · exact q3 y hy
theorem ints_from {ys : List PV} {R : Int → Prop} (h : ∀ y ∈ ys, ∃ i, y = .int i ∧ R i) : ∃ is : List Int, ys = is.map PV.int ∧ ∀ i ∈ is, R i := by
  induction ys with
  | nil => exact ⟨[], rfl, fun _ h => by simp at h⟩
  | cons y r ih =>
    obtain ⟨is, e, hi⟩ := ih fun z hz => h z (List.mem_cons_of_mem _ hz)
    obtain ⟨i, rfl, ri⟩ := h y List.mem_cons_self
    refine ⟨i :: is, by rw [e]; rfl, fun j hj => ?_⟩
    rcases List.mem_cons.mp hj with e | hj
    · rw [e]; exact ri
    · exact hi j hj
theorem small62_of {i : Int} (h : 0 ≤ i ∧ i < 1000000) : small62 i = true := by
  unfold small62
  simp only [Bool.and_eq_true, decide_eq_true_eq]
  omega
theorem ev_rowM {d : Dk} {m : Int} {many : Nat} (hmy : many ≤ 16) (h : Sub cl_law_row T) (hk : 3 ≤ k) (hd : d.Ok m) (hm : m ≤ 10000) :
    ∃ (xs : List Int) (d' : Dk), Sizes xs ∧ xs.length ≤ many ∧ d'.Ok (m + 34) ∧ evF T k 21 [.loc s.length, .int (many : Int)] (s ++ [dkO d]) = .ok (ti xs) (s ++ [dkO d']) := by
  obtain ⟨v, d1, hv, hd1, e1⟩ := ev_one (s := s) (k := k - 1) (xs := [.int 3, .int 6, .int 12, .int 50]) (h.mono (by decide)) (by omega) hd (by omega) ⟨by decide, by decide⟩
  obtain ⟨top, rfl, ht⟩ : ∃ top : Int, v = .int top ∧ 2 ≤ top ∧ top ≤ 50 := by
    simp at hv
    rcases hv with rfl | rfl | rfl | rfl <;> exact ⟨_, rfl, by decide, by decide⟩
  obtain ⟨n, d2, n0, n1, hd2, e2⟩ := ev_pick (s := s) (k := k - 1) (lim := (many : Int) + 1) (h.mono (by decide)) (by omega) hd1 (by omega) ⟨by omega, by omega⟩
  have step : ∀ (i : Nat) (a : Nat) (st : Store), i < 16 → (∃ d' : Dk, d'.Ok (m + 2 + 2 * (i : Int)) ∧ st = s ++ [dkO d']) →
      evT (evF T (k - 1)) .no (bindE [3] true (.int (0 + (a : Int))) [some (.loc s.length), some (.int (many : Int)), some (.int top), none]) st = .ok true st ∧
      ∃ v s', evE (evF T (k - 1)) (.bin .add (.int 1) (.frz (.call 14 (.cons (.var 0) (.cons (.frz (.call 18 (.cons (.var 0) (.cons (.lst (.cons (.var 2) (.cons (.var 2) (.cons (.int 2) .nil)))) .nil)) .no)) .nil)) .no))) (bindE [3] true (.int (0 + (a : Int))) [some (.loc s.length), some (.int (many : Int)), some (.int top), none]) st = .ok v s' ∧
        (∃ i : Int, v = .int i ∧ 1 ≤ i ∧ i ≤ 50) ∧ ∃ d' : Dk, d'.Ok (m + 2 + 2 * ((i + 1 : Nat) : Int)) ∧ s' = s ++ [dkO d'] := fun i a st hi p => by
    obtain ⟨d3, hd3, rfl⟩ := p
    obtain ⟨v, d4, hv, hd4, e4⟩ := ev_one (s := s) (k := k - 1) (xs := [.int top, .int top, .int 2]) (h.mono (by decide)) (by omega) hd3 (by omega) ⟨Nat.succ_pos _, by show 3 < 100000; decide⟩
    obtain ⟨lim, rfl, hl⟩ : ∃ lim : Int, v = .int lim ∧ 2 ≤ lim ∧ lim ≤ 50 := by
      simp at hv
      rcases hv with rfl | rfl
      · exact ⟨_, rfl, ht⟩
      · exact ⟨_, rfl, by decide, by decide⟩
    obtain ⟨q, d5, q0, q1, hd5, e5⟩ := ev_pick (s := s) (k := k - 1) (lim := lim) (h.mono (by decide)) (by omega) hd4 (by omega) ⟨by omega, by omega⟩
    refine ⟨by simp, .int (1 + q), s ++ [dkO d5], ?_, ⟨_, rfl, by omega, by omega⟩, d5, hd5.mono (by omega), rfl⟩
    simp [e4, e5, op_add]
  obtain ⟨ys, s3, e3, l3, q3, p3⟩ := compM_st (t := fun (a : Nat) s => evT (evF T (k - 1)) .no (bindE [3] true (.int (0 + (a : Int))) [some (.loc s.length), some (.int (many : Int)), some (.int top), none]) s)
    (g := fun (a : Nat) st => evE (evF T (k - 1)) (.bin .add (.int 1) (.frz (.call 14 (.cons (.var 0) (.cons (.frz (.call 18 (.cons (.var 0) (.cons (.lst (.cons (.var 2) (.cons (.var 2) (.cons (.int 2) .nil)))) .nil)) .no)) .nil)) .no))) (bindE [3] true (.int (0 + (a : Int))) [some (.loc s.length), some (.int (many : Int)), some (.int top), none]) st)
    16 (fun i st => ∃ d' : Dk, d'.Ok (m + 2 + 2 * (i : Int)) ∧ st = s ++ [dkO d']) (fun v => ∃ i, v = .int i ∧ 1 ≤ i ∧ i ≤ 50) step (List.range n.toNat) 0 [] (s ++ [dkO d2]) (by rw [List.length_range]; omega) ⟨d2, hd2.mono (by omega), rfl⟩
  obtain ⟨is, rfl, hi⟩ := ints_from q3
  obtain ⟨d', hd', rfl⟩ := p3
  rw [List.length_map, List.length_range] at l3
  rw [List.length_range] at hd'
  refine ⟨is, d', ⟨by omega, hi⟩, by omega, hd'.mono (by omega), ev_ret (h 21 (by decide)) (by omega) rfl ?_⟩
  simp [d_law_row, e1, op_add, e2]
  rw [rngR_int _ _ _ rfl (small62_of ⟨n0, by omega⟩), Int.sub_zero]
  simp only [cp1_ok]
  rw [compR_map _ _ (bigOf (by rw [List.length_range]; omega)) (fun _ => rfl)]
  unfold cpM
  simp only [wipeN_cons, wipeN_nil]
  rw [show ([some (PV.loc s.length), some (PV.int (many : Int)), some (PV.int top), none] : Env).set 3 none = [some (.loc s.length), some (.int (many : Int)), some (.int top), none] from rfl]
  erw [e3]
  simp [opI, oTuple, items, ti]
theorem ev_row {d : Dk} {m : Int} (h : Sub cl_law_row T) (hk : 3 ≤ k) (hd : d.Ok m) (hm : m ≤ 10000) :
    ∃ (xs : List Int) (d' : Dk), Sizes xs ∧ d'.Ok (m + 34) ∧ evF T k 21 [.loc s.length, .int 16] (s ++ [dkO d]) = .ok (ti xs) (s ++ [dkO d']) := by
  obtain ⟨xs, d', h1, _, h2, h3⟩ := ev_rowM (s := s) (many := 16) (by decide) h hk hd hm
  exact ⟨xs, d', h1, h2, h3⟩
theorem ev_calm {d : Dk} {m : Int} (h : Sub cl_law_calm T) (hk : 3 ≤ k) (hd : d.Ok m) (hm : m ≤ 10000) :
    ∃ (c : Option Int) (d' : Dk), Calm c ∧ d'.Ok (m + 2) ∧ evF T k 22 [.loc s.length] (s ++ [dkO d]) = .ok (oi c) (s ++ [dkO d']) := by
  obtain ⟨n, d1, n0, n1, hd1, e1⟩ := ev_pick (s := s) (k := k - 1) (lim := 17) (h.mono (by decide)) (by omega) hd (by omega) ⟨by decide, by decide⟩
  obtain ⟨v, d2, hv, hd2, e2⟩ := ev_one (s := s) (k := k - 1) (xs := [.non, .non, .non, .int 0, .int 1, .int 2, .int n]) (h.mono (by decide)) (by omega) hd1 (by omega) ⟨Nat.succ_pos _, by show 7 < 100000; decide⟩
  obtain ⟨c, rfl, hc⟩ : ∃ c : Option Int, v = oi c ∧ Calm c := by
    simp at hv
    rcases hv with rfl | rfl | rfl | rfl | rfl
    · exact ⟨none, rfl, trivial⟩
    · exact ⟨some 0, rfl, by decide, by decide⟩
    · exact ⟨some 1, rfl, by decide, by decide⟩
    · exact ⟨some 2, rfl, by decide, by decide⟩
    · exact ⟨some n, rfl, n0, by omega⟩
  refine ⟨c, d2, hc, hd2.mono (by omega), ev_ret (h 22 (by decide)) (by omega) rfl ?_⟩
  simp [d_law_calm, e1, e2]
theorem sum_pos : ∀ {xs : List Int}, (∀ x ∈ xs, 1 ≤ x ∧ x ≤ 50) → 0 ≤ xs.sum
  | [], _ => by simp
  | x :: r, h => by
    have h1 := h x List.mem_cons_self
    have h2 := sum_pos fun y hy => h y (List.mem_cons_of_mem _ hy)
    rw [List.sum_cons]
    omega
theorem ev_room {d : Dk} {m : Int} {xs : List Int} (h : Sub cl_law_room T) (hk : 2 ≤ k) (hd : d.Ok m) (hm : m ≤ 10000) (hx : ∀ x ∈ xs, 1 ≤ x ∧ x ≤ 50) :
    ∃ (r : Int) (d' : Dk), Room r ∧ d'.Ok (m + 1) ∧ evF T k 23 [.loc s.length, ti xs] (s ++ [dkO d]) = .ok (.int r) (s ++ [dkO d']) := by
  have h0 := sum_pos hx
  have hl : 0 < (if xs.sum + 4 < 1000 then xs.sum + 4 else 1000) + 1 ∧ (if xs.sum + 4 < 1000 then xs.sum + 4 else 1000) + 1 ≤ 1001 := by
    split <;> omega
  obtain ⟨n, d1, n0, n1, hd1, e1⟩ := ev_pick (s := s) (k := k - 1) (lim := (if xs.sum + 4 < 1000 then xs.sum + 4 else 1000) + 1) (h.mono (by decide)) (by omega) hd (by omega) ⟨hl.1, by omega⟩
  refine ⟨n, d1, ⟨n0, by omega⟩, hd1, ev_ret (h 23 (by decide)) (by omega) rfl ?_⟩
  simp [d_law_room, ti, opI, oSum, intsOf_map, op_add, oMin2, e1]
/-! ### _law_sort, _law_same -/
def sortN (v : PV) : Int := match tyOf v with
  | .bool => 1
  | .int => 2
  | .str => 3
  | .list => 4
  | .tuple => 5
  | _ => 6
theorem ev_sort {v : PV} (h : Sub cl_law_sort T) (hk : 1 ≤ k) (hv : tyOf v ≠ .other) : evF T k 19 [v] s = .ok (.int (sortN v)) s := by
  refine ev_ret (h 19 (by decide)) hk rfl ?_
  cases v <;> first
    | exact absurd rfl hv
    | simp [d_law_sort, opI, oIs, tyOf, isT, sortN]
/-- flat data or one deep, or two: equal things are the same -/
theorem ev_same_flat {v : PV} (h : Sub cl_law_same T) (hk : 2 ≤ k) (hv : v = .non ∨ (∃ i, v = .int i) ∨ (∃ b, v = .bl b) ∨ ∃ x, v = .str x ∧ dat 8 (.str x) = true) : evF T k 20 [v, v] s = .ok (.bl true) s := by
  refine ev_ret (h 20 (by decide)) (by omega) rfl ?_
  have so : ∀ w : PV, tyOf w ≠ .other → ∀ s, evF T (k - 1) 19 [w] s = .ok (.int (sortN w)) s := fun w hw s => ev_sort (h.mono (by decide)) (by omega) hw
  rcases hv with rfl | ⟨i, rfl⟩ | ⟨b, rfl⟩ | ⟨x, rfl, hx⟩
  · simp [d_law_same, so .non (by simp [tyOf]), sortN, tyOf, oc_ne, oc_gt, oc_lt]
    simp [opC, dat, veq]
  · simp [d_law_same, so (.int i) (by simp [tyOf]), sortN, tyOf, oc_ne, oc_gt, oc_lt]
    simp [oc_eq]
  · simp [d_law_same, so (.bl b) (by simp [tyOf]), sortN, tyOf, oc_ne, oc_gt, oc_lt]
    simp [opC, dat, veq]
  · simp [d_law_same, so (.str x) (by simp [tyOf]), sortN, tyOf, oc_ne, oc_gt, oc_lt]
    have e : opC .eq (.str x) (.str x) = some true := by
      show (if (dat 8 (.str x) && dat 8 (.str x)) = true then some (veq (.str x) (.str x)) else none) = some true
      rw [hx]
      simp [veq]
    simp [e]
theorem getN_map {α : Type} (f : α → PV) (xs : List α) (i : Nat) (a : α) (h : xs[i]? = some a) : getN (xs.map f) ((i : Nat) : Int) = some (f a) := by
  have hl : i < xs.length := (List.getElem?_eq_some_iff.mp h).1
  unfold getN place
  rw [if_pos (by omega), List.length_map, if_pos (by omega)]
  show (xs.map f)[((i : Nat) : Int).toNat]? = _
  rw [Int.toNat_natCast, List.getElem?_map, h]
  rfl
theorem ev_same_seq {α : Type} {f : α → PV} {xs : List α} {q : List PV → PV} (h : Sub cl_law_same T) (hk : 2 ≤ k) (hq : q = PV.tup ∨ q = PV.lst) (hl : xs.length < 50000)
    (hs : ∀ x ∈ xs, ∀ s, evF T (k - 1) 20 [f x, f x] s = .ok (.bl true) s) : evF T k 20 [q (xs.map f), q (xs.map f)] s = .ok (.bl true) s := by
  refine ev_ret (h 20 (by decide)) (by omega) rfl ?_
  have so : ∀ w : PV, tyOf w ≠ .other → ∀ s, evF T (k - 1) 19 [w] s = .ok (.int (sortN w)) s := fun w hw s => ev_sort (h.mono (by decide)) (by omega) hw
  have ez : opC .eq (.lst []) (.lst []) = some true := by simp [opC, dat, dats, veq, veqs]
  have fin : ∀ v : PV, ∀ st : Store, cp2 false (cpM (evF T (k - 1)) [2, 3] false (.yes (.not_ (.frz (.call 20 (.cons (.var 3) (.cons (.ix (.var 1) (.var 2)) .nil)) .no)))) (.var 2) [some v, some (q (xs.map f)), none, none] (fun p : α × Nat => PV.tup [.int ((p.2 : Nat) : Int), f p.1]) xs.zipIdx st) = .ok (.lst []) st := fun v st => by
    rw [cpM_on (fun _ => false) (fun _ => PV.non) _ fun p hp => ?_]
    · rw [List.filter_eq_nil_iff.mpr (fun _ _ => by simp)]
      rfl
    · have hm := (List.mem_zipIdx (x := p.1) (i := p.2) (k := 0) (by simpa using hp))
      have hg : xs[p.2]? = some p.1 := by
        rw [hm.2.2]
        simp
      have hx : p.1 ∈ xs := List.mem_of_getElem? hg
      refine ⟨?_, fun z => by simp at z⟩
      have g : ∀ st : Store, getP st (q (xs.map f)) ((p.2 : Nat) : Int) = some (f p.1) := fun st => by
        rcases hq with rfl | rfl
        · rw [getP_tup, getN_map f xs _ _ hg]
        · rw [getP_lst, getN_map f xs _ _ hg]
      simp [g, hs p.1 hx]
  rcases hq with rfl | rfl
  · have ln : ∀ st : Store, opI st .len [PV.tup (xs.map f)] = some (.int xs.length) := fun st => by simp [opI, oLen, items]
    simp [d_law_same, so (.tup (xs.map f)) (by simp [tyOf]), sortN, tyOf, oc_ne, oc_gt, oc_lt, ln]
    rw [compR_map _ _ (bigOf (by rw [List.length_zipIdx]; omega)) (fun _ => rfl)]
    simp [fin, ez]
  · have ln : ∀ st : Store, opI st .len [PV.lst (xs.map f)] = some (.int xs.length) := fun st => by simp [opI, oLen, items]
    simp [d_law_same, so (.lst (xs.map f)) (by simp [tyOf]), sortN, tyOf, oc_ne, oc_gt, oc_lt, ln]
    rw [compR_map _ _ (bigOf (by rw [List.length_zipIdx]; omega)) (fun _ => rfl)]
    simp [fin, ez]
theorem ev_same_ints {xs : List Int} {q : List PV → PV} (h : Sub cl_law_same T) (hk : 3 ≤ k) (hq : q = PV.tup ∨ q = PV.lst) (hl : xs.length < 50000) : evF T k 20 [q (xs.map PV.int), q (xs.map PV.int)] s = .ok (.bl true) s :=
  ev_same_seq h (by omega) hq hl fun x _ s => ev_same_flat h (by omega) (.inr (.inl ⟨x, rfl⟩))
end
end ML

set_option Elab.async false
set_option maxRecDepth 10000
set_option linter.all false
set_option maxHeartbeats 1000000
/-! ML: the mathematics of the door. -/
namespace ML
open PySem (Str)
/-- the seats left behind all -/
def restEnd (c : Option Int) : List Int → Int → Int → Int
  | [], rest, _ => rest
  | x :: xs, rest, ref => restEnd c xs (rest' (wdOf c x rest ref) x rest) (ref' (wdOf c x rest ref) ref)
/-- the sizes with a word -/
def withWd (w : Wd) (xs : List Int) (ps : List (Wd × Int)) : List Int := ((xs.zip ps).filter fun p => decide (p.2.1 = w)).map (·.1)
theorem withWd_cons (w : Wd) (x : Int) (xs : List Int) (p : Wd × Int) (ps : List (Wd × Int)) : withWd w (x :: xs) (p :: ps) = if p.1 = w then x :: withWd w xs ps else withWd w xs ps := by
  unfold withWd
  rw [List.zip_cons_cons, List.filter_cons]
  by_cases h : p.1 = w <;> simp [h]
theorem sum_enters (c : Option Int) : ∀ (xs : List Int) (rest ref : Int), (withWd .enters xs (rowsOf c xs rest ref)).sum = rest - restEnd c xs rest ref
  | [], rest, ref => by
    show ([] : List Int).sum = rest - rest
    simp
  | x :: xs, rest, ref => by
    unfold rowsOf restEnd
    rw [withWd_cons]
    have ih := sum_enters c xs (rest' (wdOf c x rest ref) x rest) (ref' (wdOf c x rest ref) ref)
    by_cases h : wdOf c x rest ref = .enters
    · rw [if_pos h, List.sum_cons, ih]
      unfold rest'
      rw [if_pos h]
      omega
    · rw [if_neg h, ih]
      unfold rest'
      rw [if_neg h]
theorem takenBy_eq : ∀ (xs all : List Int) (ps : List (Wd × Int)) (n : Nat), xs.length = ps.length → (∀ i, all[n + i]? = xs[i]?) → takenBy all (((ps.zipIdx n).filter fun p => decide (p.1.1 = .enters)).map fun p => ((p.2 : Nat) : Int)) = (withWd .enters xs ps).sum
  | [], all, ps, n, h, _ => by
    cases ps with
    | nil => rfl
    | cons p r => cases h
  | x :: xs, all, [], n, h, _ => by cases h
  | x :: xs, all, p :: ps, n, h, ha => by
    have ih := takenBy_eq xs all ps (n + 1) (by simpa using h) fun i => by
      have := ha (i + 1)
      rw [show n + 1 + i = n + (i + 1) by omega, this]
      rfl
    rw [withWd_cons, List.zipIdx_cons, List.filter_cons]
    have h0 : all[n]? = some x := ha 0
    by_cases hp : p.1 = .enters
    · rw [if_pos hp, if_pos (by simpa using hp), List.map_cons, List.sum_cons, ← ih]
      unfold takenBy
      rw [List.map_cons, List.sum_cons]
      simp [h0]
    · rw [if_neg hp, if_neg (by simpa using hp), ih]
theorem taken_sum (c : Option Int) (xs : List Int) (r : Int) : takenBy xs (entering c xs r) = (withWd .enters xs (rowsOf c xs r 0)).sum := by
  unfold entering enterIx
  exact takenBy_eq xs xs _ 0 (rowsOf_len c xs r 0).symm fun i => by rw [Nat.zero_add]
theorem taken_rest (c : Option Int) (xs : List Int) (r : Int) : takenBy xs (entering c xs r) = r - restEnd c xs r 0 := by rw [taken_sum, sum_enters]
/-- what a walk keeps true of each row and of the end -/
theorem rows_ok (c : Option Int) : ∀ (xs : List Int) (rest ref : Int), (∀ x ∈ xs, 1 ≤ x) → 0 ≤ rest → 0 ≤ restEnd c xs rest ref ∧ restEnd c xs rest ref ≤ rest ∧
    ∀ q ∈ xs.zip (rowsOf c xs rest ref), restEnd c xs rest ref ≤ q.2.2 ∧ (q.2.1 = .large → q.2.2 < q.1) ∧ (q.2.1 = .enters → q.1 ≤ q.2.2)
  | [], rest, ref, _, h => ⟨h, Int.le_refl _, fun q hq => by simp at hq⟩
  | x :: xs, rest, ref, hx, h => by
    have h1 := hx x List.mem_cons_self
    have hr : 0 ≤ rest' (wdOf c x rest ref) x rest ∧ rest' (wdOf c x rest ref) x rest ≤ rest := by
      unfold rest' wdOf
      by_cases ho : over c ref = true
      · simp [ho, h]
      · by_cases hl : x ≤ rest
        · simp [ho, hl]
          omega
        · simp [ho, hl, h]
    obtain ⟨i1, i2, i3⟩ := rows_ok c xs (rest' (wdOf c x rest ref) x rest) (ref' (wdOf c x rest ref) ref) (fun y hy => hx y (List.mem_cons_of_mem _ hy)) hr.1
    unfold rowsOf restEnd
    refine ⟨i1, by omega, fun q hq => ?_⟩
    rw [List.zip_cons_cons] at hq
    rcases List.mem_cons.mp hq with e | hq
    · subst e
      refine ⟨by simp only; omega, fun e => ?_, fun e => ?_⟩
      · simp only at e ⊢
        unfold wdOf at e
        split at e
        · cases e
        · split at e
          · cases e
          · omega
      · simp only at e ⊢
        unfold wdOf at e
        split at e
        · cases e
        · split at e
          · assumption
          · cases e
    · exact i3 q hq
theorem large_gt {c : Option Int} {xs : List Int} {r : Int} (hx : ∀ x ∈ xs, 1 ≤ x) (h : 0 ≤ r) : ∀ y ∈ withWd .large xs (rowsOf c xs r 0), restEnd c xs r 0 < y := fun y hy => by
  unfold withWd at hy
  obtain ⟨q, hq, rfl⟩ := List.mem_map.mp hy
  obtain ⟨h1, h2⟩ := List.mem_filter.mp hq
  obtain ⟨g1, g2, _⟩ := (rows_ok c xs r 0 hx h).2.2 q h1
  have := g2 (of_decide_eq_true h2)
  omega
/-- nobody refused: all enter -/
theorem none_large (c : Option Int) : ∀ (xs : List Int) (rest ref : Int), over c ref = false → withWd .large xs (rowsOf c xs rest ref) = [] → (withWd .enters xs (rowsOf c xs rest ref)) = xs
  | [], _, _, _, _ => rfl
  | x :: xs, rest, ref, ho, h => by
    unfold rowsOf at h ⊢
    rw [withWd_cons] at h ⊢
    have hw : wdOf c x rest ref = .enters := by
      unfold wdOf at h ⊢
      rw [ho] at h ⊢
      by_cases hl : x ≤ rest
      · simp [hl]
      · simp [hl] at h
    rw [hw] at h ⊢
    rw [if_neg (fun z => nomatch z)] at h
    rw [if_pos rfl, none_large c xs (rest' .enters x rest) (ref' .enters ref) ho h]
/-- how many are refused -/
theorem count_large (v : Int) : ∀ (xs : List Int) (rest ref : Int), ref ≤ v + 1 → ref + (withWd .large xs (rowsOf (some v) xs rest ref)).length ≤ v + 1 ∧
    ((rowsOf (some v) xs rest ref).any (fun p => decide (p.1 = .closed)) = true → ref + (withWd .large xs (rowsOf (some v) xs rest ref)).length = v + 1)
  | [], rest, ref, h => ⟨by simpa [withWd, rowsOf] using h, fun z => by simp [rowsOf] at z⟩
  | x :: xs, rest, ref, h => by
    unfold rowsOf
    rw [withWd_cons, List.any_cons]
    by_cases ho : v < ref
    · have hw : wdOf (some v) x rest ref = .closed := by simp [wdOf, over, ho]
      have ih := count_large v xs (rest' .closed x rest) ref h
      rw [hw, if_neg (fun z => nomatch z)]
      have e : ref' .closed ref = ref := rfl
      rw [e]
      refine ⟨ih.1, fun _ => ?_⟩
      have := ih.1
      omega
    · by_cases hl : x ≤ rest
      · have hw : wdOf (some v) x rest ref = .enters := by simp [wdOf, over, ho, hl]
        have ih := count_large v xs (rest' .enters x rest) ref h
        rw [hw, if_neg (fun z => nomatch z)]
        have e : ref' .enters ref = ref := rfl
        rw [e]
        exact ⟨ih.1, fun z => ih.2 (by simpa using z)⟩
      · have hw : wdOf (some v) x rest ref = .large := by simp [wdOf, over, ho, hl]
        have ih := count_large v xs (rest' .large x rest) (ref + 1) (by omega)
        rw [hw, if_pos rfl]
        have e : ref' .large ref = ref + 1 := rfl
        rw [e, List.length_cons]
        refine ⟨by have := ih.1; omega, fun z => ?_⟩
        have := ih.2 (by simpa using z)
        omega
theorem none_closed : ∀ (xs : List Int) (rest ref : Int), (rowsOf none xs rest ref).any (fun p => decide (p.1 = .closed)) = false
  | [], _, _ => rfl
  | x :: xs, rest, ref => by
    unfold rowsOf
    rw [List.any_cons, none_closed xs]
    unfold wdOf over
    by_cases hl : x ≤ rest <;> simp [hl]
theorem minL_gt {t : Int} : ∀ (r : List Int) (m : Int), t < m → (∀ y ∈ r, t < y) → t < minL m r
  | [], m, h, _ => h
  | y :: r, m, h, hr => by
    show t < minL (min m y) r
    exact minL_gt r (min m y) (by
      have := hr y List.mem_cons_self
      omega) fun z hz => hr z (List.mem_cons_of_mem _ hz)
/-! ### the operators on such lists -/
theorem dats_ints : ∀ (d : Nat) (xs : List Int), dats d (xs.map PV.int) = true
  | _, [] => rfl
  | d, x :: r => by
    rw [List.map_cons, dats, dats_ints d r]
    cases d <;> rfl
theorem oc_eqL {xs ys : List PV} (hx : dats 7 xs = true) (hy : dats 7 ys = true) : opC .eq (.lst xs) (.lst ys) = some (veqs xs ys) ∧ opC .ne (.lst xs) (.lst ys) = some (!veqs xs ys) := by
  have e : (dat 8 (.lst xs) && dat 8 (.lst ys)) = true := by
    show (dats 7 xs && dats 7 ys) = true
    rw [hx, hy]
    rfl
  constructor
  · show (if (dat 8 (.lst xs) && dat 8 (.lst ys)) = true then some (veq (.lst xs) (.lst ys)) else none) = _
    rw [if_pos e]
    rfl
  · show (if (dat 8 (.lst xs) && dat 8 (.lst ys)) = true then some (!veq (.lst xs) (.lst ys)) else none) = _
    rw [if_pos e]
    rfl
theorem oc_nil_ne (xs : List Int) : opC .ne (.lst (xs.map PV.int)) (.lst []) = some (!xs.isEmpty) := by
  rw [(oc_eqL (dats_ints 7 xs) rfl).2]
  cases xs <;> rfl
theorem oc_nil_eq (xs : List Int) : opC .eq (.lst (xs.map PV.int)) (.lst []) = some xs.isEmpty := by
  rw [(oc_eqL (dats_ints 7 xs) rfl).1]
  cases xs <;> rfl
theorem oc_in_words (ps : List (Wd × Int)) : opC .isin (.str "closed") (.lst (ps.map fun p => PV.str p.1.str)) = some (ps.any fun p => decide (p.1 = .closed)) := by
  show (seqOf (.lst (ps.map fun p => PV.str p.1.str))).bind (fun ys => inS (.str "closed") ys) = _
  show inS (.str "closed") (ps.map fun p => PV.str p.1.str) = _
  unfold inS
  have e : ((ps.map fun p => PV.str p.1.str).all flat) = true := by
    rw [List.all_eq_true]
    intro x hx
    obtain ⟨p, _, rfl⟩ := List.mem_map.mp hx
    rfl
  rw [e, List.any_map]
  show some (ps.any _) = _
  congr 2
  funext p
  obtain ⟨w, i⟩ := p
  have k1 : veq (.str (Wd.str .closed)) (.str "closed") = true := by decide +kernel
  have k2 : veq (.str (Wd.str .enters)) (.str "closed") = false := by decide +kernel
  have k3 : veq (.str (Wd.str .large)) (.str "closed") = false := by decide +kernel
  cases w
  · exact k1
  · exact k2
  · exact k3
end ML

set_option Elab.async false
set_option maxRecDepth 10000
set_option linter.all false
set_option maxHeartbeats 1000000
/-! ML: parties that leave. -/
namespace ML
open PySem (Str)
/-! ### lists of places -/
theorem enterIx_cons (p : Wd × Int) (ps : List (Wd × Int)) : enterIx (p :: ps) = (if p.1 = .enters then [0] else []) ++ (enterIx ps).map (· + 1) := by
  unfold enterIx
  have e : ∀ n : Nat, ((ps.zipIdx (n + 1)).filter fun p => decide (p.1.1 = .enters)).map (fun p => ((p.2 : Nat) : Int)) = (((ps.zipIdx n).filter fun p => decide (p.1.1 = .enters)).map fun p => ((p.2 : Nat) : Int)).map (· + 1) := by
    induction ps with
    | nil => intro n; rfl
    | cons q qs ih =>
      intro n
      rw [List.zipIdx_cons, List.zipIdx_cons, List.filter_cons, List.filter_cons]
      by_cases hq : q.1 = .enters
      · rw [if_pos (by simpa using hq), if_pos (by simpa using hq)]
        simp only [List.map_cons]
        rw [ih (n + 1)]
        congr 1
      · rw [if_neg (by simpa using hq), if_neg (by simpa using hq), ih (n + 1)]
  rw [List.zipIdx_cons, List.filter_cons]
  by_cases hp : p.1 = .enters
  · rw [if_pos (by simpa using hp), if_pos hp, List.map_cons, e 0]
    rfl
  · rw [if_neg (by simpa using hp), if_neg hp, e 0]
    rfl
theorem enterIx_app : ∀ (ps qs : List (Wd × Int)), enterIx (ps ++ qs) = enterIx ps ++ (enterIx qs).map (· + (ps.length : Int))
  | [], qs => by
    show enterIx qs = [] ++ (enterIx qs).map (· + (0 : Int))
    simp
  | p :: ps, qs => by
    rw [List.cons_append, enterIx_cons, enterIx_cons, enterIx_app ps qs, List.map_append, List.append_assoc, List.map_map]
    congr 2
    apply List.map_congr_left
    intro a _
    simp only [Function.comp, List.length_cons]
    omega
theorem enterIx_range (ps : List (Wd × Int)) : ∀ a ∈ enterIx ps, 0 ≤ a ∧ a < (ps.length : Int) := fun a ha => by
  unfold enterIx at ha
  obtain ⟨p, hp, rfl⟩ := List.mem_map.mp ha
  have hp2 := (List.mem_filter.mp hp).1
  have := (List.mem_zipIdx (x := p.1) (i := p.2) (k := 0) (by simpa using hp2)).2.1
  constructor <;> omega
theorem rowsOf_cons (c : Option Int) (x : Int) (xs : List Int) (rest ref : Int) : rowsOf c (x :: xs) rest ref = (wdOf c x rest ref, rest) :: rowsOf c xs (rest' (wdOf c x rest ref) x rest) (ref' (wdOf c x rest ref) ref) := rfl
def refEnd (c : Option Int) : List Int → Int → Int → Int
  | [], _, ref => ref
  | x :: xs, rest, ref => refEnd c xs (rest' (wdOf c x rest ref) x rest) (ref' (wdOf c x rest ref) ref)
theorem rowsOf_app (c : Option Int) : ∀ (xs ys : List Int) (rest ref : Int), rowsOf c (xs ++ ys) rest ref = rowsOf c xs rest ref ++ rowsOf c ys (restEnd c xs rest ref) (refEnd c xs rest ref)
  | [], _, _, _ => rfl
  | x :: xs, ys, rest, ref => by
    rw [List.cons_append, rowsOf_cons, rowsOf_app c xs ys, rowsOf_cons, List.cons_append]
    rfl

theorem all_closed (c : Option Int) : ∀ (xs : List Int) (rest ref : Int), over c ref = true → enterIx (rowsOf c xs rest ref) = []
  | [], _, _, _ => rfl
  | x :: xs, rest, ref, h => by
    have hw : wdOf c x rest ref = .closed := by
      unfold wdOf
      rw [if_pos h]
    unfold rowsOf
    rw [enterIx_cons, hw, if_neg (fun z => nomatch z)]
    show [] ++ (enterIx (rowsOf c xs rest ref)).map _ = []
    rw [all_closed c xs rest ref h]
    rfl
theorem over_mono {c : Option Int} {a b : Int} (h : a ≤ b) (hb : over c b = false) : over c a = false := by
  cases c with
  | none => rfl
  | some v =>
    simp [over] at hb ⊢
    omega
/-- with fewer refusals behind, all who enter enter -/
theorem enter_mono (c : Option Int) : ∀ (xs : List Int) (rest ref1 ref2 : Int), ref2 ≤ ref1 → ∀ a ∈ enterIx (rowsOf c xs rest ref1), a ∈ enterIx (rowsOf c xs rest ref2)
  | [], _, _, _, _, a, h => h
  | x :: xs, rest, ref1, ref2, hr, a, h => by
    cases ho : over c ref1 with
    | true =>
      rw [all_closed c (x :: xs) rest ref1 ho] at h
      simp at h
    | false =>
      have ho2 := over_mono hr ho
      unfold rowsOf at h ⊢
      rw [enterIx_cons] at h ⊢
      have hw : wdOf c x rest ref1 = wdOf c x rest ref2 := by
        unfold wdOf
        rw [ho, ho2]
      rw [hw] at h
      rcases List.mem_append.mp h with h | h
      · exact List.mem_append_left _ h
      · obtain ⟨b, hb, rfl⟩ := List.mem_map.mp h
        refine List.mem_append_right _ (List.mem_map.mpr ⟨b, enter_mono c xs _ _ _ ?_ b hb, rfl⟩)
        unfold ref'
        split <;> omega
theorem rows_none : ∀ (xs : List Int) (rest ref1 ref2 : Int), enterIx (rowsOf none xs rest ref1) = enterIx (rowsOf none xs rest ref2)
  | [], _, _, _ => rfl
  | x :: xs, rest, ref1, ref2 => by
    unfold rowsOf
    rw [enterIx_cons, enterIx_cons]
    have hw : wdOf none x rest ref1 = wdOf none x rest ref2 := rfl
    rw [hw, rows_none xs _ _ (ref' (wdOf none x rest ref2) ref2)]
def without (i : Nat) (xs : List Int) : List Int := xs.take i ++ xs.drop (i + 1)
def sh (i : Nat) (a : Int) : Int := a + (if (i : Int) ≤ a then 1 else 0)
def has (xs : List Int) (a : Int) : Bool := xs.contains a
theorem has_mem {xs : List Int} {a : Int} (h : a ∈ xs) : has xs a = true := by
  unfold has
  simp [h]
theorem has_not {xs : List Int} {a : Int} (h : a ∉ xs) : has xs a = false := by
  unfold has
  simp [h]
theorem mem_has {xs : List Int} {a : Int} (h : has xs a = true) : a ∈ xs := by
  unfold has at h
  simpa using h
def minus (a b : List Int) : List Int := a.filter fun x => !has b x
theorem split_at {xs : List Int} {i : Nat} (h : i < xs.length) : xs = xs.take i ++ xs[i] :: xs.drop (i + 1) := by
  rw [← List.drop_eq_getElem_cons h, List.take_append_drop]
/-- who enters, by the parts ahead of a party and behind it -/
theorem entering_at (c : Option Int) {xs : List Int} {i : Nat} (r : Int) (h : i < xs.length) : entering c xs r = enterIx (rowsOf c (xs.take i) r 0) ++
    ((if wdOf c xs[i] (restEnd c (xs.take i) r 0) (refEnd c (xs.take i) r 0) = .enters then [(i : Int)] else []) ++
      (enterIx (rowsOf c (xs.drop (i + 1)) (rest' (wdOf c xs[i] (restEnd c (xs.take i) r 0) (refEnd c (xs.take i) r 0)) xs[i] (restEnd c (xs.take i) r 0)) (ref' (wdOf c xs[i] (restEnd c (xs.take i) r 0) (refEnd c (xs.take i) r 0)) (refEnd c (xs.take i) r 0)))).map (· + ((i : Int) + 1))) := by
  have e : entering c xs r = entering c (xs.take i ++ xs[i] :: xs.drop (i + 1)) r := by rw [← split_at h]
  have hl : (rowsOf c (xs.take i) r 0).length = i := by
    rw [rowsOf_len, List.length_take]
    omega
  rw [e]
  unfold entering
  rw [rowsOf_app, enterIx_app, hl, rowsOf_cons, enterIx_cons, List.map_append, List.map_map]
  congr 2
  · split <;> simp
  · apply List.map_congr_left
    intro a _
    simp only [Function.comp]
    omega
theorem later_at (c : Option Int) {xs : List Int} {i : Nat} (r : Int) (h : i < xs.length) : (entering c (without i xs) r).map (sh i) = enterIx (rowsOf c (xs.take i) r 0) ++ (enterIx (rowsOf c (xs.drop (i + 1)) (restEnd c (xs.take i) r 0) (refEnd c (xs.take i) r 0))).map (· + ((i : Int) + 1)) := by
  have hl : (rowsOf c (xs.take i) r 0).length = i := by
    rw [rowsOf_len, List.length_take]
    omega
  unfold entering without
  rw [rowsOf_app, enterIx_app, hl, List.map_append, List.map_map]
  congr 1
  · have : ∀ a ∈ enterIx (rowsOf c (xs.take i) r 0), sh i a = a := fun a ha => by
      have := enterIx_range _ a ha
      rw [hl] at this
      unfold sh
      rw [if_neg (by omega), Int.add_zero]
    rw [List.map_congr_left this, List.map_id']
  · apply List.map_congr_left
    intro a ha
    have := enterIx_range _ a ha
    simp only [Function.comp]
    unfold sh
    rw [if_pos (by omega)]
    omega
theorem sizes_without {xs : List Int} (i : Nat) (h : Sizes xs) : Sizes (without i xs) := by
  unfold without
  refine ⟨?_, fun x hx => ?_⟩
  · have := h.1
    rw [List.length_append, List.length_take, List.length_drop]
    omega
  · rcases List.mem_append.mp hx with hx | hx
    · exact h.2 x (List.mem_of_mem_take hx)
    · exact h.2 x (List.mem_of_mem_drop hx)
/-! ### the operators -/
theorem inS_int (a : Int) : ∀ xs : List Int, ((xs.map PV.int).any fun y => veq y (.int a)) = xs.contains a
  | [] => rfl
  | x :: r => by
    rw [List.map_cons, List.any_cons, inS_int a r, List.contains_cons]
    congr 1
    show (x == a) = (a == x)
    rw [Bool.eq_iff_iff]
    simp only [beq_iff_eq]
    exact eq_comm
theorem flat_ints (xs : List Int) : ((xs.map PV.int).all flat) = true := by
  rw [List.all_eq_true]
  intro x hx
  obtain ⟨p, _, rfl⟩ := List.mem_map.mp hx
  rfl
theorem oc_isin (a : Int) (xs : List Int) : opC .isin (.int a) (ti xs) = some (has xs a) := by
  show inS (.int a) (xs.map PV.int) = _
  unfold inS
  rw [flat_ints, inS_int]
  rfl
theorem oc_notin (a : Int) (xs : List Int) : opC .notin (.int a) (ti xs) = some (!has xs a) := by
  show (inS (.int a) (xs.map PV.int)).map (!·) = _
  unfold inS
  rw [flat_ints, inS_int]
  rfl
theorem veqs_ints : ∀ xs ys : List Int, veqs (xs.map PV.int) (ys.map PV.int) = (xs == ys)
  | [], [] => rfl
  | [], _ :: _ => rfl
  | _ :: _, [] => rfl
  | x :: xs, y :: ys => by
    rw [List.map_cons, List.map_cons, veqs, veqs_ints xs ys]
    rfl
theorem oc_eqT {xs ys : List PV} (hx : dats 7 xs = true) (hy : dats 7 ys = true) : opC .eq (.tup xs) (.tup ys) = some (veqs xs ys) ∧ opC .ne (.tup xs) (.tup ys) = some (!veqs xs ys) := by
  have e : (dat 8 (.tup xs) && dat 8 (.tup ys)) = true := by
    show (dats 7 xs && dats 7 ys) = true
    rw [hx, hy]
    rfl
  constructor
  · show (if (dat 8 (.tup xs) && dat 8 (.tup ys)) = true then some (veq (.tup xs) (.tup ys)) else none) = _
    rw [if_pos e]
    rfl
  · show (if (dat 8 (.tup xs) && dat 8 (.tup ys)) = true then some (!veq (.tup xs) (.tup ys)) else none) = _
    rw [if_pos e]
    rfl
theorem oc_ti_eq (xs ys : List Int) : opC .eq (ti xs) (ti ys) = some (xs == ys) := by
  show opC .eq (.tup (xs.map PV.int)) (.tup (ys.map PV.int)) = _
  rw [(oc_eqT (dats_ints 7 xs) (dats_ints 7 ys)).1, veqs_ints]
theorem oc_ti_ne (xs ys : List Int) : opC .ne (ti xs) (ti ys) = some (!(xs == ys)) := by
  show opC .ne (.tup (xs.map PV.int)) (.tup (ys.map PV.int)) = _
  rw [(oc_eqT (dats_ints 7 xs) (dats_ints 7 ys)).2, veqs_ints]
theorem oc_li_ne (xs ys : List Int) : opC .ne (.lst (xs.map PV.int)) (.lst (ys.map PV.int)) = some (!(xs == ys)) := by
  rw [(oc_eqL (dats_ints 7 xs) (dats_ints 7 ys)).2, veqs_ints]
theorem sl_take {α : Type} (f : α → PV) (xs : List α) (n : Nat) : cutN (xs.map f) none (some (n : Int)) = (xs.take n).map f := by
  unfold cutN clipN
  dsimp only
  rw [if_neg (by omega), Int.toNat_natCast, List.length_map]
  show List.take (min n xs.length - 0) (List.drop 0 (xs.map f)) = _
  rw [List.drop_zero, Nat.sub_zero, List.map_take]
  by_cases h : n ≤ xs.length
  · rw [Nat.min_eq_left h]
  · rw [Nat.min_eq_right (by omega), List.take_of_length_le (by simp), List.take_of_length_le (by simp; omega)]
theorem sl_drop {α : Type} (f : α → PV) (xs : List α) (n : Nat) : cutN (xs.map f) (some (n : Int)) none = (xs.drop n).map f := by
  unfold cutN clipN
  dsimp only
  rw [if_neg (by omega), Int.toNat_natCast, List.length_map]
  show List.take (xs.length - min n xs.length) (List.drop (min n xs.length) (xs.map f)) = _
  rw [← List.map_drop]
  by_cases h : n ≤ xs.length
  · rw [Nat.min_eq_left h, List.take_of_length_le (by simp)]
  · rw [Nat.min_eq_right (by omega), Nat.sub_self, List.take_zero, List.drop_of_length_le (by omega)]
    rfl
@[simp] theorem slV_ti_take (xs : List Int) (n : Nat) : slV (ti xs) none (some (n : Int)) = some (ti (xs.take n)) := by
  show some (PV.tup (cutN (xs.map PV.int) none (some (n : Int)))) = _
  rw [sl_take]
  rfl
@[simp] theorem slV_ti_drop (xs : List Int) (n : Nat) : slV (ti xs) (some (n : Int)) none = some (ti (xs.drop n)) := by
  show some (PV.tup (cutN (xs.map PV.int) (some (n : Int)) none)) = _
  rw [sl_drop]
  rfl
@[simp] theorem slV_ti_drop1 (xs : List Int) (n : Nat) : slV (ti xs) (some ((n : Int) + 1)) none = some (ti (xs.drop (n + 1))) := slV_ti_drop xs (n + 1)
@[simp] theorem slV_lst_take {α : Type} (f : α → PV) (xs : List α) (n : Nat) : slV (.lst (xs.map f)) none (some (n : Int)) = some (.lst ((xs.take n).map f)) := by
  show some (PV.lst (cutN (xs.map f) none (some (n : Int)))) = _
  rw [sl_take]
theorem op_cat (xs ys : List Int) (h : xs.length + ys.length ≤ big) : opB .add (ti xs) (ti ys) = some (ti (xs ++ ys)) := by
  show (if (xs.map PV.int).length + (ys.map PV.int).length ≤ big then some (PV.tup (xs.map PV.int ++ ys.map PV.int)) else none) = _
  rw [if_pos (by rw [List.length_map, List.length_map]; exact h), ← List.map_append]
  rfl
theorem op_cut {xs : List Int} (i : Nat) (h : xs.length < 50000) : opB .add (ti (xs.take i)) (ti (xs.drop (i + 1))) = some (ti (without i xs)) := op_cat _ _ (bigOf (by rw [List.length_take, List.length_drop]; omega))
@[simp] theorem tuple_li (xs : List Int) (s : Store) : opI s .tuple [.lst (xs.map PV.int)] = some (ti xs) := by simp [opI, oTuple, items, ti]
theorem int_bl (b : Bool) (s : Store) : opI s .int1 [.bl b] = some (.int (if b then 1 else 0)) := rfl
section
variable {T : Nat → Option Def} {k : Nat} {s : Store}
theorem ev_need_index {xs : List Int} {i : Nat} (h : Sub cl_need_index T) (hk : 2 ≤ k) (hi : i < xs.length) : evF T k 38 [ti xs, .int i] s = .ok .non s := by
  refine ev_non (r := [some (ti xs), some (.int i)]) (h 38 (by decide)) (by omega) rfl ?_
  have e : (decide ((0 : Int) ≤ (i : Int)) && decide ((i : Int) ≤ (xs.length : Int) - 1)) = true := by
    simp
    omega
  simp only [d_need_index, sv_Ss_cons, sv_ifs, sv_not, sv_frz, sv_call, sv_Es_cons, sv_Es_nil, sv_var, getE_succ, getE_zero, List.map_cons, List.map_nil, List.cons_append, List.nil_append, varR_some, c1_ok, sv_int, sv_bin, sv_bi, c2_ok, u1_ok, biF_eq, len_ti, lift_some, b1_ok, b2_ok, binF_eq, op_sub, k1_ok, sv_K_no, k2_ok, List.append_nil, ev_is_from_int (h.mono (by decide)) (show 1 ≤ k - 1 by omega), e, fz_ok]
  simp
/-- the members of a list that pass, as a tuple or a list -/
theorem comp_flt {C : Calls} {r : Env} {n : Nat} {cond : Oe} {xs : List Int} (t : Int → Bool) (hl : xs.length < 50000) (hn : n < r.length) (H : ∀ a ∈ xs, evT C cond ((r.set n none).set n (some (.int a))) s = .ok (t a) s) :
    compR false [n] [n] true C cond (.var n) r (xs.map PV.int) s = .ok (.lst ((xs.filter t).map PV.int)) s := by
  rw [compR_map PV.int xs (bigOf (by omega)) (fun _ => rfl), cpM_on t (fun a => PV.int a) xs fun a ha => ⟨H a ha, fun _ => ?_⟩]
  · rfl
  · simp only [wipeN_cons, wipeN_nil, bindE_true, sv_var]
    unfold getE
    rw [List.getElem?_set_self (by rw [List.length_set]; exact hn)]
    rfl
theorem comp_mp {C : Calls} {r : Env} {n : Nat} {elt : E} {xs : List Int} (g : Int → Int) (hl : xs.length < 50000) (H : ∀ a ∈ xs, evE C elt ((r.set n none).set n (some (.int a))) s = .ok (.int (g a)) s) :
    compR false [n] [n] true C .no elt r (xs.map PV.int) s = .ok (.lst ((xs.map g).map PV.int)) s := by
  rw [compR_map PV.int xs (bigOf (by omega)) (fun _ => rfl), cpM_on (fun _ => true) (fun a => PV.int (g a)) xs fun a ha => ⟨by simp, fun _ => H a ha⟩, List.filter_eq_self.mpr (fun _ _ => rfl), List.map_map]
  rfl
theorem ev_changes {old new : List Int} (h : Sub cl_changes T) (hk : 1 ≤ k) (h1 : old.length < 50000) (h2 : new.length < 50000) : evF T k 47 [ti old, ti new] s = .ok (.tup [ti (minus old new), ti (minus new old)]) s := by
  refine ev_ret (h 47 (by decide)) hk rfl ?_
  simp [d_changes]
  rw [comp_flt (fun a => !has new a) h1 (by simp) fun a ha => by simp [oc_notin]]
  simp
  rw [comp_flt (fun a => !has old a) h2 (by simp) fun a ha => by simp [oc_notin]]
  simp [minus]
theorem ent_len {c : Option Int} {xs : List Int} {r : Int} (h : xs.length < 50000) : (entering c xs r).length < 50000 := Nat.lt_of_le_of_lt (places_len (n := 0)) h
theorem ev_after_leaving {xs : List Int} {r : Int} {c : Option Int} {i : Nat} (h : Sub cl_after_leaving T) (hk : 5 ≤ k) (hx : Sizes xs) (hr : Room r) (hc : Calm c) (hi : i < xs.length) :
    evF T k 49 [ti xs, .int r, .int i, oi c] s = .ok (.tup [ti (minus ((entering c xs r).filter fun a => !(a == (i : Int))) ((entering c (without i xs) r).map (sh i))), ti (minus ((entering c (without i xs) r).map (sh i)) ((entering c xs r).filter fun a => !(a == (i : Int))))]) s := by
  have hl : xs.length < 50000 := by have := hx.1; omega
  have hw := sizes_without i hx
  have hl2 : (without i xs).length < 50000 := by have := hw.1; omega
  refine ev_ret (h 49 (by decide)) (by omega) rfl ?_
  simp [d_after_leaving, ev_need_house (h.mono (by decide)) (show 4 ≤ k - 1 by omega) hx hr hc, ev_need_index (h.mono (by decide)) (show 2 ≤ k - 1 by omega) hi, op_add, op_cut i hl,
    ev_entering (h.mono (by decide)) (show 2 ≤ k - 1 by omega) hl2, ev_entering (h.mono (by decide)) (show 2 ≤ k - 1 by omega) hl]
  rw [comp_flt (fun a => !(a == (i : Int))) (ent_len hl) (by simp) fun a ha => by simp [oc_ne]]
  simp
  rw [comp_mp (sh i) (ent_len hl2) fun a ha => by
    by_cases hh : (i : Int) ≤ a <;> simp [oc_ge, int_bl, op_add, sh, hh]]
  simp [-List.map_map]
  rw [ev_changes (h.mono (by decide)) (by omega) (Nat.lt_of_le_of_lt (List.length_filter_le _ _) (ent_len hl)) (by rw [List.length_map]; exact ent_len hl2)]
  simp
/-! ### the law's own -/
theorem ev_law_set {xs : List Int} {r : Int} {c : Option Int} (h : Sub cl_law_set T) (hk : 2 ≤ k) (hl : xs.length < 50000) (hb : ∀ x ∈ xs, 1 ≤ x ∧ x ≤ 50) : evF T k 25 [ti xs, .int r, oi c] s = .ok (ti (entering c xs r)) s := by
  refine ev_ret (h 25 (by decide)) (by omega) rfl ?_
  simp [d_law_set, ev_law_run (h.mono (by decide)) (show 1 ≤ k - 1 by omega) hl hb]
  rw [compR_map _ _ (bigOf (by rw [List.length_zipIdx, rowsOf_len]; omega)) (fun _ => rfl)]
  rw [cpM_on (fun p : (Wd × Int) × Nat => decide (p.1.1 = .enters)) (fun p => PV.int ((p.2 : Nat) : Int)) _ fun p hp => ⟨by simp [rwP], fun _ => by simp⟩]
  simp [opI, oTuple, items, ti, entering, enterIx, List.map_map]
theorem ev_law_without {xs : List Int} {r : Int} {c : Option Int} {i : Nat} (h : Sub cl_law_without T) (hk : 3 ≤ k) (hx : Sizes xs) : evF T k 107 [ti xs, .int r, oi c, .int i] s = .ok (ti ((entering c (without i xs) r).map (sh i))) s := by
  have hl : xs.length < 50000 := by have := hx.1; omega
  have hw := sizes_without i hx
  have hl2 : (without i xs).length < 50000 := by have := hw.1; omega
  refine ev_ret (h 107 (by decide)) (by omega) rfl ?_
  simp [d_law_without, op_add, op_cut i hl, ev_law_set (h.mono (by decide)) (show 2 ≤ k - 1 by omega) hl2 hw.2]
  rw [comp_mp (sh i) (ent_len hl2) fun a ha => by
    by_cases hh : (i : Int) ≤ a <;> simp [oc_ge, int_bl, op_add, sh, hh]]
  simp [-List.map_map]
end
theorem rowsOf_take (c : Option Int) : ∀ (xs : List Int) (n : Nat) (rest ref : Int), rowsOf c (xs.take n) rest ref = (rowsOf c xs rest ref).take n
  | _, 0, _, _ => rfl
  | [], _ + 1, _, _ => rfl
  | x :: xs, n + 1, rest, ref => by
    rw [List.take_succ_cons, rowsOf_cons, rowsOf_cons, List.take_succ_cons, rowsOf_take c xs n]
theorem entering_take (c : Option Int) (xs : List Int) (n : Nat) (r : Int) : entering c (xs.take n) r = (entering c xs r).filter fun a => decide (a < (n : Int)) := by
  have e : entering c xs r = enterIx (rowsOf c (xs.take n) r 0) ++ (enterIx (rowsOf c (xs.drop n) (restEnd c (xs.take n) r 0) (refEnd c (xs.take n) r 0))).map (· + ((rowsOf c (xs.take n) r 0).length : Int)) := by
    have e0 : entering c xs r = entering c (xs.take n ++ xs.drop n) r := by rw [List.take_append_drop]
    rw [e0]
    unfold entering
    rw [rowsOf_app, enterIx_app]
  have hl : (rowsOf c (xs.take n) r 0).length = min n xs.length := by rw [rowsOf_len, List.length_take]
  rw [e, List.filter_append]
  have h1 : ((enterIx (rowsOf c (xs.take n) r 0)).filter fun a => decide (a < (n : Int))) = enterIx (rowsOf c (xs.take n) r 0) := by
    rw [List.filter_eq_self.mpr]
    intro a ha
    have := enterIx_range _ a ha
    rw [hl] at this
    simp
    omega
  rw [h1]
  have h2 : (((enterIx (rowsOf c (xs.drop n) (restEnd c (xs.take n) r 0) (refEnd c (xs.take n) r 0))).map (· + ((rowsOf c (xs.take n) r 0).length : Int))).filter fun a => decide (a < (n : Int))) = [] := by
    rw [List.filter_eq_nil_iff]
    intro a ha
    obtain ⟨b, hb, rfl⟩ := List.mem_map.mp ha
    have hb2 := enterIx_range _ b hb
    rw [rowsOf_len, List.length_drop] at hb2
    rw [hl]
    simp
    omega
  rw [h2, List.append_nil]
  rfl
theorem sizes_take {xs : List Int} (n : Nat) (h : Sizes xs) : Sizes (xs.take n) := ⟨by
  have := h.1
  rw [List.length_take]
  omega, fun x hx => h.2 x (List.mem_of_mem_take hx)⟩
theorem dats_words : ∀ (d : Nat) (ps : List (Wd × Int)), dats d (ps.map fun p => PV.str p.1.str) = true
  | _, [] => rfl
  | d, (w, i) :: r => by
    rw [List.map_cons, dats, dats_words d r, Bool.and_true]
    have e : ∀ d, dat d (.str w.str) = true := fun d => by
      have q : (w.str.cps.all fun c => decide (c < 1114112)) = true := by cases w <;> decide +kernel
      cases d <;> exact q
    exact e d
theorem veqs_words : ∀ ps : List (Wd × Int), veqs (ps.map fun p => PV.str p.1.str) (ps.map fun p => PV.str p.1.str) = true
  | [] => rfl
  | (w, i) :: r => by
    rw [List.map_cons, veqs, veqs_words r, Bool.and_true]
    show (w.str == w.str) = true
    simp
theorem oc_words (ps : List (Wd × Int)) : opC .ne (.lst (ps.map fun p => PV.str p.1.str)) (.lst (ps.map fun p => PV.str p.1.str)) = some false := by
  rw [(oc_eqL (dats_words 7 ps) (dats_words 7 ps)).2, veqs_words]
  rfl
theorem sizes_by (xs : List Int) (h1 : (xs.all fun x => decide (1 ≤ x) && decide (x ≤ 50)) = true) (h2 : xs.length ≤ 16) : Sizes xs := ⟨h2, fun x hx => by
  have := List.all_eq_true.mp h1 x hx
  simpa using this⟩
end ML

set_option Elab.async false
set_option maxRecDepth 10000
set_option linter.all false
set_option maxHeartbeats 1000000
/-! ML: patience; parts of the row; sizes times a factor. -/
namespace ML
open PySem (Str)
theorem wd_shift (v d x rest ref : Int) : wdOf (some (v + d)) x rest (ref + d) = wdOf (some v) x rest ref := by
  unfold wdOf over
  by_cases h : v < ref
  · simp [h]
  · simp [h]
theorem ref'_shift (w : Wd) (ref d : Int) : ref' w (ref + d) = ref' w ref + d := by
  unfold ref'
  split <;> omega
theorem rows_shift (v d : Int) : ∀ (xs : List Int) (rest ref : Int), rowsOf (some (v + d)) xs rest (ref + d) = rowsOf (some v) xs rest ref
  | [], _, _ => rfl
  | x :: xs, rest, ref => by
    rw [rowsOf_cons, rowsOf_cons, wd_shift, ref'_shift, rows_shift v d xs]
/-- more patience, no fewer enter -/
theorem enter_patience {v w : Int} (h : v ≤ w) (xs : List Int) (r : Int) : ∀ a ∈ entering (some v) xs r, a ∈ entering (some w) xs r := fun a ha => by
  unfold entering at ha ⊢
  have e := rows_shift v (w - v) xs r 0
  rw [show v + (w - v) = w by omega] at e
  rw [← e] at ha
  exact enter_mono (some w) xs r _ _ (by omega) a ha
theorem enter_none (v : Int) : ∀ (xs : List Int) (rest ref ref2 : Int), ∀ a ∈ enterIx (rowsOf (some v) xs rest ref), a ∈ enterIx (rowsOf none xs rest ref2)
  | [], _, _, _, a, h => h
  | x :: xs, rest, ref, ref2, a, h => by
    cases ho : over (some v) ref with
    | true =>
      rw [all_closed (some v) (x :: xs) rest ref ho] at h
      simp at h
    | false =>
      rw [rowsOf_cons, enterIx_cons] at h ⊢
      have hw : wdOf (some v) x rest ref = wdOf none x rest ref2 := by
        unfold wdOf
        rw [ho]
        rfl
      rw [hw] at h
      rcases List.mem_append.mp h with h | h
      · exact List.mem_append_left _ h
      · obtain ⟨b, hb, rfl⟩ := List.mem_map.mp h
        exact List.mem_append_right _ (List.mem_map.mpr ⟨b, enter_none v xs _ _ _ b hb, rfl⟩)
/-- patience enough: as without one -/
theorem enter_enough (v : Int) : ∀ (xs : List Int) (rest ref ref2 : Int), ref + (xs.length : Int) ≤ v + 1 → enterIx (rowsOf (some v) xs rest ref) = enterIx (rowsOf none xs rest ref2)
  | [], _, _, _, _ => rfl
  | x :: xs, rest, ref, ref2, h => by
    rw [List.length_cons] at h
    have ho : over (some v) ref = false := by
      simp [over]
      omega
    rw [rowsOf_cons, rowsOf_cons, enterIx_cons, enterIx_cons]
    have hw : wdOf (some v) x rest ref = wdOf none x rest ref2 := by
      unfold wdOf
      rw [ho]
      rfl
    rw [hw, enter_enough v xs _ _ (ref' (wdOf none x rest ref2) ref2) (by unfold ref'; split <;> omega)]
/-- without patience: one more seat, no fewer enter -/
theorem enter_zero : ∀ (xs : List Int) (rest : Int), ∀ a ∈ enterIx (rowsOf (some 0) xs rest 0), a ∈ enterIx (rowsOf (some 0) xs (rest + 1) 0)
  | [], _, a, h => h
  | x :: xs, rest, a, h => by
    rw [rowsOf_cons, enterIx_cons] at h ⊢
    by_cases h1 : x ≤ rest
    · have w1 : wdOf (some 0) x rest 0 = .enters := by
        unfold wdOf over
        simp [h1]
      have w2 : wdOf (some 0) x (rest + 1) 0 = .enters := by
        unfold wdOf over
        simp
        omega
      rw [w1] at h
      rw [w2]
      have e : rest' .enters x (rest + 1) = rest' .enters x rest + 1 := by
        show rest + 1 - x = rest - x + 1
        omega
      rw [e]
      rcases List.mem_append.mp h with h | h
      · exact List.mem_append_left _ h
      · obtain ⟨b, hb, rfl⟩ := List.mem_map.mp h
        exact List.mem_append_right _ (List.mem_map.mpr ⟨b, enter_zero xs _ b hb, rfl⟩)
    · have w1 : wdOf (some 0) x rest 0 = .large := by
        unfold wdOf over
        simp [h1]
      rw [w1, if_neg (fun z => nomatch z)] at h
      have e : enterIx (rowsOf (some 0) xs (rest' .large x rest) (ref' .large 0)) = [] := all_closed _ _ _ _ (by decide)
      rw [e] at h
      simp at h
/-- behind a place -/
theorem entering_drop (c : Option Int) {xs : List Int} {n : Nat} (r : Int) (h : n ≤ xs.length) : ((entering c xs r).filter fun a => decide ((n : Int) ≤ a)) = (enterIx (rowsOf c (xs.drop n) (restEnd c (xs.take n) r 0) (refEnd c (xs.take n) r 0))).map (· + (n : Int)) := by
  have hl : (rowsOf c (xs.take n) r 0).length = n := by rw [rowsOf_len, List.length_take]; omega
  have e : entering c xs r = enterIx (rowsOf c (xs.take n) r 0) ++ (enterIx (rowsOf c (xs.drop n) (restEnd c (xs.take n) r 0) (refEnd c (xs.take n) r 0))).map (· + (n : Int)) := by
    have e0 : entering c xs r = entering c (xs.take n ++ xs.drop n) r := by rw [List.take_append_drop]
    rw [e0]
    unfold entering
    rw [rowsOf_app, enterIx_app, hl]
  rw [e, List.filter_append]
  have h1 : ((enterIx (rowsOf c (xs.take n) r 0)).filter fun a => decide ((n : Int) ≤ a)) = [] := by
    rw [List.filter_eq_nil_iff]
    intro a ha
    have := enterIx_range _ a ha
    rw [hl] at this
    simp
    omega
  rw [h1, List.nil_append, List.filter_eq_self.mpr]
  intro a ha
  obtain ⟨b, hb, rfl⟩ := List.mem_map.mp ha
  have := enterIx_range _ b hb
  simp
  omega
/-- all sizes and the seats times f -/
theorem rows_scale (c : Option Int) (f : Int) (hf : 0 < f) : ∀ (xs : List Int) (rest ref : Int), enterIx (rowsOf c (xs.map (· * f)) (rest * f) ref) = enterIx (rowsOf c xs rest ref)
  | [], _, _ => rfl
  | x :: xs, rest, ref => by
    have hw : wdOf c (x * f) (rest * f) ref = wdOf c x rest ref := by
      unfold wdOf
      have : (x * f ≤ rest * f) ↔ x ≤ rest := Int.mul_le_mul_right hf
      simp only [this]
    rw [List.map_cons, rowsOf_cons, rowsOf_cons, enterIx_cons, enterIx_cons, hw]
    have hr : rest' (wdOf c x rest ref) (x * f) (rest * f) = rest' (wdOf c x rest ref) x rest * f := by
      unfold rest'
      split
      · rw [Int.sub_mul]
      · rfl
    rw [hr, rows_scale c f hf xs]
/-- the refusals ahead of a place -/
theorem restEnd_room (c : Option Int) {xs : List Int} {r : Int} (hx : Sizes xs) (hr : Room r) (n : Nat) : Room (restEnd c (xs.take n) r 0) := by
  have := rows_ok c (xs.take n) r 0 (fun x h => (hx.2 x (List.mem_of_mem_take h)).1) hr.1
  exact ⟨this.1, Int.le_trans this.2.1 hr.2⟩
theorem refEnd_pos (c : Option Int) : ∀ (xs : List Int) (rest ref : Int), ref ≤ refEnd c xs rest ref
  | [], _, _ => Int.le_refl _
  | x :: xs, rest, ref => by
    have := refEnd_pos c xs (rest' (wdOf c x rest ref) x rest) (ref' (wdOf c x rest ref) ref)
    have h2 : ref ≤ ref' (wdOf c x rest ref) ref := by unfold ref'; split <;> omega
    exact Int.le_trans h2 this
theorem refEnd_snoc (c : Option Int) : ∀ (xs : List Int) (y rest ref : Int), refEnd c (xs ++ [y]) rest ref = ref' (wdOf c y (restEnd c xs rest ref) (refEnd c xs rest ref)) (refEnd c xs rest ref)
  | [], _, _, _ => rfl
  | x :: xs, y, rest, ref => refEnd_snoc c xs y _ _
theorem row_at (c : Option Int) {xs : List Int} {i : Nat} (r : Int) (h : i < xs.length) : (rowsOf c xs r 0)[i]? = some (wdOf c xs[i] (restEnd c (xs.take i) r 0) (refEnd c (xs.take i) r 0), restEnd c (xs.take i) r 0) := by
  have e : rowsOf c xs r 0 = rowsOf c (xs.take i ++ xs[i] :: xs.drop (i + 1)) r 0 := by rw [← split_at h]
  have hl : (rowsOf c (xs.take i) r 0).length = i := by
    rw [rowsOf_len, List.length_take]
    omega
  rw [e, rowsOf_app, rowsOf_cons, List.getElem?_append_right (by omega), hl, Nat.sub_self]
  rfl
theorem sizes_drop {xs : List Int} (n : Nat) (h : Sizes xs) : Sizes (xs.drop n) := ⟨by
  have := h.1
  rw [List.length_drop]
  omega, fun x hx => h.2 x (List.mem_of_mem_drop hx)⟩
end ML

set_option Elab.async false
set_option maxRecDepth 10000
set_option linter.all false
set_option maxHeartbeats 1000000
/-! ML: a party that moves. -/
namespace ML
open PySem (Str)
/-- the places but i -/
def others (n i : Nat) : List Int := ((List.range n).filter fun j => !(j == i)).map fun j => ((j : Nat) : Int)
/-- i put at p among them -/
def orderOf (n i p : Nat) : List Int := (others n i).take p ++ [(i : Int)] ++ (others n i).drop p
def pick (xs order : List Int) : List Int := order.map fun a => (xs[a.toNat]?).getD 0
theorem others_mem {n i : Nat} {a : Int} (h : a ∈ others n i) : 0 ≤ a ∧ a < (n : Int) := by
  unfold others at h
  obtain ⟨j, hj, rfl⟩ := List.mem_map.mp h
  have := List.mem_range.mp (List.mem_filter.mp hj).1
  constructor <;> omega
theorem others_len (n i : Nat) : (others n i).length ≤ n := by
  unfold others
  rw [List.length_map]
  refine Nat.le_trans (List.length_filter_le _ _) ?_
  rw [List.length_range]
  exact Nat.le_refl _
theorem order_mem {n i p : Nat} (hi : i < n) {a : Int} (h : a ∈ orderOf n i p) : 0 ≤ a ∧ a < (n : Int) := by
  unfold orderOf at h
  rcases List.mem_append.mp h with h | h
  · rcases List.mem_append.mp h with h | h
    · exact others_mem (List.mem_of_mem_take h)
    · have e : a = (i : Int) := by simpa using h
      rw [e]
      constructor <;> omega
  · exact others_mem (List.mem_of_mem_drop h)
theorem order_len (n i p : Nat) : (orderOf n i p).length ≤ n + 1 := by
  have := others_len n i
  unfold orderOf
  rw [List.length_append, List.length_append, List.length_take, List.length_drop]
  simp only [List.length_cons, List.length_nil]
  omega
theorem others_len' {n i : Nat} (h : i < n) : (others n i).length + 1 = n := by
  have e : ∀ n : Nat, ((List.range n).filter fun j => !(j == i)).length + (if i < n then 1 else 0) = n := fun n => by
    induction n with
    | zero => rfl
    | succ n ih =>
      rw [List.range_succ, List.filter_append, List.length_append]
      by_cases h1 : n = i
      · subst h1
        rw [if_neg (Nat.lt_irrefl _)] at ih
        rw [if_pos (Nat.lt_succ_self _)]
        simp at ih ⊢
        omega
      · have e1 : ([n].filter fun j => !(j == i)).length = 1 := by simp [h1]
        rw [e1]
        by_cases h2 : i < n
        · rw [if_pos h2] at ih
          rw [if_pos (by omega)]
          omega
        · rw [if_neg h2] at ih
          rw [if_neg (by omega)]
          omega
  have := e n
  rw [if_pos h] at this
  unfold others
  rw [List.length_map]
  exact this
theorem order_len' {n i p : Nat} (h : i < n) (hp : p < n) : (orderOf n i p).length = n := by
  have := others_len' h
  unfold orderOf
  rw [List.length_append, List.length_append, List.length_take, List.length_drop]
  simp only [List.length_cons, List.length_nil]
  omega
theorem sizes_pick {xs order : List Int} (hx : Sizes xs) (ho : ∀ a ∈ order, 0 ≤ a ∧ a < (xs.length : Int)) (hl : order.length ≤ 16) : Sizes (pick xs order) := by
  unfold pick
  refine ⟨by rw [List.length_map]; exact hl, fun y hy => ?_⟩
  obtain ⟨a, ha, rfl⟩ := List.mem_map.mp hy
  have h1 := ho a ha
  have h2 : a.toNat < xs.length := by omega
  rw [List.getElem?_eq_getElem h2]
  exact hx.2 _ (List.getElem_mem h2)
theorem others_map (n i : Nat) : (((List.range n).filter fun j => !(j == i)).map fun j => PV.int ((j : Nat) : Int)) = (others n i).map PV.int := by
  unfold others
  rw [List.map_map]
  rfl
theorem pick_len (xs o : List Int) : (pick xs o).length = o.length := by
  unfold pick
  rw [List.length_map]
theorem fin_drop1 {kk : Bool} {v : PV} {s : Store} {o : Obj} (h : noloc v = true) : fin kk s.length v (s ++ [o]) = .ok v s := by
  rw [fin_pure h]
  simp
theorem fin_drop2 {kk : Bool} {v : PV} {s : Store} {o o' : Obj} (h : noloc v = true) : fin kk (s.length + 1) v (s ++ [o, o']) = .ok v (s ++ [o]) := by
  have e := fin_drop1 (kk := kk) (s := s ++ [o]) (o := o') h
  rw [List.length_append, List.append_assoc] at e
  exact e
def sortL (xs : List Int) : List Int := sortI xs
section
variable {T : Nat → Option Def} {k : Nat} {s : Store}
theorem ev_after_moving {xs : List Int} {r : Int} {c : Option Int} {i p : Nat} (h : Sub cl_after_moving T) (hk : 5 ≤ k) (hx : Sizes xs) (hr : Room r) (hc : Calm c) (hi : i < xs.length) (hp : p < xs.length) :
    evF T k 50 [ti xs, .int r, .int i, .int p, oi c] s = .ok (.tup [ti (minus (entering c xs r) (sortL (pick (orderOf xs.length i p) (entering c (pick xs (orderOf xs.length i p)) r)))), ti (minus (sortL (pick (orderOf xs.length i p) (entering c (pick xs (orderOf xs.length i p)) r))) (entering c xs r))]) (s ++ [Obj.lst ((orderOf xs.length i p).map PV.int)]) := by
  have hl : xs.length < 50000 := by have := hx.1; omega
  have hx16 := hx.1
  have hol := order_len' (n := xs.length) hi hp
  have hom : ∀ a ∈ orderOf xs.length i p, 0 ≤ a ∧ a < (xs.length : Int) := fun a ha => order_mem hi ha
  have hpk := sizes_pick hx hom (by omega)
  have hpl : (pick xs (orderOf xs.length i p)).length < 50000 := by have := hpk.1; omega
  have hq : (decide ((0 : Int) ≤ (p : Int)) && decide ((p : Int) ≤ (xs.length : Int) - 1)) = true := by
    simp
    omega
  have g1 : ∀ s, evF T (k - 1) 0 [.int (p : Int), .int 0, .int ((xs.length : Int) - 1)] s = .ok (.bl true) s := fun s => by
    rw [ev_is_from_int (h.mono (by decide)) (by omega), hq]
  have hrg : ∀ s : Store, rngR 0 (.int (xs.length : Int)) s = .ok ((List.range xs.length).map fun (j : Nat) => PV.int (0 + (j : Int))) s := fun s => by
    rw [rngR_int 0 _ s rfl (small62_of ⟨by omega, by omega⟩), Int.sub_zero, Int.toNat_natCast]
  refine ev_ret (h 50 (by decide)) (by omega) rfl ?_
  simp [d_after_moving, ev_need_house (h.mono (by decide)) (show 4 ≤ k - 1 by omega) hx hr hc, ev_need_index (h.mono (by decide)) (show 2 ≤ k - 1 by omega) hi, op_sub, g1, hrg]
  have hne : ∀ j : Nat, (!((j : Int) == (i : Int))) = !(j == i) := fun j => by
    by_cases e : j = i
    · simp [e]
    · have h1 : ((j : Int) == (i : Int)) = false := by
        rw [beq_eq_false_iff_ne]
        omega
      have h2 : (j == i) = false := by
        rw [beq_eq_false_iff_ne]
        exact e
      rw [h1, h2]
  rw [compR_map (fun j : Nat => PV.int (j : Int)) (List.range xs.length) (bigOf (by rw [List.length_range]; omega)) (fun _ => rfl), cpM_on (fun j : Nat => !(j == i)) (fun j : Nat => PV.int (j : Int)) _ fun j hj => ⟨by simp [oc_ne, hne], fun _ => by simp⟩, others_map]
  have hin := insS_last s ((others xs.length i).map PV.int) p (.int (i : Int)) ⟨by rw [List.length_map]; exact big_lt (by have := others_len xs.length i; omega), by omega⟩
  have hord : ((others xs.length i).map PV.int).take p ++ [PV.int (i : Int)] ++ ((others xs.length i).map PV.int).drop p = (orderOf xs.length i p).map PV.int := by
    unfold orderOf
    rw [List.map_append, List.map_append, List.map_take, List.map_drop]
    rfl
  rw [hord] at hin
  generalize hO : orderOf xs.length i p = O at *
  simp [hin]
  have hat : (s ++ [Obj.lst (O.map PV.int)])[s.length]? = some (Obj.lst (O.map PV.int)) := by simp
  rw [cqR_on (fun _ => true) (fun a => PV.int ((xs[a.toNat]?).getD 0)) hat (fun _ => rfl) (by show O.length < 5000; omega) fun a ha => ⟨rfl, fun _ => by simp [getN_int xs a (hom a ha)]⟩]
  have e1 : (O.filter fun _ => true).map (fun a => PV.int ((xs[a.toNat]?).getD 0)) = (pick xs O).map PV.int := by
    rw [List.filter_eq_self.mpr (fun _ _ => rfl)]
    unfold pick
    rw [List.map_map]
    rfl
  rw [e1]
  simp [ev_entering (h.mono (by decide)) (show 2 ≤ k - 1 by omega) hpl, ev_entering (h.mono (by decide)) (show 2 ≤ k - 1 by omega) hl]
  have hpo : (pick xs O).length = O.length := by
    unfold pick
    rw [List.length_map]
  have hEl := ent_len (c := c) (r := r) hpl
  have hEp := entering_places c (pick xs O) r
  rw [hpo] at hEp
  have hE16 : (entering c (pick xs O) r).length ≤ 16 := by
    have := places_len (n := 0) (c := c) (xs := pick xs O) (r := r)
    have := hpk.1
    omega
  rw [comp_mp (fun a => (O[a.toNat]?).getD 0) hEl fun a ha => by simp [getN_int O a (hEp a ha)]]
  have e2 : (entering c (pick xs O) r).map (fun a => (O[a.toNat]?).getD 0) = pick O (entering c (pick xs O) r) := rfl
  rw [e2]
  have hso : ∀ s : Store, opI s .sorted [.lst ((pick O (entering c (pick xs O) r)).map PV.int)] = some (.lst ((sortL (pick O (entering c (pick xs O) r))).map PV.int)) := fun s => by
    show oSorted [.lst ((pick O (entering c (pick xs O) r)).map PV.int)] = _
    unfold oSorted
    simp only [intsOf_map]
    show sort64 (pick O (entering c (pick xs O) r)) = _
    unfold sort64
    rw [if_pos (by rw [pick_len]; omega)]
    rfl
  have hsl : (sortL (pick O (entering c (pick xs O) r))).length < 50000 := by
    unfold sortL
    rw [sortI_len, pick_len]
    omega
  simp [hso, ev_changes (h.mono (by decide)) (show 1 ≤ k - 1 by omega) (ent_len (c := c) (r := r) hl) hsl]
end
end ML

set_option Elab.async false
set_option maxRecDepth 10000
set_option linter.all false
set_option maxHeartbeats 1000000
/-! ML: a party that stands further ahead; a smaller party. -/
namespace ML
open PySem (Str)
theorem ent_in {c : Option Int} {xs : List Int} {i : Nat} {r : Int} (h : i < xs.length) (hw : wdOf c xs[i] (restEnd c (xs.take i) r 0) (refEnd c (xs.take i) r 0) = .enters) : (i : Int) ∈ entering c xs r := by
  rw [entering_at c r h, if_pos hw]
  exact List.mem_append_right _ (List.mem_append_left _ List.mem_cons_self)
theorem ent_word' {c : Option Int} {xs : List Int} {i : Nat} {r : Int} (h : i < xs.length) (hm : (i : Int) ∈ entering c xs r) : wdOf c xs[i] (restEnd c (xs.take i) r 0) (refEnd c (xs.take i) r 0) = .enters := by
  rw [entering_at c r h] at hm
  have hl : (rowsOf c (xs.take i) r 0).length = i := by
    rw [rowsOf_len, List.length_take]
    omega
  rcases List.mem_append.mp hm with hm | hm
  · have := enterIx_range _ _ hm
    rw [hl] at this
    omega
  · rcases List.mem_append.mp hm with hm | hm
    · by_cases hw : wdOf c xs[i] (restEnd c (xs.take i) r 0) (refEnd c (xs.take i) r 0) = .enters
      · exact hw
      · rw [if_neg hw] at hm
        simp at hm
    · obtain ⟨b, hb, e⟩ := List.mem_map.mp hm
      have := enterIx_range _ b hb
      omega
theorem restEnd_app' (c : Option Int) : ∀ (xs ys : List Int) (rest ref : Int), restEnd c (xs ++ ys) rest ref = restEnd c ys (restEnd c xs rest ref) (refEnd c xs rest ref)
  | [], _, _, _ => rfl
  | x :: xs, ys, rest, ref => restEnd_app' c xs ys _ _
theorem refEnd_app' (c : Option Int) : ∀ (xs ys : List Int) (rest ref : Int), refEnd c (xs ++ ys) rest ref = refEnd c ys (restEnd c xs rest ref) (refEnd c xs rest ref)
  | [], _, _, _ => rfl
  | x :: xs, ys, rest, ref => refEnd_app' c xs ys _ _
/-- ahead there are no fewer seats and no more refusals -/
theorem ahead (c : Option Int) {xs : List Int} {r : Int} (hx : ∀ x ∈ xs, 1 ≤ x) (hr : 0 ≤ r) {p i : Nat} (h : p ≤ i) : restEnd c (xs.take i) r 0 ≤ restEnd c (xs.take p) r 0 ∧ refEnd c (xs.take p) r 0 ≤ refEnd c (xs.take i) r 0 := by
  have e : xs.take i = xs.take p ++ (xs.drop p).take (i - p) := by
    have := List.take_add (l := xs) (i := p) (j := i - p)
    rw [show p + (i - p) = i by omega] at this
    exact this
  rw [e, restEnd_app', refEnd_app']
  have h1 := rows_ok c (xs.take p) r 0 (fun x hxx => hx x (List.mem_of_mem_take hxx)) hr
  have h2 := rows_ok c ((xs.drop p).take (i - p)) (restEnd c (xs.take p) r 0) (refEnd c (xs.take p) r 0) (fun x hxx => hx x (List.mem_of_mem_drop (List.mem_of_mem_take hxx))) h1.1
  exact ⟨h2.2.1, refEnd_pos c _ _ _⟩
/-- a party that enters would enter further ahead, and with a smaller size -/
theorem fits_ahead {c : Option Int} {xs : List Int} {r : Int} (hx : ∀ x ∈ xs, 1 ≤ x) (hr : 0 ≤ r) {p i : Nat} (h : p ≤ i) (hi : i < xs.length) (hm : (i : Int) ∈ entering c xs r) {y : Int} (hy : y ≤ xs[i]) : wdOf c y (restEnd c (xs.take p) r 0) (refEnd c (xs.take p) r 0) = .enters := by
  have hw := ent_word' hi hm
  obtain ⟨a1, a2⟩ := ahead c hx hr h
  unfold wdOf at hw ⊢
  split at hw
  · cases hw
  · rename_i ho
    split at hw
    · rename_i hle
      have ho2 : over c (refEnd c (xs.take p) r 0) = false := over_mono a2 (by simpa using ho)
      rw [ho2, if_neg Bool.false_ne_true, if_pos (by omega)]
    · cases hw
/-- the row with the party i put at p -/
def moved (xs : List Int) (i p : Nat) (y : Int) : List Int := xs.take p ++ [y] ++ (xs.drop p).take (i - p) ++ xs.drop (i + 1)
theorem moved_len {xs : List Int} {i p : Nat} {y : Int} (h : p ≤ i) (hi : i < xs.length) : (moved xs i p y).length = xs.length := by
  unfold moved
  rw [List.length_append, List.length_append, List.length_append, List.length_take, List.length_take, List.length_drop, List.length_drop]
  simp only [List.length_cons, List.length_nil]
  omega
theorem moved_sizes {xs : List Int} {i p : Nat} {y : Int} (hx : Sizes xs) (h : p ≤ i) (hi : i < xs.length) (hy : 1 ≤ y ∧ y ≤ 50) : Sizes (moved xs i p y) := by
  refine ⟨by rw [moved_len h hi]; exact hx.1, fun x hxx => ?_⟩
  unfold moved at hxx
  rcases List.mem_append.mp hxx with z | z
  · rcases List.mem_append.mp z with z | z
    · rcases List.mem_append.mp z with z | z
      · exact hx.2 x (List.mem_of_mem_take z)
      · have : x = y := by simpa using z
        rw [this]
        exact hy
    · exact hx.2 x (List.mem_of_mem_drop (List.mem_of_mem_take z))
  · exact hx.2 x (List.mem_of_mem_drop z)
theorem moved_take {xs : List Int} {i p : Nat} {y : Int} (h : p < xs.length) : (moved xs i p y).take p = xs.take p := by
  unfold moved
  rw [List.append_assoc, List.append_assoc, List.take_append_of_le_length (by rw [List.length_take]; omega), List.take_of_length_le (by rw [List.length_take]; omega)]
theorem moved_at {xs : List Int} {i p : Nat} {y : Int} (h : p < xs.length) : (moved xs i p y)[p]? = some y := by
  unfold moved
  rw [List.append_assoc, List.append_assoc, List.getElem?_append_right (by rw [List.length_take]; omega)]
  have e : p - (xs.take p).length = 0 := by rw [List.length_take]; omega
  rw [e]
  rfl
/-- the moved party enters at its place -/
theorem moved_enters {c : Option Int} {xs : List Int} {r : Int} (hx : ∀ x ∈ xs, 1 ≤ x) (hr : 0 ≤ r) {p i : Nat} (h : p ≤ i) (hi : i < xs.length) (hm : (i : Int) ∈ entering c xs r) {y : Int} (hy : y ≤ xs[i]) : (p : Int) ∈ entering c (moved xs i p y) r := by
  have hl : p < (moved xs i p y).length := by rw [moved_len h hi]; omega
  refine ent_in hl ?_
  have e : (moved xs i p y)[p] = y := by
    have := moved_at (xs := xs) (i := i) (p := p) (y := y) (by omega)
    rw [List.getElem?_eq_getElem hl] at this
    exact Option.some.inj this
  rw [e, moved_take (by omega)]
  exact fits_ahead hx hr h hi hm hy
theorem moved_pre {c : Option Int} {xs : List Int} {r : Int} {p i : Nat} {y : Int} (h : p < xs.length) : ((entering c (moved xs i p y) r).filter fun a => decide (a < (p : Int))) = (entering c xs r).filter fun a => decide (a < (p : Int)) := by
  rw [← entering_take, ← entering_take, moved_take h]
theorem mem_insI {x y : Int} : ∀ {r : List Int}, y ∈ insI x r ↔ y = x ∨ y ∈ r
  | [] => by simp [insI]
  | z :: r => by
    unfold insI
    split
    · simp
    · have := mem_insI (x := x) (y := y) (r := r)
      simp only [List.mem_cons, this]
      constructor
      · rintro (h | h | h)
        · exact .inr (.inl h)
        · exact .inl h
        · exact .inr (.inr h)
      · rintro (h | h | h)
        · exact .inr (.inl h)
        · exact .inl h
        · exact .inr (.inr h)
theorem mem_sortL {y : Int} : ∀ {r : List Int}, y ∈ sortL r ↔ y ∈ r
  | [] => by simp [sortL, sortI]
  | x :: r => by
    have := mem_sortL (y := y) (r := r)
    unfold sortL at this ⊢
    show y ∈ insI x (sortI r) ↔ _
    rw [mem_insI, this, List.mem_cons]
theorem others_at {n i j : Nat} (h : j < i) (hi : i < n) : (others n i)[j]? = some (j : Int) := by
  have e : others n i = ((List.range i).map fun (j : Nat) => (j : Int)) ++ (((List.range' i (n - i)).filter fun j => !(j == i)).map fun (j : Nat) => (j : Int)) := by
    have er : List.range n = List.range i ++ List.range' i (n - i) := by
      have e0 := List.range'_append_1 (s := 0) (m := i) (n := n - i)
      rw [Nat.zero_add, show i + (n - i) = n by omega] at e0
      rw [List.range_eq_range', List.range_eq_range', e0]
    unfold others
    rw [er, List.filter_append, List.map_append]
    congr 2
    rw [List.filter_eq_self.mpr]
    intro a ha
    have := List.mem_range.mp ha
    simp
    omega
  rw [e, List.getElem?_append_left (by simp; exact h), List.getElem?_map, List.getElem?_range h]
  rfl
theorem order_low {n i p a : Nat} (h : p ≤ i) (hi : i < n) (ha : a < p) : (orderOf n i p)[a]? = some (a : Int) := by
  have hl := others_len' hi
  unfold orderOf
  rw [List.append_assoc, List.getElem?_append_left (by rw [List.length_take]; omega), List.getElem?_take_of_lt ha]
  exact others_at (by omega) hi
theorem order_at {n i p : Nat} (h : p ≤ i) (hi : i < n) : (orderOf n i p)[p]? = some (i : Int) := by
  have hl := others_len' hi
  unfold orderOf
  rw [List.append_assoc, List.getElem?_append_right (by rw [List.length_take]; omega)]
  have e : p - ((others n i).take p).length = 0 := by rw [List.length_take]; omega
  rw [e]
  rfl
theorem flt_ge (P : Nat → Bool) : ∀ (m lo k : Nat) (x : Nat), ((List.range' lo m).filter P)[k]? = some x → lo + k ≤ x
  | 0, lo, k, x, h => by simp at h
  | m + 1, lo, k, x, h => by
    rw [List.range'_succ, List.filter_cons] at h
    split at h
    · cases k with
      | zero =>
        have : lo = x := Option.some.inj h
        omega
      | succ k =>
        have := flt_ge P m (lo + 1) k x h
        omega
    · have := flt_ge P m (lo + 1) k x h
      omega
theorem others_ge {n i k : Nat} {x : Int} (h : (others n i)[k]? = some x) : (k : Int) ≤ x := by
  unfold others at h
  rw [List.getElem?_map] at h
  cases e : ((List.range n).filter fun j => !(j == i))[k]? with
  | none => rw [e] at h; cases h
  | some y =>
    rw [e] at h
    have h2 : ((y : Nat) : Int) = x := Option.some.inj h
    rw [List.range_eq_range'] at e
    have := flt_ge _ n 0 k y e
    omega
/-- behind p nothing below p -/
theorem order_high {n i p a : Nat} (h : p ≤ i) (hi : i < n) (ha : p ≤ a) {v : Int} (hv : (orderOf n i p)[a]? = some v) : (p : Int) ≤ v := by
  have hl := others_len' hi
  unfold orderOf at hv
  rw [List.append_assoc, List.getElem?_append_right (by rw [List.length_take]; omega)] at hv
  have e : ((others n i).take p).length = p := by rw [List.length_take]; omega
  rw [e] at hv
  rcases Nat.eq_or_lt_of_le ha with e2 | e2
  · rw [← e2, Nat.sub_self] at hv
    have : (i : Int) = v := Option.some.inj hv
    omega
  · rw [List.getElem?_append_right (by simp only [List.length_cons, List.length_nil]; omega)] at hv
    have hv2 := List.mem_of_getElem? hv
    have hge : ∀ x ∈ (others n i).drop p, (p : Int) ≤ x := by
      intro x hx
      obtain ⟨j, hj⟩ := List.mem_iff_getElem?.mp hx
      rw [List.getElem?_drop] at hj
      have := others_ge hj
      omega
    exact hge v hv2
/-- what is told of a move ahead -/
theorem move_told {c : Option Int} {xs : List Int} {r : Int} {p i : Nat} (hx : ∀ x ∈ xs, 1 ≤ x) (hr : 0 ≤ r) (h : p < i) (hi : i < xs.length) (hm : (i : Int) ∈ entering c xs r) {M : List Int} (hM : M = moved xs i p xs[i]) {N : List Int} (hN : N = sortL (pick (orderOf xs.length i p) (entering c M r))) :
    (i : Int) ∉ minus (entering c xs r) N ∧ (∀ a ∈ minus (entering c xs r) N, (p : Int) ≤ a) ∧ ∀ a ∈ minus N (entering c xs r), (p : Int) ≤ a := by
  subst hM
  subst hN
  have hp := moved_enters (c := c) hx hr (Nat.le_of_lt h) hi hm (Int.le_refl xs[i])
  have hpre := moved_pre (c := c) (r := r) (xs := xs) (i := i) (y := xs[i]) (p := p) (by omega)
  have inN : ∀ (a : Nat) (v : Int), (a : Int) ∈ entering c (moved xs i p xs[i]) r → (orderOf xs.length i p)[a]? = some v → v ∈ sortL (pick (orderOf xs.length i p) (entering c (moved xs i p xs[i]) r)) := fun a v ha hv => by
    rw [mem_sortL]
    unfold pick
    refine List.mem_map.mpr ⟨_, ha, ?_⟩
    rw [Int.toNat_natCast, hv]
    rfl
  refine ⟨fun z => ?_, fun a ha => ?_, fun a ha => ?_⟩
  · have := (List.mem_filter.mp z).2
    rw [has_mem (inN p _ hp (order_at (Nat.le_of_lt h) hi))] at this
    cases this
  · obtain ⟨h1, h2⟩ := List.mem_filter.mp ha
    rcases Int.lt_or_le a p with hlt | hge
    · have ha0 := (entering_places c xs r a h1).1
      obtain ⟨b, rfl⟩ : ∃ b : Nat, a = (b : Int) := ⟨a.toNat, by omega⟩
      have hin : (b : Int) ∈ (entering c xs r).filter fun a => decide (a < (p : Int)) := List.mem_filter.mpr ⟨h1, by simpa using hlt⟩
      rw [← hpre] at hin
      rw [has_mem (inN b _ (List.mem_filter.mp hin).1 (order_low (Nat.le_of_lt h) hi (by omega)))] at h2
      cases h2
    · exact hge
  · obtain ⟨h1, h2⟩ := List.mem_filter.mp ha
    rw [mem_sortL] at h1
    obtain ⟨t, ht, rfl⟩ := List.mem_map.mp h1
    have ht0 := entering_places c _ r t ht
    rw [moved_len (Nat.le_of_lt h) hi] at ht0
    obtain ⟨b, rfl⟩ : ∃ b : Nat, t = (b : Int) := ⟨t.toNat, by omega⟩
    rw [Int.toNat_natCast] at h2 ⊢
    have hol := order_len' (n := xs.length) hi (show p < xs.length by omega)
    have hv : (orderOf xs.length i p)[b]? = some ((orderOf xs.length i p)[b]'(by rw [hol]; omega)) := List.getElem?_eq_getElem _
    rcases Nat.lt_or_ge b p with hb | hb
    · have e := order_low (n := xs.length) (Nat.le_of_lt h) hi hb
      rw [e] at h2 ⊢
      have hin : (b : Int) ∈ (entering c (moved xs i p xs[i]) r).filter fun a => decide (a < (p : Int)) := List.mem_filter.mpr ⟨ht, by simpa using hb⟩
      rw [hpre] at hin
      have e2 : has (entering c xs r) ((some (b : Int)).getD 0) = true := has_mem (List.mem_filter.mp hin).1
      rw [e2] at h2
      cases h2
    · rw [hv]
      exact order_high (Nat.le_of_lt h) hi hb hv
theorem pick_others {xs : List Int} {i : Nat} (hi : i < xs.length) : pick xs (others xs.length i) = without i xs := by
  have er : List.range xs.length = List.range i ++ (i :: List.range' (i + 1) (xs.length - (i + 1))) := by
    have e0 := List.range'_append_1 (s := 0) (m := i) (n := xs.length - i)
    rw [Nat.zero_add, show i + (xs.length - i) = xs.length by omega] at e0
    rw [List.range_eq_range', List.range_eq_range', ← e0]
    congr 1
    rw [show xs.length - i = xs.length - (i + 1) + 1 by omega, List.range'_succ]
  have f1 : ((List.range i).filter fun j => !(j == i)) = List.range i := by
    rw [List.filter_eq_self.mpr]
    intro a ha
    have := List.mem_range.mp ha
    simp
    omega
  have f2 : ((List.range' (i + 1) (xs.length - (i + 1))).filter fun j => !(j == i)) = List.range' (i + 1) (xs.length - (i + 1)) := by
    rw [List.filter_eq_self.mpr]
    intro a ha
    have := (List.mem_range'_1.mp ha).1
    simp
    omega
  unfold pick others
  rw [er, List.filter_append, f1, List.filter_cons, if_neg (by simp), f2, List.map_append, List.map_append, List.map_map, List.map_map]
  unfold without
  congr 1
  · apply List.ext_getElem?
    intro k
    rw [List.getElem?_map]
    rcases Nat.lt_or_ge k i with hk | hk
    · rw [List.getElem?_range hk, List.getElem?_take_of_lt hk, List.getElem?_eq_getElem (by omega)]
      simp [List.getElem?_eq_getElem (show k < xs.length by omega)]
    · rw [List.getElem?_eq_none (by rw [List.length_range]; exact hk), List.getElem?_eq_none (by rw [List.length_take]; omega)]
      rfl
  · apply List.ext_getElem?
    intro k
    rw [List.getElem?_map, List.getElem?_drop]
    rcases Nat.lt_or_ge (i + 1 + k) xs.length with hk | hk
    · rw [List.getElem?_range' (by omega)]
      have en : ((i : Int) + 1 + (k : Int)).toNat = i + 1 + k := by omega
      simp [List.getElem?_eq_getElem hk, en]
    · rw [List.getElem?_eq_none (by rw [List.length_range']; omega), List.getElem?_eq_none hk]
      rfl
theorem pick_order {xs : List Int} {i p : Nat} (h : p ≤ i) (hi : i < xs.length) : pick xs (orderOf xs.length i p) = moved xs i p xs[i] := by
  have e := pick_others hi
  have e1 : pick xs (orderOf xs.length i p) = (pick xs (others xs.length i)).take p ++ [(xs[i]?).getD 0] ++ (pick xs (others xs.length i)).drop p := by
    unfold orderOf pick
    rw [List.map_append, List.map_append, List.map_take, List.map_drop]
    rfl
  rw [e1, e, List.getElem?_eq_getElem hi]
  unfold moved without
  have hl : (xs.take i).length = i := by rw [List.length_take]; omega
  rw [List.take_append_of_le_length (by omega), List.take_take, Nat.min_eq_left h, List.drop_append_of_le_length (by omega), List.drop_take]
  rw [List.append_assoc, List.append_assoc, List.append_assoc]
  rfl
end ML

set_option Elab.async false
set_option maxRecDepth 10000
set_option linter.all false
set_option maxHeartbeats 1000000
/-! ML: several evenings. -/
namespace ML
open PySem (Str)
/-! ### those who enter and those who do not -/
def inOf {α : Type} (w : List α) (ps : List (Wd × Int)) : List α := ((w.zip ps).filter fun p => decide (p.2.1 = .enters)).map (·.1)
def outOf {α : Type} (w : List α) (ps : List (Wd × Int)) : List α := ((w.zip ps).filter fun p => !decide (p.2.1 = .enters)).map (·.1)
theorem inOf_cons {α : Type} (x : α) (w : List α) (p : Wd × Int) (ps : List (Wd × Int)) : inOf (x :: w) (p :: ps) = if p.1 = .enters then x :: inOf w ps else inOf w ps := by
  unfold inOf
  rw [List.zip_cons_cons, List.filter_cons]
  by_cases h : p.1 = .enters <;> simp [h]
theorem outOf_cons {α : Type} (x : α) (w : List α) (p : Wd × Int) (ps : List (Wd × Int)) : outOf (x :: w) (p :: ps) = if p.1 = .enters then outOf w ps else x :: outOf w ps := by
  unfold outOf
  rw [List.zip_cons_cons, List.filter_cons]
  by_cases h : p.1 = .enters <;> simp [h]
theorem inOf_nil {α : Type} (ps : List (Wd × Int)) : inOf ([] : List α) ps = [] := by simp [inOf]
theorem outOf_nil {α : Type} (ps : List (Wd × Int)) : outOf ([] : List α) ps = [] := by simp [outOf]
theorem pick_up (x : Int) (w E : List Int) (h : ∀ a ∈ E, 0 ≤ a) : pick (x :: w) (E.map (· + 1)) = pick w E := by
  unfold pick
  rw [List.map_map]
  apply List.map_congr_left
  intro a ha
  have := h a ha
  simp only [Function.comp]
  rw [show (a + 1).toNat = a.toNat + 1 by omega]
  rfl
theorem pick_in : ∀ (w : List Int) (ps : List (Wd × Int)), w.length = ps.length → pick w (enterIx ps) = inOf w ps
  | [], [], _ => rfl
  | [], _ :: _, h => by cases h
  | _ :: _, [], h => by cases h
  | x :: w, p :: ps, h => by
    have ih := pick_in w ps (by simpa using h)
    have hp : ∀ a ∈ enterIx ps, 0 ≤ a := fun a ha => (enterIx_range ps a ha).1
    rw [enterIx_cons, inOf_cons]
    have e1 : pick (x :: w) ((if p.1 = .enters then [0] else []) ++ (enterIx ps).map (· + 1)) = pick (x :: w) (if p.1 = .enters then [0] else []) ++ pick (x :: w) ((enterIx ps).map (· + 1)) := by
      unfold pick
      rw [List.map_append]
    rw [e1, pick_up x w _ hp, ih]
    by_cases hh : p.1 = .enters
    · rw [if_pos hh, if_pos hh]
      rfl
    · rw [if_neg hh, if_neg hh]
      rfl
theorem has_up {xs : List Int} {k j : Int} : has (xs.map (· + k)) (j + k) = has xs j := by
  by_cases h : j ∈ xs
  · rw [has_mem h, has_mem (List.mem_map.mpr ⟨j, h, rfl⟩)]
  · rw [has_not h, has_not]
    intro z
    obtain ⟨a, ha, e⟩ := List.mem_map.mp z
    have : a = j := by omega
    exact h (this ▸ ha)
theorem left_out : ∀ (w : List Int) (ps : List (Wd × Int)) (n : Nat), w.length = ps.length → (((w.zipIdx n).filter fun p => !has ((enterIx ps).map (· + (n : Int))) ((p.2 : Nat) : Int)).map (·.1)) = outOf w ps
  | [], [], _, _ => rfl
  | [], _ :: _, _, h => by cases h
  | _ :: _, [], _, h => by cases h
  | x :: w, p :: ps, n, h => by
    have ih := left_out w ps (n + 1) (by simpa using h)
    have hp := enterIx_range ps
    have e0 : (enterIx (p :: ps)).map (· + (n : Int)) = (if p.1 = .enters then [(n : Int)] else []) ++ (enterIx ps).map (· + ((n + 1 : Nat) : Int)) := by
      rw [enterIx_cons, List.map_append, List.map_map]
      congr 1
      · split <;> simp
      · apply List.map_congr_left
        intro a _
        simp only [Function.comp]
        omega
    have e1 : has ((enterIx (p :: ps)).map (· + (n : Int))) (n : Int) = decide (p.1 = .enters) := by
      rw [e0]
      by_cases hh : p.1 = .enters
      · rw [if_pos hh, decide_eq_true hh, has_mem (by simp)]
      · rw [if_neg hh, decide_eq_false hh, has_not]
        intro z
        obtain ⟨a, ha, e⟩ := List.mem_map.mp z
        have := (hp a ha).1
        omega
    have e2 : ∀ q ∈ w.zipIdx (n + 1), has ((enterIx (p :: ps)).map (· + (n : Int))) ((q.2 : Nat) : Int) = has ((enterIx ps).map (· + ((n + 1 : Nat) : Int))) ((q.2 : Nat) : Int) := fun q hq => by
      have hm := (List.mem_zipIdx (x := q.1) (i := q.2) (k := n + 1) (by simpa using hq)).1
      rw [e0]
      unfold has
      rw [List.contains_append]
      have : (if p.1 = .enters then [(n : Int)] else []).contains ((q.2 : Nat) : Int) = false := by
        split
        · simp
          omega
        · rfl
      rw [this, Bool.false_or]
    rw [List.zipIdx_cons, List.filter_cons, outOf_cons]
    simp only
    rw [e1]
    have e3 : ((w.zipIdx (n + 1)).filter fun q => !has ((enterIx (p :: ps)).map (· + (n : Int))) ((q.2 : Nat) : Int)) = (w.zipIdx (n + 1)).filter fun q => !has ((enterIx ps).map (· + ((n + 1 : Nat) : Int))) ((q.2 : Nat) : Int) := by
      apply List.filter_congr
      intro q hq
      rw [e2 q hq]
    rw [e3]
    by_cases hh : p.1 = .enters
    · rw [if_pos hh, decide_eq_true hh]
      exact ih
    · rw [if_neg hh, decide_eq_false hh]
      simp only [Bool.not_false, if_pos, List.map_cons]
      rw [ih]
theorem inOf_map {α β : Type} (f : α → β) : ∀ (w : List α) (ps : List (Wd × Int)), (inOf w ps).map f = inOf (w.map f) ps
  | [], ps => by rw [List.map_nil, inOf_nil, inOf_nil]; rfl
  | x :: w, [] => by simp [inOf]
  | x :: w, p :: ps => by
    rw [inOf_cons, List.map_cons, inOf_cons, ← inOf_map f w ps]
    split <;> rfl
theorem outOf_map {α β : Type} (f : α → β) : ∀ (w : List α) (ps : List (Wd × Int)), (outOf w ps).map f = outOf (w.map f) ps
  | [], ps => by rw [List.map_nil, outOf_nil, outOf_nil]; rfl
  | x :: w, [] => by simp [outOf]
  | x :: w, p :: ps => by
    rw [outOf_cons, List.map_cons, outOf_cons, ← outOf_map f w ps]
    split <;> rfl
theorem out_mem {α : Type} {w : List α} {ps : List (Wd × Int)} {a : α} (h : a ∈ outOf w ps) : a ∈ w := by
  unfold outOf at h
  obtain ⟨p, hp, rfl⟩ := List.mem_map.mp h
  exact (List.of_mem_zip (List.mem_filter.mp hp).1).1
theorem in_mem {α : Type} {w : List α} {ps : List (Wd × Int)} {a : α} (h : a ∈ inOf w ps) : a ∈ w := by
  unfold inOf at h
  obtain ⟨p, hp, rfl⟩ := List.mem_map.mp h
  exact (List.of_mem_zip (List.mem_filter.mp hp).1).1
theorem out_sub {α : Type} : ∀ (w : List α) (ps : List (Wd × Int)), (outOf w ps).Sublist w
  | [], ps => by rw [outOf_nil]; exact List.Sublist.refl _
  | x :: w, [] => by simp [outOf]
  | x :: w, p :: ps => by
    rw [outOf_cons]
    split
    · exact (out_sub w ps).cons x
    · exact (out_sub w ps).cons₂ x
/-- nobody twice: who is not in the set is out -/
theorem out_not : ∀ (w : List Int) (ps : List (Wd × Int)), w.length = ps.length → w.Nodup → (w.filter fun a => !has (inOf w ps) a) = outOf w ps
  | [], [], _, _ => rfl
  | [], _ :: _, h, _ => by cases h
  | _ :: _, [], h, _ => by cases h
  | x :: w, p :: ps, h, hn => by
    have hw := (List.nodup_cons.mp hn)
    have ih := out_not w ps (by simpa using h) hw.2
    have hin : x ∉ inOf w ps := fun z => hw.1 (in_mem z)
    rw [inOf_cons, outOf_cons, List.filter_cons]
    by_cases hh : p.1 = .enters
    · rw [if_pos hh, if_pos hh, if_neg (by rw [has_mem List.mem_cons_self]; simp), ← ih]
      apply List.filter_congr
      intro a ha
      congr 1
      have hne : a ≠ x := fun e => hw.1 (e ▸ ha)
      unfold has
      rw [List.contains_cons]
      simp [hne]
    · rw [if_neg hh, if_neg hh, if_pos (by rw [has_not hin]; rfl), ih]
theorem in_out_len {α : Type} : ∀ (w : List α) (ps : List (Wd × Int)), w.length = ps.length → (inOf w ps).length + (outOf w ps).length = w.length
  | [], [], _ => rfl
  | [], _ :: _, h => by cases h
  | _ :: _, [], h => by cases h
  | x :: w, p :: ps, h => by
    have ih := in_out_len w ps (by simpa using h)
    rw [inOf_cons, outOf_cons]
    split <;> simp only [List.length_cons] <;> omega
theorem in_out_sum : ∀ (w : List Int) (ps : List (Wd × Int)), w.length = ps.length → (inOf w ps).sum + (outOf w ps).sum = w.sum
  | [], [], _ => rfl
  | [], _ :: _, h => by cases h
  | _ :: _, [], h => by cases h
  | x :: w, p :: ps, h => by
    have ih := in_out_sum w ps (by simpa using h)
    rw [inOf_cons, outOf_cons]
    split <;> simp only [List.sum_cons] <;> omega
/-- the first enters, if it fits -/
theorem first_in (c : Option Int) {x r : Int} {xs : List Int} (hc : over c 0 = false) (hx : x ≤ r) : wdOf c x r 0 = .enters := by
  unfold wdOf
  rw [hc, if_neg Bool.false_ne_true, if_pos hx]
theorem calm_over {c : Option Int} (h : Calm c) : over c 0 = false := by
  cases c with
  | none => rfl
  | some v =>
    have := h.1
    simp only [over, decide_eq_false_iff_not]
    omega
/-- the first who is out was too large -/
theorem first_out (c : Option Int) (hc : over c 0 = false) : ∀ (xs : List Int) (rest : Int) (b : Int) (bs : List Int), (∀ x ∈ xs, 1 ≤ x) → 0 ≤ rest → outOf xs (rowsOf c xs rest 0) = b :: bs → restEnd c xs rest 0 < b
  | [], rest, b, bs, _, _, h => by rw [outOf_nil] at h; cases h
  | x :: xs, rest, b, bs, hx, hr, h => by
    have h1 := hx x List.mem_cons_self
    rw [rowsOf_cons, outOf_cons] at h
    by_cases hl : x ≤ rest
    · have hw := first_in c (xs := xs) hc hl
      rw [hw, if_pos rfl] at h
      have e1 : rest' .enters x rest = rest - x := rfl
      have e2 : ref' .enters 0 = 0 := rfl
      rw [e1, e2] at h
      have := first_out c hc xs (rest - x) b bs (fun y hy => hx y (List.mem_cons_of_mem _ hy)) (by omega) h
      unfold restEnd
      rw [hw, e1, e2]
      exact this
    · have hw : wdOf c x rest 0 = .large := by
        unfold wdOf
        rw [hc, if_neg Bool.false_ne_true, if_neg hl]
      rw [hw, if_neg (fun z => nomatch z)] at h
      have eb : x = b := (List.cons.inj h).1
      have := (rows_ok c (x :: xs) rest 0 hx hr).2.1
      omega
/-! ### the evenings -/
def gotW (c : Option Int) (r : Int) (xs w : List Int) : List Int := inOf w (rowsOf c (pick xs w) r 0)
def leftW (c : Option Int) (r : Int) (xs w : List Int) : List Int := outOf w (rowsOf c (pick xs w) r 0)
def evs (c : Option Int) (r : Int) (xs : List Int) : Nat → List Int → List (List Int)
  | 0, _ => []
  | n + 1, w => if w = [] then [] else gotW c r xs w :: evs c r xs n (leftW c r xs w)
theorem pk_len (xs w : List Int) (c : Option Int) (r : Int) : w.length = (rowsOf c (pick xs w) r 0).length := by rw [rowsOf_len, pick_len]
theorem got_eq (c : Option Int) (r : Int) (xs w : List Int) : pick w (entering c (pick xs w) r) = gotW c r xs w := pick_in w _ (pk_len xs w c r)
theorem left_eq (c : Option Int) (r : Int) (xs w : List Int) : ((w.zipIdx.filter fun p => !has (entering c (pick xs w) r) ((p.2 : Nat) : Int)).map (·.1)) = leftW c r xs w := by
  have := left_out w (rowsOf c (pick xs w) r 0) 0 (pk_len xs w c r)
  have e : (enterIx (rowsOf c (pick xs w) r 0)).map (· + ((0 : Nat) : Int)) = entering c (pick xs w) r := by
    unfold entering
    simp
  rw [e] at this
  exact this
/-- who waits: places of the row, each fits -/
def Wt (r : Int) (xs w : List Int) : Prop := ∀ a ∈ w, (0 ≤ a ∧ a < (xs.length : Int)) ∧ 1 ≤ (xs[a.toNat]?).getD 0 ∧ (xs[a.toNat]?).getD 0 ≤ r
theorem Wt.left {r : Int} {xs w : List Int} (h : Wt r xs w) (c : Option Int) : Wt r xs (leftW c r xs w) := fun a ha => h a (out_mem ha)
theorem Wt.pos {r : Int} {xs w : List Int} (h : Wt r xs w) : ∀ x ∈ pick xs w, 1 ≤ x := fun x hx => by
  obtain ⟨a, ha, rfl⟩ := List.mem_map.mp hx
  exact (h a ha).2.1
theorem got_cons {c : Option Int} {r : Int} {xs : List Int} {a : Int} {w : List Int} (hc : over c 0 = false) (h : Wt r xs (a :: w)) : ∃ t, gotW c r xs (a :: w) = a :: t := by
  unfold gotW
  have e : pick xs (a :: w) = (xs[a.toNat]?).getD 0 :: pick xs w := rfl
  rw [e, rowsOf_cons, inOf_cons, if_pos (first_in c (xs := xs) hc (h a List.mem_cons_self).2.2)]
  exact ⟨_, rfl⟩
theorem left_lt {c : Option Int} {r : Int} {xs w : List Int} (hc : over c 0 = false) (h : Wt r xs w) (hw : w ≠ []) : (leftW c r xs w).length < w.length := by
  cases w with
  | nil => exact absurd rfl hw
  | cons a w =>
    obtain ⟨t, e⟩ := got_cons hc h
    have := in_out_len (a :: w) _ (pk_len xs (a :: w) c r)
    unfold gotW at e
    rw [e] at this
    unfold leftW
    simp only [List.length_cons] at this ⊢
    omega
theorem evs_more {c : Option Int} {r : Int} {xs : List Int} (hc : over c 0 = false) : ∀ (n m : Nat) (w : List Int), Wt r xs w → w.length ≤ n → w.length ≤ m → evs c r xs n w = evs c r xs m w
  | 0, m, w, _, h1, _ => by
    have e : w = [] := List.length_eq_zero_iff.mp (by omega)
    subst e
    cases m with
    | zero => rfl
    | succ m => rfl
  | n + 1, 0, w, _, _, h2 => by
    have e : w = [] := List.length_eq_zero_iff.mp (by omega)
    subst e
    rfl
  | n + 1, m + 1, w, h, h1, h2 => by
    unfold evs
    by_cases e : w = []
    · rw [if_pos e, if_pos e]
    · rw [if_neg e, if_neg e]
      have := left_lt hc h e
      rw [evs_more hc n m _ (h.left c) (by omega) (by omega)]
/-- all places -/
def allW (n : Nat) : List Int := (List.range n).map fun i => ((i : Nat) : Int)
theorem allW_len (n : Nat) : (allW n).length = n := by simp [allW]
theorem allW_nodup (n : Nat) : (allW n).Nodup := by
  unfold allW
  exact List.Pairwise.map _ (fun a b (h : a ≠ b) e => h (by omega)) List.nodup_range
theorem allW_wt {xs : List Int} {r : Int} (hx : ∀ x ∈ xs, 1 ≤ x ∧ x ≤ r) : Wt r xs (allW xs.length) := fun a ha => by
  obtain ⟨i, hi, rfl⟩ := List.mem_map.mp ha
  have hi := List.mem_range.mp hi
  have := hx _ (List.getElem_mem hi)
  rw [Int.toNat_natCast, List.getElem?_eq_getElem hi]
  exact ⟨⟨by omega, by omega⟩, this.1, this.2⟩
theorem pick_all (xs : List Int) : pick xs (allW xs.length) = xs := by
  unfold pick allW
  rw [List.map_map]
  apply List.ext_getElem?
  intro k
  rw [List.getElem?_map]
  rcases Nat.lt_or_ge k xs.length with h | h
  · rw [List.getElem?_range h, List.getElem?_eq_getElem h]
    simp [List.getElem?_eq_getElem h]
  · rw [List.getElem?_eq_none (by simpa using h), List.getElem?_eq_none h]
    rfl
theorem pick_places {n : Nat} {E : List Int} (h : ∀ a ∈ E, 0 ≤ a ∧ a < (n : Int)) : pick (allW n) E = E := by
  unfold pick
  have : ∀ a ∈ E, ((allW n)[a.toNat]?).getD 0 = a := fun a ha => by
    obtain ⟨h1, h2⟩ := h a ha
    unfold allW
    rw [List.getElem?_map, List.getElem?_range (by omega)]
    show ((a.toNat : Nat) : Int) = a
    omega
  rw [List.map_congr_left this, List.map_id']
def evens (c : Option Int) (r : Int) (xs : List Int) : List (List Int) := evs c r xs xs.length (allW xs.length)
/-! ### a while -/
theorem whR_inv {C : Calls} {c : E} {b : Ss} (P : Nat → Env → Store → Prop) (h0 : ∀ r s, P 0 r s → evE C c r s = .ok (.bl false) s)
    (hs : ∀ m r s, P (m + 1) r s → evE C c r s = .ok (.bl true) s ∧ ∃ r2 s2 m', m' ≤ m ∧ exSs C b r s = .ok (.nx r2) s2 ∧ P m' r2 s2) :
    ∀ (n m : Nat) (r : Env) (s : Store), m < n → P m r s → ∃ r' s', whR C c b n r s = .ok (.nx r') s' ∧ P 0 r' s'
  | 0, m, r, s, h, _ => by omega
  | n + 1, 0, r, s, _, p => ⟨r, s, by
      unfold whR whileL
      rw [h0 r s p]
      rfl, p⟩
  | n + 1, m + 1, r, s, h, p => by
    obtain ⟨e1, r2, s2, m', hm, e2, p2⟩ := hs m r s p
    obtain ⟨r', s', e3, p3⟩ := whR_inv P h0 hs n m' r2 s2 (by omega) p2
    refine ⟨r', s', ?_, p3⟩
    unfold whR at e3 ⊢
    unfold whileL
    rw [e1]
    show thenS (exSs C b r s) _ = _
    rw [e2, thenS_nx, e3]
section
variable {T : Nat → Option Def} {k : Nat} {s : Store}
theorem ev_all_evenings {xs : List Int} {r : Int} {c : Option Int} (h : Sub cl_all_evenings T) (hk : 3 ≤ k) (hl : xs.length < 4000) (hx : ∀ x ∈ xs, 1 ≤ x ∧ x ≤ r) (hc : Calm c) :
    evF T k 83 [ti xs, .int r, oi c] s = .ok (.loc s.length) (s ++ [Obj.lst ((evens c r xs).map ti)]) := by
  refine ev_ret (h 83 (by decide)) (by omega) rfl ?_
  have ho := calm_over hc
  have e0 : ∀ s, lrR (.int (xs.length : Int)) s = .ok (.lst ((allW xs.length).map PV.int)) s := fun s => by
    rw [lrR_nat _ _ (by omega)]
    unfold allW
    rw [List.map_map]
    rfl
  obtain ⟨r', s', ew, w, acc, u5, u6, u7, hw0, hwt, rfl, rfl, he, hal⟩ := whR_inv (C := evF T (k - 1)) (c := .cmp .ne (.var 3) (.lst .nil)) (b := (.cons (.set 5 (.frz (.call 7 (.cons (.bi .tuple (.cons (.comp false [6] [6] true (.seq (.var 3)) .no (.ix (.var 0) (.var 6))) .nil)) (.cons (.var 1) (.cons (.var 2) .nil))) .no))) (.cons (.expr (.append (.var 4) (.bi .tuple (.cons (.comp false [6] [6] true (.seq (.var 5)) .no (.ix (.var 3) (.var 6))) .nil)))) (.cons (.set 3 (.comp false [6, 7] [6, 7] false (.enum (.var 3)) (.yes (.cmp .notin (.var 6) (.var 5))) (.var 7))) .nil))))
    (fun m r' st => ∃ (w : List Int) (acc : List (List Int)) (u5 u6 u7 : Option PV), w.length = m ∧ Wt r xs w ∧ r' = [some (ti xs), some (.int r), some (oi c), some (.lst (w.map PV.int)), some (.loc s.length), u5, u6, u7] ∧ st = s ++ [Obj.lst (acc.map ti)] ∧ acc ++ evs c r xs w.length w = evens c r xs ∧ acc.length + w.length ≤ xs.length)
    (fun r' st q => by
      obtain ⟨w, acc, u5, u6, u7, hw, hwt, rfl, rfl, _⟩ := q
      have e : w = [] := List.length_eq_zero_iff.mp hw
      subst e
      simp [opC, dat, dats, veq, veqs])
    (fun m r' st q => by
      obtain ⟨w, acc, u5, u6, u7, hw, hwt, rfl, rfl, he, hal⟩ := q
      have hne : w ≠ [] := fun e => by rw [e] at hw; cases hw
      have hwl : w.length < 50000 := by omega
      have hlt := left_lt (c := c) ho hwt hne
      refine ⟨?_, ?_⟩
      · simp [oc_nil_ne, hne]
      · have hpl : (pick xs w).length < 50000 := by rw [pick_len]; exact hwl
        have hEl := ent_len (c := c) (r := r) hpl
        have hEp := entering_places c (pick xs w) r
        rw [pick_len] at hEp
        have hz : ((acc.map ti)).length < big := by
          rw [List.length_map]
          exact big_lt (by omega)
        refine ⟨_, _, (leftW c r xs w).length, by omega, ?_, leftW c r xs w, acc ++ [gotW c r xs w], some (ti (entering c (pick xs w) r)), u6, u7, rfl, hwt.left c, rfl, rfl, ?_, ?_⟩
        · simp
          rw [comp_mp (fun a => (xs[a.toNat]?).getD 0) hwl fun a ha => by simp [getN_int xs a (hwt a ha).1]]
          have e1 : (w.map fun a => (xs[a.toNat]?).getD 0) = pick xs w := rfl
          rw [e1]
          simp [ev_entering (h.mono (by decide)) (show 2 ≤ k - 1 by omega) hpl]
          rw [comp_mp (fun a => (w[a.toNat]?).getD 0) hEl fun a ha => by simp [getN_int w a (hEp a ha)]]
          have e2 : ((entering c (pick xs w) r).map fun a => (w[a.toNat]?).getD 0) = gotW c r xs w := got_eq c r xs w
          rw [e2]
          simp [appS_last _ _ _ hz]
          rw [compR_map _ _ (bigOf (by rw [List.length_zipIdx]; omega)) (fun _ => rfl), cpM_on (fun p : Int × Nat => !has (entering c (pick xs w) r) ((p.2 : Nat) : Int)) (fun p => PV.int p.1) _ fun p hp => ⟨by simp [oc_notin], fun _ => by simp⟩]
          have e3 : (w.zipIdx.filter fun p => !has (entering c (pick xs w) r) ((p.2 : Nat) : Int)).map (fun p => PV.int p.1) = (leftW c r xs w).map PV.int := by
            rw [← left_eq, List.map_map]
            rfl
          rw [e3]
          simp
        · rw [← he]
          have hw' : w.length = m + 1 := hw
          rw [hw']
          have e4 : evs c r xs (m + 1) w = gotW c r xs w :: evs c r xs m (leftW c r xs w) := by
            show (if w = [] then [] else gotW c r xs w :: evs c r xs m (leftW c r xs w)) = _
            rw [if_neg hne]
          rw [e4, List.append_assoc, evs_more ho m (leftW c r xs w).length _ (hwt.left c) (by omega) (Nat.le_refl _)]
          rfl
        · rw [List.length_append]
          simp only [List.length_cons, List.length_nil]
          omega)
    turns xs.length [some (ti xs), some (.int r), some (oi c), some (.lst ((allW xs.length).map PV.int)), some (.loc s.length), none, none, none] (s ++ [Obj.lst (([] : List (List Int)).map ti)]) (by show xs.length < 5000; omega)
    ⟨allW xs.length, [], none, none, none, allW_len _, allW_wt hx, rfl, rfl, by rw [allW_len]; rfl, by rw [allW_len]; exact Nat.le_of_eq (Nat.zero_add _)⟩
  have ew0 : w = [] := List.length_eq_zero_iff.mp hw0
  subst ew0
  have he : acc = evens c r xs := by
    rw [← he]
    simp [evs]
  subst he
  simp [d_all_evenings, e0]
  simp only [List.map_nil] at ew
  rw [ew]
  simp
theorem maxL_le' {t : Int} : ∀ (r : List Int) (m : Int), m ≤ t → (∀ y ∈ r, y ≤ t) → maxL m r ≤ t
  | [], m, h, _ => h
  | y :: r, m, h, hr => maxL_le' r (max m y) (by have := hr y List.mem_cons_self; omega) fun z hz => hr z (List.mem_cons_of_mem _ hz)
theorem ev_evenings {xs : List Int} {r : Int} {c : Option Int} (h : Sub cl_evenings T) (hk : 5 ≤ k) (hx : Sizes xs) (hr : Room r) (hm : ∀ x ∈ xs, x ≤ r) (hc : Calm c) :
    evF T k 84 [ti xs, .int r, oi c] s = .ok (.loc s.length) (s ++ [Obj.lst ((evens c r xs).map ti)]) := by
  refine ev_ret (h 84 (by decide)) (by omega) rfl ?_
  have hl : xs.length < 4000 := by have := hx.1; omega
  have e1 : ∀ s : Store, opC .ne (ti xs) (.tup []) = some (!(xs == [])) := fun s => oc_ti_ne xs []
  have e2 := ev_all_evenings (s := s) (k := k - 1) (h.mono (by decide)) (by omega) hl (fun x hxx => ⟨(hx.2 x hxx).1, hm x hxx⟩) hc
  cases xs with
  | nil =>
    have e5 : opC .ne (ti []) (.tup []) = some false := e1 s
    simp [d_evenings, e5, ev_need_house (h.mono (by decide)) (show 4 ≤ k - 1 by omega) hx hr hc, e2]
  | cons x t =>
    have hmx : ¬ r < maxL x t := by
      have := maxL_le' (t := r) t x (hm x List.mem_cons_self) fun y hy => hm y (List.mem_cons_of_mem _ hy)
      omega
    have e3 : ∀ s : Store, opI s .max1 [ti (x :: t)] = some (.int (maxL x t)) := fun s => by
      show (intsOf ((x :: t).map PV.int)).bind greatI = _
      rw [intsOf_map]
      rfl
    have e4 : opC .ne (ti (x :: t)) (.tup []) = some true := by
      rw [e1 s]
      rfl
    simp [d_evenings, ev_need_house (h.mono (by decide)) (show 4 ≤ k - 1 by omega) hx hr hc, e4, e3, oc_gt, hmx, e2]
end
end ML

set_option Elab.async false
set_option maxRecDepth 100000
set_option linter.all false
set_option maxHeartbeats 4000000
/-! k13: the law's evenings; more evenings. -/
namespace ML
open PySem (Str)
theorem in_out_perm {α : Type} : ∀ (w : List α) (ps : List (Wd × Int)), w.length = ps.length → (inOf w ps ++ outOf w ps).Perm w
  | [], ps, _ => by rw [inOf_nil, outOf_nil]; exact .refl _
  | x :: w, [], h => by cases h
  | x :: w, p :: ps, h => by
    have ih := in_out_perm w ps (by simpa using h)
    rw [inOf_cons, outOf_cons]
    split
    · exact ih.cons x
    · exact List.perm_middle.trans (ih.cons x)
theorem evs_perm {c : Option Int} {r : Int} {xs : List Int} (hc : over c 0 = false) : ∀ (n : Nat) (w : List Int), Wt r xs w → w.length ≤ n → (evs c r xs n w).flatten.Perm w
  | 0, w, _, h => by
    have e : w = [] := List.length_eq_zero_iff.mp (by omega)
    subst e
    exact .refl _
  | n + 1, w, h, hl => by
    unfold evs
    by_cases e : w = []
    · rw [if_pos e, e]
      exact .refl _
    · rw [if_neg e, List.flatten_cons]
      have := left_lt hc h e
      have ih := evs_perm hc n (leftW c r xs w) (h.left c) (by omega)
      exact (List.Perm.append_left _ ih).trans (in_out_perm w _ (pk_len xs w c r))
theorem allW_sorted (n : Nat) : (allW n).Pairwise (· ≤ ·) := by
  unfold allW
  rw [List.pairwise_map]
  exact List.pairwise_lt_range.imp fun {a b} h => by omega
theorem evens_perm {c : Option Int} {r : Int} {xs : List Int} (hx : ∀ x ∈ xs, 1 ≤ x ∧ x ≤ r) (hc : Calm c) : (evens c r xs).flatten.Perm (allW xs.length) :=
  evs_perm (calm_over hc) _ _ (allW_wt hx) (by rw [allW_len]; exact Nat.le_refl _)
theorem flat_sort {c : Option Int} {r : Int} {xs : List Int} (hx : ∀ x ∈ xs, 1 ≤ x ∧ x ≤ r) (hc : Calm c) : sortI (evens c r xs).flatten = allW xs.length :=
  PySem.W.ksm_same ((sortI_perm _).trans (evens_perm hx hc)) (sortI_sorted _) (allW_sorted _)
theorem evs_len (c : Option Int) (r : Int) (xs : List Int) : ∀ (n : Nat) (w : List Int), (evs c r xs n w).length ≤ n
  | 0, _ => Nat.le_refl _
  | n + 1, w => by
    unfold evs
    split
    · exact Nat.zero_le _
    · rw [List.length_cons]
      exact Nat.succ_le_succ (evs_len c r xs n _)
theorem evens_len (c : Option Int) (r : Int) (xs : List Int) : (evens c r xs).length ≤ xs.length := evs_len c r xs _ _
theorem mem_flat_len : ∀ {L : List (List Int)} {q : List Int}, q ∈ L → q.length ≤ L.flatten.length
  | x :: L, q, h => by
    rw [List.flatten_cons, List.length_append]
    rcases List.mem_cons.mp h with rfl | h
    · omega
    · have := mem_flat_len h
      omega
theorem pick_fifty {r : Int} {xs w : List Int} (h : Wt r xs w) (h50 : ∀ x ∈ xs, x ≤ 50) : ∀ x ∈ pick xs w, 1 ≤ x ∧ x ≤ 50 := fun x hx => by
  obtain ⟨a, ha, rfl⟩ := List.mem_map.mp hx
  obtain ⟨⟨h0, h1⟩, h2, _⟩ := h a ha
  refine ⟨h2, ?_⟩
  show (xs[a.toNat]?).getD 0 ≤ 50
  rw [List.getElem?_eq_getElem (by omega)]
  exact h50 _ (List.getElem_mem _)
theorem maxL_ge : ∀ (r : List Int) (m : Int), m ≤ maxL m r ∧ ∀ y ∈ r, y ≤ maxL m r
  | [], m => ⟨Int.le_refl _, fun y h => by cases h⟩
  | y :: r, m => by
    obtain ⟨h1, h2⟩ := maxL_ge r (max m y)
    have h1 : max m y ≤ maxL m (y :: r) := h1
    refine ⟨by omega, fun z hz => ?_⟩
    rcases List.mem_cons.mp hz with rfl | hz
    · omega
    · exact h2 z hz
def mxL : List Int → Int
  | [] => 0
  | x :: t => maxL x t
theorem le_mxL : ∀ {xs : List Int} {x : Int}, x ∈ xs → x ≤ mxL xs
  | y :: t, x, h => by
    obtain ⟨h1, h2⟩ := maxL_ge t y
    rcases List.mem_cons.mp h with rfl | h
    · exact h1
    · exact h2 x h
theorem mem_le_sum : ∀ {xs : List Int}, (∀ x ∈ xs, 1 ≤ x) → 0 ≤ xs.sum ∧ ∀ x ∈ xs, x ≤ xs.sum
  | [], _ => ⟨Int.le_refl _, fun x h => by cases h⟩
  | y :: t, h => by
    obtain ⟨h1, h2⟩ := mem_le_sum fun x hx => h x (List.mem_cons_of_mem _ hx)
    have h3 := h y List.mem_cons_self
    rw [List.sum_cons]
    refine ⟨by omega, fun x hx => ?_⟩
    rcases List.mem_cons.mp hx with rfl | hx
    · omega
    · have := h2 x hx
      omega
theorem mxL_le {xs : List Int} (h : ∀ x ∈ xs, 1 ≤ x) : mxL xs ≤ xs.sum := by
  obtain ⟨h1, h2⟩ := mem_le_sum h
  cases xs with
  | nil => exact Int.le_refl _
  | cons x t => exact maxL_le' t x (h2 x List.mem_cons_self) fun y hy => h2 y (List.mem_cons_of_mem _ hy)
theorem mxL_pos {xs : List Int} (h : ∀ x ∈ xs, 1 ≤ x) : 0 ≤ mxL xs := by
  cases xs with
  | nil => exact Int.le_refl _
  | cons x t =>
    have := h x List.mem_cons_self
    have := le_mxL (xs := x :: t) (x := x) List.mem_cons_self
    omega
theorem mxL_fifty {xs : List Int} (h : ∀ x ∈ xs, x ≤ 50) : mxL xs ≤ 50 := by
  cases xs with
  | nil => decide
  | cons x t => exact maxL_le' t x (h x List.mem_cons_self) fun y hy => h y (List.mem_cons_of_mem _ hy)
theorem sum_le50 : ∀ {xs : List Int}, (∀ x ∈ xs, 1 ≤ x ∧ x ≤ 50) → xs.sum ≤ 50 * (xs.length : Int)
  | [], _ => by simp
  | x :: r, h => by
    have h2 := sum_le50 fun y hy => h y (List.mem_cons_of_mem _ hy)
    have h3 := h x List.mem_cons_self
    rw [List.sum_cons, List.length_cons]
    omega
/-- a walk that ends at the first thing of a kind -/
theorem forR_find {α : Type} {C : Calls} {tg : List Nat} {one : Bool} {b : Ss} (h : α → PV) (ho : ∀ a, okB tg one (h a) = true) (t : α → Bool) (g : α → PV) (I : Env → Prop) {s : Store} :
    ∀ (xs : List α), (∀ x ∈ xs, ∀ r, I r → (t x = false → ∃ r2, exSs C b (bindE tg one (h x) r) s = .ok (.nx r2) s ∧ I r2) ∧ (t x = true → exSs C b (bindE tg one (h x) r) s = .ok (.rt (g x)) s)) → ∀ r, I r →
      (∀ x, xs.find? t = some x → forR C tg one b (xs.map h) r s = .ok (.rt (g x)) s) ∧ (xs.find? t = none → ∃ r', forR C tg one b (xs.map h) r s = .ok (.nx r') s ∧ I r')
  | [], _, r, hr => ⟨fun x e => (nomatch e), fun _ => ⟨r, rfl, hr⟩⟩
  | x :: xs, hs, r, hr => by
    obtain ⟨h1, h2⟩ := hs x List.mem_cons_self r hr
    rw [List.map_cons, forR_cons _ _ _ _ _ _ _ _ (ho x), List.find?_cons]
    cases e : t x with
    | true =>
      refine ⟨fun y ey => ?_, fun ey => by cases ey⟩
      have ey : some x = some y := ey
      cases ey
      rw [h2 e]
      rfl
    | false =>
      obtain ⟨r2, e2, hr2⟩ := h1 e
      rw [e2, fT_nx]
      exact forR_find h ho t g I xs (fun y hy => hs y (List.mem_cons_of_mem _ hy)) r2 hr2
def lenE (c : Option Int) (xs : List Int) (r : Int) : Int := ((evens c r xs).length : Int)
def moreI (c : Option Int) (xs : List Int) : Option Nat := (List.range (xs.sum - mxL xs).toNat).find? fun i => decide (lenE c xs (mxL xs + (i : Int)) < lenE c xs (mxL xs + (i : Int) + 1))
def moreP (c : Option Int) (xs : List Int) : PV := if xs = [] then .non else match moreI c xs with
  | some i => .int (mxL xs + (i : Int))
  | none => .non
theorem len_tis (l : List (List Int)) (s : Store) : opI s .len [.lst (l.map ti)] = some (.int l.length) := by simp [opI, oLen, items]
theorem max_ti {x : Int} {t : List Int} (s : Store) : opI s .max1 [ti (x :: t)] = some (.int (mxL (x :: t))) := by
  show (intsOf ((x :: t).map PV.int)).bind greatI = _
  rw [intsOf_map]
  rfl
theorem list_ti (xs : List Int) (s : Store) : opI s .list [ti xs] = some (.lst (xs.map PV.int)) := rfl
theorem sorted_li {xs : List Int} (h : xs.length < 64) (s : Store) : opI s .sorted [.lst (xs.map PV.int)] = some (.lst ((sortI xs).map PV.int)) := by
  show oSorted [.lst (xs.map PV.int)] = _
  unfold oSorted
  simp only [intsOf_map]
  show sort64 xs = _
  unfold sort64
  rw [if_pos h]
section
variable {T : Nat → Option Def} {k : Nat} {s : Store}
theorem ev_law_evenings {xs : List Int} {r : Int} {c : Option Int} (h : Sub cl_law_evenings T) (hk : 3 ≤ k) (hl : xs.length < 4000) (hx : ∀ x ∈ xs, 1 ≤ x ∧ x ≤ r) (h50 : ∀ x ∈ xs, x ≤ 50) (hc : Calm c) :
    evF T k 86 [ti xs, .int r, oi c] s = .ok (.loc s.length) (s ++ [Obj.lst ((evens c r xs).map ti)]) := by
  refine ev_ret (h 86 (by decide)) (by omega) rfl ?_
  have ho := calm_over hc
  have e0 : ∀ s, lrR (.int (xs.length : Int)) s = .ok (.lst ((allW xs.length).map PV.int)) s := fun s => by
    rw [lrR_nat _ _ (by omega)]
    unfold allW
    rw [List.map_map]
    rfl
  obtain ⟨r', s', ew, w, acc, u5, u6, u7, hw0, hwt, rfl, rfl, he, hal⟩ := whR_inv (C := evF T (k - 1)) (c := .cmp .ne (.var 3) (.lst .nil)) (b := (.cons (.set 5 (.frz (.call 25 (.cons (.bi .tuple (.cons (.comp false [6] [6] true (.seq (.var 3)) .no (.ix (.var 0) (.var 6))) .nil)) (.cons (.var 1) (.cons (.var 2) .nil))) .no))) (.cons (.expr (.append (.var 4) (.bi .tuple (.cons (.comp false [6] [6] true (.seq (.var 5)) .no (.ix (.var 3) (.var 6))) .nil)))) (.cons (.set 3 (.comp false [6, 7] [6, 7] false (.enum (.var 3)) (.yes (.cmp .notin (.var 6) (.var 5))) (.var 7))) .nil))))
    (fun m r' st => ∃ (w : List Int) (acc : List (List Int)) (u5 u6 u7 : Option PV), w.length = m ∧ Wt r xs w ∧ r' = [some (ti xs), some (.int r), some (oi c), some (.lst (w.map PV.int)), some (.loc s.length), u5, u6, u7] ∧ st = s ++ [Obj.lst (acc.map ti)] ∧ acc ++ evs c r xs w.length w = evens c r xs ∧ acc.length + w.length ≤ xs.length)
    (fun r' st q => by
      obtain ⟨w, acc, u5, u6, u7, hw, hwt, rfl, rfl, _⟩ := q
      have e : w = [] := List.length_eq_zero_iff.mp hw
      subst e
      simp [opC, dat, dats, veq, veqs])
    (fun m r' st q => by
      obtain ⟨w, acc, u5, u6, u7, hw, hwt, rfl, rfl, he, hal⟩ := q
      have hne : w ≠ [] := fun e => by rw [e] at hw; cases hw
      have hwl : w.length < 50000 := by omega
      have hlt := left_lt (c := c) ho hwt hne
      refine ⟨?_, ?_⟩
      · simp [oc_nil_ne, hne]
      · have hpl : (pick xs w).length < 50000 := by rw [pick_len]; exact hwl
        have hpb : ∀ x ∈ pick xs w, 1 ≤ x ∧ x ≤ 50 := pick_fifty hwt h50
        have hEl := ent_len (c := c) (r := r) hpl
        have hEp := entering_places c (pick xs w) r
        rw [pick_len] at hEp
        have hz : ((acc.map ti)).length < big := by
          rw [List.length_map]
          exact big_lt (by omega)
        refine ⟨_, _, (leftW c r xs w).length, by omega, ?_, leftW c r xs w, acc ++ [gotW c r xs w], some (ti (entering c (pick xs w) r)), u6, u7, rfl, hwt.left c, rfl, rfl, ?_, ?_⟩
        · simp
          rw [comp_mp (fun a => (xs[a.toNat]?).getD 0) hwl fun a ha => by simp [getN_int xs a (hwt a ha).1]]
          have e1 : (w.map fun a => (xs[a.toNat]?).getD 0) = pick xs w := rfl
          rw [e1]
          simp [ev_law_set (h.mono (by decide)) (show 2 ≤ k - 1 by omega) hpl hpb]
          rw [comp_mp (fun a => (w[a.toNat]?).getD 0) hEl fun a ha => by simp [getN_int w a (hEp a ha)]]
          have e2 : ((entering c (pick xs w) r).map fun a => (w[a.toNat]?).getD 0) = gotW c r xs w := got_eq c r xs w
          rw [e2]
          simp [appS_last _ _ _ hz]
          rw [compR_map _ _ (bigOf (by rw [List.length_zipIdx]; omega)) (fun _ => rfl), cpM_on (fun p : Int × Nat => !has (entering c (pick xs w) r) ((p.2 : Nat) : Int)) (fun p => PV.int p.1) _ fun p hp => ⟨by simp [oc_notin], fun _ => by simp⟩]
          have e3 : (w.zipIdx.filter fun p => !has (entering c (pick xs w) r) ((p.2 : Nat) : Int)).map (fun p => PV.int p.1) = (leftW c r xs w).map PV.int := by
            rw [← left_eq, List.map_map]
            rfl
          rw [e3]
          simp
        · rw [← he]
          have hw' : w.length = m + 1 := hw
          rw [hw']
          have e4 : evs c r xs (m + 1) w = gotW c r xs w :: evs c r xs m (leftW c r xs w) := by
            show (if w = [] then [] else gotW c r xs w :: evs c r xs m (leftW c r xs w)) = _
            rw [if_neg hne]
          rw [e4, List.append_assoc, evs_more ho m (leftW c r xs w).length _ (hwt.left c) (by omega) (Nat.le_refl _)]
          rfl
        · rw [List.length_append]
          simp only [List.length_cons, List.length_nil]
          omega)
    turns xs.length [some (ti xs), some (.int r), some (oi c), some (.lst ((allW xs.length).map PV.int)), some (.loc s.length), none, none, none] (s ++ [Obj.lst (([] : List (List Int)).map ti)]) (by show xs.length < 5000; omega)
    ⟨allW xs.length, [], none, none, none, allW_len _, allW_wt hx, rfl, rfl, by rw [allW_len]; rfl, by rw [allW_len]; exact Nat.le_of_eq (Nat.zero_add _)⟩
  have ew0 : w = [] := List.length_eq_zero_iff.mp hw0
  subst ew0
  have he : acc = evens c r xs := by
    rw [← he]
    simp [evs]
  subst he
  simp [d_law_evenings, e0]
  simp only [List.map_nil] at ew
  rw [ew]
  simp
theorem ev_more_evenings {xs : List Int} {c : Option Int} (h : Sub cl_more_evenings T) (hk : 6 ≤ k) (hx : Sizes xs) (hc : Calm c) : evF T k 85 [ti xs, oi c] s = .ok (moreP c xs) s := by
  have hl : xs.length < 4000 := by have := hx.1; omega
  have n1 : ∀ s, evF T (k - 1) 2 [ti xs] s = .ok .non s := fun s => by rw [ev_need_parties_any (h.mono (by decide)) (by omega) (flat_ti xs (by omega)), partiesOk_ti hx, if_pos rfl]
  have n2 : ∀ s, evF T (k - 1) 4 [oi c] s = .ok .non s := fun s => by rw [ev_need_patience_any (h.mono (by decide)) (by omega) (by cases c <;> simp [oi, tyOf]), patOk_oi hc, if_pos rfl]
  have hx1 : ∀ x ∈ xs, 1 ≤ x := fun x hh => (hx.2 x hh).1
  have e0 : opC .eq (ti xs) (.tup []) = some (xs == []) := oc_ti_eq xs []
  refine ev_ret (h 85 (by decide)) (by omega) rfl ?_
  cases xs with
  | nil =>
    simp [d_more_evenings, n1, n2, e0, moreP]
  | cons x t =>
    have hs := sum_le50 hx.2
    have hm := mxL_le hx1
    have hp := mxL_pos hx1
    have h50 := mxL_fifty fun y hy => (hx.2 y hy).2
    have hx16 := hx.1
    have e1 : ∀ (r : Int) s, mxL (x :: t) ≤ r → evF T (k - 1) 83 [ti (x :: t), .int r, oi c] s = .ok (.loc s.length) (s ++ [Obj.lst ((evens c r (x :: t)).map ti)]) := fun r s hr => ev_all_evenings (s := s) (h.mono (by decide)) (by omega) hl (fun y hy => ⟨hx1 y hy, Int.le_trans (le_mxL hy) hr⟩) hc
    have hrg : ∀ s : Store, rngR (mxL (x :: t)) (.int (x :: t).sum) s = .ok ((List.range ((x :: t).sum - mxL (x :: t)).toNat).map fun (i : Nat) => PV.int (mxL (x :: t) + (i : Int))) s := fun s => rngR_int _ _ s (small62_of ⟨by omega, by omega⟩) (small62_of ⟨by omega, by omega⟩)
    have em := max_ti (x := x) (t := t)
    have es := sum_ti (x :: t)
    have e3 : ((x :: t) == []) = false := rfl
    have key := forR_find (C := evF T (k - 1)) (tg := [2]) (one := true) (b := (.cons (.ifs (.cmp .gt (.bi .len (.cons (.frz (.call 83 (.cons (.var 0) (.cons (.bin .add (.var 2) (.int 1)) (.cons (.var 1) .nil))) .no)) .nil)) (.bi .len (.cons (.frz (.call 83 (.cons (.var 0) (.cons (.var 2) (.cons (.var 1) .nil))) .no)) .nil))) (.cons (.ret (.var 2)) .nil) .nil) .nil)) (s := s) (fun (i : Nat) => PV.int (mxL (x :: t) + (i : Int))) (fun _ => rfl)
      (fun i => decide (lenE c (x :: t) (mxL (x :: t) + (i : Int)) < lenE c (x :: t) (mxL (x :: t) + (i : Int) + 1))) (fun i => .int (mxL (x :: t) + (i : Int))) (fun r => ∃ u, r = [some (ti (x :: t)), some (oi c), u])
      (List.range ((x :: t).sum - mxL (x :: t)).toNat) (fun i hi r hr => by
        obtain ⟨u, rfl⟩ := hr
        have f1 := e1 (mxL (x :: t) + (i : Int)) s (by omega)
        have f2 := e1 (mxL (x :: t) + (i : Int) + 1) s (by omega)
        generalize x :: t = xs at *
        refine ⟨fun hf => ⟨[some (ti xs), some (oi c), some (.int (mxL xs + (i : Int)))], ?_, ⟨_, rfl⟩⟩, fun ht => ?_⟩
        · have hf := of_decide_eq_false hf
          unfold lenE at hf
          simp [op_add, f1, f2, len_tis, oc_gt, hf]
        · have ht := of_decide_eq_true ht
          unfold lenE at ht
          simp [op_add, f1, f2, len_tis, oc_gt, ht]) [some (ti (x :: t)), some (oi c), none] ⟨_, rfl⟩
    generalize hxx : x :: t = xs at *
    have hne : xs ≠ [] := by rw [← hxx]; simp
    unfold moreP
    rw [if_neg hne]
    unfold moreI
    cases hf : (List.range (xs.sum - mxL xs).toNat).find? (fun i : Nat => decide (lenE c xs (mxL xs + (i : Int)) < lenE c xs (mxL xs + (i : Int) + 1))) with
    | some i =>
      have f := key.1 i hf
      simp [d_more_evenings, n1, n2, e0, e3, em, es, hrg, f]
    | none =>
      obtain ⟨r', f, _⟩ := key.2 hf
      simp [d_more_evenings, n1, n2, e0, e3, em, es, hrg, f]
theorem ev_law_more {xs : List Int} {c : Option Int} (h : Sub cl_law_more T) (hk : 6 ≤ k) (hx : Sizes xs) (hc : Calm c) : evF T k 87 [ti xs, oi c] s = .ok (moreP c xs) s := by
  have hl : xs.length < 4000 := by have := hx.1; omega
  have hx1 : ∀ x ∈ xs, 1 ≤ x := fun x hh => (hx.2 x hh).1
  have hx50 : ∀ x ∈ xs, x ≤ 50 := fun x hh => (hx.2 x hh).2
  have e0 : opC .eq (ti xs) (.tup []) = some (xs == []) := oc_ti_eq xs []
  refine ev_ret (h 87 (by decide)) (by omega) rfl ?_
  cases xs with
  | nil =>
    simp [d_law_more, e0, moreP]
  | cons x t =>
    have hs := sum_le50 hx.2
    have hm := mxL_le hx1
    have hp := mxL_pos hx1
    have hx16 := hx.1
    have e1 : ∀ (r : Int) s, mxL (x :: t) ≤ r → evF T (k - 1) 86 [ti (x :: t), .int r, oi c] s = .ok (.loc s.length) (s ++ [Obj.lst ((evens c r (x :: t)).map ti)]) := fun r s hr => ev_law_evenings (s := s) (h.mono (by decide)) (by omega) hl (fun y hy => ⟨hx1 y hy, Int.le_trans (le_mxL hy) hr⟩) hx50 hc
    have em := max_ti (x := x) (t := t)
    have es := sum_ti (x :: t)
    have e3 : ((x :: t) == []) = false := rfl
    generalize hxx : x :: t = xs at *
    have hne : xs ≠ [] := by rw [← hxx]; simp
    generalize hn : (xs.sum - mxL xs).toNat = n
    have hn1 : (xs.sum + 1 - mxL xs).toNat = n + 1 := by omega
    have hrg : ∀ s : Store, rngR (mxL xs) (.int (xs.sum + 1)) s = .ok ((List.range (n + 1)).map fun (i : Nat) => PV.int (mxL xs + (i : Int))) s := fun s => by
      rw [rngR_int _ _ s (small62_of ⟨by omega, by omega⟩) (small62_of ⟨by omega, by omega⟩), hn1]
    have hrg2 : ∀ s : Store, rngR 0 (.int (n : Int)) s = .ok ((List.range n).map fun i : Nat => PV.int (i : Int)) s := fun s => rng_nat n s (by omega)
    have el : ∀ s : Store, opI s .len [.lst (((List.range (n + 1)).map fun (i : Nat) => lenE c xs (mxL xs + (i : Int))).map PV.int)] = some (.int ((n : Int) + 1)) := fun s => by simp [opI, oLen, items]
    have eg : ∀ i : Nat, i < n + 1 → ∀ s, getP s (.lst (((List.range (n + 1)).map fun (i : Nat) => lenE c xs (mxL xs + (i : Int))).map PV.int)) (i : Int) = some (.int (lenE c xs (mxL xs + (i : Int)))) := fun i hi s => by
      rw [getP_lst]
      exact getN_map PV.int _ i _ (by rw [List.getElem?_map, List.getElem?_range hi]; rfl)
    have key := forR_find (C := evF T (k - 1)) (tg := [3]) (one := true) (b := (.cons (.ifs (.cmp .gt (.ix (.var 2) (.bin .add (.var 3) (.int 1))) (.ix (.var 2) (.var 3))) (.cons (.ret (.bin .add (.bi .max1 (.cons (.var 0) .nil)) (.var 3))) .nil) .nil) .nil)) (s := s) (fun (i : Nat) => PV.int (i : Int)) (fun _ => rfl)
      (fun i => decide (lenE c xs (mxL xs + (i : Int)) < lenE c xs (mxL xs + (i : Int) + 1))) (fun i => .int (mxL xs + (i : Int))) (fun r => ∃ u, r = [some (ti xs), some (oi c), some (.lst (((List.range (n + 1)).map fun (i : Nat) => lenE c xs (mxL xs + (i : Int))).map PV.int)), u, none])
      (List.range n) (fun i hi r hr => by
        obtain ⟨u, rfl⟩ := hr
        have hi := List.mem_range.mp hi
        have g1 := eg i (by omega)
        have g2 : ∀ s, getP s (.lst (((List.range (n + 1)).map fun (i : Nat) => lenE c xs (mxL xs + (i : Int))).map PV.int)) ((i : Int) + 1) = some (.int (lenE c xs (mxL xs + (i : Int) + 1))) := fun s => by
          have := eg (i + 1) (by omega) s
          rw [show ((i + 1 : Nat) : Int) = (i : Int) + 1 by omega, ← Int.add_assoc] at this
          exact this
        generalize ((List.range (n + 1)).map fun (i : Nat) => lenE c xs (mxL xs + (i : Int))) = LM at *
        refine ⟨fun hf => ⟨[some (ti xs), some (oi c), some (.lst (LM.map PV.int)), some (.int (i : Int)), none], ?_, ⟨_, rfl⟩⟩, fun ht => ?_⟩
        · have hf := of_decide_eq_false hf
          simp [op_add, g1, g2, oc_gt, hf]
        · have ht := of_decide_eq_true ht
          simp [op_add, g1, g2, oc_gt, ht, em]) [some (ti xs), some (oi c), some (.lst (((List.range (n + 1)).map fun (i : Nat) => lenE c xs (mxL xs + (i : Int))).map PV.int)), none, none] ⟨_, rfl⟩
    unfold moreP
    rw [if_neg hne]
    unfold moreI
    rw [hn]
    simp [d_law_more, e0, e3, em, es, op_add, hrg]
    rw [compR_map _ _ (bigOf (by rw [List.length_range]; omega)) (fun _ => rfl), cpM_on (fun _ => true) (fun i : Nat => PV.int (lenE c xs (mxL xs + (i : Int)))) _ fun i hi => ⟨rfl, fun _ => by
      have f1 := e1 (mxL xs + (i : Int)) s (by omega)
      simp [f1, len_tis, lenE]⟩, List.filter_eq_self.mpr (fun _ _ => rfl)]
    have ez : ((List.range (n + 1)).map fun i : Nat => PV.int (lenE c xs (mxL xs + (i : Int)))) = ((List.range (n + 1)).map fun (i : Nat) => lenE c xs (mxL xs + (i : Int))).map PV.int := by
      rw [List.map_map]
      rfl
    rw [ez]
    have hsub : opB .sub (.int ((n : Int) + 1)) (.int 1) = some (.int (n : Int)) := by
      rw [op_sub]
      congr 2
      omega
    cases hf : (List.range n).find? (fun i : Nat => decide (lenE c xs (mxL xs + (i : Int)) < lenE c xs (mxL xs + (i : Int) + 1))) with
    | some i =>
      have f := key.1 i hf
      generalize ((List.range (n + 1)).map fun (i : Nat) => lenE c xs (mxL xs + (i : Int))) = LM at *
      simp [el, hsub, hrg2, f]
    | none =>
      obtain ⟨r', f, _⟩ := key.2 hf
      generalize ((List.range (n + 1)).map fun (i : Nat) => lenE c xs (mxL xs + (i : Int))) = LM at *
      simp [el, hsub, hrg2, f]
theorem ev_law_flat {L : List (List Int)} (h : Sub cl_law_flat T) (hk : 1 ≤ k) (hl : L.flatten.length < 64) : evF T k 88 [.lst (L.map ti)] s = .ok (.lst ((sortI L.flatten).map PV.int)) s := by
  refine ev_ret (h 88 (by decide)) (by omega) rfl ?_
  obtain ⟨r', s', f, acc, u, rfl, rfl, he⟩ := forR_inv (C := evF T (k - 1)) (tg := [2]) (one := true) (b := (.cons (.set 1 (.bin .add (.var 1) (.bi .list (.cons (.var 2) .nil)))) .nil)) ti (fun _ => rfl)
    (fun Ls r' s' => ∃ (acc : List Int) (u : Option PV), r' = [some (.lst (L.map ti)), some (.lst (acc.map PV.int)), u] ∧ s' = s ∧ acc ++ Ls.flatten = L.flatten)
    (fun q Ls r' s' p => by
      obtain ⟨acc, u, rfl, rfl, he⟩ := p
      have hz := congrArg List.length he
      rw [List.flatten_cons, List.length_append, List.length_append] at hz
      refine ⟨_, _, ?_, acc ++ q, some (ti q), rfl, rfl, by rw [List.append_assoc]; exact he⟩
      have c1 : opB .add (.lst (acc.map PV.int)) (.lst (q.map PV.int)) = some (.lst ((acc ++ q).map PV.int)) := by
        rw [op_catLs _ _ (bigOf (by rw [List.length_map, List.length_map]; omega)), List.map_append]
      simp [-List.map_append, list_ti, c1]) L [some (.lst (L.map ti)), some (.lst (([] : List Int).map PV.int)), none] s ⟨[], none, rfl, rfl, rfl⟩
  have he : acc = L.flatten := by simpa using he
  subst he
  simp only [List.map_nil] at f
  simp [-List.map_flatten, d_law_flat, f, sorted_li hl]
end
/-! ### lists of tuples of numbers, compared -/
theorem dats_int (d : Nat) : ∀ l : List Int, dats (d + 1) (l.map PV.int) = true
  | [] => rfl
  | x :: l => by
    rw [List.map_cons, dats, dats_int d l]
    rfl
theorem dats_ti : ∀ L : List (List Int), dats 7 (L.map ti) = true
  | [] => rfl
  | q :: L => by
    rw [List.map_cons, dats, dats_ti L, Bool.and_true]
    exact dats_int 5 q
theorem veqs_int : ∀ l : List Int, veqs (l.map PV.int) (l.map PV.int) = true
  | [] => rfl
  | x :: l => by
    rw [List.map_cons, veqs, veqs_int l]
    simp [veq]
theorem veqs_ti : ∀ L : List (List Int), veqs (L.map ti) (L.map ti) = true
  | [] => rfl
  | q :: L => by
    rw [List.map_cons, veqs, veqs_ti L]
    show (veq (.tup (q.map PV.int)) (.tup (q.map PV.int)) && true) = true
    rw [veq, veqs_int]
    rfl
theorem tis_ne (L : List (List Int)) : opC .ne (.lst (L.map ti)) (.lst (L.map ti)) = some false := by
  rw [(oc_eqL (dats_ti L) (dats_ti L)).2, veqs_ti]
  rfl
theorem noLst_ti (q : List Int) : noLst (ti q) = true := by
  show noLsts (q.map PV.int) = true
  induction q with
  | nil => rfl
  | cons x q ih =>
    rw [List.map_cons, noLsts, ih]
    rfl
theorem noLsts_tis : ∀ L : List (List Int), noLsts (L.map ti) = true
  | [] => rfl
  | q :: L => by
    rw [List.map_cons, noLsts, noLsts_tis L, noLst_ti]
    rfl
end ML

set_option Elab.async false
set_option maxRecDepth 100000
set_option linter.all false
set_option maxHeartbeats 4000000
namespace ML.K13
open PySem (Str)
def deep : Nat := 20
abbrev all : List Nat := [0, 1, 2, 3, 4, 5, 6, 7, 83, 84, 85, 13, 14, 18, 19, 20, 21, 22, 24, 25, 86, 87, 88, 89]
theorem sub : Sub all tab := by
  intro f hf
  simp only [all, List.mem_cons, List.not_mem_nil, or_false] at hf
  rcases hf with rfl | rfl | rfl | rfl | rfl | rfl | rfl | rfl | rfl | rfl | rfl | rfl | rfl | rfl | rfl | rfl | rfl | rfl | rfl | rfl | rfl | rfl | rfl | rfl <;> rfl
def okN (o : Option PV) : Prop := ∀ v, o = some v → noloc v = true
theorem belowE_ok {o : Option PV} (h : okN o) (l : Nat) (r : Env) : belowE l (o :: r) = belowE l r := by
  cases o with
  | none => rfl
  | some v => rw [belowE_some, below_no (h v rfl), Bool.true_and]
theorem okN_some {v : PV} (h : noloc v = true) : okN (some v) := fun w e => by cases e; exact h
def NL (s : Store) : Prop := s.all noLstO = true
theorem noLsts_app : ∀ (a b : List PV), noLsts (a ++ b) = (noLsts a && noLsts b)
  | [], b => by simp [noLsts]
  | x :: a, b => by
    rw [List.cons_append, noLsts, noLsts, noLsts_app a b, Bool.and_assoc]
@[simp] theorem noloc_more (c : Option Int) (xs : List Int) : noloc (moreP c xs) = true := by
  unfold moreP
  split
  · rfl
  · split <;> rfl
theorem noloc_tis (L : List (List Int)) : noloc (.lst (L.map ti)) = true := by simp [nolocs_map _ noloc_ti]
section
variable {T : Nat → Option Def} {k : Nat}
theorem ev_evenings_none {xs : List Int} {r : Int} {c : Option Int} (h : Sub all T) (hk : 5 ≤ k) (hx : Sizes xs) (hr : Room r) (hne : xs ≠ []) (hm : r < mxL xs) (hc : Calm c) (s : Store) : evF T k 84 [ti xs, .int r, oi c] s = .ok .non s := by
  refine ev_ret (h 84 (by decide)) (by omega) rfl ?_
  cases xs with
  | nil => exact absurd rfl hne
  | cons x t =>
    have e4 : opC .ne (ti (x :: t)) (.tup []) = some true := oc_ti_ne (x :: t) []
    simp [d_evenings, ev_need_house (h.mono (by decide)) (show 4 ≤ k - 1 by omega) hx hr hc, e4, max_ti, oc_gt, hm]
theorem bad_evenings {p se pa v : PV} (h : Sub all T) (hk : 8 ≤ k) (h1 : Flat p) (h2 : tyOf se ≠ .other) (h3 : tyOf pa ≠ .other) (hb : ∀ s, houseR p se pa s = .exc v s) (s : Store) : evF T k 84 [p, se, pa] s = .exc v s := by
  refine ev_exc (h 84 (by decide)) (by omega) rfl ?_
  simp [d_evenings, ev_need_house_any (h.mono (by decide)) (show 4 ≤ k - 1 by omega) h1 h2 h3, hb]
theorem bad_more {p pa : PV} (h : Sub all T) (hk : 8 ≤ k) (h1 : Flat p) (h4 : tyOf pa ≠ .other) (s : Store) : (partiesOk p = false → evF T k 85 [p, pa] s = .exc (.exn 0 []) s) ∧ (partiesOk p = true → patOk pa = false → evF T k 85 [p, pa] s = .exc (.exn 2 []) s) := by
  have e1 := ev_need_parties_any (s := s) (h.mono (by decide)) (show 3 ≤ k - 1 by omega) h1
  have e2 := ev_need_patience_any (s := s) (h.mono (by decide)) (show 2 ≤ k - 1 by omega) h4
  refine ⟨fun hb => ?_, fun hb hb2 => ?_⟩
  · refine ev_exc (h 85 (by decide)) (by omega) rfl ?_
    simp [d_more_evenings, e1, hb]
  · refine ev_exc (h 85 (by decide)) (by omega) rfl ?_
    simp [d_more_evenings, e1, e2, hb, hb2]
theorem same_more (h : Sub all T) (hk : 8 ≤ k) (c : Option Int) (xs : List Int) (s : Store) : evF T k 20 [moreP c xs, moreP c xs] s = .ok (.bl true) s := by
  unfold moreP
  split
  · exact ev_same_flat (h.mono (by decide)) (by omega) (.inl rfl)
  · split
    · exact ev_same_flat (h.mono (by decide)) (by omega) (.inr (.inl ⟨_, rfl⟩))
    · exact ev_same_flat (h.mono (by decide)) (by omega) (.inl rfl)
theorem same_tis (h : Sub all T) (hk : 8 ≤ k) (L : List (List Int)) (h1 : L.length < 50000) (h2 : ∀ q ∈ L, q.length < 50000) (s : Store) : evF T k 20 [.lst (L.map ti), .lst (L.map ti)] s = .ok (.bl true) s :=
  ev_same_seq (h.mono (by decide)) (by omega) (.inr rfl) h1 fun q hq s => ev_same_ints (xs := q) (q := PV.tup) (h.mono (by decide)) (by omega) (.inl rfl) (h2 q hq)
/-- what stands between the turns of a cell -/
structure Tn (n0 : Nat) (xs : List Int) (c : Option Int) (lg : Int) (r : Env) (s : Store) : Prop where
  env : ∃ (a1 a6 a7 a8 a9 a10 : Option PV), r = [none, a1, some (.loc n0), some (ti xs), some (oi c), some (.int lg), a6, a7, a8, a9, a10] ∧ okN a1 ∧ okN a9 ∧ okN a10
  len : n0 < s.length
  nl : NL s
theorem room_ok (h : Sub all T) (hk : 9 ≤ k) {n0 : Nat} {xs : List Int} {c : Option Int} {lg rm : Int} (hx : Sizes xs) (hr : Room rm) (hm : ∀ x ∈ xs, x ≤ rm) (hc : Calm c) {r : Env} {s : Store} (p : Tn n0 xs c lg r s) :
    ∃ r2 s2, exSs (evF T k) lb3 (bindE [6] true (.int rm) r) s = .ok (.nx r2) s2 ∧ Tn n0 xs c lg r2 s2 := by
  obtain ⟨⟨a1, a6, a7, a8, a9, a10, rfl, o1, o9, o10⟩, hln, hnl⟩ := p
  have hl16 : xs.length ≤ 16 := hx.1
  have hx2 : ∀ x ∈ xs, 1 ≤ x ∧ x ≤ rm := fun x hh => ⟨(hx.2 x hh).1, hm x hh⟩
  have hDl := evens_len c rm xs
  have hDp := (evens_perm (c := c) hx2 hc).length_eq
  rw [allW_len] at hDp
  have hDs := flat_sort (c := c) hx2 hc
  have e1 : ∀ s, evF T k 86 [ti xs, .int rm, oi c] s = .ok (.loc s.length) (s ++ [Obj.lst ((evens c rm xs).map ti)]) := fun s => ev_law_evenings (h.mono (by decide)) (by omega) (by omega) hx2 (fun x hh => (hx.2 x hh).2) hc
  have e2 : ∀ s, evF T k 84 [ti xs, .int rm, oi c] s = .ok (.loc s.length) (s ++ [Obj.lst ((evens c rm xs).map ti)]) := fun s => ev_evenings (h.mono (by decide)) (by omega) hx hr hm hc
  have e3 : ∀ s, evF T k 88 [.lst ((evens c rm xs).map ti)] s = .ok (.lst ((allW xs.length).map PV.int)) s := fun s => by
    rw [ev_law_flat (h.mono (by decide)) (by omega) (by omega), hDs]
  have e4 : ∀ s, lrR (.int (xs.length : Int)) s = .ok (.lst ((allW xs.length).map PV.int)) s := fun s => by
    rw [lrR_nat _ _ (by omega)]
    unfold allW
    rw [List.map_map]
    rfl
  have hq : ∀ q ∈ evens c rm xs, q.length < 50000 := fun q hq => by
    have := mem_flat_len hq
    omega
  generalize evens c rm xs = D at *
  have n0' : opC .ne (.lst ((allW xs.length).map PV.int)) (.lst ((allW xs.length).map PV.int)) = some false := by
    rw [oc_li_ne]
    simp
  have hz : (D.map ti).length < big := by
    rw [List.length_map]
    exact big_lt (by omega)
  have hbor : evE (evF T k) (.bor 8 (.frz (.call 20 (.cons (.var 8) (.cons (.var 7) .nil)) .no))) [none, a1, some (.loc n0), some (ti xs), some (oi c), some (.int lg), some (.int rm), some (.lst (D.map ti)), some (.loc s.length), a9, a10] (s ++ [Obj.lst (D.map ti)]) = .ok (.bl true) (s ++ [Obj.lst (D.map ti)]) := by
    refine ev_bor rfl ?_ ?_ rfl hnl
    · show belowE s.length (none :: a1 :: some (.loc n0) :: some (ti xs) :: some (oi c) :: some (.int lg) :: some (.int rm) :: some (.lst (D.map ti)) :: none :: a9 :: [a10]) = true
      rw [belowE_none, belowE_ok o1, belowE_some, belowE_ok (okN_some (noloc_ti xs)), belowE_ok (okN_some (noloc_oi c)), belowE_ok (okN_some (noloc_int lg)), belowE_ok (okN_some (noloc_int rm)), belowE_ok (okN_some (noloc_tis D)), belowE_none, belowE_ok o9, belowE_ok o10]
      simp [hln]
    · simp [same_tis h (show 8 ≤ k by omega) D (by omega) hq]
  have n4 := appS_last s (D.map ti) (.tup []) hz
  have g2 := e2 (s ++ [Obj.lst (D.map ti ++ [.tup []])])
  have g3 := fin_new (s := s ++ [Obj.lst (D.map ti ++ [.tup []])]) (xs := D.map ti)
  have el : (s ++ [Obj.lst (D.map ti ++ [PV.tup []])]).length = s.length + 1 := by simp
  rw [el] at g2 g3
  have nn := noloc_tis D
  refine ⟨[none, a1, some (.loc n0), some (ti xs), some (oi c), some (.int lg), some (.int rm), some (.lst (D.map ti)), some (.loc s.length), a9, a10], s ++ [Obj.lst (D.map ti ++ [.tup []])], ?_, ⟨⟨a1, _, _, _, a9, a10, rfl, o1, o9, o10⟩, by rw [List.length_append]; omega, ?_⟩⟩
  · simp only [lb3, bindE_true, sv_Ss_cons]
    have st1 : exS (evF T k) (.sets [7, 8] (.cons (.frz (.call 86 (.cons (.var 3) (.cons (.var 6) (.cons (.var 4) .nil))) .no)) (.cons (.mutc (.call 84 (.cons (.var 3) (.cons (.var 6) .nil)) (.yes (.var 4)))) .nil)))
        [none, a1, some (.loc n0), some (ti xs), some (oi c), some (.int lg), some (.int rm), a7, a8, a9, a10] s = .ok (.nx [none, a1, some (.loc n0), some (ti xs), some (oi c), some (.int lg), some (.int rm), some (.lst (D.map ti)), some (.loc s.length), a9, a10]) (s ++ [Obj.lst (D.map ti)]) := by
      simp [-List.map_append, e1, e2]
    have e0 : ([none, a1, some (.loc n0), some (ti xs), some (oi c), some (.int lg), a6, a7, a8, a9, a10] : Env).set 6 (some (.int rm)) = [none, a1, some (.loc n0), some (ti xs), some (oi c), some (.int lg), some (.int rm), a7, a8, a9, a10] := rfl
    rw [e0, st1, tB_nx]
    simp only [sv_Ss_cons, sv_ifs, sv_not, hbor, u1_ok, truR_bl, notF_eq, ifR_ok, Bool.not_true, Bool.false_eq_true, if_false, sv_Ss_nil, tB_nx]
    simp [-List.append_assoc, e3, e4, n0', n4, g2, g3, tis_ne]
  · unfold NL at hnl ⊢
    rw [List.all_append, hnl, Bool.true_and]
    show (noLsts (D.map ti ++ [.tup []]) && true) = true
    rw [noLsts_app, noLsts_tis]
    rfl
theorem odds_ok (h : Sub all T) (hk : 9 ≤ k) {n0 : Nat} {xs : List Int} {c : Option Int} {lg : Int} (hx : Sizes xs) {r0 : Env} {s0 : Store} (p : Tn n0 xs c lg r0 s0) :
    ∃ r' s', forR (evF T k) [9] true lb2 [.non, .bl true, .int (-1), .int 1001] r0 s0 = .ok (.nx r') s' ∧ Tn n0 xs c lg r' s' := by
  have hl : xs.length < 50000 := by have := hx.1; omega
  have q1 : opC .ne (.str "Seats+") (.str "Seats+") = some false := by decide +kernel
  refine forR_mem (Tn n0 xs c lg) _ (fun odd ho => ⟨rfl, fun r s p => ?_⟩) r0 s0 p
  obtain ⟨⟨a1, a6, a7, a8, a9, a10, rfl, o1, o9, o10⟩, hln, hnl⟩ := p
  have hb : tyOf odd ≠ .other ∧ seatsOk odd = false ∧ noloc odd = true := by
    simp only [List.mem_cons, List.not_mem_nil, or_false] at ho
    rcases ho with rfl | rfl | rfl | rfl <;> exact ⟨by simp [tyOf], rfl, rfl⟩
  have e1 := bad_evenings (T := T) (k := k) (p := ti xs) (se := odd) (pa := .int (-1)) (v := .exn 1 []) h (by omega) (flat_ti xs hl) hb.1 (by simp [tyOf]) fun s => by simp [houseR, partiesOk_ti hx, hb.2.1]
  refine ⟨_, _, ?_, ⟨⟨a1, a6, a7, a8, some odd, a10, rfl, o1, okN_some hb.2.2, o10⟩, hln, hnl⟩⟩
  simp [lb2, e1, q1]
theorem lam_bad (h : Sub all T) (hL : T 200 = some ⟨1, 1, .cons (.ret e_lam200) .nil⟩) (hk : 9 ≤ k) (s : Store) : evF T k 200 [.lst [.int 1]] s = .exc (.exn 0 []) s := by
  have fl : Flat (.lst [.int 1]) := by simp [Flat, tyOf]
  have nn : tyOf PV.non ≠ .other := by simp [tyOf]
  have e1 := bad_evenings (T := T) (k := k - 1) (p := .lst [.int 1]) (se := .non) (pa := .non) (v := .exn 0 []) h (by omega) fl nn nn fun s => rfl
  refine ev_exc hL (by omega) rfl ?_
  simp [e_lam200, e1]
theorem doors_ok (h : Sub all T) (hL : T 200 = some ⟨1, 1, .cons (.ret e_lam200) .nil⟩) (hk : 9 ≤ k) {n0 : Nat} {xs : List Int} {c : Option Int} {lg : Int} {r0 : Env} {s0 : Store} (p : Tn n0 xs c lg r0 s0) :
    ∃ r', forR (evF T k) [10] true lb1 [.clo 200 [], .fn 85] r0 s0 = .ok (.nx r') s0 ∧ Tn n0 xs c lg r' s0 := by
  obtain ⟨⟨a1, a6, a7, a8, a9, a10, rfl, o1, o9, o10⟩, hln, hnl⟩ := p
  have q1 : opC .ne (.str "Parties+") (.str "Parties+") = some false := by decide +kernel
  have fl : Flat (.lst [.int 1]) := by simp [Flat, tyOf]
  have e1 := lam_bad (T := T) (k := k) h hL hk
  have e2 : ∀ s, evF T k 85 [.lst [.int 1], .non] s = .exc (.exn 0 []) s := fun s => (bad_more h (by omega) fl (by simp [tyOf]) s).1 rfl
  have l1 : List.lookup 85 [(85, true)] = some true := rfl
  refine ⟨[none, a1, some (.loc n0), some (ti xs), some (oi c), some (.int lg), a6, a7, a8, a9, some (.fn 85)], ?_, ⟨⟨a1, a6, a7, a8, a9, _, rfl, o1, o9, okN_some rfl⟩, hln, hnl⟩⟩
  rw [forR_cons _ _ _ _ _ _ _ _ rfl]
  have f1 : exSs (evF T k) lb1 (bindE [10] true (.clo 200 []) [none, a1, some (.loc n0), some (ti xs), some (oi c), some (.int lg), a6, a7, a8, a9, a10]) s0 = .ok (.nx [none, a1, some (.loc n0), some (ti xs), some (oi c), some (.int lg), a6, a7, a8, a9, some (.clo 200 [])]) s0 := by
    simp [lb1, e1, q1]
  rw [f1, fT_nx, forR_cons _ _ _ _ _ _ _ _ rfl]
  have f2 : exSs (evF T k) lb1 (bindE [10] true (.fn 85) [none, a1, some (.loc n0), some (ti xs), some (oi c), some (.int lg), a6, a7, a8, a9, some (.clo 200 [])]) s0 = .ok (.nx [none, a1, some (.loc n0), some (ti xs), some (oi c), some (.int lg), a6, a7, a8, a9, some (.fn 85)]) s0 := by
    simp [lb1, e2, q1, l1]
  rw [f2, fT_nx, forR_nil]
/-- what stands between the cells -/
def Cl (r : Env) (s : Store) : Prop := (∃ a1 a2 a3 a4 a5 a6 a7 a8 a9 a10 : Option PV, r = [none, a1, a2, a3, a4, a5, a6, a7, a8, a9, a10] ∧ okN a9 ∧ okN a10) ∧ NL s
theorem mx_zero {x : Int} {t : List Int} (h : 1 ≤ x) : mxL (0 :: x :: t) = mxL (x :: t) := by
  show maxL (max 0 x) t = maxL x t
  rw [show max 0 x = x by omega]
theorem cell_ok (h : Sub all T) (hL : T 200 = some ⟨1, 1, .cons (.ret e_lam200) .nil⟩) (hk : 10 ≤ k) {r0 : Env} {s0 : Store} (cell : Int) (p : Cl r0 s0) : ∃ r' s', exSs (evF T k) body (bindE [1] true (.int cell) r0) s0 = .ok (.nx r') s' ∧ Cl r' s' := by
  obtain ⟨⟨a1, a2, a3, a4, a5, a6, a7, a8, a9, a10, rfl, o9, o10⟩, hnl⟩ := p
  obtain ⟨d1, hd1, e1⟩ := ev_deck (s := s0) (k := k) (cell := cell) (turn := 13) (h.mono (by decide)) (by omega) (by decide)
  obtain ⟨xs, d2, hx, hxl, hd2, e2⟩ := ev_rowM (s := s0) (k := k) (many := 14) (by decide) (h.mono (by decide)) (by omega) hd1 (by decide)
  have e2 : evF T k 21 [.loc s0.length, .int 14] (s0 ++ [dkO d1]) = .ok (ti xs) (s0 ++ [dkO d2]) := e2
  obtain ⟨c, d3, hc, hd3, e3⟩ := ev_calm (s := s0) (k := k) (h.mono (by decide)) (by omega) hd2 (by decide)
  obtain ⟨n1, d4, n10, n11, hd4, e4⟩ := ev_pick (s := s0) (k := k) (lim := 30) (h.mono (by decide)) (by omega) hd3 (by decide) ⟨by decide, by decide⟩
  obtain ⟨n2, d5, n20, n21, hd5, e5⟩ := ev_pick (s := s0) (k := k) (lim := 200) (h.mono (by decide)) (by omega) hd4 (by decide) ⟨by decide, by decide⟩
  have fk : ∀ d : Dk, fin false s0.length (.loc s0.length) (s0 ++ [dkO d]) = .ok (.loc s0.length) (s0 ++ [dkO d]) := fun d => fin_keep
  have hx16 := hx.1
  have hl : xs.length < 50000 := by omega
  have hx1 : ∀ x ∈ xs, 1 ≤ x := fun x hh => (hx.2 x hh).1
  have c0 : opB .add (.tup [.int 0]) (ti xs) = some (ti (0 :: xs)) := op_cat [0] xs (bigOf (by show 1 + xs.length ≤ 100000; omega))
  have em := max_ti (x := 0) (t := xs)
  have g1 : ∀ x ∈ xs, x ≤ mxL (0 :: xs) := fun x hh => le_mxL (List.mem_cons_of_mem _ hh)
  have g2 : 0 ≤ mxL (0 :: xs) := le_mxL List.mem_cons_self
  have g3 : mxL (0 :: xs) ≤ 50 := mxL_fifty fun y hy => by
    rcases List.mem_cons.mp hy with rfl | hy
    · decide
    · exact (hx.2 y hy).2
  have g4 : ∀ x t, xs = x :: t → mxL (0 :: xs) = mxL xs := fun x t e => by
    subst e
    exact mx_zero (hx1 x List.mem_cons_self)
  generalize mxL (0 :: xs) = lg at em g1 g2 g3 g4
  have t0 : Tn s0.length xs c lg [none, some (.int cell), some (.loc s0.length), some (ti xs), some (oi c), some (.int lg), a6, a7, a8, a9, a10] (s0 ++ [dkO d5]) := by
    refine ⟨⟨_, _, _, _, _, _, rfl, okN_some (by simp), o9, o10⟩, by rw [List.length_append]; exact Nat.lt_succ_self _, ?_⟩
    unfold NL at hnl ⊢
    rw [List.all_append, hnl]
    simp [dkO, noLstO, noLsts, noLst]
  obtain ⟨r1, s1, f1, t1⟩ := forR_mem (C := evF T k) (tg := [6]) (one := true) (b := lb3) (Tn s0.length xs c lg) [.int lg, .int (lg + 1), .int (lg + n1), .int (lg + n2)] (fun v hv => by
    obtain ⟨rm, rfl, hrm⟩ : ∃ rm : Int, v = .int rm ∧ lg ≤ rm ∧ rm ≤ lg + 300 := by
      simp only [List.mem_cons, List.not_mem_nil, or_false] at hv
      rcases hv with rfl | rfl | rfl | rfl <;> exact ⟨_, rfl, by omega, by omega⟩
    refine ⟨rfl, fun r s p => ?_⟩
    exact room_ok h (by omega) hx ⟨by omega, by omega⟩ (fun x hh => Int.le_trans (g1 x hh) hrm.1) hc p) _ _ t0
  have m1 : ∀ s, evF T k 85 [ti xs, oi c] s = .ok (moreP c xs) s := fun s => ev_more_evenings (h.mono (by decide)) (by omega) hx hc
  have m2 : ∀ s, evF T k 87 [ti xs, oi c] s = .ok (moreP c xs) s := fun s => ev_law_more (h.mono (by decide)) (by omega) hx hc
  have m3 := same_more (T := T) (k := k) h (by omega) c xs
  have h5 : tyOf (PV.int 5) ≠ .other := by simp [tyOf]
  have h17 : tyOf (PV.int 17) ≠ .other := by simp [tyOf]
  have b1 := bad_evenings (T := T) (k := k) (p := ti xs) (se := .int 5) (pa := .int 17) (v := .exn 2 []) h (by omega) (flat_ti xs hl) h5 h17 (fun s => by
    have z : seatsOk (.int 5) = true := rfl
    have z2 : patOk (.int 17) = false := rfl
    simp [houseR, partiesOk_ti hx, z, z2])
  have b2 : ∀ s, evF T k 85 [ti xs, .int 17] s = .exc (.exn 2 []) s := fun s => (bad_more h (by omega) (flat_ti xs hl) h17 s).2 (partiesOk_ti hx) rfl
  have q1 : opC .ne (.str "Patience+") (.str "Patience+") = some false := by decide +kernel
  obtain ⟨r2, s2, f2, t2⟩ := odds_ok (T := T) (k := k) h (by omega) hx t1
  obtain ⟨r3, f3, t3⟩ := doors_ok (T := T) (k := k) h hL (by omega) t2
  obtain ⟨⟨u1, u6, u7, u8, u9, u10, rfl, v1, v9, v10⟩, hln1, hnl1⟩ := t1
  obtain ⟨⟨w1, w6, w7, w8, w9, w10, rfl, x1, x9, x10⟩, hln2, hnl2⟩ := t2
  have hE : exSs (evF T k) body (bindE [1] true (.int cell) [none, a1, a2, a3, a4, a5, a6, a7, a8, a9, a10]) s0 = .ok (.nx r3) s2 := by
    have k1 : opC .notn .non .non = some false := rfl
    cases hxs : xs with
    | nil =>
      have e0 : opC .ne (ti xs) (.tup []) = some false := by rw [hxs]; rfl
      simp [body, e1, fk, e2, e3, c0, em, e4, e5, op_add, f1, e0, m1, m2, m3, f2, b1, b2, q1, f3]
    | cons x t =>
      have e0 : opC .ne (ti xs) (.tup []) = some true := by rw [hxs]; exact oc_ti_ne (x :: t) []
      have hp := hx1 x (by rw [hxs]; exact List.mem_cons_self)
      have hlx := g1 x (by rw [hxs]; exact List.mem_cons_self)
      have m0 : ∀ s, evF T k 84 [ti xs, .int (lg - 1), oi c] s = .ok .non s := ev_evenings_none h (by omega) hx ⟨by omega, by omega⟩ (by rw [hxs]; simp) (by rw [← g4 x t hxs]; omega) hc
      simp [body, e1, fk, e2, e3, c0, em, e4, e5, op_add, op_sub, f1, e0, m0, k1, m1, m2, m3, f2, b1, b2, q1, f3]
  refine ⟨r3, s2, hE, ?_⟩
  obtain ⟨⟨y1, y6, y7, y8, y9, y10, rfl, z1, z9, z10⟩, hln3, hnl3⟩ := t3
  exact ⟨⟨_, _, _, _, _, _, _, _, _, _, rfl, z9, z10⟩, hnl3⟩
def rw : List Int := [44, 24, 24, 22, 21, 17, 8, 8, 6, 6]
theorem known (h : Sub all T) (hk : 9 ≤ k) (s : Store) : evF T k 89 [ti rw] s = .ok (.bl true) s := by
  have hx : Sizes rw := sizes_by _ (by decide) (by decide)
  have v1 : evens none 60 rw = [[0, 6, 7], [1, 2, 8, 9], [3, 4, 5]] := by decide +kernel
  have v2 : evens none 61 rw = [[0, 5], [1, 2, 6], [3, 4, 7, 8], [9]] := by decide +kernel
  have e1 : ∀ s, evF T (k - 1) 84 [ti rw, .int 60, .non] s = _ := fun s => ev_evenings (s := s) (k := k - 1) (xs := rw) (c := none) (r := 60) (h.mono (by decide)) (by omega) hx ⟨by decide, by decide⟩ (by decide) trivial
  have e2 : ∀ s, evF T (k - 1) 84 [ti rw, .int 61, .non] s = _ := fun s => ev_evenings (s := s) (k := k - 1) (xs := rw) (c := none) (r := 61) (h.mono (by decide)) (by omega) hx ⟨by decide, by decide⟩ (by decide) trivial
  have m1 : ∀ s, evF T (k - 1) 85 [ti rw, .non] s = .ok (moreP none rw) s := fun s => ev_more_evenings (c := none) (h.mono (by decide)) (by omega) hx trivial
  have m2 : ∀ s, evF T (k - 1) 87 [ti rw, .non] s = .ok (moreP none rw) s := fun s => ev_law_more (c := none) (h.mono (by decide)) (by omega) hx trivial
  have m3 := same_more (T := T) (k := k - 1) h (by omega) none rw
  have hi : (moreI none rw).isSome = true := by decide +kernel
  have hm : opC .notn (moreP none rw) .non = some true := by
    unfold moreP
    rw [if_neg (by decide)]
    cases hmi : moreI none rw with
    | none => rw [hmi] at hi; cases hi
    | some i => rfl
  rw [v1] at e1
  rw [v2] at e2
  have g1 : opC .ne (.lst (([[0, 6, 7], [1, 2, 8, 9], [3, 4, 5]] : List (List Int)).map ti)) (.lst [.tup [.int 0, .int 6, .int 7], .tup [.int 1, .int 2, .int 8, .int 9], .tup [.int 3, .int 4, .int 5]]) = some false := tis_ne [[0, 6, 7], [1, 2, 8, 9], [3, 4, 5]]
  have g2 : opC .ne (.lst (([[0, 5], [1, 2, 6], [3, 4, 7, 8], [9]] : List (List Int)).map ti)) (.lst [.tup [.int 0, .int 5], .tup [.int 1, .int 2, .int 6], .tup [.int 3, .int 4, .int 7, .int 8], .tup [.int 9]]) = some false := tis_ne [[0, 5], [1, 2, 6], [3, 4, 7, 8], [9]]
  have nn : ∀ L : List (List Int), noloc (.lst (L.map ti)) = true := noloc_tis
  generalize ([[0, 6, 7], [1, 2, 8, 9], [3, 4, 5]] : List (List Int)) = L1 at e1 g1
  generalize ([[0, 5], [1, 2, 6], [3, 4, 7, 8], [9]] : List (List Int)) = L2 at e2 g2
  refine ev_ret (h 89 (by decide)) (by omega) rfl ?_
  simp [d_law_known_right, e1, e2, g1, g2, m1, m2, m3, hm]
/-- the rest -/
theorem rest_ok (h : Sub all T) (hk : 10 ≤ k) (r : Env) (s : Store) : exSs (evF T k) rest r s = .ok (.rt (.bl true)) s := by
  have z : ∀ (xs : List Int), (xs.all fun x => decide (1 ≤ x) && decide (x ≤ 50)) = true → xs.length ≤ 16 → Sizes xs := sizes_by
  have e1 : ∀ s, evF T k 84 [.tup [], .int 0, .non] s = _ := fun s => ev_evenings (s := s) (k := k) (xs := []) (c := none) (r := 0) (h.mono (by decide)) (by omega) (z _ (by decide) (by decide)) ⟨by decide, by decide⟩ (by decide) trivial
  have e2 : ∀ s, evF T k 84 [.tup [.int 5, .int 7], .int 6, .non] s = .ok .non s := ev_evenings_none (k := k) (xs := [5, 7]) (c := none) (r := 6) h (by omega) (z _ (by decide) (by decide)) ⟨by decide, by decide⟩ (by simp) (by decide) trivial
  have e3 : ∀ s, evF T k 84 [.tup [.int 5, .int 4, .int 1, .int 1], .int 6, .non] s = _ := fun s => ev_evenings (s := s) (k := k) (xs := [5, 4, 1, 1]) (c := none) (r := 6) (h.mono (by decide)) (by omega) (z _ (by decide) (by decide)) ⟨by decide, by decide⟩ (by decide) trivial
  have e4 : ∀ s, evF T k 84 [.tup [.int 1, .int 9, .int 1], .int 9, .int 0] s = _ := fun s => ev_evenings (s := s) (k := k) (xs := [1, 9, 1]) (c := some 0) (r := 9) (h.mono (by decide)) (by omega) (z _ (by decide) (by decide)) ⟨by decide, by decide⟩ (by decide) ⟨by decide, by decide⟩
  have v1 : evens none 0 [] = [] := by decide +kernel
  have v3 : evens none 6 [5, 4, 1, 1] = [[0, 2], [1, 3]] := by decide +kernel
  have v4 : evens (some 0) 9 [1, 9, 1] = [[0], [1], [2]] := by decide +kernel
  rw [v1] at e1
  rw [v3] at e3
  rw [v4] at e4
  have e5 : ∀ s, evF T k 89 [.tup [.int 44, .int 24, .int 24, .int 22, .int 21, .int 17, .int 8, .int 8, .int 6, .int 6]] s = .ok (.bl true) s := fun s => known h (by omega) s
  have g1 : opC .ne (.lst []) (.lst []) = some false := tis_ne []
  have g2 : opC .notn .non .non = some false := rfl
  have g3 : opC .eq (.lst (([[0, 2], [1, 3]] : List (List Int)).map ti)) (.lst [.tup [.int 0, .int 2], .tup [.int 1, .int 3]]) = some true := by decide +kernel
  have g4 : opC .eq (.lst (([[0], [1], [2]] : List (List Int)).map ti)) (.lst [.tup [.int 0], .tup [.int 1], .tup [.int 2]]) = some true := by decide +kernel
  generalize ([[0, 2], [1, 3]] : List (List Int)) = L3 at e3 g3
  generalize ([[0], [1], [2]] : List (List Int)) = L4 at e4 g4
  simp [rest, e1, e2, g1, g2, e5, e3, e4, g3, g4]
end
theorem holds : ∀ ns : List Int, ns.length ≤ 63 → ∃ s, law.run (evF tab deep) ns = .ok (.rt (.bl true)) s := fun ns _ => by
  have no : okN none := fun v e => by cases e
  obtain ⟨r', s', e, q⟩ := forR_inv (C := evF tab deep) (tg := [1]) (one := true) (b := body) PV.int (fun _ => rfl) (fun _ r s => Cl r s) (fun x xs r s p => by
    obtain ⟨r2, s2, e, q⟩ := cell_ok sub rfl (show 10 ≤ deep by decide) x p
    exact ⟨r2, s2, e, q⟩) (cells 8 ns) (List.replicate 11 none) [] ⟨⟨_, _, _, _, _, _, _, _, _, _, rfl, no, no⟩, rfl⟩
  refine ⟨s', ?_⟩
  have e2 := rest_ok sub (show 10 ≤ deep by decide) r' s'
  show thenS (forR (evF tab deep) [1] true body ((cells 8 ns).map PV.int) (List.replicate 11 none) []) (fun r s => exSs (evF tab deep) rest r s) = _
  rw [e, thenS_nx, e2]
end ML.K13

open PySem PySem.W PyProof.Rows
set_option maxHeartbeats 0 in
theorem PySem.Challenge.cw_fitqueue_k13_whole_evenings_holds : PySem.Challenge.rw_fitqueue_k13_whole_evenings.Holds := by
  w_on; o_law; k_head; (case hw => w_witness2)
  k_fill
  refine LamX.walk_ofTs (l := PySem.Challenge.rw_fitqueue_k13_whole_evenings) (n := 63) (k := ML.K13.deep + 5) (x := "script") (CX := fun w => L2N.CX PySem.Challenge.rw_fitqueue_k13_whole_evenings.prog w) rfl (by decide) rfl ⟨rfl, by decide, by decide⟩ (fun w h Y => PySem.W.km_in_of Y) ?F (fun w H s e s' h => ML.cx_off _ w H s e s' h)
  case F =>
    intro w mg fa h Y KX G hmg
    refine' ML.K13.mk (k := ML.K13.deep) (by decide) KX G hmg ?n0 ?l0 ?c0 ?k0 ?n1 ?l1 ?c1 ?k1 ?n2 ?l2 ?c2 ?k2 ?n3 ?l3 ?c3 ?k3 ?n4 ?l4 ?c4 ?k4 ?n5 ?l5 ?c5 ?k5 ?n6 ?l6 ?c6 ?k6 ?n7 ?l7 ?c7 ?k7 ?n8 ?l8 ?c8 ?k8 ?n9 ?l9 ?c9 ?k9 ?e9 ?n10 ?l10 ?c10 ?k10 ?e10 ?n11 ?l11 ?c11 ?k11 ?n12 ?l12 ?c12 ?k12 ?n13 ?l13 ?c13 ?k13 ?n14 ?l14 ?c14 ?k14 ?n15 ?l15 ?c15 ?k15 ?n16 ?l16 ?c16 ?k16 ?n17 ?l17 ?c17 ?k17 ?n18 ?l18 ?c18 ?k18 ?n19 ?l19 ?c19 ?k19 ?n20 ?l20 ?c20 ?k20 ?n21 ?l21 ?c21 ?k21 ?n22 ?l22 ?c22 ?k22 ?n23 ?l23 ?c23 ?k23 ?nL ?lL ?cL ?kL ?nT ?lT ?cT ?kT ?nN ?lN ?cN ?kN ?lC ?pC ?hC ?nP ?tP ?nX0 ?nX1 ?nX2 ?nX3 ?nX4 ?nX5 ?nX6 ?nX7 ?nX8 ?nX9 ?nX10 ?nQ ?xA ?z0 ?z1 ?z2 ?z3 ?z4 ?z5 ?z6 ?z7 ?z8 ?z9 ?z10 ?z11 ?z12 ?z13 ?z14 ?z15 ?gMOST_PARTIES ?gLARGEST ?gMOST_SEATS ML.K13.holds
    (case n0 => k_is)
    (case l0 => k_is)
    (case c0 => k_is)
    (case k0 => k_is)
    (case n1 => k_is)
    (case l1 => k_is)
    (case c1 => k_is)
    (case k1 => k_is)
    (case n2 => k_is)
    (case l2 => k_is)
    (case c2 => k_is)
    (case k2 => k_is)
    (case n3 => k_is)
    (case l3 => k_is)
    (case c3 => k_is)
    (case k3 => k_is)
    (case n4 => k_is)
    (case l4 => k_is)
    (case c4 => k_is)
    (case k4 => k_is)
    (case n5 => k_is)
    (case l5 => k_is)
    (case c5 => k_is)
    (case k5 => k_is)
    (case n6 => k_is)
    (case l6 => k_is)
    (case c6 => k_is)
    (case k6 => k_is)
    (case n7 => k_is)
    (case l7 => k_is)
    (case c7 => k_is)
    (case k7 => k_is)
    (case n8 => k_is)
    (case l8 => k_is)
    (case c8 => k_is)
    (case k8 => k_is)
    (case n9 => k_is)
    (case l9 => k_is)
    (case c9 => k_is)
    (case k9 => k_is)
    (case e9 => k_is)
    (case n10 => k_is)
    (case l10 => k_is)
    (case c10 => k_is)
    (case k10 => k_is)
    (case e10 => k_is)
    (case n11 => k_is)
    (case l11 => k_is)
    (case c11 => k_is)
    (case k11 => k_is)
    (case n12 => k_is)
    (case l12 => k_is)
    (case c12 => k_is)
    (case k12 => k_is)
    (case n13 => k_is)
    (case l13 => k_is)
    (case c13 => k_is)
    (case k13 => k_is)
    (case n14 => k_is)
    (case l14 => k_is)
    (case c14 => k_is)
    (case k14 => k_is)
    (case n15 => k_is)
    (case l15 => k_is)
    (case c15 => k_is)
    (case k15 => k_is)
    (case n16 => k_is)
    (case l16 => k_is)
    (case c16 => k_is)
    (case k16 => k_is)
    (case n17 => k_is)
    (case l17 => k_is)
    (case c17 => k_is)
    (case k17 => k_is)
    (case n18 => k_is)
    (case l18 => k_is)
    (case c18 => k_is)
    (case k18 => k_is)
    (case n19 => k_is)
    (case l19 => k_is)
    (case c19 => k_is)
    (case k19 => k_is)
    (case n20 => k_is)
    (case l20 => k_is)
    (case c20 => k_is)
    (case k20 => k_is)
    (case n21 => k_is)
    (case l21 => k_is)
    (case c21 => k_is)
    (case k21 => k_is)
    (case n22 => k_is)
    (case l22 => k_is)
    (case c22 => k_is)
    (case k22 => k_is)
    (case n23 => k_is)
    (case l23 => k_is)
    (case c23 => k_is)
    (case k23 => k_is)
    (case nL => k_is)
    (case lL => k_is)
    (case cL => k_is)
    (case kL => k_is)
    (case nT => k_is)
    (case lT => k_is)
    (case cT => k_is)
    (case kT => k_is)
    (case nN => k_is)
    (case lN => k_is)
    (case cN => k_is)
    (case kN => k_is)
    (case lC => k_is)
    (case pC => exact rfl)
    (case hC => kernel_rfl)
    (case nP => kernel_rfl)
    (case tP => exact PySem.W.km_tabs_of Y _ (by simp))
    (case nX0 => k_is)
    (case nX1 => k_is)
    (case nX2 => k_is)
    (case nX3 => k_is)
    (case nX4 => k_is)
    (case nX5 => k_is)
    (case nX6 => k_is)
    (case nX7 => k_is)
    (case nX8 => k_is)
    (case nX9 => k_is)
    (case nX10 => k_is)
    (case nQ => k_is)
    (case xA => kernel_rfl)
    (case z0 => k_is)
    (case z1 => k_is)
    (case z2 => k_is)
    (case z3 => k_is)
    (case z4 => k_is)
    (case z5 => k_is)
    (case z6 => k_is)
    (case z7 => k_is)
    (case z8 => k_is)
    (case z9 => k_is)
    (case z10 => k_is)
    (case z11 => k_is)
    (case z12 => k_is)
    (case z13 => k_is)
    (case z14 => k_is)
    (case z15 => k_is)
    (case gMOST_PARTIES => k_is)
    (case gLARGEST => k_is)
    (case gMOST_SEATS => k_is)
