import PyProof.Rows.All
import Wide.All
import OpenK.AllK
import Wide.FinOn
import HandS.ForMost
import HandS.Exc
import HandS.TryOnly
import HandS.ExcOwn
import HandS.WordsExc
import HandS.TryMany
import HandS.IsInst
import HandS.StrMore
import HandS.Wide
import HandS.Flow
import HandS.More
import HandS.Conv
import HandS.EndBits
import PySem.Challenge.RW_ownroom_k75_programs_read
set_option Elab.async false
set_option maxRecDepth 100000
set_option linter.all false
set_option maxHeartbeats 4000000
namespace Mi
open PySem PySem.Spec PyProof.Rows L2

/-! ### values, objects, results -/
inductive MV where
  | non | bl (b : Bool) | int (i : Int) | str (x : Str) | ref (i : Nat) | cst (i : Nat)
  deriving DecidableEq
inductive MO where
  | lst (xs : List MV) | tup (xs : List MV) | dK (kvs : List (Key × MV)) | dT (kvs : List (List Key × MV))
  | ins (C : Nat) (fs : List (Nat × MV)) | fz (xs : List MV) | lk (kvs : List (Key × MV))
abbrev MH := List MO
inductive Rs (α : Type) where
  | ok (a : α) (m : MH) | exc (c : Nat) (p : Option MV) (m : MH) | bad
@[inline] def Rs.bind {α β : Type} : Rs α → (α → MH → Rs β) → Rs β
  | .ok a m, f => f a m
  | .exc c p m, _ => .exc c p m
  | .bad, _ => .bad
abbrev MS := List (Option MV)
inductive Fl where
  | nx (s : MS) (m : MH) | rt (v : MV) (m : MH) | bk (s : MS) (m : MH) | ct (s : MS) (m : MH) | exc (c : Nat) (p : Option MV) (s : MS) (m : MH) | bad
/-- constants of the module -/
inductive CO where
  | tup (xs : List MV) | dS (kvs : List (Str × MV))

/-! ### the code -/
inductive Blt where
  | len | str | int | max2 | min2 | all | any | sum | tuple | list | abs | sorted | min1 | max1 | dict | listRange1 | listRange2
  deriving DecidableEq
inductive Bm where
  | strip1 | split1 | join | append | extend | pop | popAt | clear | index | lcount
  deriving DecidableEq
inductive Knd where
  | int | bool | str | list | tuple | cls (C : Nat)
  deriving DecidableEq
mutual
inductive IE where
  | var (i : Nat) | con (v : MV) | glo (v : MV)
  | bin (op : Operator) (a b : IE) | neg (a : IE)
  | cmp (op : CmpOp) (a b : IE) | isn (pos : Bool) (a : IE) | chn (op op' : CmpOp) (a b c : IE)
  | nt (a : IE) | an (a b : IE) | orr (a b : IE) | one (a : IE)
  | ife (c a b : IE)
  | lst (es : IEs) | tup (es : IEs)
  | ix (a i : IE) | sl (a lo hi : IE) | nopart
  | call (f : Nat) (es : IEs) | make (C : Nat) (es : IEs) | meth (o : IE) (m : Nat) (es : IEs)
  | fld (o : IE) (f : Nat)
  | blt (b : Blt) (es : IEs) | bm (o : IE) (b : Bm) (es : IEs)
  | isi (e : IE) (k : Knd)
  | lc (elt : IE) (vs : List Nat) (tup : Bool) (it : IE) (test : IE)
  | dnew (tk : Bool) | ddisp (kvs : IEs) | dget (o k : IE) (d : IE) | dpop (o k : IE) (d : IE)
  -- what is walked
  | wl (e : IE) | wr1 (a : IE) | wr2 (a b : IE) | wen (e : IE) | wzip (a b : IE) | wit (e : IE) | wval (e : IE) | wkey (e : IE)
  | never
inductive IEs where
  | nil | cons (e : IE) (es : IEs)
end
inductive IS where
  | nil | seq (s r : IS)
  | asg (i : Nat) (e : IE) | setf (o : IE) (f : Nat) (e : IE) | seti (o i e : IE) | unp (is : List Nat) (e : IE)
  | aug (i : Nat) (op : Operator) (e : IE) | augf (o : IE) (f : Nat) (op : Operator) (e : IE) | augi (o i : IE) (op : Operator) (e : IE)
  | ex (e : IE) | ret (e : IE) | retn | iff (c : IE) (a b : IS) | whl (c : IE) (b : IS)
  | for (vs : List Nat) (tup : Bool) (it : IE) (b : IS) | brk | cont | pass
  | rais (C : Nat) (e : Option IE)
  | never
structure FnI where
  name : Str
  qual : Str
  ps : List Str
  N : List Str
  body : IS
structure ClI where
  name : Str
  meths : List (Nat × Nat)
  init : Option Nat
structure G where
  cst : List CO
  cls : List ClI
  an : List Str
  fns : List FnI
end Mi

set_option Elab.async false
set_option maxRecDepth 100000
set_option linter.all false
set_option maxHeartbeats 4000000
namespace Mi
open PySem PySem.Spec PyProof.Rows L2

def allSome {α β : Type} (f : α → Option β) : List α → Option (List β)
  | [] => some []
  | x :: xs => match f x, allSome f xs with
    | some y, some ys => some (y :: ys)
    | _, _ => none

def tv : MV → V
  | .non => .non | .bl b => .bl b | .int i => .int i | .str x => .str x | _ => .ref 0
def flatM : MV → Bool
  | .non => true | .bl _ => true | .int _ => true | .str _ => true | _ => false
def keyOf : MV → Option Key
  | .int i => some (.inl i) | .str x => some (.inr x) | _ => none
def kM : Key → MV
  | .inl i => .int i | .inr x => .str x

def gl (m : MH) : MV → Option (List MV)
  | .ref i => match m[i]? with
    | some (.lst xs) => some xs
    | some (.fz xs) => some xs
    | _ => none
  | _ => none
def gt (g : G) (m : MH) : MV → Option (List MV)
  | .ref i => match m[i]? with
    | some (.tup xs) => some xs
    | _ => none
  | .cst c => match g.cst[c]? with
    | some (.tup xs) => some xs
    | _ => none
  | _ => none
def gs (g : G) (m : MH) (v : MV) : Option (List MV) := match gl m v with
  | some xs => some xs
  | none => gt g m v
/-- a new object -/
def new (m : MH) (o : MO) : Rs MV := .ok (.ref m.length) (m ++ [o])

def cutM (xs : List MV) (lo hi : Option Int) : List MV := (xs.drop (HT.sIx xs.length 0 lo)).take (HT.sIx xs.length xs.length hi - HT.sIx xs.length 0 lo)

def dat (g : G) (m : MH) : Nat → MV → Option PyData
  | 0, _ => none
  | n + 1, v => match v with
    | .non => some .none
    | .bl b => some (.bool b)
    | .int i => some (.int i)
    | .str x => some (.str x)
    | v => match gl m v with
      | some xs => (allSome (dat g m n) xs).map .list
      | none => match gt g m v with
        | some xs => (allSome (dat g m n) xs).map .tuple
        | none => none

def eqM (g : G) (m : MH) (x y : MV) : Option Bool :=
  if flatM x && flatM y && scal (tv x) (tv y) then some (decide (tv x = tv y))
  else match dat g m 8 x, dat g m 8 y with
    | some d, some e => if SeqAt.shaped d && SeqAt.shaped e then some (PyData.eqv d e) else none
    | _, _ => none

def lookS {α : Type} (k : Str) : List (Str × α) → Option α
  | [] => none
  | (j, v) :: r => if j = k then some v else lookS k r

def inM (g : G) (m : MH) (x y : MV) : Option Bool := match y with
  | .str z => match x with
    | .str w => some (!(Builtin.Str.occurrences z w 0 z.length 1).isEmpty)
    | _ => none
  | .cst c => match g.cst[c]? with
    | some (.tup xs) => if flatM x && xs.all flatM then some (inV (tv x) (xs.map tv)) else none
    | some (.dS kvs) => match x with
      | .str k => some (lookS k kvs).isSome
      | _ => none
    | _ => none
  | .ref i => match m[i]? with
    | some (.lst xs) => if flatM x && xs.all flatM then some (inV (tv x) (xs.map tv)) else none
    | some (.fz xs) => if flatM x && xs.all flatM then some (inV (tv x) (xs.map tv)) else none
    | some (.tup xs) => if flatM x && xs.all flatM then some (inV (tv x) (xs.map tv)) else none
    | _ => none
  | _ => none

def mulOk (i j : Int) : Bool := decide (-(2 ^ 64) < i ∧ i < 2 ^ 64) || decide (-(2 ^ 64) < j ∧ j < 2 ^ 64)

def bop (op : Operator) (x y : MV) (m : MH) : Rs MV := match op with
  | .Add => match x, y with
    | .int i, .int j => .ok (.int (i + j)) m
    | .int i, .bl k => .ok (.int (i + b2i k)) m
    | .str a, .str b => if a.length + b.length ≤ sizeLine then .ok (.str (a ++ b)) m else .bad
    | .ref a, .ref b => match m[a]?, m[b]? with
      | some (.lst xs), some (.lst ys) => if xs.length + ys.length ≤ sizeLine then new m (.lst (xs ++ ys)) else .bad
      | _, _ => .bad
    | _, _ => .bad
  | .Sub => match x, y with
    | .int i, .int j => .ok (.int (i - j)) m
    | _, _ => .bad
  | .Mult => match x, y with
    | .int i, .int j => if mulOk i j then .ok (.int (i * j)) m else .bad
    | .str a, .int j => if -(2 ^ 63) ≤ j ∧ j ≤ 65536 ∧ a.length ≤ 16 then .ok (.str (Txt.mul a j)) m else .bad
    | .ref a, .int j => match m[a]? with
      | some (.lst xs) => if -(2 ^ 63) ≤ j ∧ j < 2 ^ 63 ∧ xs.length * j.toNat ≤ sizeLine then new m (.lst (List.replicate j.toNat xs).flatten) else .bad
      | _ => .bad
    | _, _ => .bad
  | .Mod => match x, y with
    | .int i, .int j => if 0 < j then .ok (.int (i % j)) m else .bad
    | _, _ => .bad
  | .FloorDiv => match x, y with
    | .int i, .int j => if 0 < j ∧ j.natAbs.log2 < 9000 then .ok (.int (i / j)) m else .bad
    | _, _ => .bad
  | .BitAnd => match x, y with
    | .int i, .int j => .ok (.int (Builtin.bitAnd i j)) m
    | _, _ => .bad
  | .BitXor => match x, y with
    | .int i, .int j => .ok (.int (Builtin.bitXor i j)) m
    | _, _ => .bad
  | .LShift => match x, y with
    | .int i, .int j => if 0 ≤ j ∧ j ≤ 1000000 ∧ i.natAbs < 2 ^ 64 then .ok (.int (i * 2 ^ j.toNat)) m else .bad
    | _, _ => .bad
  | .RShift => match x, y with
    | .int i, .int j => if 0 ≤ j then .ok (.int (i / 2 ^ j.toNat)) m else .bad
    | _, _ => .bad
  | .Pow => match x, y with
    | .int i, .int j => if 0 ≤ j ∧ j ≤ 1000000 ∧ i.natAbs < 2 ^ 64 then .ok (.int (i ^ j.toNat)) m else .bad
    | _, _ => .bad
  | _ => .bad

def rb (o : Option Bool) (m : MH) : Rs MV := match o with
  | some b => .ok (.bl b) m
  | none => .bad
def cmpI (f : Int → Int → Bool) : MV → MV → MH → Rs MV
  | .int i, .int j, m => .ok (.bl (f i j)) m
  | _, _, _ => .bad
def cop (g : G) (op : CmpOp) (x y : MV) (m : MH) : Rs MV := match op with
  | .Eq => rb (eqM g m x y) m
  | .NotEq => rb ((eqM g m x y).map (!·)) m
  | .Lt => cmpI (fun i j => decide (i < j)) x y m
  | .LtE => cmpI (fun i j => decide (i ≤ j)) x y m
  | .Gt => cmpI (fun i j => decide (j < i)) x y m
  | .GtE => cmpI (fun i j => decide (j ≤ i)) x y m
  | .In => rb (inM g m x y) m
  | .NotIn => rb ((inM g m x y).map (!·)) m
  | _ => .bad

def truth (g : G) (m : MH) : MV → Option Bool
  | .non => some false
  | .bl b => some b
  | .int i => some (i != 0)
  | .str y => if y.length ≤ sizeLine then some ((y.length : Int) != 0) else none
  | v => match gs g m v with
    | some xs => some (!xs.isEmpty)
    | none => none

def ixM (g : G) (x y : MV) (m : MH) : Rs MV := match y with
  | .int i => match x with
    | .str z => if z.length ≤ sizeLine then (match atI z.cps.toList i with
      | some c => .ok (.str ⟨#[c]⟩) m
      | none => .bad) else .bad
    | x => match gs g m x with
      | some xs => match atI xs i with
        | some v => .ok v m
        | none => .bad
      | none => .bad
  | .str k => match x with
    | .cst c => match g.cst[c]? with
      | some (.dS kvs) => match lookS k kvs with
        | some v => .ok v m
        | none => .bad
      | _ => .bad
    | _ => .bad
  | _ => .bad

def slM (x : MV) (lo hi : Option Int) (m : MH) : Rs MV := match x with
  | .str z => if z.length ≤ sizeLine then .ok (.str (cutS z lo hi)) m else .bad
  | x => match gl m x with
    | some xs => new m (.lst (cutM xs lo hi))
    | none => .bad

def intsOf (xs : List MV) : Option (List Int) := allSome (fun v => match v with | .int i => some i | _ => none) xs
def blsOf (xs : List MV) : Option (List Bool) := allSome (fun v => match v with | .bl i => some i | _ => none) xs
def strsOf (xs : List MV) : Option (List Str) := allSome (fun v => match v with | .str i => some i | _ => none) xs

def bltM (g : G) (b : Blt) (vs : List MV) (m : MH) : Rs MV := match b with
  | .len => match vs with
    | [.str z] => if z.length ≤ sizeLine then .ok (.int z.length) m else .bad
    | [x] => match gs g m x with
      | some xs => .ok (.int xs.length) m
      | none => .bad
    | _ => .bad
  | .str => match vs with
    | [.int i] => if i.natAbs.log2 < 1920 then .ok (.str (toString i)) m else .bad
    | _ => .bad
  | .int => match vs with
    | [.int i] => .ok (.int i) m
    | [.bl k] => .ok (.int (if k then 1 else 0)) m
    | [.str a] => match PySem.intText? a with
      | some n => if a.length ≤ 640 then .ok (.int n) m else .bad
      | none => .bad
    | _ => .bad
  | .max2 => match vs with
    | [.int i, .int j] => .ok (.int (if j > i then j else i)) m
    | _ => .bad
  | .min2 => match vs with
    | [.int i, .int j] => .ok (.int (if j < i then j else i)) m
    | _ => .bad
  | .abs => match vs with
    | [.int i] => .ok (.int (if i < 0 then -i else i)) m
    | _ => .bad
  | .all => match vs with
    | [x] => match (gl m x).bind blsOf with
      | some bs => .ok (.bl (bs.all id)) m
      | none => .bad
    | _ => .bad
  | .any => match vs with
    | [x] => match (gl m x).bind blsOf with
      | some bs => .ok (.bl (bs.any id)) m
      | none => .bad
    | _ => .bad
  | .sum => match vs with
    | [x] => match (gl m x).bind intsOf with
      | some bs => .ok (.int bs.sum) m
      | none => .bad
    | _ => .bad
  | .tuple => match vs with
    | [x] => match gl m x with
      | some xs => new m (.tup xs)
      | none => match gt g m x with
        | some _ => .ok x m
        | none => .bad
    | _ => .bad
  | .list => match vs with
    | [x] => match gs g m x with
      | some xs => new m (.lst xs)
      | none => .bad
    | _ => .bad
  | _ => .bad

def bmM (g : G) (b : Bm) (x : MV) (vs : List MV) (m : MH) : Rs MV := match b with
  | .strip1 => match x, vs with
    | .str a, [.str b] => if a.length ≤ sizeLine then .ok (.str (Txt.stripChars a b)) m else .bad
    | _, _ => .bad
  | .split1 => match x, vs with
    | .str a, [.str b] => if (b.length == 0) = false ∧ a.length + 2 ≤ sizeLine then new m (.lst ((Txt.split a b).map .str)) else .bad
    | _, _ => .bad
  | .join => match x, vs with
    | .str a, [y] => match (gs g m y).bind strsOf with
      | some ys => if (ys.map (·.length)).sum + ys.length * a.length ≤ 16777216 then .ok (.str (Txt.join a ys)) m else .bad
      | none => .bad
    | _, _ => .bad
  | .append => match x, vs with
    | .ref l, [y] => match m[l]? with
      | some (.lst xs) => if xs.length < sizeLine then .ok .non (m.set l (.lst (xs ++ [y]))) else .bad
      | _ => .bad
    | _, _ => .bad
  | _ => .bad

def setM (o i v : MV) (m : MH) : Option MH := match o, i with
  | .ref l, .int k => match m[l]? with
    | some (.lst xs) => match ixN xs.length k with
      | some j => some (m.set l (.lst (xs.set j v)))
      | none => none
    | _ => none
  | _, _ => none

def isiM (g : G) (k : Knd) (m : MH) : MV → Option Bool
  | .non => match k with
    | .cls _ => none
    | _ => some false
  | .bl _ => match k with
    | .bool => some true
    | .int => some true
    | .cls _ => none
    | _ => some false
  | .int _ => match k with
    | .int => some true
    | .cls _ => none
    | _ => some false
  | .str _ => match k with
    | .str => some true
    | .cls _ => none
    | _ => some false
  | .ref i => match m[i]? with
    | some (.lst _) => (match k with | .list => some true | .cls _ => none | _ => some false)
    | some (.fz _) => (match k with | .list => some true | .cls _ => none | _ => some false)
    | some (.tup _) => (match k with | .tuple => some true | .cls _ => none | _ => some false)
    | some (.dK _) => (match k with | .cls _ => none | _ => some false)
    | _ => none
  | _ => none

/-! ### what is walked -/
inductive Wk where
  | lst (v : MV) (xs : List MV) | tup (v : MV) (xs : List MV) | rng (lo : Int) (n : Nat) | enm (v : MV) (xs : List MV) | zip (a b : MV) (xs ys : List MV)
def Wk.still (g : G) (m : MH) : Wk → Bool
  | .lst v xs => decide (gl m v = some xs)
  | .tup v xs => decide (gt g m v = some xs)
  | .rng _ _ => true
  | .enm v xs => decide (gl m v = some xs)
  | .zip a b xs ys => decide (gl m a = some xs) && decide (gl m b = some ys)
def enmFrom (k : Int) : List MV → List (List MV)
  | [] => []
  | x :: r => [.int k, x] :: enmFrom (k + 1) r
def rngFrom (lo : Int) : Nat → List (List MV)
  | 0 => []
  | n + 1 => [.int lo] :: rngFrom (lo + 1) n
def Wk.items : Wk → List (List MV)
  | .lst _ xs => xs.map fun x => [x]
  | .tup _ xs => xs.map fun x => [x]
  | .rng lo n => rngFrom lo n
  | .enm _ xs => enmFrom 0 xs
  | .zip _ _ xs ys => (xs.zip ys).map fun p => [p.1, p.2]
def setAll : List Nat → List MV → MS → Option MS
  | [], [], s => some s
  | i :: r, x :: xs, s => setAll r xs (s.set i (some x))
  | _, _, _ => none
def bindT (g : G) (vs : List Nat) (tup : Bool) (item : List MV) (s : MS) (m : MH) : Option MS := match item with
  | [x] => if tup = true then (match gt g m x with
    | some xs => setAll vs xs s
    | none => none) else (match vs with
    | [i] => some (s.set i (some x))
    | _ => none)
  | [x, y] => if tup = true then setAll vs [x, y] s else none
  | _ => none
def wipeM (s : MS) : List Nat → MS
  | [] => s
  | v :: vs => (wipeM s vs).set v none

def whl (c : MS → MH → Rs Bool) (b : MS → MH → Fl) : Nat → MS → MH → Fl
  | 0, _, _ => .bad
  | n + 1, s, m => match c s m with
    | .ok true m1 => match b s m1 with
      | .nx s2 m2 => whl c b n s2 m2
      | .ct s2 m2 => whl c b n s2 m2
      | .bk s2 m2 => .nx s2 m2
      | .rt v m2 => .rt v m2
      | .exc k p s2 m2 => .exc k p s2 m2
      | .bad => .bad
    | .ok false m1 => .nx s m1
    | .exc k p m1 => .exc k p s m1
    | .bad => .bad
def forL (still : MH → Bool) (tg : List MV → MS → MH → Option MS) (b : MS → MH → Fl) : List (List MV) → MS → MH → Fl
  | [], s, m => if still m then .nx s m else .bad
  | x :: r, s, m => if still m then (match tg x s m with
    | some s1 => match b s1 m with
      | .nx s2 m2 => forL still tg b r s2 m2
      | .ct s2 m2 => forL still tg b r s2 m2
      | .bk s2 m2 => .nx s2 m2
      | .rt v m2 => .rt v m2
      | .exc k p s2 m2 => .exc k p s2 m2
      | .bad => .bad
    | none => .bad) else .bad
/-- a comprehension's block: the list at D grows -/
def lcL (still : MH → Bool) (tg : List MV → MS → MH → Option MS) (t : MS → MH → Rs Bool) (e : MS → MH → Rs MV) (D : Nat) (s : MS) : List (List MV) → MH → Rs MV
  | [], m => if still m then .ok (.ref D) m else .bad
  | x :: r, m => if still m then (match tg x s m with
    | some s1 => match t s1 m with
      | .ok true m1 => match e s1 m1 with
        | .ok y m2 => match m2[D]? with
          | some (.lst acc) => if acc.length < sizeLine then lcL still tg t e D s r (m2.set D (.lst (acc ++ [y]))) else .bad
          | _ => .bad
        | _ => .bad
      | .ok false m1 => lcL still tg t e D s r m1
      | _ => .bad
    | none => .bad) else .bad

def bmTy (b : Bm) (m : MH) (x : MV) : Bool := match b, x with
  | .strip1, .str _ => true
  | .split1, .str _ => true
  | .join, .str _ => true
  | .strip1, _ => false
  | .split1, _ => false
  | .join, _ => false
  | _, .ref i => match m[i]? with
    | some (.lst _) => true
    | _ => false
  | _, _ => false
def methM (g : G) (m : MH) (x : MV) (n : Nat) : Option Nat := match x with
  | .ref i => match m[i]? with
    | some (.ins C fs) => match fs.lookup n with
      | some _ => none
      | none => match g.cls[C]? with
        | some cl => cl.meths.lookup n
        | none => none
    | _ => none
  | _ => none
def fldM (m : MH) (x : MV) (f : Nat) : Option MV := match x with
  | .ref i => match m[i]? with
    | some (.ins _ fs) => fs.lookup f
    | _ => none
  | _ => none
def putN (f : Nat) (v : MV) : List (Nat × MV) → List (Nat × MV)
  | [] => [(f, v)]
  | (g, x) :: r => if g = f then (g, v) :: r else (g, x) :: putN f v r
section
variable (g : G) (fc fm : Nat → List MV → MH → Rs MV)
mutual
def dE : IE → MS → MH → Rs MV
  | .var i, s, m => match s[i]? with
    | some (some v) => .ok v m
    | _ => .bad
  | .con v, _, m => .ok v m
  | .glo v, _, m => .ok v m
  | .bin op a b, s, m => (dE a s m).bind fun x m1 => (dE b s m1).bind fun y m2 => bop op x y m2
  | .neg a, s, m => (dE a s m).bind fun x m1 => match x with
    | .int i => .ok (.int (-i)) m1
    | _ => .bad
  | .cmp op a b, s, m => (dE a s m).bind fun x m1 => (dE b s m1).bind fun y m2 => cop g op x y m2
  | .isn pos a, s, m => (dE a s m).bind fun x m1 => .ok (.bl (if pos then decide (x = .non) else !decide (x = .non))) m1
  | .chn op op' a b c, s, m => (dE a s m).bind fun x m1 => (dE b s m1).bind fun y m2 => (cop g op x y m2).bind fun z m3 => match z with
    | .bl true => (dE c s m3).bind fun w m4 => cop g op' y w m4
    | .bl false => .ok (.bl false) m3
    | _ => .bad
  | .nt a, s, m => (dE a s m).bind fun x m1 => match truth g m1 x with
    | some k => .ok (.bl (!k)) m1
    | none => .bad
  | .an a b, s, m => (dE a s m).bind fun x m1 => match truth g m1 x with
    | some true => dE b s m1
    | some false => .ok x m1
    | none => .bad
  | .orr a b, s, m => (dE a s m).bind fun x m1 => match truth g m1 x with
    | some false => dE b s m1
    | some true => .ok x m1
    | none => .bad
  | .one a, s, m => dE a s m
  | .ife c a b, s, m => (dT c s m).bind fun k m1 => match k with
    | true => dE a s m1
    | false => dE b s m1
  | .lst es, s, m => (dA es s m).bind fun xs m1 => if xs.length ≤ sizeLine then new m1 (.lst xs) else .bad
  | .tup es, s, m => (dA es s m).bind fun xs m1 => if xs.length ≤ sizeLine then new m1 (.tup xs) else .bad
  | .ix a i, s, m => (dE a s m).bind fun x m1 => (dE i s m1).bind fun y m2 => ixM g x y m2
  | .sl a lo hi, s, m => (dE a s m).bind fun x m1 => (dP lo s m1).bind fun l m2 => (dP hi s m2).bind fun h m3 => slM x l h m3
  | .call f es, s, m => (dA es s m).bind fun xs m1 => fc f xs m1
  | .make C es, s, m => (dA es s m).bind fun xs m1 => match g.cls[C]? with
    | some cl => match cl.init with
      | some f => (fm f (.ref m1.length :: xs) (m1 ++ [.ins C []])).bind fun _ m2 => .ok (.ref m1.length) m2
      | none => .bad
    | none => .bad
  | .meth o n es, s, m => (dE o s m).bind fun x m1 => match methM g m1 x n with
    | some f => (dA es s m1).bind fun xs m2 => fc f (x :: xs) m2
    | none => .bad
  | .fld o f, s, m => (dE o s m).bind fun x m1 => match fldM m1 x f with
    | some v => .ok v m1
    | none => .bad
  | .blt b es, s, m => (dA es s m).bind fun xs m1 => bltM g b xs m1
  | .bm o b es, s, m => (dE o s m).bind fun x m1 => match bmTy b m1 x with
    | true => (dA es s m1).bind fun xs m2 => bmM g b x xs m2
    | false => .bad
  | .isi e k, s, m => (dE e s m).bind fun x m1 => rb (isiM g k m1 x) m1
  | .lc elt vs tup it test, s, m => (dW it s m).bind fun wk m1 =>
      lcL (fun m => wk.still g m) (fun x s m => bindT g vs tup x s m) (dT test) (dE elt) m1.length (wipeM s vs) wk.items (m1 ++ [.lst []])
  | _, _, _ => .bad
def dT : IE → MS → MH → Rs Bool
  | .nt a, s, m => (dT a s m).bind fun k m1 => .ok (!k) m1
  | .an a b, s, m => (dT a s m).bind fun k m1 => match k with
    | true => dT b s m1
    | false => .ok false m1
  | .orr a b, s, m => (dT a s m).bind fun k m1 => match k with
    | true => .ok true m1
    | false => dT b s m1
  | .one a, s, m => dT a s m
  | .ife _ _ _, _, _ => .bad
  | .nopart, _, m => .ok true m
  | .cmp op a b, s, m => (dE a s m).bind fun x m1 => (dE b s m1).bind fun y m2 => (cop g op x y m2).bind fun z m3 => match z with
    | .bl k => .ok k m3
    | _ => .bad
  | .isn pos a, s, m => (dE a s m).bind fun x m1 => .ok (if pos then decide (x = .non) else !decide (x = .non)) m1
  | .chn op op' a b c, s, m => (dE a s m).bind fun x m1 => (dE b s m1).bind fun y m2 => (cop g op x y m2).bind fun z m3 => match z with
    | .bl true => (dE c s m3).bind fun w m4 => (cop g op' y w m4).bind fun z m5 => match z with
      | .bl k => .ok k m5
      | _ => .bad
    | .bl false => .ok false m3
    | _ => .bad
  | .var i, s, m => match s[i]? with
    | some (some v) => match truth g m v with
      | some k => .ok k m
      | none => .bad
    | _ => .bad
  | .call f es, s, m => (dA es s m).bind fun xs m1 => (fc f xs m1).bind fun x m1 => match truth g m1 x with
    | some k => .ok k m1
    | none => .bad
  | .blt b es, s, m => (dA es s m).bind fun xs m1 => (bltM g b xs m1).bind fun x m1 => match truth g m1 x with
    | some k => .ok k m1
    | none => .bad
  | .isi e k, s, m => (dE e s m).bind fun x m1 => match isiM g k m1 x with
    | some b => .ok b m1
    | none => .bad
  | _, _, _ => .bad
def dP : IE → MS → MH → Rs (Option Int)
  | .nopart, _, m => .ok none m
  | .con (.int i), _, m => .ok (some i) m
  | .neg a, s, m => (dE a s m).bind fun x m1 => match x with
    | .int i => .ok (some (-i)) m1
    | _ => .bad
  | .var i, s, m => match s[i]? with
    | some (some (.int v)) => .ok (some v) m
    | _ => .bad
  | _, _, _ => .bad
def dW : IE → MS → MH → Rs Wk
  | .wl e, s, m => (dE e s m).bind fun x m1 => match gl m1 x with
    | some xs => .ok (.lst x xs) m1
    | none => match gt g m1 x with
      | some xs => .ok (.tup x xs) m1
      | none => .bad
  | .wr1 a, s, m => (dE a s m).bind fun x m1 => match x with
    | .int j => if -(2 ^ 62) ≤ j ∧ j < 2 ^ 62 then .ok (.rng 0 j.toNat) m1 else .bad
    | _ => .bad
  | .wr2 a b, s, m => (dE a s m).bind fun x m1 => (dE b s m1).bind fun y m2 => match x, y with
    | .int i, .int j => if -(2 ^ 62) ≤ i ∧ i < 2 ^ 62 ∧ -(2 ^ 62) ≤ j ∧ j < 2 ^ 62 then .ok (.rng i (j - i).toNat) m2 else .bad
    | _, _ => .bad
  | .wen e, s, m => (dE e s m).bind fun x m1 => match gl m1 x with
    | some xs => .ok (.enm x xs) m1
    | none => .bad
  | .wzip a b, s, m => (dE a s m).bind fun x m1 => (dE b s m1).bind fun y m2 => match gl m2 x, gl m2 y with
    | some xs, some ys => if xs.length = ys.length then .ok (.zip x y xs ys) m2 else .bad
    | _, _ => .bad
  | _, _, _ => .bad
def dA : IEs → MS → MH → Rs (List MV)
  | .nil, _, m => .ok [] m
  | .cons e es, s, m => (dE e s m).bind fun x m1 => (dA es s m1).bind fun xs m2 => .ok (x :: xs) m2
end

def augM : Operator → MV → MV → Option MV
  | .Add, .int a, .int b => some (.int (a + b))
  | .Sub, .int a, .int b => some (.int (a - b))
  | _, _, _ => none
def lift {α : Type} (r : Rs α) (s : MS) (f : α → MH → Fl) : Fl := match r with
  | .ok a m => f a m
  | .exc c p m => .exc c p s m
  | .bad => .bad
def loopFuel : Nat := 1000000
def dS : IS → MS → MH → Fl
  | .nil, s, m => .nx s m
  | .seq a b, s, m => match dS a s m with
    | .nx s1 m1 => dS b s1 m1
    | r => r
  | .asg i e, s, m => lift (dE g fc fm e s m) s fun v m1 => .nx (s.set i (some v)) m1
  | .seti o i e, s, m => lift (dE g fc fm e s m) s fun v m1 => lift (dE g fc fm o s m1) s fun x m2 => lift (dE g fc fm i s m2) s fun y m3 => match setM x y v m3 with
    | some m4 => .nx s m4
    | none => .bad
  | .unp is e, s, m => lift (dE g fc fm e s m) s fun v m1 => match gt g m1 v with
    | some xs => match setAll is xs s with
      | some s1 => .nx s1 m1
      | none => .bad
    | none => .bad
  | .aug i op e, s, m => match s[i]? with
    | some (some x) => lift (dE g fc fm e s m) s fun y m1 => match augM op x y with
      | some v => .nx (s.set i (some v)) m1
      | none => .bad
    | _ => .bad
  | .ex e, s, m => lift (dE g fc fm e s m) s fun _ m1 => .nx s m1
  | .ret e, s, m => lift (dE g fc fm e s m) s fun v m1 => .rt v m1
  | .retn, _, m => .rt .non m
  | .iff c a b, s, m => lift (dT g fc fm c s m) s fun k m1 => match k with
    | true => dS a s m1
    | false => dS b s m1
  | .whl c b, s, m => whl (dT g fc fm c) (dS b) loopFuel s m
  | .for vs tup it b, s, m => lift (dW g fc fm it s m) s fun wk m1 => forL (fun m => wk.still g m) (fun x s m => bindT g vs tup x s m) (dS b) wk.items s m1
  | .brk, s, m => .bk s m
  | .cont, s, m => .ct s m
  | .pass, s, m => .nx s m
  | _, _, _ => .bad
end
def startM (n : Nat) (vs : List MV) : MS := vs.map some ++ List.replicate (n - vs.length) none
def Fl.back : Fl → Rs MV
  | .nx _ m => .ok .non m
  | .rt v m => .ok v m
  | .exc c p _ m => .exc c p m
  | _ => .bad
def callB (g : G) (fc fm : Nat → List MV → MH → Rs MV) (f : Nat) (vs : List MV) (m : MH) : Rs MV := match g.fns[f]? with
  | none => .bad
  | some F => if vs.length = F.ps.length then (dS g fc fm F.body (startM F.N.length vs) m).back else .bad
/-- calls at a level, and one level below -/
def callP (g : G) : Nat → (Nat → List MV → MH → Rs MV) × (Nat → List MV → MH → Rs MV)
  | 0 => (fun _ _ _ => .bad, fun _ _ _ => .bad)
  | k + 1 => (callB g (callP g k).1 (callP g k).2, (callP g k).1)
def callD (g : G) (k : Nat) : Nat → List MV → MH → Rs MV := (callP g k).1
def fmOf (g : G) (k : Nat) : Nat → List MV → MH → Rs MV := (callP g k).2
theorem callD_succ (g : G) (k : Nat) : callD g (k + 1) = callB g (callD g k) (fmOf g k) := rfl
theorem fmOf_succ (g : G) (k : Nat) : fmOf g (k + 1) = callD g k := rfl
end Mi

set_option Elab.async false
set_option maxRecDepth 100000
set_option linter.all false
set_option maxHeartbeats 4000000
set_option autoImplicit false
namespace Mi
abbrev St := L2.St
open PySem PySem.Spec PyProof.Rows L2

structure Link where
  P : Program
  w : World
  K : PySem.W.Frag
  mg : Str → Option Value
  base : Heap
  fa : Nat → Addr
  fd : Nat → FuncData
  ca : Nat → Addr
  ka : Nat → Addr
  g : G

def RelM (L : Link) (ρ : List Addr) : MV → V → Prop
  | .non, v => v = .non
  | .bl b, v => v = .bl b
  | .int i, v => v = .int i
  | .str x, v => v = .str x
  | .ref i, v => ∃ a, ρ[i]? = some a ∧ v = .ref a
  | .cst c, v => v = .ref (L.ka c)
abbrev RelL (L : Link) (ρ : List Addr) : List MV → List V → Prop := Paired (RelM L ρ)
def KvM (L : Link) (ρ : List Addr) {κ : Type} : List (κ × MV) → List (κ × V) → Prop := Paired fun p q => p.1 = q.1 ∧ RelM L ρ p.2 q.2
def FsM (L : Link) (ρ : List Addr) : List (Nat × MV) → List (Str × V) → Prop := Paired fun p q => L.g.an[p.1]? = some q.1 ∧ RelM L ρ p.2 q.2
def KL (K : PySem.W.Frag) (a : Addr) (xs : List V) : Prop :=
  ∃ (o : Obj) (its : Array Value) (n : Nat), K.lookup a = some o ∧ o.cls = .type "list" ∧ o.dict = none ∧ o.data = .seq its n ∧ its.size ≤ sizeLine ∧ Vals xs its.toList
def ObM (L : Link) (ρ : List Addr) (H : Hp) (a : Addr) : MO → Prop
  | .lst xs => ∃ ys, H a = some (.lst ys) ∧ RelL L ρ xs ys
  | .tup xs => ∃ ys, H a = some (.tup ys) ∧ RelL L ρ xs ys
  | .dK kvs => ∃ ws, H a = some (.dK ws) ∧ KvM L ρ kvs ws
  | .dT kvs => ∃ ws, H a = some (.dT ws) ∧ KvM L ρ kvs ws
  | .ins C fs => ∃ dx gs, H a = some (.ins (L.ca C) dx gs) ∧ FsM L ρ fs gs
  | .fz xs => ∃ ys, RelL L ρ xs ys ∧ ((∃ o, H a = some (.frz o (.lst ys))) ∨ KL L.K a ys)
  | .lk kvs => ∃ o ws, H a = some (.frz o (.dK ws)) ∧ KvM L ρ kvs ws
def isFz : MO → Bool
  | .fz _ => true
  | _ => false
structure Sim (L : Link) (ρ : List Addr) (m : MH) (H : Hp) : Prop where
  len : ρ.length = m.length
  inj : ∀ (i j : Nat) (a : Addr) (oi oj : MO), ρ[i]? = some a → ρ[j]? = some a → m[i]? = some oi → m[j]? = some oj → isFz oi = false → isFz oj = false → i = j
  ob : ∀ (i : Nat) (a : Addr) (o : MO), ρ[i]? = some a → m[i]? = some o → ObM L ρ H a o
def SimS (L : Link) (ρ : List Addr) (s : MS) (σ : St) : Prop := s.length = σ.length ∧ ∀ (i : Nat) (v : MV), s[i]? = some (some v) → ∃ V, σ[i]? = some (some V) ∧ RelM L ρ v V

section
variable {L : Link} {ρ ρ' ρ1 : List Addr} {m : MH} {H : Hp} {s : MS} {σ : St}
theorem pre_get {i : Nat} {a : Addr} (e : ρ <+: ρ') (h : ρ[i]? = some a) : ρ'[i]? = some a := by
  obtain ⟨t, rfl⟩ := e
  rw [List.getElem?_append_left (List.getElem?_eq_some_iff.mp h).1]
  exact h
theorem RelM.mono {v : MV} {x : V} (r : RelM L ρ v x) (e : ρ <+: ρ') : RelM L ρ' v x := by
  cases v with
  | ref i => obtain ⟨a, h, q⟩ := r; exact ⟨a, pre_get e h, q⟩
  | _ => exact r
theorem RelL.mono {v : List MV} {x : List V} (r : RelL L ρ v x) (e : ρ <+: ρ') : RelL L ρ' v x := Paired.mapP r fun _ _ q => RelM.mono q e
theorem KvM.mono {κ : Type} {v : List (κ × MV)} {x : List (κ × V)} (r : KvM L ρ v x) (e : ρ <+: ρ') : KvM L ρ' v x := Paired.mapP r fun _ _ q => ⟨q.1, RelM.mono q.2 e⟩
theorem FsM.mono {v : List (Nat × MV)} {x : List (Str × V)} (r : FsM L ρ v x) (e : ρ <+: ρ') : FsM L ρ' v x := Paired.mapP r fun _ _ q => ⟨q.1, RelM.mono q.2 e⟩
theorem SimS.mono (r : SimS L ρ s σ) (e : ρ <+: ρ') : SimS L ρ' s σ := ⟨r.1, fun i v h => by obtain ⟨V, a, b⟩ := r.2 i v h; exact ⟨V, a, b.mono e⟩⟩
/-- the object stays where it lies -/
theorem ObM.keep {H' : Hp} {a : Addr} {o : MO} (x : ObM L ρ H a o) (e : ρ <+: ρ') (h : ∀ u, H a = some u → H' a = some u) : ObM L ρ' H' a o := by
  cases o with
  | lst xs => obtain ⟨ys, h1, r⟩ := x; exact ⟨ys, h _ h1, RelL.mono r e⟩
  | tup xs => obtain ⟨ys, h1, r⟩ := x; exact ⟨ys, h _ h1, RelL.mono r e⟩
  | dK xs => obtain ⟨ys, h1, r⟩ := x; exact ⟨ys, h _ h1, KvM.mono r e⟩
  | dT xs => obtain ⟨ys, h1, r⟩ := x; exact ⟨ys, h _ h1, KvM.mono r e⟩
  | ins C fs => obtain ⟨dx, ys, h1, r⟩ := x; exact ⟨dx, ys, h _ h1, FsM.mono r e⟩
  | lk xs => obtain ⟨o, ys, h1, r⟩ := x; exact ⟨o, ys, h _ h1, KvM.mono r e⟩
  | fz xs =>
    obtain ⟨ys, r, h1⟩ := x
    refine ⟨ys, RelL.mono r e, ?_⟩
    rcases h1 with ⟨o, h1⟩ | h1
    · exact .inl ⟨o, h _ h1⟩
    · exact .inr h1
theorem ObM.tracked {a : Addr} {o : MO} (x : ObM L ρ H a o) (f : isFz o = false) : ∃ u, H a = some u := by
  cases o with
  | lst xs => obtain ⟨ys, h1, r⟩ := x; exact ⟨_, h1⟩
  | tup xs => obtain ⟨ys, h1, r⟩ := x; exact ⟨_, h1⟩
  | dK xs => obtain ⟨ys, h1, r⟩ := x; exact ⟨_, h1⟩
  | dT xs => obtain ⟨ys, h1, r⟩ := x; exact ⟨_, h1⟩
  | ins C fs => obtain ⟨dx, ys, h1, r⟩ := x; exact ⟨_, h1⟩
  | lk xs => obtain ⟨o, ys, h1, r⟩ := x; exact ⟨_, h1⟩
  | fz xs => cases f
theorem Sim.new {p : Addr} {o : MO} {u : HO} (S : Sim L ρ m H) (hp : H p = none) (f : isFz o = false) (x : ObM L (ρ ++ [p]) (upd H p u) p o) : Sim L (ρ ++ [p]) (m ++ [o]) (upd H p u) := by
  have pre : ρ <+: ρ ++ [p] := List.prefix_append _ _
  have split : ∀ {i : Nat} {a : Addr} {o' : MO}, (ρ ++ [p])[i]? = some a → (m ++ [o])[i]? = some o' → (ρ[i]? = some a ∧ m[i]? = some o') ∨ (i = ρ.length ∧ a = p ∧ o' = o) := by
    intro i a o' h1 h2
    have hl := S.len
    by_cases hi : i < ρ.length
    · rw [List.getElem?_append_left hi] at h1
      rw [List.getElem?_append_left (by omega)] at h2
      exact .inl ⟨h1, h2⟩
    · have e : i = ρ.length := by
        have := (List.getElem?_eq_some_iff.mp h1).1
        rw [List.length_append, List.length_singleton] at this
        omega
      subst e
      rw [List.getElem?_append_right (Nat.le_refl _), Nat.sub_self] at h1
      rw [hl, List.getElem?_append_right (Nat.le_refl _), Nat.sub_self] at h2
      exact .inr ⟨rfl, (Option.some.inj h1).symm, (Option.some.inj h2).symm⟩
  refine ⟨by simp [S.len], fun i j a oi oj h1 h2 h3 h4 f1 f2 => ?_, fun i a o' h1 h2 => ?_⟩
  · rcases split h1 h3 with ⟨a1, a2⟩ | ⟨a1, a2, a3⟩ <;> rcases split h2 h4 with ⟨b1, b2⟩ | ⟨b1, b2, b3⟩
    · exact S.inj i j a oi oj a1 b1 a2 b2 f1 f2
    · obtain ⟨u, q⟩ := (S.ob i a oi a1 a2).tracked f1
      rw [b2, hp] at q; cases q
    · obtain ⟨u, q⟩ := (S.ob j a oj b1 b2).tracked f2
      rw [a2, hp] at q; cases q
    · rw [a1, b1]
  · rcases split h1 h2 with ⟨a1, a2⟩ | ⟨a1, rfl, rfl⟩
    · exact (S.ob i a o' a1 a2).keep pre fun u q => by rw [upd_ne (ne_of_none q hp)]; exact q
    · exact x
/-- things that m does not know may change -/
theorem Sim.other {H' : Hp} (S : Sim L ρ m H) (h : ∀ a u, H a = some u → H' a = some u) : Sim L ρ m H' :=
  ⟨S.len, S.inj, fun i a o h1 h2 => (S.ob i a o h1 h2).keep (List.prefix_refl _) fun u q => h a u q⟩
theorem Sim.set {i : Nat} {a : Addr} {o0 o : MO} {u : HO} (S : Sim L ρ m H) (ha : ρ[i]? = some a) (hm : m[i]? = some o0) (f0 : isFz o0 = false) (f : isFz o = false) (x : ObM L ρ (upd H a u) a o) : Sim L ρ (m.set i o) (upd H a u) := by
  have hi : i < m.length := (List.getElem?_eq_some_iff.mp hm).1
  have split : ∀ {j : Nat} {o' : MO}, (m.set i o)[j]? = some o' → (j = i ∧ o' = o) ∨ (j ≠ i ∧ m[j]? = some o') := by
    intro j o' h
    by_cases e : j = i
    · subst e
      rw [List.getElem?_set_self hi] at h
      exact .inl ⟨rfl, (Option.some.inj h).symm⟩
    · rw [List.getElem?_set_ne (Ne.symm e)] at h
      exact .inr ⟨e, h⟩
  refine ⟨by simp [S.len], fun j k b oj ok h1 h2 h3 h4 f1 f2 => ?_, fun j b o' h1 h2 => ?_⟩
  · rcases split h3 with ⟨rfl, rfl⟩ | ⟨a1, a2⟩ <;> rcases split h4 with ⟨rfl, rfl⟩ | ⟨b1, b2⟩
    · rfl
    · exact S.inj _ _ b o0 ok h1 h2 hm b2 f0 f2
    · exact S.inj _ _ b oj o0 h1 h2 a2 hm f1 f0
    · exact S.inj _ _ b oj ok h1 h2 a2 b2 f1 f2
  · rcases split h2 with ⟨rfl, rfl⟩ | ⟨a1, a2⟩
    · rw [ha] at h1; cases h1; exact x
    · have y := S.ob j b o' h1 a2
      by_cases e : b = a
      · subst e
        by_cases f2 : isFz o' = false
        · exact absurd (S.inj j i b o' o0 h1 ha a2 hm f2 f0) a1
        · cases o' with
          | fz xs =>
            obtain ⟨ys, r, h⟩ := y
            refine ⟨ys, r, .inr ?_⟩
            rcases h with ⟨oo, h⟩ | h
            · exfalso
              have z := S.ob i b o0 ha hm
              cases o0 with
              | lst xs => obtain ⟨ys, h1, r⟩ := z; rw [h] at h1; cases h1
              | tup xs => obtain ⟨ys, h1, r⟩ := z; rw [h] at h1; cases h1
              | dK xs => obtain ⟨ys, h1, r⟩ := z; rw [h] at h1; cases h1
              | dT xs => obtain ⟨ys, h1, r⟩ := z; rw [h] at h1; cases h1
              | ins C fs => obtain ⟨dx, ys, h1, r⟩ := z; rw [h] at h1; cases h1
              | lk xs => obtain ⟨o, ys, h1, r⟩ := z; rw [h] at h1; cases h1
              | fz xs => cases f0
            · exact h
          | _ => exact absurd rfl f2
      · exact y.keep (List.prefix_refl _) fun u q => by rw [upd_ne e]; exact q
end

/-! ### what is wanted behind -/
def XRel (L : Link) (ρ : List Addr) (p : Option MV) (d : Option Addr) (H : Hp) : Prop := match p with
  | none => d = none
  | some v => ∃ dx V, d = some dx ∧ H dx = some (.xd [(("row" : Str), V)]) ∧ RelM L ρ v V
def PostR (L : Link) {α β : Type} (R : List Addr → α → β → Prop) (E : XK) (ρ : List Addr) (r : Rs α) (Q : β → Hp → Prop) : Prop := match r with
  | .ok a m => ∀ ρ' H' b, ρ <+: ρ' → Sim L ρ' m H' → R ρ' a b → Q b H'
  | .exc c p m => ∀ ρ' H' d, ρ <+: ρ' → Sim L ρ' m H' → XRel L ρ' p d H' → E (.ref (L.ca c)) d H'
  | .bad => False
abbrev PostV (L : Link) := PostR L (RelM L)
abbrev PostB (L : Link) := PostR L (fun _ (a b : Bool) => a = b)
abbrev PostL (L : Link) := PostR L (RelL L)
section
variable {L : Link} {α β γ δ : Type} {R : List Addr → α → β → Prop} {R' : List Addr → γ → δ → Prop} {E : XK} {ρ ρ1 : List Addr} {r : Rs α} {f : α → MH → Rs γ} {Q : β → Hp → Prop} {Q' : δ → Hp → Prop}
theorem PostR.mono (h : PostR L R E ρ r Q) (e : ρ <+: ρ1) : PostR L R E ρ1 r Q := by
  cases r with
  | ok a m => exact fun ρ' H' b e' => h ρ' H' b (e.trans e')
  | exc c p m => exact fun ρ' H' b e' => h ρ' H' b (e.trans e')
  | bad => exact h
theorem PostR.bind (h : PostR L R' E ρ (r.bind f) Q') (k : ∀ a m1 ρ1 H1 b, r = .ok a m1 → ρ <+: ρ1 → Sim L ρ1 m1 H1 → R ρ1 a b → PostR L R' E ρ1 (f a m1) Q' → Q b H1) : PostR L R E ρ r Q := by
  cases r with
  | ok a m => exact fun ρ' H' b e s q => k a m ρ' H' b rfl e s q (PostR.mono h e)
  | exc c p m => exact h
  | bad => exact h
theorem PostR.imp (h : PostR L R E ρ r Q) {Q1 : β → Hp → Prop} (k : ∀ b H, Q b H → Q1 b H) : PostR L R E ρ r Q1 := by
  cases r with
  | ok a m => exact fun ρ' H' b e s q => k _ _ (h ρ' H' b e s q)
  | exc c p m => exact h
  | bad => exact h
theorem PostR.ok {a : α} {m : MH} {H : Hp} {b : β} (h : PostR L R E ρ (.ok a m) Q) (S : Sim L ρ m H) (q : R ρ a b) : Q b H := h ρ H b (List.prefix_refl _) S q
theorem PostR.new {m : MH} {o : MO} {u : HO} {H : Hp} {p : Addr} {Q : VK} (h : PostV L E ρ (Mi.new m o) Q) (S : Sim L ρ m H) (hp : H p = none) (f : isFz o = false) (x : ObM L (ρ ++ [p]) (upd H p u) p o) : Q (.ref p) (upd H p u) := by
  refine h (ρ ++ [p]) _ _ (List.prefix_append _ _) (S.new hp f x) ⟨p, ?_, rfl⟩
  rw [← S.len, List.getElem?_append_right (Nat.le_refl _), Nat.sub_self]
  rfl
end
def tE (L : Link) (E : St → XK) (d : MS → MH → Rs MV) : TE := fun σ H Q => ∃ s m ρ, SimS L ρ s σ ∧ Sim L ρ m H ∧ PostV L (E σ) ρ (d s m) Q
def tT (L : Link) (E : St → XK) (d : MS → MH → Rs Bool) : TT := fun σ H Q => ∃ s m ρ, SimS L ρ s σ ∧ Sim L ρ m H ∧ PostB L (E σ) ρ (d s m) Q
def tA (L : Link) (E : St → XK) (d : MS → MH → Rs (List MV)) : TA := fun σ H Q => ∃ s m ρ, SimS L ρ s σ ∧ Sim L ρ m H ∧ PostL L (E σ) ρ (d s m) Q
theorem PE.imp {X : Cx} {e : Expr} {t t' : TE} (h : PE X e t) (k : ∀ σ H Q, t' σ H Q → t σ H Q) : PE X e t' := ⟨fun pins s σ H Q I q => h.run pins s σ H Q I (k σ H Q q)⟩
theorem PT.imp {X : Cx} {e : Expr} {t t' : TT} (h : PT X e t) (k : ∀ σ H Q, t' σ H Q → t σ H Q) : PT X e t' := ⟨fun pins s σ H Q I q => h.run pins s σ H Q I (k σ H Q q)⟩
theorem PA.imp {X : Cx} {e : List Expr} {t t' : TA} (h : PA X e t) (k : ∀ σ H Q, t' σ H Q → t σ H Q) : PA X e t' := ⟨fun pos pins s σ H Q I q => h.run pos pins s σ H Q I (k σ H Q q)⟩
theorem PS.imp {X : Cx} {e : Stmt} {t t' : TS} (h : PS X e t) (k : ∀ D σ H, t' D σ H → t D σ H) : PS X e t' := ⟨fun pins s σ H Q I q => h.run pins s σ H Q I (k Q σ H q)⟩
theorem PSs.imp {X : Cx} {e : List Stmt} {t t' : TS} (h : PSs X e t) (k : ∀ D σ H, t' D σ H → t D σ H) : PSs X e t' := ⟨fun pins s σ H Q I q => h.run pins s σ H Q I (k Q σ H q)⟩
/-- an operation of two values -/
def rM (L : Link) (E : XK) (f : MV → MV → MH → Rs MV) : R2 := fun x y H Q => ∃ x' y' m ρ, RelM L ρ x' x ∧ RelM L ρ y' y ∧ Sim L ρ m H ∧ PostV L E ρ (f x' y' m) Q
end Mi

set_option Elab.async false
set_option maxRecDepth 100000
set_option linter.all false
set_option maxHeartbeats 4000000
set_option autoImplicit false
namespace Mi
open PySem PySem.Spec PyProof.Rows L2

/-- the module's constants as the top has laid them -/
structure COk (L : Link) : Prop where
  tup : ∀ (c : Nat) (xs : List MV), L.g.cst[c]? = some (.tup xs) → ∃ ys, RelL L [] xs ys ∧ ∃ (o : Obj) (its : Array Value) (n : Nat), L.K.lookup (L.ka c) = some o ∧ o.cls = .type "tuple" ∧ o.data = .seq its n ∧ its.size ≤ sizeLine ∧ Vals ys its.toList
  dS : ∀ (c : Nat) (kvs : List (Str × MV)), L.g.cst[c]? = some (.dS kvs) → ∃ es n, KDict L.K L.w (L.ka c) es n ∧
    ∀ z, (∀ v, lookS z kvs = some v → ∃ u V, PySem.W.nsIn L.K (L.ka c) z = some (some u) ∧ RelV V u ∧ RelM L [] v V) ∧ (lookS z kvs = none → PySem.W.nsIn L.K (L.ka c) z = some none)
  an : L.g.an.Nodup

section
variable {L : Link} {ρ : List Addr} {m : MH} {H : Hp}
theorem Sim.at {i : Nat} {o : MO} (S : Sim L ρ m H) (h : m[i]? = some o) : ∃ a, ρ[i]? = some a ∧ ObM L ρ H a o := by
  have : i < ρ.length := by rw [S.len]; exact (List.getElem?_eq_some_iff.mp h).1
  exact ⟨ρ[i], List.getElem?_eq_getElem this, S.ob i _ o (List.getElem?_eq_getElem this) h⟩
theorem Sim.atr {i : Nat} {o : MO} {x : V} (S : Sim L ρ m H) (h : m[i]? = some o) (r : RelM L ρ (.ref i) x) : ∃ a, ρ[i]? = some a ∧ x = .ref a ∧ ObM L ρ H a o := by
  obtain ⟨a, ha, rfl⟩ := r
  exact ⟨a, ha, rfl, S.ob i a o ha h⟩
theorem gl_sq {v : MV} {x : V} {xs : List MV} (S : Sim L ρ m H) (r : RelM L ρ v x) (h : gl m v = some xs) : ∃ a ys, x = .ref a ∧ SqL L.K H a ys ∧ RelL L ρ xs ys := by
  unfold gl at h
  split at h
  · rename_i i
    split at h
    · rename_i xs' e
      cases h
      obtain ⟨a, ha, rfl, ys, h1, h2⟩ := S.atr e r
      exact ⟨a, ys, rfl, .inl (.inl h1), h2⟩
    · rename_i xs' e
      cases h
      obtain ⟨a, ha, rfl, ys, h2, h1⟩ := S.atr e r
      rcases h1 with ⟨o, h1⟩ | h1
      · exact ⟨a, ys, rfl, .inl (.inr ⟨o, h1⟩), h2⟩
      · exact ⟨a, ys, rfl, .inr h1, h2⟩
    · cases h
  · cases h
theorem gt_sq (C : COk L) {v : MV} {x : V} {xs : List MV} (S : Sim L ρ m H) (r : RelM L ρ v x) (h : gt L.g m v = some xs) : ∃ a ys, x = .ref a ∧ SqT L.K H a ys ∧ RelL L ρ xs ys := by
  unfold gt at h
  split at h
  · rename_i i
    split at h
    · rename_i xs' e
      cases h
      obtain ⟨a, ha, rfl, ys, h1, h2⟩ := S.atr e r
      exact ⟨a, ys, rfl, .inl (.inl h1), h2⟩
    · cases h
  · rename_i c
    split at h
    · rename_i xs' e
      cases h
      obtain ⟨ys, h1, h2⟩ := C.tup c xs e
      have r' : x = .ref (L.ka c) := r
      exact ⟨_, ys, r', .inr h2, RelL.mono h1 (List.nil_prefix)⟩
    · cases h
  · cases h
theorem gs_sq (C : COk L) {v : MV} {x : V} {xs : List MV} (S : Sim L ρ m H) (r : RelM L ρ v x) (h : gs L.g m v = some xs) : ∃ a ys, x = .ref a ∧ (SqL L.K H a ys ∨ SqT L.K H a ys) ∧ RelL L ρ xs ys := by
  unfold gs at h
  split at h
  · rename_i xs' e
    cases h
    obtain ⟨a, ys, h1, h2, h3⟩ := gl_sq S r e
    exact ⟨a, ys, h1, .inl h2, h3⟩
  · obtain ⟨a, ys, h1, h2, h3⟩ := gt_sq C S r h
    exact ⟨a, ys, h1, .inr h2, h3⟩
theorem rel_flat {v : MV} {x : V} (r : RelM L ρ v x) (f : flatM v = true) : x = tv v ∧ flatV x = true := by
  cases v with
  | ref i => cases f
  | cst i => cases f
  | _ => exact ⟨r, by cases r; rfl⟩
theorem relL_flat : ∀ {xs : List MV} {ys : List V}, RelL L ρ xs ys → xs.all flatM = true → ys = xs.map tv ∧ ys.all flatV = true
  | _, _, .nil, _ => ⟨rfl, rfl⟩
  | _, _, .cons r t, f => by
    simp only [List.all_cons, Bool.and_eq_true] at f
    obtain ⟨h1, h2⟩ := rel_flat r f.1
    obtain ⟨h3, h4⟩ := relL_flat t f.2
    subst h1 h3
    exact ⟨rfl, by simp only [List.all_cons, Bool.and_eq_true]; exact ⟨h2, h4⟩⟩
theorem relL_ints : ∀ {xs : List MV} {ys : List V} {ns : List Int}, RelL L ρ xs ys → intsOf xs = some ns → ys = ns.map V.int
  | _, _, _, .nil, h => by cases h; rfl
  | x :: xs, _, ns, .cons r t, h => by
    unfold intsOf allSome at h
    split at h
    · rename_i y zs h1 h2
      cases h
      rw [relL_ints t h2]
      cases x with
      | int i => cases h1; cases r; rfl
      | _ => cases h1
    · cases h
theorem relL_bls : ∀ {xs : List MV} {ys : List V} {ns : List Bool}, RelL L ρ xs ys → blsOf xs = some ns → ys = ns.map V.bl
  | _, _, _, .nil, h => by cases h; rfl
  | x :: xs, _, ns, .cons r t, h => by
    unfold blsOf allSome at h
    split at h
    · rename_i y zs h1 h2
      cases h
      rw [relL_bls t h2]
      cases x with
      | bl i => cases h1; cases r; rfl
      | _ => cases h1
    · cases h
theorem relL_strs : ∀ {xs : List MV} {ys : List V} {ns : List Str}, RelL L ρ xs ys → strsOf xs = some ns → ys = ns.map V.str
  | _, _, _, .nil, h => by cases h; rfl
  | x :: xs, _, ns, .cons r t, h => by
    unfold strsOf allSome at h
    split at h
    · rename_i y zs h1 h2
      cases h
      rw [relL_strs t h2]
      cases x with
      | str i => cases h1; cases r; rfl
      | _ => cases h1
    · cases h
theorem relL_len {xs : List MV} {ys : List V} (r : RelL L ρ xs ys) : xs.length = ys.length := Paired.length r
theorem relL_get : ∀ {xs : List MV} {ys : List V} {i : Nat} {v : MV}, RelL L ρ xs ys → xs[i]? = some v → ∃ x, ys[i]? = some x ∧ RelM L ρ v x
  | _, _, _, _, .nil, h => by simp at h
  | _, _, 0, _, .cons r t, h => by simp at h; subst h; exact ⟨_, rfl, r⟩
  | _, _, i + 1, _, .cons r t, h => by simp at h; obtain ⟨x, a, b⟩ := relL_get t h; exact ⟨x, by simpa using a, b⟩
theorem relL_at {xs : List MV} {ys : List V} {i : Int} {v : MV} (r : RelL L ρ xs ys) (h : atI xs i = some v) : ∃ x, atI ys i = some x ∧ RelM L ρ v x := by
  unfold atI at h ⊢
  rw [← relL_len r]
  cases e : ixN xs.length i with
  | none => rw [e] at h; cases h
  | some j => rw [e] at h; exact relL_get r h
theorem relL_app : ∀ {xs xs' : List MV} {ys ys' : List V}, RelL L ρ xs ys → RelL L ρ xs' ys' → RelL L ρ (xs ++ xs') (ys ++ ys')
  | _, _, _, _, .nil, s => s
  | _, _, _, _, .cons r t, s => .cons r (relL_app t s)
theorem relL_take : ∀ {xs : List MV} {ys : List V} (n : Nat), RelL L ρ xs ys → RelL L ρ (xs.take n) (ys.take n)
  | _, _, 0, _ => .nil
  | _, _, _ + 1, .nil => .nil
  | _, _, n + 1, .cons r t => .cons r (relL_take n t)
theorem relL_drop : ∀ {xs : List MV} {ys : List V} (n : Nat), RelL L ρ xs ys → RelL L ρ (xs.drop n) (ys.drop n)
  | _, _, 0, r => r
  | _, _, _ + 1, .nil => .nil
  | _, _, n + 1, .cons _ t => relL_drop n t
theorem relL_cut {xs : List MV} {ys : List V} (lo hi : Option Int) (r : RelL L ρ xs ys) : RelL L ρ (cutM xs lo hi) (cutV ys lo hi) := by
  unfold cutM cutV
  rw [relL_len r]
  exact relL_take _ (relL_drop _ r)
theorem relL_set {v : MV} {x : V} (q : RelM L ρ v x) : ∀ {xs : List MV} {ys : List V} (i : Nat), RelL L ρ xs ys → RelL L ρ (xs.set i v) (ys.set i x)
  | _, _, _, .nil => .nil
  | _, _, 0, .cons _ t => .cons q t
  | _, _, i + 1, .cons r t => .cons r (relL_set q i t)
theorem relL_rep {xs : List MV} {ys : List V} (r : RelL L ρ xs ys) : ∀ k : Nat, RelL L ρ (List.replicate k xs).flatten (List.replicate k ys).flatten
  | 0 => .nil
  | k + 1 => by
    rw [List.replicate_succ, List.replicate_succ, List.flatten_cons, List.flatten_cons]
    exact relL_app r (relL_rep r k)
theorem relL_strs_map : ∀ (ys : List Str), RelL L ρ (ys.map MV.str) (ys.map V.str)
  | [] => .nil
  | y :: r => .cons rfl (relL_strs_map r)
/-- data as a whole -/
theorem dat_dp (C : COk L) (S : Sim L ρ m H) : ∀ (n : Nat) (v : MV) (x : V) (d : PyData), RelM L ρ v x → dat L.g m n v = some d → Dp L.K H x d
  | 0, _, _, _, _, h => by cases h
  | n + 1, v, x, d, r, h => by
    have all : ∀ (xs : List MV) (ys : List V) (ds : List PyData), RelL L ρ xs ys → allSome (dat L.g m n) xs = some ds → DpAll L.K H ys ds := by
      intro xs
      induction xs with
      | nil => intro ys ds r h; cases r; cases h; exact .nil
      | cons a xs ih =>
        intro ys ds r h
        cases r with
        | cons r1 r2 =>
          unfold allSome at h
          split at h
          · rename_i y zs h1 h2
            cases h
            exact .cons (dat_dp C S n _ _ _ r1 h1) (ih _ _ r2 h2)
          · cases h
    have seq : ∀ (v : MV), RelM L ρ v x → (match gl m v with
      | some xs => (allSome (dat L.g m n) xs).map PyData.list
      | none => match gt L.g m v with
        | some xs => (allSome (dat L.g m n) xs).map PyData.tuple
        | none => none) = some d → Dp L.K H x d := by
      intro v r h
      split at h
      · rename_i xs e
        obtain ⟨a, ys, rfl, h1, h2⟩ := gl_sq S r e
        obtain ⟨ds, e1, rfl⟩ := Option.map_eq_some_iff.mp h
        exact .lst h1 (all _ _ _ h2 e1)
      · split at h
        · rename_i xs e
          obtain ⟨a, ys, rfl, h1, h2⟩ := gt_sq C S r e
          obtain ⟨ds, e1, rfl⟩ := Option.map_eq_some_iff.mp h
          exact .tup h1 (all _ _ _ h2 e1)
        · cases h
    cases v with
    | non => cases h; cases r; exact .non
    | bl b => cases h; cases r; exact .bl b
    | int i => cases h; cases r; exact .int i
    | str y => cases h; cases r; exact .str y
    | ref i => exact seq _ r h
    | cst i => exact seq _ r h
theorem eqM_ok (C : COk L) (S : Sim L ρ m H) {v w : MV} {x y : V} {b : Bool} (r : RelM L ρ v x) (q : RelM L ρ w y) (h : eqM L.g m v w = some b) :
    (scal x y = true ∧ b = decide (x = y)) ∨ ∃ d e, Dp L.K H x d ∧ Dp L.K H y e ∧ SeqAt.shaped d = true ∧ SeqAt.shaped e = true ∧ b = PyData.eqv d e := by
  unfold eqM at h
  split at h
  · rename_i f
    simp only [Bool.and_eq_true] at f
    obtain ⟨⟨f1, f2⟩, f3⟩ := f
    obtain ⟨rfl, _⟩ := rel_flat r f1
    obtain ⟨rfl, _⟩ := rel_flat q f2
    cases h
    exact .inl ⟨f3, rfl⟩
  · split at h
    · rename_i d e h1 h2
      split at h
      · rename_i f
        simp only [Bool.and_eq_true] at f
        cases h
        exact .inr ⟨d, e, dat_dp C S 8 _ _ _ r h1, dat_dp C S 8 _ _ _ q h2, f.1, f.2, rfl⟩
      · cases h
    · cases h
end

section
variable {L : Link} {X : Cx} {E : XK}
theorem op_bop (op : Operator) : OpR X (binaryOp op) (rM L E (bop op)) := by
  intro pins s σ H x y v u Q I rx ry h
  obtain ⟨x', y', m, ρ, r1, r2, S, h⟩ := h
  cases op with
  | Add =>
    cases x' with
    | int i =>
      cases y' with
      | int j => exact op_add pins s σ H x y v u Q I rx ry ⟨i, j, r1, r2, PostR.ok h S rfl⟩
      | bl j => exact op_add_ib pins s σ H x y v u Q I rx ry ⟨i, j, r1, r2, PostR.ok h S rfl⟩
      | _ => exact False.elim h
    | str i =>
      cases y' with
      | str j =>
        change PostV L E ρ (if _ then _ else _) Q at h
        split at h
        · rename_i hz; exact op_add_str pins s σ H x y v u Q I rx ry ⟨i, j, r1, r2, hz, PostR.ok h S rfl⟩
        · exact False.elim h
      | _ => exact False.elim h
    | ref i =>
      cases y' with
      | ref j =>
        simp only [bop] at h
        split at h
        · rename_i xs ys e1 e2
          split at h
          · rename_i hz
            obtain ⟨a, _, rfl, zs, g1, q1⟩ := S.atr e1 r1
            obtain ⟨b, _, rfl, ws, g2, q2⟩ := S.atr e2 r2
            refine op_cat pins s σ H _ _ v u Q I rx ry ⟨a, b, zs, ws, rfl, rfl, g1, g2, by rw [← relL_len q1, ← relL_len q2]; exact hz, fun p hp => ?_⟩
            exact PostR.new h S hp rfl ⟨_, upd_same, relL_app (RelL.mono q1 (List.prefix_append _ _)) (RelL.mono q2 (List.prefix_append _ _))⟩
          · exact False.elim h
        · exact False.elim h
      | _ => exact False.elim h
    | _ => exact False.elim h
  | Sub =>
    cases x' with
    | int i =>
      cases y' with
      | int j => exact op_sub pins s σ H x y v u Q I rx ry ⟨i, j, r1, r2, PostR.ok h S rfl⟩
      | _ => exact False.elim h
    | _ => exact False.elim h
  | Mult =>
    cases x' with
    | int i =>
      cases y' with
      | int j =>
        simp only [bop] at h
        split at h
        · rename_i hz
          unfold mulOk at hz
          simp only [Bool.or_eq_true, decide_eq_true_eq] at hz
          exact op_mul pins s σ H x y v u Q I rx ry ⟨i, j, r1, r2, hz, PostR.ok h S rfl⟩
        · exact False.elim h
      | _ => exact False.elim h
    | str i =>
      cases y' with
      | int j =>
        simp only [bop] at h
        split at h
        · rename_i hz
          cases r1
          cases r2
          obtain ⟨t, rfl⟩ := rx
          obtain ⟨t', rfl⟩ := ry
          exact SB.mul (mulOk_of 16 65536 hz.2.2 (by omega) hz.1 (by decide) (by decide)) fun t' k => ⟨.str _, H, I.tok k, ⟨t', rfl⟩, PostR.ok h S rfl⟩
        · exact False.elim h
      | _ => exact False.elim h
    | ref i =>
      cases y' with
      | int j =>
        simp only [bop] at h
        split at h
        · rename_i xs e1
          split at h
          · rename_i hz
            obtain ⟨a, _, rfl, zs, g1, q1⟩ := S.atr e1 r1
            refine op_rep pins s σ H _ _ v u Q I rx ry ⟨a, j, zs, rfl, r2, g1, hz.1, hz.2.1, by rw [← relL_len q1]; exact hz.2.2, fun p hp => ?_⟩
            exact PostR.new h S hp rfl ⟨_, upd_same, RelL.mono (relL_rep q1 _) (List.prefix_append _ _)⟩
          · exact False.elim h
        · exact False.elim h
      | _ => exact False.elim h
    | _ => exact False.elim h
  | Mod =>
    cases x' with
    | int i =>
      cases y' with
      | int j =>
        simp only [bop] at h
        split at h
        · rename_i hz; exact op_mod pins s σ H x y v u Q I rx ry ⟨i, j, r1, r2, hz, PostR.ok h S rfl⟩
        · exact False.elim h
      | _ => exact False.elim h
    | _ => exact False.elim h
  | FloorDiv =>
    cases x' with
    | int i =>
      cases y' with
      | int j =>
        simp only [bop] at h
        split at h
        · rename_i hz; exact op_fdivW pins s σ H x y v u Q I rx ry ⟨i, j, r1, r2, hz, PostR.ok h S rfl⟩
        · exact False.elim h
      | _ => exact False.elim h
    | _ => exact False.elim h
  | BitAnd =>
    cases x' with
    | int i =>
      cases y' with
      | int j => exact op_and pins s σ H x y v u Q I rx ry ⟨i, j, r1, r2, PostR.ok h S rfl⟩
      | _ => exact False.elim h
    | _ => exact False.elim h
  | BitXor =>
    cases x' with
    | int i =>
      cases y' with
      | int j => exact op_xor pins s σ H x y v u Q I rx ry ⟨i, j, r1, r2, PostR.ok h S rfl⟩
      | _ => exact False.elim h
    | _ => exact False.elim h
  | LShift =>
    cases x' with
    | int i =>
      cases y' with
      | int j =>
        simp only [bop] at h
        split at h
        · rename_i hz; exact op_shl pins s σ H x y v u Q I rx ry ⟨i, j, r1, r2, hz, PostR.ok h S rfl⟩
        · exact False.elim h
      | _ => exact False.elim h
    | _ => exact False.elim h
  | RShift =>
    cases x' with
    | int i =>
      cases y' with
      | int j =>
        simp only [bop] at h
        split at h
        · rename_i hz; exact op_shr pins s σ H x y v u Q I rx ry ⟨i, j, r1, r2, hz, PostR.ok h S rfl⟩
        · exact False.elim h
      | _ => exact False.elim h
    | _ => exact False.elim h
  | Pow =>
    cases x' with
    | int i =>
      cases y' with
      | int j =>
        simp only [bop] at h
        split at h
        · rename_i hz; exact op_pow pins s σ H x y v u Q I rx ry ⟨i, j, r1, r2, hz, PostR.ok h S rfl⟩
        · exact False.elim h
      | _ => exact False.elim h
    | _ => exact False.elim h
  | _ => exact False.elim h
end
end Mi

set_option Elab.async false
set_option maxRecDepth 100000
set_option linter.all false
set_option maxHeartbeats 4000000
set_option autoImplicit false
namespace Mi
open PySem PySem.Spec PyProof.Rows L2
section
variable {L : Link} {X : Cx} {E : XK} {ρ : List Addr} {m : MH} {H : Hp}

theorem relL_all {xs : List MV} {ys : List V} (r : RelL L ρ xs ys) (f : xs.all flatM = true) : ys = xs.map tv ∧ ys.all flatV = true := relL_flat r f
theorem op_cop (hK : X.K = L.K) (hw : X.w = L.w) (C : COk L) (hu : X.A.units + 64 < cLine) (op : CmpOp) : OpR X (compareOp op) (rM L E (cop L.g op)) := by
  intro pins s σ H x y v u Q I rx ry h
  obtain ⟨x', y', m, ρ, r1, r2, S, h⟩ := h
  have ins : ∀ (b : Bool), (inM L.g m x' y') = some b → (Q (.bl b) H → wpAny (model X.prog X.w) X.A (compareOp .In v u) (EP X pins σ Q) X.xe s) ∧ (Q (.bl (!b)) H → wpAny (model X.prog X.w) X.A (compareOp .NotIn v u) (EP X pins σ Q) X.xe s) := by
    intro b hb
    have seqs : ∀ (a : Addr) (xs : List MV) (ys : List V), y = .ref a → (SqL X.K H a ys ∨ SqT X.K H a ys) → RelL L ρ xs ys → (if flatM x' && xs.all flatM then some (inV (tv x') (xs.map tv)) else none) = some b →
        (Q (.bl b) H → wpAny (model X.prog X.w) X.A (compareOp .In v u) (EP X pins σ Q) X.xe s) ∧ (Q (.bl (!b)) H → wpAny (model X.prog X.w) X.A (compareOp .NotIn v u) (EP X pins σ Q) X.xe s) := by
      intro a xs ys ey hs r e
      split at e
      · rename_i f
        simp only [Bool.and_eq_true] at f
        obtain ⟨h1, h2⟩ := rel_flat r1 f.1
        obtain ⟨h3, h4⟩ := relL_flat r f.2
        cases e
        subst h1 h3
        exact ⟨fun q => op_in_seq pins s σ H _ y v u Q I rx ry ⟨a, _, ey, hs, h2, h4, q⟩, fun q => op_notIn_seq pins s σ H _ y v u Q I rx ry ⟨a, _, ey, hs, h2, h4, q⟩⟩
      · cases e
    unfold inM at hb
    split at hb
    · rename_i z
      split at hb
      · rename_i w
        cases hb
        exact ⟨fun q => op_in_str pins s σ H x y v u Q I rx ry ⟨w, z, r1, r2, q⟩, fun q => op_notin_str pins s σ H x y v u Q I rx ry ⟨w, z, r1, r2, q⟩⟩
      · cases hb
    · rename_i c
      split at hb
      · rename_i xs e
        obtain ⟨ys, g1, g2⟩ := C.tup c xs e
        exact seqs _ xs ys r2 (.inr (by rw [hK]; exact .inr g2)) (RelL.mono g1 List.nil_prefix) hb
      · rename_i kvs e
        obtain ⟨es, n, KD, look⟩ := C.dS c kvs e
        rw [← hK, ← hw] at KD
        split at hb
        · rename_i k
          cases hb
          obtain ⟨l1, l2⟩ := look k
          rw [← hK] at l1 l2
          cases e2 : lookS k kvs with
          | none =>
            refine ⟨fun q => op_in_kd KD pins s σ H x y v u Q I rx ry ⟨k, none, r1, r2, l2 e2, ?_⟩, fun q => op_notIn_kd KD pins s σ H x y v u Q I rx ry ⟨k, none, r1, r2, l2 e2, ?_⟩⟩
            · have q' : Q (.bl false) H := by simpa only [e2, Option.isSome_none] using q
              exact q'
            · have q' : Q (.bl true) H := by simpa only [e2, Option.isSome_none, Bool.not_false] using q
              exact q'
          | some w =>
            obtain ⟨u1, V1, a1, a2, a3⟩ := l1 w e2
            refine ⟨fun q => op_in_kd KD pins s σ H x y v u Q I rx ry ⟨k, some u1, r1, r2, a1, ?_⟩, fun q => op_notIn_kd KD pins s σ H x y v u Q I rx ry ⟨k, some u1, r1, r2, a1, ?_⟩⟩
            · have q' : Q (.bl true) H := by simpa only [e2, Option.isSome_some] using q
              exact q'
            · have q' : Q (.bl false) H := by simpa only [e2, Option.isSome_some, Bool.not_true] using q
              exact q'
        · cases hb
      · cases hb
    · rename_i i
      split at hb
      · rename_i xs e
        obtain ⟨a, _, ey, ys, g1, g2⟩ := S.atr e r2
        exact seqs a xs ys ey (.inl (.inl (.inl g1))) g2 hb
      · rename_i xs e
        obtain ⟨a, _, ey, ys, g2, g1⟩ := S.atr e r2
        refine seqs a xs ys ey (.inl ?_) g2 hb
        rcases g1 with ⟨o, g1⟩ | g1
        · exact .inl (.inr ⟨o, g1⟩)
        · rw [hK]; exact .inr g1
      · rename_i xs e
        obtain ⟨a, _, ey, ys, g1, g2⟩ := S.atr e r2
        exact seqs a xs ys ey (.inr (.inl (.inl g1))) g2 hb
      · cases hb
    · cases hb
  have i2 : ∀ (f : Int → Int → Bool) (k : (∃ i j, x = .int i ∧ y = .int j ∧ Q (.bl (f i j)) H) → wpAny (model X.prog X.w) X.A (compareOp op v u) (EP X pins σ Q) X.xe s),
      PostV L E ρ (cmpI f x' y' m) Q → wpAny (model X.prog X.w) X.A (compareOp op v u) (EP X pins σ Q) X.xe s := by
    intro f k h
    cases x' with
    | int i =>
      cases y' with
      | int j => exact k ⟨i, j, r1, r2, PostR.ok h S rfl⟩
      | _ => exact False.elim h
    | _ => exact False.elim h
  cases op with
  | Eq =>
    cases e : eqM L.g m x' y' with
    | none => simp only [cop, e, rb] at h; exact False.elim h
    | some b =>
      simp only [cop, e, rb] at h
      have q : Q (.bl b) H := PostR.ok h S rfl
      rcases eqM_ok C S r1 r2 e with ⟨h1, rfl⟩ | ⟨d, e', h1, h2, h3, h4, rfl⟩
      · exact L2.op_eq pins s σ H x y v u Q I rx ry ⟨h1, q⟩
      · exact op_eqD hu pins s σ H x y v u Q I rx ry ⟨d, e', by rw [hK]; exact h1, by rw [hK]; exact h2, h3, h4, q⟩
  | NotEq =>
    cases e : eqM L.g m x' y' with
    | none => simp only [cop, e, rb, Option.map] at h; exact False.elim h
    | some b =>
      simp only [cop, e, rb, Option.map] at h
      have q : Q (.bl (!b)) H := PostR.ok h S rfl
      rcases eqM_ok C S r1 r2 e with ⟨h1, rfl⟩ | ⟨d, e', h1, h2, h3, h4, rfl⟩
      · exact L2.op_ne pins s σ H x y v u Q I rx ry ⟨h1, q⟩
      · exact op_neD hu pins s σ H x y v u Q I rx ry ⟨d, e', by rw [hK]; exact h1, by rw [hK]; exact h2, h3, h4, q⟩
  | Lt => exact i2 _ (fun z => L2.op_lt pins s σ H x y v u Q I rx ry z) h
  | LtE => exact i2 _ (fun z => L2.op_le pins s σ H x y v u Q I rx ry z) h
  | Gt => exact i2 _ (fun z => L2.op_gt pins s σ H x y v u Q I rx ry z) h
  | GtE => exact i2 _ (fun z => L2.op_ge pins s σ H x y v u Q I rx ry z) h
  | In =>
    cases e : inM L.g m x' y' with
    | none => simp only [cop, e, rb] at h; exact False.elim h
    | some b =>
      simp only [cop, e, rb] at h
      exact (ins b e).1 (PostR.ok h S rfl)
  | NotIn =>
    cases e : inM L.g m x' y' with
    | none => simp only [cop, e, rb, Option.map] at h; exact False.elim h
    | some b =>
      simp only [cop, e, rb, Option.map] at h
      exact (ins b e).2 (PostR.ok h S rfl)
  | _ => exact False.elim h

theorem truth_ok (C : COk L) (S : Sim L ρ m H) {v : MV} {x : V} {b : Bool} (r : RelM L ρ v x) (h : truth L.g m v = some b) : TruV L.K x H b := by
  have sq : ∀ v, RelM L ρ v x → (match gs L.g m v with | some xs => some (!xs.isEmpty) | none => none) = some b → TruV L.K x H b := by
    intro v r h
    split at h
    · rename_i xs e
      obtain ⟨a, ys, rfl, h1, h2⟩ := gs_sq C S r e
      cases h
      have hl := relL_len h2
      have e2 : (!xs.isEmpty) = !ys.isEmpty := by cases h2 <;> rfl
      rcases h1 with h1 | h1
      · exact .inl ⟨ys, h1, e2⟩
      · exact .inr (.inl ⟨ys, h1, e2⟩)
    · cases h
  cases v with
  | non => cases h; cases r; rfl
  | bl b => cases h; cases r; rfl
  | int i => cases h; cases r; rfl
  | str y =>
    cases r
    simp only [truth] at h
    split at h
    · rename_i hz; cases h; exact ⟨hz, rfl⟩
    · cases h
  | ref i => exact sq _ r h
  | cst i => exact sq _ r h

theorem ix_ok (hK : X.K = L.K) (hw : X.w = L.w) (C : COk L) : IxR X (rM L E (ixM L.g)) := by
  intro value slice pins s σ H x y v u Q I rx ry h hs
  obtain ⟨x', y', m, ρ, r1, r2, S, h⟩ := h
  unfold ixM at h
  split at h
  · rename_i i
    split at h
    · rename_i z
      split at h
      · rename_i hz
        split at h
        · rename_i c e
          exact ix_str value slice pins s σ H x y v u Q I rx ry ⟨z, i, c, r1, r2, hz, e, PostR.ok h S rfl⟩ hs
        · exact False.elim h
      · exact False.elim h
    · split at h
      · rename_i xs e
        split at h
        · rename_i w e2
          obtain ⟨a, ys, rfl, h1, h2⟩ := gs_sq C S r1 e
          obtain ⟨V1, e3, r3⟩ := relL_at h2 e2
          have q : Q V1 H := PostR.ok h S r3
          rw [← hK] at h1
          rcases h1 with h1 | h1
          · exact ix_list value slice pins s σ H _ y v u Q I rx ry ⟨a, ys, i, V1, rfl, r2, h1, e3, q⟩ hs
          · exact ix_tup value slice pins s σ H _ y v u Q I rx ry ⟨a, ys, i, V1, rfl, r2, h1, e3, q⟩ hs
        · exact False.elim h
      · exact False.elim h
  · rename_i k
    split at h
    · rename_i c
      split at h
      · rename_i kvs e
        split at h
        · rename_i w e2
          obtain ⟨es, n, KD, look⟩ := C.dS c kvs e
          rw [← hK, ← hw] at KD
          obtain ⟨u1, V1, a1, a2, a3⟩ := (look k).1 w e2
          rw [← hK] at a1
          exact ix_kdict value slice pins s σ H x y v u Q I rx ry ⟨_, k, V1, r1, r2, ⟨es, n, u1, KD.at_, KD.lit, a1, a2⟩, PostR.ok h S (RelM.mono a3 List.nil_prefix)⟩ hs
        · exact False.elim h
      · exact False.elim h
    · exact False.elim h
  · exact False.elim h

def rSM (L : Link) (E : XK) : V → Option Int → Option Int → Hp → VK → Prop := fun x lo hi H Q => ∃ x' m ρ, RelM L ρ x' x ∧ Sim L ρ m H ∧ PostV L E ρ (slM x' lo hi m) Q
theorem sl_ok (hK : X.K = L.K) : SlR X (rSM L E) := by
  intro pins s σ H x v vl vu lo hi sl Q I rx hs pl pu h
  obtain ⟨x', m, ρ, r1, S, h⟩ := h
  unfold slM at h
  split at h
  · rename_i z
    split at h
    · rename_i hz
      exact sl_str pins s σ H x v vl vu lo hi sl Q I rx hs pl pu ⟨z, r1, hz, PostR.ok h S rfl⟩
    · exact False.elim h
  · split at h
    · rename_i xs e
      obtain ⟨a, ys, rfl, h1, h2⟩ := gl_sq S r1 e
      rw [← hK] at h1
      refine sl_list pins s σ H _ v vl vu lo hi sl Q I rx hs pl pu ⟨a, ys, rfl, h1, fun p hp => ?_⟩
      exact PostR.new h S hp rfl ⟨_, upd_same, RelL.mono (relL_cut lo hi h2) (List.prefix_append _ _)⟩
    · exact False.elim h

/-- a call by values -/
def rC (L : Link) (E : XK) (f : List MV → MH → Rs MV) : List V → Hp → VK → Prop := fun xs H Q => ∃ xs' m ρ, RelL L ρ xs' xs ∧ Sim L ρ m H ∧ PostV L E ρ (f xs' m) Q
theorem relL1 {x : MV} {ys : List V} (r : RelL L ρ [x] ys) : ∃ y, ys = [y] ∧ RelM L ρ x y := by
  cases r with
  | cons a b => cases b; exact ⟨_, rfl, a⟩
theorem relL2 {x y : MV} {ys : List V} (r : RelL L ρ [x, y] ys) : ∃ a b, ys = [a, b] ∧ RelM L ρ x a ∧ RelM L ρ y b := by
  cases r with
  | cons a b =>
    cases b with
    | cons c d => cases d; exact ⟨_, _, rfl, a, c⟩
/-- which built-in a name of Blt is: true a function, false a type -/
def Blt.name : Blt → Str
  | .len => "len" | .str => "str" | .int => "int" | .max2 => "max" | .min2 => "min" | .all => "all" | .any => "any" | .sum => "sum" | .tuple => "tuple" | .list => "list" | .abs => "abs" | .sorted => "sorted" | .min1 => "min" | .max1 => "max" | .dict => "dict" | .listRange1 => "list" | .listRange2 => "list"
def Blt.val : Blt → Value
  | .len => .builtin "len" | .str => .type "str" | .int => .type "int" | .max2 => .builtin "max" | .min2 => .builtin "min" | .all => .builtin "all" | .any => .builtin "any" | .sum => .builtin "sum" | .tuple => .type "tuple" | .list => .type "list" | .abs => .builtin "abs" | .sorted => .builtin "sorted" | .min1 => .builtin "min" | .max1 => .builtin "max" | .dict => .type "dict" | .listRange1 => .type "list" | .listRange2 => .type "list"
theorem blt_ok (hK : X.K = L.K) (C : COk L) (hc : X.calm = true) (b : Blt) : CallR X b.val (rC L E (bltM L.g b)) := by
  intro pins s σ H xs us Q I r h
  obtain ⟨xs', m, ρ, r1, S, h⟩ := h
  cases b with
  | len =>
    simp only [bltM] at h
    split at h
    · rename_i z
      obtain ⟨y, rfl, r2⟩ := relL1 r1
      split at h
      · rename_i hz; exact call_len_str pins s σ H _ us Q I r ⟨z, by rw [r2], hz, PostR.ok h S rfl⟩
      · exact False.elim h
    · obtain ⟨y, rfl, r2⟩ := relL1 r1
      split at h
      · rename_i ys e
        obtain ⟨a, zs, rfl, h1, h2⟩ := gs_sq C S r2 e
        rw [← hK] at h1
        refine call_len_seq pins s σ H _ us Q I r ⟨a, zs, rfl, h1, ?_⟩
        rw [← relL_len h2]
        exact PostR.ok h S rfl
      · exact False.elim h
    · exact False.elim h
  | str =>
    simp only [bltM] at h
    split at h
    · rename_i i
      obtain ⟨y, rfl, r2⟩ := relL1 r1
      split at h
      · rename_i hz; exact call_str_int pins s σ H _ us Q I r ⟨i, by rw [r2], hz, PostR.ok h S rfl⟩
      · exact False.elim h
    · exact False.elim h
  | int =>
    simp only [bltM] at h
    split at h
    · rename_i i
      obtain ⟨y, rfl, r2⟩ := relL1 r1
      exact call_int1 pins s σ H _ us Q I r (.inl ⟨i, by rw [r2], PostR.ok h S rfl⟩)
    · rename_i i
      obtain ⟨y, rfl, r2⟩ := relL1 r1
      exact call_int1 pins s σ H _ us Q I r (.inr ⟨i, by rw [r2], PostR.ok h S rfl⟩)
    · rename_i a
      obtain ⟨y, rfl, r2⟩ := relL1 r1
      split at h
      · rename_i n e
        split at h
        · rename_i hz; exact call_int_str pins s σ H _ us Q I r ⟨a, n, by rw [r2], e, hz, PostR.ok h S rfl⟩
        · exact False.elim h
      · exact False.elim h
    · exact False.elim h
  | max2 =>
    simp only [bltM] at h
    split at h
    · rename_i i j
      obtain ⟨y, z, rfl, r2, r3⟩ := relL2 r1
      exact call_max2 hc pins s σ H _ us Q I r ⟨i, j, by rw [r2, r3], PostR.ok h S rfl⟩
    · exact False.elim h
  | min2 =>
    simp only [bltM] at h
    split at h
    · rename_i i j
      obtain ⟨y, z, rfl, r2, r3⟩ := relL2 r1
      exact call_min2 hc pins s σ H _ us Q I r ⟨i, j, by rw [r2, r3], PostR.ok h S rfl⟩
    · exact False.elim h
  | abs =>
    simp only [bltM] at h
    split at h
    · rename_i i
      obtain ⟨y, rfl, r2⟩ := relL1 r1
      exact call_abs pins s σ H _ us Q I r ⟨i, by rw [r2], PostR.ok h S rfl⟩
    · exact False.elim h
  | all =>
    simp only [bltM] at h
    split at h
    · obtain ⟨y, rfl, r2⟩ := relL1 r1
      split at h
      · rename_i bs e
        obtain ⟨ys, e1, e2⟩ := Option.bind_eq_some_iff.mp e
        obtain ⟨a, zs, rfl, h1, h2⟩ := gl_sq S r2 e1
        obtain rfl := relL_bls h2 e2
        rw [← hK] at h1
        exact cr_all hc pins s σ H _ us Q I r ⟨a, bs, rfl, h1, PostR.ok h S rfl⟩
      · exact False.elim h
    · exact False.elim h
  | any =>
    simp only [bltM] at h
    split at h
    · obtain ⟨y, rfl, r2⟩ := relL1 r1
      split at h
      · rename_i bs e
        obtain ⟨ys, e1, e2⟩ := Option.bind_eq_some_iff.mp e
        obtain ⟨a, zs, rfl, h1, h2⟩ := gl_sq S r2 e1
        obtain rfl := relL_bls h2 e2
        rw [← hK] at h1
        exact cr_any hc pins s σ H _ us Q I r ⟨a, bs, rfl, h1, PostR.ok h S rfl⟩
      · exact False.elim h
    · exact False.elim h
  | sum =>
    simp only [bltM] at h
    split at h
    · obtain ⟨y, rfl, r2⟩ := relL1 r1
      split at h
      · rename_i bs e
        obtain ⟨ys, e1, e2⟩ := Option.bind_eq_some_iff.mp e
        obtain ⟨a, zs, rfl, h1, h2⟩ := gl_sq S r2 e1
        obtain rfl := relL_ints h2 e2
        rw [← hK] at h1
        exact cr_sum hc pins s σ H _ us Q I r ⟨a, bs, rfl, h1, PostR.ok h S rfl⟩
      · exact False.elim h
    · exact False.elim h
  | tuple =>
    simp only [bltM] at h
    split at h
    · obtain ⟨y, rfl, r2⟩ := relL1 r1
      split at h
      · rename_i ys e
        obtain ⟨a, zs, rfl, h1, h2⟩ := gl_sq S r2 e
        rw [← hK] at h1
        refine call_tuple_of pins s σ H _ us Q I r ⟨a, zs, rfl, .inl ⟨h1, fun p hp => ?_⟩⟩
        exact PostR.new h S hp rfl ⟨_, upd_same, RelL.mono h2 (List.prefix_append _ _)⟩
      · split at h
        · rename_i ys e
          obtain ⟨a, zs, rfl, h1, h2⟩ := gt_sq C S r2 e
          rw [← hK] at h1
          exact call_tuple_of pins s σ H _ us Q I r ⟨a, zs, rfl, .inr ⟨h1, PostR.ok h S r2⟩⟩
        · exact False.elim h
    · exact False.elim h
  | list =>
    simp only [bltM] at h
    split at h
    · obtain ⟨y, rfl, r2⟩ := relL1 r1
      split at h
      · rename_i ys e
        obtain ⟨a, zs, rfl, h1, h2⟩ := gs_sq C S r2 e
        rw [← hK] at h1
        refine call_list_of pins s σ H _ us Q I r ⟨a, zs, rfl, h1, fun p hp => ?_⟩
        exact PostR.new h S hp rfl ⟨_, upd_same, RelL.mono h2 (List.prefix_append _ _)⟩
      · exact False.elim h
    · exact False.elim h
  | _ => exact False.elim h

/-! ### methods of built-in types -/
def Bm.ty : Bm → String
  | .strip1 => "str" | .split1 => "str" | .join => "str" | _ => "list"
def Bm.name : Bm → Str
  | .strip1 => "strip" | .split1 => "split" | .join => "join" | .append => "append" | .extend => "extend" | .pop => "pop" | .popAt => "pop" | .clear => "clear" | .index => "index" | .lcount => "count"
/-- receiver and arguments by values -/
def rMt (L : Link) (E : XK) (f : MV → List MV → MH → Rs MV) : V → List V → Hp → VK → Prop := fun x xs H Q => ∃ x' xs' m ρ, RelM L ρ x' x ∧ RelL L ρ xs' xs ∧ Sim L ρ m H ∧ PostV L E ρ (f x' xs' m) Q
theorem bm_strip (g : G) : MtR X "str.strip" (rMt L E (bmM g .strip1)) := by
  intro pins s σ H x xs v us Q I rx rs h
  obtain ⟨x', xs', m, ρ, r1, r2, S, h⟩ := h
  simp only [bmM] at h
  split at h
  · rename_i a b
    obtain ⟨y, rfl, r3⟩ := relL1 r2
    split at h
    · rename_i hz; exact mt_stripChars pins s σ H x _ v us Q I rx rs ⟨a, b, r1, by rw [r3], hz, PostR.ok h S rfl⟩
    · exact False.elim h
  · exact False.elim h
theorem bm_split (g : G) : MtR X "str.split" (rMt L E (bmM g .split1)) := by
  intro pins s σ H x xs v us Q I rx rs h
  obtain ⟨x', xs', m, ρ, r1, r2, S, h⟩ := h
  simp only [bmM] at h
  split at h
  · rename_i a b
    obtain ⟨y, rfl, r3⟩ := relL1 r2
    split at h
    · rename_i hz
      refine mt_split pins s σ H x _ v us Q I rx rs ⟨a, b, r1, by rw [r3], hz.1, hz.2, fun p hp => ?_⟩
      exact PostR.new h S hp rfl ⟨_, upd_same, relL_strs_map _⟩
    · exact False.elim h
  · exact False.elim h
theorem bm_join (hK : X.K = L.K) (C : COk L) : MtR X "str.join" (rMt L E (bmM L.g .join)) := by
  intro pins s σ H x xs v us Q I rx rs h
  obtain ⟨x', xs', m, ρ, r1, r2, S, h⟩ := h
  simp only [bmM] at h
  split at h
  · rename_i a y
    obtain ⟨y', rfl, r3⟩ := relL1 r2
    split at h
    · rename_i ys e
      obtain ⟨ws, e1, e2⟩ := Option.bind_eq_some_iff.mp e
      obtain ⟨p, zs, rfl, h1, h2⟩ := gs_sq C S r3 e1
      obtain rfl := relL_strs h2 e2
      rw [← hK] at h1
      split at h
      · rename_i hz; exact mt_join pins s σ H x _ v us Q I rx rs ⟨a, p, ys, r1, rfl, h1, hz, PostR.ok h S rfl⟩
      · exact False.elim h
    · exact False.elim h
  · exact False.elim h
theorem bm_append (g : G) : MtR X "list.append" (rMt L E (bmM g .append)) := by
  intro pins s σ H x xs v us Q I rx rs h
  obtain ⟨x', xs', m, ρ, r1, r2, S, h⟩ := h
  simp only [bmM] at h
  split at h
  · rename_i l y
    obtain ⟨y', rfl, r3⟩ := relL1 r2
    split at h
    · rename_i zs e
      split at h
      · rename_i hz
        obtain ⟨a, ha, rfl, ws, g1, g2⟩ := S.atr e r1
        refine mt_append pins s σ H _ _ v us Q I rx rs ⟨a, ws, y', rfl, rfl, g1, by rw [← relL_len g2]; exact hz, ?_⟩
        exact PostR.ok h (S.set ha e rfl rfl ⟨_, upd_same, relL_app g2 (.cons r3 .nil)⟩) rfl
      · exact False.elim h
    · exact False.elim h
  · exact False.elim h

/-! ### o[i] = v -/
theorem set_ok : PSet X (fun o i v H Q => ∃ o' i' v' m ρ m', RelM L ρ o' o ∧ RelM L ρ i' i ∧ RelM L ρ v' v ∧ Sim L ρ m H ∧ setM o' i' v' m = some m' ∧ ∀ H', Sim L ρ m' H' → Q H') := by
  intro pins s σ H o i v ov iv u Q I ro ri rv h
  obtain ⟨o', i', v', m, ρ, m', r1, r2, r3, S, e, q⟩ := h
  unfold setM at e
  split at e
  · rename_i l k
    split at e
    · rename_i xs e1
      split at e
      · rename_i j e2
        cases e
        obtain ⟨a, ha, rfl, ws, g1, g2⟩ := S.atr e1 r1
        refine set_list pins s σ H _ i v ov iv u Q I ro ri rv ⟨a, ws, k, j, rfl, r2, g1, by rw [← relL_len g2]; exact e2, q _ ?_⟩
        exact S.set ha e1 rfl rfl ⟨_, upd_same, relL_set r3 j g2⟩
      · cases e
    · cases e
  · cases e

/-! ### isinstance -/
def Knd.ty : Knd → String
  | .int => "int" | .bool => "bool" | .str => "str" | .list => "list" | .tuple => "tuple" | .cls _ => "int"
theorem isi_ok (hK : X.K = L.K) {k : Knd} (hk : ∀ C, k ≠ .cls C) : CallR X (.builtin "isinstance") (fun xs H Q => ∃ x' x m ρ b, xs = [x, .ty k.ty] ∧ RelM L ρ x' x ∧ Sim L ρ m H ∧ isiM L.g k m x' = some b ∧ Q (.bl b) H) := by
  intro pins s σ H xs us Q I r h
  obtain ⟨x', x, m, ρ, b, rfl, r1, S, e, q⟩ := h
  have fin : ∀ (t : String), TyX X.K H x (.type t) → kitB t k.ty = some b → wpAny (model X.prog X.w) X.A (call (.builtin "isinstance") us) (EP X pins σ Q) X.xe s :=
    fun t ty hb => call_isi pins s σ H _ us Q I r ⟨x, .ty k.ty, .type t, .type k.ty, b, rfl, .ty _, ty, kit_ty hb, q⟩
  cases x' with
  | non =>
    cases r1
    cases k <;> first
      | exact absurd rfl (hk _)
      | (cases e; exact fin "NoneType" (.base .non) (by decide +kernel))
  | bl y =>
    cases r1
    cases k <;> first
      | exact absurd rfl (hk _)
      | (cases e; exact fin "bool" (.base (.bl _)) (by decide +kernel))
  | int y =>
    cases r1
    cases k <;> first
      | exact absurd rfl (hk _)
      | (cases e; exact fin "int" (.base (.int _)) (by decide +kernel))
  | str y =>
    cases r1
    cases k <;> first
      | exact absurd rfl (hk _)
      | (cases e; exact fin "str" (.base (.str _)) (by decide +kernel))
  | ref i =>
    simp only [isiM] at e
    split at e
    · rename_i xs e1
      obtain ⟨a, _, rfl, ws, g1, g2⟩ := S.atr e1 r1
      cases k <;> first
        | exact absurd rfl (hk _)
        | (cases e; exact fin "list" (.base (.lst g1)) (by decide +kernel))
    · rename_i xs e1
      obtain ⟨a, _, rfl, ws, g2, g1⟩ := S.atr e1 r1
      have ty : TyX X.K H (.ref a) (.type "list") := by
        rcases g1 with ⟨o, g1⟩ | ⟨o, its, n, g1, g3, _⟩
        · exact .base (.frz g1)
        · rw [hK]; exact .kList g1 g3
      cases k <;> first
        | exact absurd rfl (hk _)
        | (cases e; exact fin "list" ty (by decide +kernel))
    · rename_i xs e1
      obtain ⟨a, _, rfl, ws, g1, g2⟩ := S.atr e1 r1
      cases k <;> first
        | exact absurd rfl (hk _)
        | (cases e; exact fin "tuple" (.base (.tup g1)) (by decide +kernel))
    · rename_i xs e1
      obtain ⟨a, _, rfl, ws, g1, g2⟩ := S.atr e1 r1
      cases k <;> first
        | exact absurd rfl (hk _)
        | (cases e; exact fin "dict" (.base (.dK g1)) (by decide +kernel))
    · cases e
  | cst i => cases e
end
end Mi

set_option Elab.async false
set_option maxRecDepth 100000
set_option linter.all false
set_option maxHeartbeats 4000000
set_option autoImplicit false
namespace Mi
open PySem PySem.Spec PyProof.Rows L2

/-! ### the checker: the code is that text -/
structure Ck where
  sc : Scope
  N : List Str
  gl : List (Str × MV)
  fns : List Str
  top : Bool

def ndbg (x : Str) : Bool := !(x == ("__debug__" : Str)) && !(x == ("__classdict__" : Str))
def visB (sc : Scope) (x : Str) : Bool := match sc.names.lookup x with
  | some .local => true | some .cell => true | some .free => true | _ => false
def glB (sc : Scope) (x : Str) : Bool := match sc.names.lookup x with
  | some .globalImplicit => true | _ => false
def storeB (c : Ck) (x : Str) : Bool := match c.sc.names.lookup x with
  | some .local => true | some .cell => c.top | _ => false
def constM : Const → Option MV
  | .none => some .non | .bool b => some (.bl b) | .int i => some (.int i) | .str x => some (.str x) | _ => none
def notSet : Expr → Bool
  | .Set .. => false | _ => true
def notSlice : Expr → Bool
  | .Slice .. => false | _ => true
def notStar : Expr → Bool
  | .Starred .. => false | _ => true
def notCall0 : Expr → Bool
  | .Call _ [] [] _ => false | _ => true
/-- where a test is the value's truth -/
def plainT : Expr → Bool
  | .UnaryOp .Not _ _ => false | .BoolOp .. => false | .IfExp .. => false | .Compare .. => false | _ => true
def chkTgs (c : Ck) : List Nat → List Expr → Bool
  | [], [] => true
  | i :: r, .Name x _ :: es => decide (c.N[i]? = some x) && storeB c x && chkTgs c r es
  | _, _ => false
def chkTg (c : Ck) (vs : List Nat) (tup : Bool) (e : Expr) : Bool := match tup, e with
  | false, .Name x _ => match vs with
    | [i] => decide (c.N[i]? = some x) && storeB c x
    | _ => false
  | true, .Tuple es _ _ => chkTgs c vs es
  | _, _ => false
def namesAt (N : List Str) (vs : List Nat) : List (Str × Nat) := vs.filterMap fun i => (N[i]?).map fun x => (x, i)

def wTup : IE → Bool
  | .wen _ => true
  | .wzip _ _ => true
  | _ => false
def bmSup : Bm → Bool
  | .strip1 => true | .split1 => true | .join => true | .append => true | _ => false
mutual
def chkE (c : Ck) : IE → Expr → Bool
  | .var i, .Name x _ => decide (c.N[i]? = some x) && visB c.sc x && ndbg x
  | .con v, .Constant k _ _ => decide (constM k = some v)
  | .glo v, .Name x _ => glB c.sc x && decide (c.gl.lookup x = some v) && ndbg x
  | .bin op a b, .BinOp l o r _ => decide (o = op) && chkE c a l && chkE c b r
  | .neg a, .UnaryOp .USub e _ => chkE c a e
  | .nt a, .UnaryOp .Not e _ => chkE c a e
  | .cmp op a b, .Compare l [o] [r] _ => decide (o = op) && notSet r && chkE c a l && chkE c b r
  | .isn pos a, .Compare l [o] [.Constant .none _ _] _ => decide (o = if pos then .Is else .IsNot) && chkE c a l
  | .chn op op' a b d, .Compare l [o, o'] [m, r] _ => decide (o = op) && decide (o' = op') && notSet r && chkE c a l && chkE c b m && chkE c d r
  | .an a b, .BoolOp .And (x :: y :: rest) pos => chkE c a x && chkE c b (.BoolOp .And (y :: rest) pos)
  | .orr a b, .BoolOp .Or (x :: y :: rest) pos => chkE c a x && chkE c b (.BoolOp .Or (y :: rest) pos)
  | .one a, .BoolOp _ [x] _ => chkE c a x
  | .ife t a b, .IfExp x y z _ => chkE c t x && chkE c a y && chkE c b z
  | .lst es, .List xs _ => chkA c es xs
  | .tup es, .Tuple xs _ _ => chkA c es xs
  | .ix a i, .Subscript x y _ => notSlice y && chkE c a x && chkE c i y
  | .sl a lo hi, .Subscript x (.Slice l h none _) _ => chkE c a x && chkP c lo l && chkP c hi h
  | .call f es, .Call (.Name x _) as [] _ => glB c.sc x && decide (c.fns[f]? = some x) && ndbg x && chkA c es as
  | .blt b es, .Call (.Name x _) (a :: as) [] _ => decide (x = b.name) && glB c.sc x && chkA c es (a :: as)
  | .bm o b es, .Call (.Attribute x n ap) (a :: as) [] pos => decide (n = b.name) && bmSup b && (ap.endLine == pos.line) && notCall0 x && decide (as.length < 20) && chkE c o x && chkA c es (a :: as)
  | .isi e k, .Call (.Name x _) [a, .Name t _] [] _ => decide (x = ("isinstance" : Str)) && glB c.sc x && glB c.sc t && notStar a && (match k with
    | .int => decide (t = ("int" : Str)) | .bool => decide (t = ("bool" : Str)) | .str => decide (t = ("str" : Str)) | .list => decide (t = ("list" : Str)) | .tuple => decide (t = ("tuple" : Str)) | .cls _ => false) && chkE c e a
  | .lc elt vs tup it test, .ListComp e [⟨tg, iter, ifs, 0⟩] scope _ =>
    chkTg { c with sc := relS scope c.sc, top := false } vs tup tg && chkW c it iter && (tup || !wTup it) && notSet iter && blkC c.N c.sc scope (namesAt c.N vs) && decide ((namesAt c.N vs).map (·.2) = vs) && (match ifs with
      | [] => (match test with | .nopart => true | _ => false)
      | [t] => (match test with | .nopart => false | _ => true) && chkE { c with sc := relS scope c.sc, top := false } test t
      | _ => false) && chkE { c with sc := relS scope c.sc, top := false } elt e
  | _, _ => false
def chkA (c : Ck) : IEs → List Expr → Bool
  | .nil, [] => true
  | .cons e es, x :: xs => notStar x && chkE c e x && chkA c es xs
  | _, _ => false
def chkP (c : Ck) : IE → Option Expr → Bool
  | .nopart, none => true
  | .con (.int i), some (.Constant k _ _) => decide (k = .int i)
  | .neg a, some (.UnaryOp .USub e _) => chkE c a e
  | .var i, some (.Name x _) => decide (c.N[i]? = some x) && visB c.sc x && ndbg x
  | _, _ => false
def chkW (c : Ck) : IE → Expr → Bool
  | .wl a, e => chkE c a e
  | .wr1 a, .Call (.Name x _) [e] [] _ => decide (x = ("range" : Str)) && glB c.sc x && notStar e && chkE c a e
  | .wr2 a b, .Call (.Name x _) [e, f] [] _ => decide (x = ("range" : Str)) && glB c.sc x && notStar e && notStar f && chkE c a e && chkE c b f
  | .wen a, .Call (.Name x _) [e] [] _ => decide (x = ("enumerate" : Str)) && glB c.sc x && notStar e && chkE c a e
  | .wzip a b, .Call (.Name x _) [e, f] [] _ => decide (x = ("zip" : Str)) && glB c.sc x && notStar e && notStar f && chkE c a e && chkE c b f
  | _, _ => false
end
mutual
def chkS (c : Ck) : IS → Stmt → Bool
  | .asg i e, .Assign [.Name x p] v pos => decide (c.N[i]? = some x) && storeB c x && chkE c e v && (match v with
    | .ListComp _ _ scope vp => (p.line == vp.line) && decide (c.sc.names.lookup x = some .local) && !(scope.names.any fun (n, k) => n == x && (k == .local || k == .cell))
    | .SetComp .. => false | .DictComp .. => false | _ => true)
  | .seti o i e, .Assign [.Subscript x y _] v _ => chkE c e v && chkE c o x && chkE c i y && notSlice y && (match v with
    | .ListComp .. => false | .SetComp .. => false | .DictComp .. => false | _ => true)
  | .unp is e, .Assign [.Tuple ts _ _] v _ => chkE c e v && chkTgs c is ts && (match v with
    | .Call .. => true | .Name .. => true | .Subscript .. => true | _ => false)
  | .aug i op e, .AugAssign (.Name x _) o v _ => decide (c.N[i]? = some x) && storeB c x && decide (o = op) && (op == .Add || op == .Sub) && chkE c e v
  | .ex e, .Expr v _ => chkE c e v && (match v with
    | .ListComp .. => false | .SetComp .. => false | .DictComp .. => false | _ => true)
  | .ret e, .Return (some v) _ => chkE c e v
  | .retn, .Return none _ => true
  | .iff t a b, .If x y z _ => chkE c t x && chkB c a y && chkB c b z
  | .whl t b, .While x y [] _ => chkE c t x && chkB c b y
  | .for vs tup it b, .For tg iter body [] _ => chkTg c vs tup tg && chkW c it iter && notSet iter && chkB c b body && (tup || !wTup it)
  | .brk, .Break _ => true
  | .cont, .Continue _ => true
  | .pass, .Pass _ => true
  | .pass, .Expr (.Constant (.str _) _ _) _ => true
  | .never, _ => true
  | _, _ => false
def chkB (c : Ck) : IS → List Stmt → Bool
  | .nil, [] => true
  | .seq a b, x :: xs => chkS c a x && chkB c b xs
  | _, _ => false
end
end Mi

set_option Elab.async false
set_option maxRecDepth 100000
set_option linter.all false
set_option maxHeartbeats 4000000
set_option autoImplicit false
namespace Mi
open PySem PySem.Spec PyProof.Rows L2

/-! ### static facts -/
structure LOk (L : Link) (gl : List (Str × MV)) (fns : List Str) : Prop where
  c : COk L
  gl : ∀ x v, gl.lookup x = some v → ∃ u V, L.mg x = some u ∧ RelV V u ∧ RelM L [] v V
  bl : ∀ x ∈ (["len", "str", "int", "max", "min", "all", "any", "sum", "tuple", "list", "abs", "sorted", "dict", "isinstance", "range", "enumerate", "zip", "bool"] : List Str), L.mg x = none
  fn : ∀ (f : Nat) (x : Str), fns[f]? = some x → L.mg x = some (.ref (L.fa f)) ∧ PySem.W.keepIn L.K (.ref (L.fa f)) = true ∧ ∃ F, L.g.fns[f]? = some F ∧ Binds L.K (L.fd f) F.ps []
def spD (L : Link) (k f : Nat) : Sp := fun vs H Q E => ∃ ms m ρ, RelL L ρ ms vs ∧ Sim L ρ m H ∧ PostV L E ρ (callD L.g k f ms m) Q
def FOk (L : Link) (k : Nat) : Prop := ∀ (j f : Nat) (F : FnI), j ≤ k → L.g.fns[f]? = some F → FnOk L.P L.w L.K L.mg L.base (L2.CX L.P L.w) j (L.fa f) (L.fd f) F.ps (spD L j f)
structure Ctx (L : Link) (k : Nat) (X : Cx) (W : WX) (c : Ck) : Prop where
  prog : X.prog = L.P
  w : X.w = L.w
  K : X.K = L.K
  mg : X.mg = L.mg
  base : X.base = L.base
  N : X.N = c.N
  nd : c.N.Nodup
  sc : X.env.scope = c.sc
  kind : X.env.scope.kind = .function
  calm : X.calm = true
  room : Room k X.A
  tk : Takes X W
  cell : c.top = true → ∀ x, X.fn x = true

section
variable {L : Link} {k : Nat} {X : Cx} {W : WX} {c : Ck}
theorem ndbg_1 {x : Str} (h : ndbg x = true) : (x == ("__debug__" : Str)) = false := by
  unfold ndbg at h
  simp only [Bool.and_eq_true, Bool.not_eq_true'] at h
  exact h.1
theorem ndbg_2 {x : Str} (h : ndbg x = true) : (x == ("__classdict__" : Str)) = false := by
  unfold ndbg at h
  simp only [Bool.and_eq_true, Bool.not_eq_true'] at h
  exact h.2
theorem visB_ok {sc : Scope} {x : Str} (h : visB sc x = true) : Vis sc x := by
  unfold visB at h
  split at h
  · rename_i e; exact .inl e
  · rename_i e; exact .inr (.inl e)
  · rename_i e; exact .inr (.inr e)
  · cases h
theorem glB_ok (C : Ctx L k X W c) {x : Str} (h : glB c.sc x = true) : Gl X x := by
  unfold glB at h
  rw [← C.sc] at h
  split at h
  · rename_i e; exact e
  · cases h
theorem storeB_ok (C : Ctx L k X W c) {x : Str} (h : storeB c x = true) : Loc X.env.scope x ∧ (X.fn x = true ∨ X.env.scope.names.lookup x = some .local) := by
  unfold storeB at h
  rw [← C.sc] at h
  split at h
  · rename_i e; exact ⟨.inl e, .inr e⟩
  · rename_i e; exact ⟨.inr e, .inl (C.cell h x)⟩
  · cases h
theorem slot_ok (C : Ctx L k X W c) {i : Nat} {x : Str} (h : c.N[i]? = some x) : X.N[i]? = some x := by rw [C.N]; exact h
theorem star_cons {e : Expr} {es : List Expr} {env : Env} (h : notStar e = true) : starEach (e :: es) env = (false, eval e env) :: starEach es env := by
  cases e <;> first
    | rfl
    | (exact absurd (show false = true from h) Bool.false_ne_true)
theorem chkA_star {c : Ck} : ∀ {es : IEs} {xs : List Expr}, chkA c es xs = true → ∀ x ∈ xs, notStar x = true
  | .nil, [], _, x, hx => by cases hx
  | .nil, _ :: _, h, _, _ => by cases h
  | .cons _ _, [], h, _, _ => by cases h
  | .cons e es, y :: ys, h, x, hx => by
    simp only [chkA, Bool.and_eq_true] at h
    rcases List.mem_cons.mp hx with q | q
    · subst q; exact h.1.1
    · exact chkA_star h.2 x q
theorem star_all {env : Env} {pos : Pos} : ∀ {xs : List Expr}, (∀ x ∈ xs, notStar x = true) → (backTo pos (starEach xs env)).any (·.1) = false
  | [], _ => rfl
  | x :: xs, h => by
    rw [star_cons (h x List.mem_cons_self)]
    show (false || (backTo pos (starEach xs env)).any (·.1)) = false
    rw [star_all fun y hy => h y (List.mem_cons_of_mem _ hy)]
    rfl
theorem star_all2 {env : Env} {pos : Pos} : ∀ {xs : List Expr}, (∀ x ∈ xs, notStar x = true) → (backTo pos (starEach xs env)).all (fun x => !x.1) = true
  | [], _ => rfl
  | x :: xs, h => by
    rw [star_cons (h x List.mem_cons_self)]
    show (true && (backTo pos (starEach xs env)).all (fun x => !x.1)) = true
    rw [star_all2 fun y hy => h y (List.mem_cons_of_mem _ hy)]
    rfl
theorem attr_base {o : Expr} {f : Str} {env : Env} (h : notCall0 o = true) : attributeBase o f env (eval o env) = eval o env := by
  cases o with
  | Call fn as kw p =>
    cases as with
    | nil => cases kw with
      | nil => exact absurd (show false = true from h) Bool.false_ne_true
      | cons a b => unfold attributeBase; cases fn <;> rfl
    | cons a b => unfold attributeBase; cases fn <;> rfl
  | _ => rfl
theorem plainIx_ok {e : Expr} (h : notSlice e = true) : PlainIx e := by
  intro o i
  cases e <;> first
    | rfl
    | (exact absurd (show false = true from h) Bool.false_ne_true)
theorem mark_ok {op : CmpOp} {e : Expr} (h : notSet e = true) : behindInMarks op e = false := by
  cases e <;> first
    | rfl
    | (exact absurd (show false = true from h) Bool.false_ne_true)
theorem truth_form {e : Expr} {env : Env} (h : plainT e = true) : ∀ whole, isTrue e env whole = (do let v ← whole; standAt e.pos; holding [v] (truthy v)) := by
  intro whole
  cases e with
  | UnaryOp op a p => cases op <;> first
    | rfl
    | (exact absurd (show false = true from h) Bool.false_ne_true)
  | BoolOp op a p => exact absurd (show false = true from h) Bool.false_ne_true
  | IfExp a b c p => exact absurd (show false = true from h) Bool.false_ne_true
  | Compare a b c p => exact absurd (show false = true from h) Bool.false_ne_true
  | _ => rfl
theorem foldset_ok {e : Expr} {env : Env} (h : notSet e = true) : ∀ x, foldedSetIterable e env x = pure x := by
  intro x
  cases e <;> first
    | rfl
    | (exact absurd (show false = true from h) Bool.false_ne_true)
theorem assign_names {c : Ck} {env : Env} : ∀ {vs : List Nat} {es : List Expr}, chkTgs c vs es = true → (assignEach es env).length = vs.length ∧ (assignEach es env).findIdx? (·.1) = none ∧ ∀ x ∈ assignEach es env, x.1 = false
  | [], [], _ => ⟨rfl, rfl, fun _ h => by cases h⟩
  | [], _ :: _, h => by cases h
  | _ :: _, [], h => by cases h
  | i :: r, e :: es, h => by
    cases e <;> first
      | exact absurd (show false = true from h) Bool.false_ne_true
      | skip
    rename_i x p
    simp only [chkTgs, Bool.and_eq_true] at h
    obtain ⟨h1, h2, h3⟩ := assign_names (env := env) h.2
    have all : ∀ y ∈ assignEach (.Name x p :: es) env, y.1 = false := fun y hy => by
      rcases List.mem_cons.mp (show y ∈ (false, assign (.Name x p) env) :: assignEach es env from hy) with q | q
      · rw [q]
      · exact h3 y q
    refine ⟨?_, ?_, all⟩
    · show (assignEach es env).length + 1 = r.length + 1
      rw [h1]
    · rw [List.findIdx?_eq_none_iff]
      intro y hy
      exact all y hy
end

/-! ### what is walked -/
def ItemRel (L : Link) (ρ : List Addr) (H H' : Hp) : List MV → V → Prop
  | [v], x => RelM L ρ v x ∧ H' = H
  | [v, w], x => ∃ T V U, x = .ref T ∧ H T = none ∧ H' = upd H T (.tup [V, U]) ∧ RelM L ρ v V ∧ RelM L ρ w U
  | _, _ => False
structure WkOk (L : Link) (ρ : List Addr) (wk : Wk) (J : It) : Prop where
  stop : ∀ ρ' m H, ρ <+: ρ' → Sim L ρ' m H → wk.still L.g m = true → J.stop wk.items.length H
  go : ∀ i it ρ' m H, ρ <+: ρ' → Sim L ρ' m H → wk.still L.g m = true → wk.items[i]? = some it → J.go i H ∧ ∀ x H', J.yld i H x H' → ItemRel L ρ' H H' it x
def tW (L : Link) (E : St → XK) (d : MS → MH → Rs Wk) : TI := fun σ H R => ∃ s m ρ, SimS L ρ s σ ∧ Sim L ρ m H ∧ PostR L (WkOk L) (E σ) ρ (d s m) R
theorem PI.imp {X : Cx} {tg e : Expr} {t t' : TI} (h : PI X tg e t) (k : ∀ σ H R, t' σ H R → t σ H R) : PI X tg e t' := ⟨fun pins s σ H R I q => h.run pins s σ H R I (k σ H R q)⟩
theorem enm_get : ∀ (xs : List MV) (k : Int) (i : Nat), (enmFrom k xs)[i]? = (xs[i]?).map fun x => [.int (k + i), x]
  | [], _, _ => by simp [enmFrom]
  | x :: xs, k, 0 => by simp [enmFrom]
  | x :: xs, k, i + 1 => by
    simp only [enmFrom, List.getElem?_cons_succ]
    rw [enm_get xs (k + 1) i]
    congr 1
    funext y
    congr 2
    omega
theorem enm_len : ∀ (xs : List MV) (k : Int), (enmFrom k xs).length = xs.length
  | [], _ => rfl
  | x :: xs, k => by simp only [enmFrom, List.length_cons, enm_len xs]
theorem rng_get : ∀ (n : Nat) (lo : Int) (i : Nat), i < n → (rngFrom lo n)[i]? = some [.int (lo + i)]
  | 0, _, _, h => by omega
  | n + 1, lo, 0, _ => by simp [rngFrom]
  | n + 1, lo, i + 1, h => by
    simp only [rngFrom, List.getElem?_cons_succ]
    rw [rng_get n (lo + 1) i (by omega)]
    congr 3
    omega
theorem rng_len : ∀ (n : Nat) (lo : Int), (rngFrom lo n).length = n
  | 0, _ => rfl
  | n + 1, lo => by simp only [rngFrom, List.length_cons, rng_len n]
section
variable {L : Link} {ρ : List Addr}
theorem relL_getR {xs : List MV} {ys : List V} {i : Nat} {v : MV} {y : V} (r : RelL L ρ xs ys) (h : xs[i]? = some v) (q : ys[i]? = some y) : RelM L ρ v y := by
  obtain ⟨x, e, r1⟩ := relL_get r h
  rw [q] at e; cases e; exact r1
theorem wk_lst {v : MV} {x : V} {xs : List MV} {a : Addr} (r : RelM L ρ v (.ref a)) : WkOk L ρ (.lst v xs) (Itl L.K a) where
  stop := fun ρ' m H e S st => by
    obtain ⟨b, ys, h1, h2, h3⟩ := gl_sq S (RelM.mono r e) (of_decide_eq_true st)
    cases h1
    refine ⟨ys, h2, ?_⟩
    show ys.length ≤ (xs.map fun x => [x]).length
    rw [List.length_map, relL_len h3]
    exact Nat.le_refl _
  go := fun i it ρ' m H e S st hi => by
    obtain ⟨b, ys, h1, h2, h3⟩ := gl_sq S (RelM.mono r e) (of_decide_eq_true st)
    cases h1
    change (xs.map fun x => [x])[i]? = some it at hi
    rw [List.getElem?_map] at hi
    obtain ⟨w, e1, rfl⟩ := Option.map_eq_some_iff.mp hi
    obtain ⟨y, e2, r2⟩ := relL_get h3 e1
    exact ⟨⟨ys, y, h2, e2⟩, fun z H' ⟨eH, q⟩ => ⟨relL_getR h3 e1 (q ys h2), eH⟩⟩
theorem wk_tup (C : COk L) {v : MV} {x : V} {xs : List MV} {a : Addr} (r : RelM L ρ v (.ref a)) : WkOk L ρ (.tup v xs) (Itt L.K a) where
  stop := fun ρ' m H e S st => by
    obtain ⟨b, ys, h1, h2, h3⟩ := gt_sq C S (RelM.mono r e) (of_decide_eq_true st)
    cases h1
    refine ⟨ys, h2, ?_⟩
    show ys.length ≤ (xs.map fun x => [x]).length
    rw [List.length_map, relL_len h3]
    exact Nat.le_refl _
  go := fun i it ρ' m H e S st hi => by
    obtain ⟨b, ys, h1, h2, h3⟩ := gt_sq C S (RelM.mono r e) (of_decide_eq_true st)
    cases h1
    change (xs.map fun x => [x])[i]? = some it at hi
    rw [List.getElem?_map] at hi
    obtain ⟨w, e1, rfl⟩ := Option.map_eq_some_iff.mp hi
    obtain ⟨y, e2, r2⟩ := relL_get h3 e1
    exact ⟨⟨ys, y, h2, e2⟩, fun z H' ⟨eH, q⟩ => ⟨relL_getR h3 e1 (q ys h2), eH⟩⟩
theorem wk_rng {lo : Int} {n : Nat} : WkOk L ρ (.rng lo n) (Itr lo n) where
  stop := fun ρ' m H e S st => by
    show n ≤ (rngFrom lo n).length
    rw [rng_len]
    exact Nat.le_refl _
  go := fun i it ρ' m H e S st hi => by
    change (rngFrom lo n)[i]? = some it at hi
    have hn : i < n := by
      have := (List.getElem?_eq_some_iff.mp hi).1
      rw [rng_len] at this
      exact this
    rw [rng_get n lo i hn] at hi
    cases hi
    exact ⟨hn, fun z H' ⟨eH, q⟩ => ⟨q, eH⟩⟩
theorem wk_enm {v : MV} {x : V} {xs : List MV} {a : Addr} (r : RelM L ρ v (.ref a)) : WkOk L ρ (.enm v xs) (Ite L.K a) where
  stop := fun ρ' m H e S st => by
    obtain ⟨b, ys, h1, h2, h3⟩ := gl_sq S (RelM.mono r e) (of_decide_eq_true st)
    cases h1
    refine ⟨ys, h2, ?_⟩
    show ys.length ≤ (enmFrom 0 xs).length
    rw [enm_len, relL_len h3]
    exact Nat.le_refl _
  go := fun i it ρ' m H e S st hi => by
    obtain ⟨b, ys, h1, h2, h3⟩ := gl_sq S (RelM.mono r e) (of_decide_eq_true st)
    cases h1
    change (enmFrom 0 xs)[i]? = some it at hi
    rw [enm_get] at hi
    obtain ⟨w, e1, rfl⟩ := Option.map_eq_some_iff.mp hi
    obtain ⟨y, e2, r2⟩ := relL_get h3 e1
    refine ⟨⟨ys, y, h2, e2⟩, fun z H' ⟨T, y', e3, e4, e5, q⟩ => ⟨T, _, y', e3, e4, e5, ?_, relL_getR h3 e1 (q ys h2)⟩⟩
    show V.int (i : Nat) = .int (0 + (i : Int))
    rw [Int.zero_add]
theorem wk_zip {v w : MV} {xs ys : List MV} {a b : Addr} (r : RelM L ρ v (.ref a)) (q : RelM L ρ w (.ref b)) : WkOk L ρ (.zip v w xs ys) (Itz L.K a b) where
  stop := fun ρ' m H e S st => by
    have st' := (Bool.and_eq_true _ _ ▸ (show (decide (gl m v = some xs) && decide (gl m w = some ys)) = true from st) : _ ∧ _)
    obtain ⟨_, zs, h1, h2, h3⟩ := gl_sq S (RelM.mono r e) (of_decide_eq_true st'.1)
    obtain ⟨_, ws, g1, g2, g3⟩ := gl_sq S (RelM.mono q e) (of_decide_eq_true st'.2)
    cases h1
    cases g1
    refine ⟨zs, ws, h2, g2, ?_⟩
    show zs.length ≤ ((xs.zip ys).map fun p => [p.1, p.2]).length ∨ _
    have l1 := relL_len h3
    have l2 := relL_len g3
    rw [List.length_map, List.length_zip]
    show zs.length ≤ min xs.length ys.length ∨ ws.length ≤ ((xs.zip ys).map fun p => [p.1, p.2]).length
    rw [List.length_map, List.length_zip]
    omega
  go := fun i it ρ' m H e S st hi => by
    have st' := (Bool.and_eq_true _ _ ▸ (show (decide (gl m v = some xs) && decide (gl m w = some ys)) = true from st) : _ ∧ _)
    obtain ⟨_, zs, h1, h2, h3⟩ := gl_sq S (RelM.mono r e) (of_decide_eq_true st'.1)
    obtain ⟨_, ws, g1, g2, g3⟩ := gl_sq S (RelM.mono q e) (of_decide_eq_true st'.2)
    cases h1
    cases g1
    change ((xs.zip ys).map fun p => [p.1, p.2])[i]? = some it at hi
    rw [List.getElem?_map] at hi
    obtain ⟨p, e1, rfl⟩ := Option.map_eq_some_iff.mp hi
    obtain ⟨e2, e3⟩ := List.getElem?_zip_eq_some.mp e1
    obtain ⟨y, e4, r2⟩ := relL_get h3 e2
    obtain ⟨z, e5, r3⟩ := relL_get g3 e3
    exact ⟨⟨zs, ws, y, z, h2, g2, e4, e5⟩, fun u H' ⟨T, y', z', e6, e7, e8, q1, q2⟩ => ⟨T, y', z', e6, e7, e8, relL_getR h3 e2 (q1 zs h2), relL_getR g3 e3 (q2 ws g2)⟩⟩

/-! ### slots -/
theorem simS_set {s : MS} {σ : St} {i : Nat} {v : MV} {x : V} (h : SimS L ρ s σ) (r : RelM L ρ v x) : SimS L ρ (s.set i (some v)) (σ.set i (some x)) := by
  refine ⟨by simp [h.1], fun j w e => ?_⟩
  by_cases hj : i = j
  · subst hj
    have hl : i < s.length := by
      have := (List.getElem?_eq_some_iff.mp e).1
      simpa using this
    rw [List.getElem?_set_self hl] at e
    cases e
    exact ⟨x, by rw [List.getElem?_set_self (by rw [← h.1]; exact hl)], r⟩
  · rw [List.getElem?_set_ne hj] at e
    obtain ⟨V1, e1, r1⟩ := h.2 j w e
    exact ⟨V1, by rw [List.getElem?_set_ne hj]; exact e1, r1⟩
theorem simS_wipe {s : MS} {σ : St} (h : SimS L ρ s σ) : ∀ vs : List Nat, SimS L ρ (wipeM s vs) (wipe σ vs)
  | [] => h
  | i :: vs => by
    have ih := simS_wipe h vs
    refine ⟨by simp [wipeM, wipe, ih.1], fun j w e => ?_⟩
    unfold wipeM at e
    unfold wipe
    by_cases hj : i = j
    · subst hj
      have hl : i < (wipeM s vs).length := by
        have := (List.getElem?_eq_some_iff.mp e).1
        simpa using this
      rw [List.getElem?_set_self hl] at e
      cases e
    · rw [List.getElem?_set_ne hj] at e ⊢
      exact ih.2 j w e
theorem wipe_get (σ : St) : ∀ (vs : List Nat) (j : Nat), (wipe σ vs)[j]? = if j ∈ vs then (σ[j]?).map (fun _ => none) else σ[j]?
  | [], j => by simp [wipe]
  | i :: vs, j => by
    unfold wipe
    by_cases hj : i = j
    · subst hj
      rw [List.getElem?_set]
      simp only [List.mem_cons, true_or, if_true]
      rw [wipe_length]
      by_cases hl : i < σ.length
      · simp [hl]
      · simp [hl]
    · rw [List.getElem?_set_ne hj, wipe_get σ vs j]
      have : (j ∈ i :: vs) ↔ j ∈ vs := by
        constructor
        · intro h
          rcases List.mem_cons.mp h with q | q
          · exact absurd q.symm hj
          · exact q
        · exact List.mem_cons_of_mem _
      simp only [this]
/-- only slots of vs differ -/
def SlotsBut (vs : List Nat) (σ σ' : St) : Prop := σ'.length = σ.length ∧ ∀ j, j ∉ vs → σ'[j]? = σ[j]?
theorem SlotsBut.wipe {vs : List Nat} {σ σ' : St} (h : SlotsBut vs (L2.wipe σ vs) σ') : L2.wipe σ' vs = L2.wipe σ vs := by
  apply List.ext_getElem?
  intro j
  rw [wipe_get, wipe_get]
  by_cases hj : j ∈ vs
  · rw [if_pos hj, if_pos hj]
    have l1 := h.1
    rw [wipe_length] at l1
    by_cases hl : j < σ.length
    · rw [List.getElem?_eq_getElem hl, List.getElem?_eq_getElem (by omega)]
      rfl
    · rw [List.getElem?_eq_none (by omega), List.getElem?_eq_none (by omega)]
  · rw [if_neg hj, if_neg hj, h.2 j hj, wipe_get, if_neg hj]
theorem SlotsBut.set {vs : List Nat} {σ σ' : St} {i : Nat} {x : Option V} (h : SlotsBut vs σ σ') (hi : i ∈ vs) : SlotsBut vs σ (σ'.set i x) :=
  ⟨by rw [List.length_set]; exact h.1, fun j hj => by rw [List.getElem?_set_ne (fun e : i = j => hj (by rw [← e]; exact hi))]; exact h.2 j hj⟩
theorem SlotsBut.refl {vs : List Nat} {σ : St} : SlotsBut vs σ σ := ⟨rfl, fun _ _ => rfl⟩
/-- a target gets an item -/
def gM (L : Link) (vs : List Nat) (tup : Bool) : TG := fun x σ H Q => ∃ s m ρ it s1 H0, SimS L ρ s σ ∧ Sim L ρ m H0 ∧ ItemRel L ρ H0 H it x ∧ bindT L.g vs tup it s m = some s1 ∧
  ∀ σ' H', Sim L ρ m H' → SimS L ρ s1 σ' → SlotsBut vs σ σ' → Q σ' H'
theorem sets_ok : ∀ (is : List Nat) {vs : List Nat} {xs : List MV} {ys : List V} {s s1 : MS} {σ σ0 : St}, SimS L ρ s σ → RelL L ρ xs ys → setAll is xs s = some s1 → (∀ i ∈ is, i ∈ vs) → SlotsBut vs σ0 σ →
    ys.length = is.length ∧ ∃ σ', SimS L ρ s1 σ' ∧ SlotsBut vs σ0 σ' ∧ σ' = (is.zip ys).foldl (fun τ p => τ.set p.1 (some p.2)) σ
  | [], _, [], _, _, _, _, _, hs, .nil, h, _, b => by cases h; exact ⟨rfl, _, hs, b, rfl⟩
  | [], _, _ :: _, _, _, _, _, _, _, _, h, _, _ => by cases h
  | _ :: _, _, [], _, _, _, _, _, _, _, h, _, _ => by cases h
  | i :: is, vs, x :: xs, _, s, s1, σ, σ0, hs, .cons (b := y) (l₂ := ys) r t, h, hv, b => by
    have h' : setAll is xs (s.set i (some x)) = some s1 := h
    obtain ⟨h1, σ', h2, h3, h4⟩ := sets_ok is (vs := vs) (simS_set hs r) t h' (fun j hj => hv j (List.mem_cons_of_mem _ hj)) (b.set (hv i List.mem_cons_self))
    exact ⟨by simp [h1], σ', h2, h3, h4⟩
end
section
variable {L : Link} {k : Nat} {X : Cx} {W : WX} {c : Ck}
/-- names, one after another -/
def gNames (is : List Nat) : TGs := fun vs σ H Q => vs.length = is.length ∧ Q ((is.zip vs).foldl (fun τ p => τ.set p.1 (some p.2)) σ) H
theorem pgs_names (C : Ctx L k X W c) : ∀ {is : List Nat} {es : List Expr}, chkTgs c is es = true → PGs X es (gNames is)
  | [], [], _ => ⟨fun pins s σ H vs us Q I r hw => by
      obtain ⟨hl, q⟩ := hw
      cases vs with
      | nil => exact pgs_nil.run pins s σ H [] us Q I r ⟨rfl, q⟩
      | cons a b => cases hl⟩
  | [], _ :: _, h => by cases h
  | _ :: _, [], h => by cases h
  | i :: r, e :: es, h => by
    cases e <;> first
      | exact absurd (show false = true from h) Bool.false_ne_true
      | skip
    rename_i x p
    simp only [chkTgs, Bool.and_eq_true, decide_eq_true_eq] at h
    obtain ⟨⟨h1, h2⟩, h3⟩ := h
    obtain ⟨l1, l2⟩ := storeB_ok C h2
    have ih := pgs_names C h3
    refine ⟨fun pins s σ H vs us Q I rv hw => ?_⟩
    obtain ⟨hl, q⟩ := hw
    cases vs with
    | nil => cases hl
    | cons y ys =>
      refine (pgs_cons (pg_name (i := i) (by rw [C.N]; exact C.nd) (slot_ok C h1) l1 l2) ih).run pins s σ H (y :: ys) us Q I rv ⟨y, ys, rfl, ?_⟩
      exact ⟨by simpa using hl, q⟩
theorem PG.imp {e : Expr} {t t' : TG} (h : PG X e t) (k : ∀ v σ H Q, t' v σ H Q → t v σ H Q) : PG X e t' := ⟨fun pins s σ H v u Q I r q => h.run pins s σ H v u Q I r (k v σ H Q q)⟩
theorem tg_ok (LO : COk L) (C : Ctx L k X W c) {vs : List Nat} {tup : Bool} {e : Expr} (h : chkTg c vs tup e = true) : PG X e (gM L vs tup) := by
  cases tup with
  | false =>
    cases e <;> first
      | exact absurd (show false = true from h) Bool.false_ne_true
      | skip
    rename_i x p
    simp only [chkTg] at h
    split at h
    · rename_i i
      simp only [Bool.and_eq_true, decide_eq_true_eq] at h
      obtain ⟨l1, l2⟩ := storeB_ok C h.2
      refine PG.imp (pg_name (i := i) (by rw [C.N]; exact C.nd) (slot_ok C h.1) l1 l2) fun v σ H Q ⟨s, m, ρ, it, s1, H0, hs, S, ir, hb, q⟩ => ?_
      unfold bindT at hb
      split at hb
      · rename_i x'
        rw [if_neg Bool.false_ne_true] at hb
        cases hb
        obtain ⟨r, rfl⟩ := ir
        exact q _ _ S (simS_set hs r) (SlotsBut.set .refl (by simp))
      · rw [if_neg Bool.false_ne_true] at hb
        cases hb
      · cases hb
    · cases h
  | true =>
    cases e <;> first
      | exact absurd (show false = true from h) Bool.false_ne_true
      | skip
    rename_i es kk p
    have h' : chkTgs c vs es = true := h
    obtain ⟨a1, a2, _⟩ := assign_names (env := X.env) h'
    refine PG.imp (pg_tup C.calm (pgs_names C h') a1 a2) fun v σ H Q ⟨s, m, ρ, it, s1, H0, hs, S, ir, hb, q⟩ => ?_
    unfold bindT at hb
    split at hb
    · rename_i x'
      rw [if_pos rfl] at hb
      obtain ⟨r, rfl⟩ := ir
      split at hb
      · rename_i xs e1
        obtain ⟨a, ys, rfl, h1, h2⟩ := gt_sq LO S r e1
        obtain ⟨g1, σ', g2, g3, g4⟩ := sets_ok vs (vs := vs) hs h2 hb (fun i hi => hi) .refl
        refine ⟨a, ys, rfl, by rw [C.K]; exact h1, g1, g1, ?_⟩
        rw [← g4]
        exact q _ _ S g2 g3
      · cases hb
    · rename_i x' y'
      rw [if_pos rfl] at hb
      obtain ⟨T, V1, U1, rfl, e2, rfl, r1, r2⟩ := ir
      obtain ⟨g1, σ', g2, g3, g4⟩ := sets_ok vs (vs := vs) (ys := [V1, U1]) hs (.cons r1 (.cons r2 .nil)) hb (fun i hi => hi) .refl
      refine ⟨T, [V1, U1], rfl, .inl (.inl upd_same), g1, g1, ?_⟩
      rw [← g4]
      exact q _ _ (S.other fun b u hb => by rw [upd_ne (ne_of_none hb e2)]; exact hb) g2 g3
    · cases hb
end
end Mi

set_option Elab.async false
set_option maxRecDepth 100000
set_option linter.all false
set_option maxHeartbeats 4000000
set_option autoImplicit false
namespace Mi
open PySem PySem.Spec PyProof.Rows L2
section
variable {L : Link} {k : Nat} {X : Cx} {W : WX} {c : Ck} {E : St → XK} {pos : Pos} {a b d : Expr} {es : List Expr} {rest : List Expr}
  {da db dd : MS → MH → Rs MV} {das : MS → MH → Rs (List MV)} {ta tb : MS → MH → Rs Bool}

theorem se_var (C : Ctx L k X W c) {i : Nat} {x : Str} (h1 : c.N[i]? = some x) (h2 : visB c.sc x = true) (h3 : ndbg x = true) :
    PE X (.Name x pos) (tE L E fun s m => match s[i]? with | some (some v) => .ok v m | _ => .bad) := by
  refine PE.imp (pe_var (i := i) (slot_ok C h1) (by rw [C.sc]; exact visB_ok h2) (ndbg_1 h3) (ndbg_2 h3)) fun σ H Q ⟨s, m, ρ, hs, S, h⟩ => ?_
  dsimp only at h
  cases e : s[i]? with
  | none => rw [e] at h; exact False.elim h
  | some o =>
    cases o with
    | none => rw [e] at h; exact False.elim h
    | some v =>
      rw [e] at h
      obtain ⟨V1, e1, r⟩ := hs.2 i v e
      exact ⟨V1, e1, PostR.ok h S r⟩
theorem se_con {v : MV} {kc : Const} {j : Nat} (h : constM kc = some v) : PE X (.Constant kc j pos) (tE L E fun _ m => .ok v m) := by
  cases kc with
  | none => cases h; exact PE.imp pe_non fun σ H Q ⟨s, m, ρ, hs, S, h⟩ => PostR.ok h S rfl
  | bool b => cases h; exact PE.imp pe_bl fun σ H Q ⟨s, m, ρ, hs, S, h⟩ => PostR.ok h S rfl
  | int b => cases h; exact PE.imp pe_int fun σ H Q ⟨s, m, ρ, hs, S, h⟩ => PostR.ok h S rfl
  | str b => cases h; exact PE.imp pe_str fun σ H Q ⟨s, m, ρ, hs, S, h⟩ => PostR.ok h S rfl
  | _ => cases h
theorem se_glo (LO : LOk L c.gl c.fns) (C : Ctx L k X W c) {v : MV} {x : Str} (h1 : glB c.sc x = true) (h2 : c.gl.lookup x = some v) (h3 : ndbg x = true) : PE X (.Name x pos) (tE L E fun _ m => .ok v m) := by
  obtain ⟨u, V1, e1, e2, e3⟩ := LO.gl x v h2
  exact PE.imp (pe_glob (v := V1) (glB_ok C h1) (by rw [C.mg]; exact e1) e2 (ndbg_1 h3)) fun σ H Q ⟨s, m, ρ, hs, S, h⟩ => PostR.ok h S (RelM.mono e3 List.nil_prefix)
theorem se_bin (op : Operator) (ha : PE X a (tE L E da)) (hb : PE X b (tE L E db)) :
    PE X (.BinOp a op b pos) (tE L E fun s m => (da s m).bind fun x m1 => (db s m1).bind fun y m2 => bop op x y m2) := by
  refine ⟨fun pins s σ H Q I h => ?_⟩
  refine (pe_op (op_bop (L := L) (E := E σ) op) ha hb).run pins s σ H Q I ?_
  obtain ⟨s, m, ρ, hs, S, h⟩ := h
  exact ⟨s, m, ρ, hs, S, h.bind fun v m1 ρ1 H1 V1 _ e1 S1 r1 h1 => ⟨s, m1, ρ1, hs.mono e1, S1, h1.bind fun w m2 ρ2 H2 V2 _ e2 S2 r2 h2 => ⟨v, w, m2, ρ2, r1.mono e2, r2, S2, h2⟩⟩⟩
theorem se_neg (ha : PE X a (tE L E da)) : PE X (.UnaryOp .USub a pos) (tE L E fun s m => (da s m).bind fun x m1 => match x with | .int i => .ok (.int (-i)) m1 | _ => .bad) := by
  refine PE.imp (pe_un un_neg ha) fun σ H Q ⟨s, m, ρ, hs, S, h⟩ => ⟨s, m, ρ, hs, S, h.bind fun v m1 ρ1 H1 V1 _ e1 S1 r1 h1 => ?_⟩
  cases v with
  | int i => exact ⟨i, r1, PostR.ok h1 S1 rfl⟩
  | _ => exact False.elim h1
theorem se_cmp (LO : LOk L c.gl c.fns) (C : Ctx L k X W c) (op : CmpOp) (ha : PE X a (tE L E da)) (hb : PE X b (tE L E db)) (hn : notSet b = true) :
    PE X (.Compare a [op] [b] pos) (tE L E fun s m => (da s m).bind fun x m1 => (db s m1).bind fun y m2 => cop L.g op x y m2) := by
  refine ⟨fun pins s σ H Q I h => ?_⟩
  refine (pe_cmpR (op_cop (L := L) (E := E σ) C.K C.w LO.c C.room.units op) ha hb (mark_ok hn)).run pins s σ H Q I ?_
  obtain ⟨s, m, ρ, hs, S, h⟩ := h
  exact ⟨s, m, ρ, hs, S, h.bind fun v m1 ρ1 H1 V1 _ e1 S1 r1 h1 => ⟨s, m1, ρ1, hs.mono e1, S1, h1.bind fun w m2 ρ2 H2 V2 _ e2 S2 r2 h2 => ⟨v, w, m2, ρ2, r1.mono e2, r2, S2, h2⟩⟩⟩
theorem st_cmp (LO : LOk L c.gl c.fns) (C : Ctx L k X W c) (op : CmpOp) (ha : PE X a (tE L E da)) (hb : PE X b (tE L E db)) (hn : notSet b = true) :
    PT X (.Compare a [op] [b] pos) (tT L E fun s m => (da s m).bind fun x m1 => (db s m1).bind fun y m2 => (cop L.g op x y m2).bind fun z m3 => match z with | .bl k => .ok k m3 | _ => .bad) := by
  refine ⟨fun pins s σ H Q I h => ?_⟩
  refine (pt_cmpR (op_cop (L := L) (E := E σ) C.K C.w LO.c C.room.units op) ha hb (mark_ok hn)).run pins s σ H Q I ?_
  obtain ⟨s, m, ρ, hs, S, h⟩ := h
  refine ⟨s, m, ρ, hs, S, h.bind fun v m1 ρ1 H1 V1 _ e1 S1 r1 h1 => ⟨s, m1, ρ1, hs.mono e1, S1, h1.bind fun w m2 ρ2 H2 V2 _ e2 S2 r2 h2 => ⟨v, w, m2, ρ2, r1.mono e2, r2, S2, h2.bind fun z m3 ρ3 H3 V3 _ e3 S3 r3 h3 => ?_⟩⟩⟩
  cases z with
  | bl k => exact ⟨k, r3, PostR.ok h3 S3 rfl⟩
  | _ => exact False.elim h3
theorem rel_non {ρ : List Addr} {v : MV} {x : V} (r : RelM L ρ v x) : decide (x = .non) = decide (v = .non) := by
  cases v with
  | non => cases r; rfl
  | bl b => cases r; rfl
  | int b => cases r; rfl
  | str b => cases r; rfl
  | ref b => obtain ⟨_, _, rfl⟩ := r; rfl
  | cst b => cases (show x = .ref _ from r); rfl
theorem se_isn (ps : Bool) {op : CmpOp} (ho : op = if ps then .Is else .IsNot) (ha : PE X a (tE L E da)) {j p2} :
    PE X (.Compare a [op] [.Constant .none j p2] pos) (tE L E fun s m => (da s m).bind fun x m1 => .ok (.bl (if ps then decide (x = .non) else !decide (x = .non))) m1) := by
  cases ps with
  | true =>
    cases ho
    refine PE.imp (pe_cmp (pc_isN ha)) fun σ H Q ⟨s, m, ρ, hs, S, h⟩ => ⟨s, m, ρ, hs, S, h.bind fun v m1 ρ1 H1 V1 _ e1 S1 r1 h1 => ?_⟩
    exact PostR.ok h1 S1 (by show V.bl _ = .bl (decide (v = .non)); rw [rel_non r1])
  | false =>
    cases ho
    refine PE.imp (pe_cmp (pc_notN ha)) fun σ H Q ⟨s, m, ρ, hs, S, h⟩ => ⟨s, m, ρ, hs, S, h.bind fun v m1 ρ1 H1 V1 _ e1 S1 r1 h1 => ?_⟩
    exact PostR.ok h1 S1 (by show V.bl _ = .bl (!decide (v = .non)); rw [rel_non r1])
theorem st_isn (ps : Bool) {op : CmpOp} (ho : op = if ps then .Is else .IsNot) (ha : PE X a (tE L E da)) {j p2} :
    PT X (.Compare a [op] [.Constant .none j p2] pos) (tT L E fun s m => (da s m).bind fun x m1 => .ok (if ps then decide (x = .non) else !decide (x = .non)) m1) := by
  cases ps with
  | true =>
    cases ho
    refine PT.imp (pt_cmp (pc_isN ha)) fun σ H Q ⟨s, m, ρ, hs, S, h⟩ => ⟨s, m, ρ, hs, S, h.bind fun v m1 ρ1 H1 V1 _ e1 S1 r1 h1 => ?_⟩
    exact ⟨_, rfl, PostR.ok h1 S1 (by show decide (v = .non) = _; rw [rel_non r1])⟩
  | false =>
    cases ho
    refine PT.imp (pt_cmp (pc_notN ha)) fun σ H Q ⟨s, m, ρ, hs, S, h⟩ => ⟨s, m, ρ, hs, S, h.bind fun v m1 ρ1 H1 V1 _ e1 S1 r1 h1 => ?_⟩
    exact ⟨_, rfl, PostR.ok h1 S1 (by show (!decide (v = .non)) = _; rw [rel_non r1])⟩
theorem se_chn (LO : LOk L c.gl c.fns) (C : Ctx L k X W c) (op op' : CmpOp) (ha : PE X a (tE L E da)) (hb : PE X b (tE L E db)) (hd : PE X d (tE L E dd)) (hn : notSet d = true) :
    PE X (.Compare a [op, op'] [b, d] pos) (tE L E fun s m => (da s m).bind fun x m1 => (db s m1).bind fun y m2 => (cop L.g op x y m2).bind fun z m3 => match z with
      | .bl true => (dd s m3).bind fun w m4 => cop L.g op' y w m4
      | .bl false => .ok (.bl false) m3
      | _ => .bad) := by
  refine ⟨fun pins s σ H Q I h => ?_⟩
  refine (pe_chain (op_cop (L := L) (E := E σ) C.K C.w LO.c C.room.units op) (op_cop (L := L) (E := E σ) C.K C.w LO.c C.room.units op') ha hb hd (mark_ok (op := op') hn)).run pins s σ H Q I ?_
  obtain ⟨s, m, ρ, hs, S, h⟩ := h
  refine ⟨s, m, ρ, hs, S, h.bind fun v m1 ρ1 H1 V1 _ e1 S1 r1 h1 => ⟨s, m1, ρ1, hs.mono e1, S1, h1.bind fun w m2 ρ2 H2 V2 _ e2 S2 r2 h2 => ⟨v, w, m2, ρ2, r1.mono e2, r2, S2, h2.bind fun z m3 ρ3 H3 V3 _ e3 S3 r3 h3 => ?_⟩⟩⟩
  cases z with
  | bl k =>
    refine ⟨k, r3, ?_⟩
    cases k with
    | true => exact iteT ⟨s, m3, ρ3, hs.mono (e1.trans (e2.trans e3)), S3, PostR.bind h3 fun y m4 ρ4 H4 V4 _ e4 S4 r4 h4 => ⟨w, y, m4, ρ4, r2.mono (e3.trans e4), r4, S4, h4⟩⟩
    | false => exact iteF (PostR.ok h3 S3 rfl)
  | _ => exact False.elim h3
theorem st_chn (LO : LOk L c.gl c.fns) (C : Ctx L k X W c) (op op' : CmpOp) (ha : PE X a (tE L E da)) (hb : PE X b (tE L E db)) (hd : PE X d (tE L E dd)) (hn : notSet d = true) :
    PT X (.Compare a [op, op'] [b, d] pos) (tT L E fun s m => (da s m).bind fun x m1 => (db s m1).bind fun y m2 => (cop L.g op x y m2).bind fun z m3 => match z with
      | .bl true => (dd s m3).bind fun w m4 => (cop L.g op' y w m4).bind fun z m5 => match z with
        | .bl k => .ok k m5
        | _ => .bad
      | .bl false => .ok false m3
      | _ => .bad) := by
  refine ⟨fun pins s σ H Q I h => ?_⟩
  refine (pt_chain (op_cop (L := L) (E := E σ) C.K C.w LO.c C.room.units op) (op_cop (L := L) (E := E σ) C.K C.w LO.c C.room.units op') ha hb hd (mark_ok (op := op') hn)).run pins s σ H Q I ?_
  obtain ⟨s, m, ρ, hs, S, h⟩ := h
  refine ⟨s, m, ρ, hs, S, h.bind fun v m1 ρ1 H1 V1 _ e1 S1 r1 h1 => ⟨s, m1, ρ1, hs.mono e1, S1, h1.bind fun w m2 ρ2 H2 V2 _ e2 S2 r2 h2 => ⟨v, w, m2, ρ2, r1.mono e2, r2, S2, h2.bind fun z m3 ρ3 H3 V3 _ e3 S3 r3 h3 => ?_⟩⟩⟩
  cases z with
  | bl k =>
    refine ⟨k, r3, ?_⟩
    cases k with
    | true =>
      refine iteT ⟨s, m3, ρ3, hs.mono (e1.trans (e2.trans e3)), S3, PostR.bind h3 fun y m4 ρ4 H4 V4 _ e4 S4 r4 h4 => ⟨w, y, m4, ρ4, r2.mono (e3.trans e4), r4, S4, PostR.bind h4 fun z m5 ρ5 H5 V5 _ e5 S5 r5 h5 => ?_⟩⟩
      cases z with
      | bl k => exact ⟨k, r5, PostR.ok h5 S5 rfl⟩
      | _ => exact False.elim h5
    | false => exact iteF ⟨false, rfl, PostR.ok h3 S3 rfl⟩
  | _ => exact False.elim h3
/-- a test by the value's truth -/
theorem st_truth (LO : LOk L c.gl c.fns) (C : Ctx L k X W c) (ha : PE X a (tE L E da)) (hp : plainT a = true) :
    PT X a (tT L E fun s m => (da s m).bind fun x m1 => match truth L.g m1 x with | some k => .ok k m1 | none => .bad) := by
  refine PT.imp (pt_truth ha (truth_form hp)) fun σ H Q ⟨s, m, ρ, hs, S, h⟩ => ⟨s, m, ρ, hs, S, h.bind fun v m1 ρ1 H1 V1 _ e1 S1 r1 h1 => ?_⟩
  cases e : truth L.g m1 v with
  | none => rw [e] at h1; exact False.elim h1
  | some k =>
    rw [e] at h1
    exact ⟨k, by rw [C.K]; exact truth_ok LO.c S1 r1 e, PostR.ok h1 S1 rfl⟩
theorem se_nt (LO : LOk L c.gl c.fns) (C : Ctx L k X W c) (ha : PE X a (tE L E da)) :
    PE X (.UnaryOp .Not a pos) (tE L E fun s m => (da s m).bind fun x m1 => match truth L.g m1 x with | some k => .ok (.bl (!k)) m1 | none => .bad) := by
  refine PE.imp (pe_notT ha) fun σ H Q ⟨s, m, ρ, hs, S, h⟩ => ⟨s, m, ρ, hs, S, h.bind fun v m1 ρ1 H1 V1 _ e1 S1 r1 h1 => ?_⟩
  cases e : truth L.g m1 v with
  | none => rw [e] at h1; exact False.elim h1
  | some k =>
    rw [e] at h1
    exact ⟨k, by rw [C.K]; exact truth_ok LO.c S1 r1 e, PostR.ok h1 S1 rfl⟩
theorem se_an (LO : LOk L c.gl c.fns) (C : Ctx L k X W c) (ha : PE X a (tE L E da)) (hb : PE X (.BoolOp .And (b :: rest) pos) (tE L E db)) :
    PE X (.BoolOp .And (a :: b :: rest) pos) (tE L E fun s m => (da s m).bind fun x m1 => match truth L.g m1 x with | some true => db s m1 | some false => .ok x m1 | none => .bad) := by
  refine PE.imp (pe_andT ha hb) fun σ H Q ⟨s, m, ρ, hs, S, h⟩ => ⟨s, m, ρ, hs, S, h.bind fun v m1 ρ1 H1 V1 _ e1 S1 r1 h1 => ?_⟩
  cases e : truth L.g m1 v with
  | none => rw [e] at h1; exact False.elim h1
  | some k =>
    rw [e] at h1
    refine ⟨k, by rw [C.K]; exact truth_ok LO.c S1 r1 e, ?_⟩
    cases k with
    | true => exact iteT ⟨s, m1, ρ1, hs.mono e1, S1, h1⟩
    | false => exact iteF (PostR.ok h1 S1 r1)
theorem se_orr (LO : LOk L c.gl c.fns) (C : Ctx L k X W c) (ha : PE X a (tE L E da)) (hb : PE X (.BoolOp .Or (b :: rest) pos) (tE L E db)) :
    PE X (.BoolOp .Or (a :: b :: rest) pos) (tE L E fun s m => (da s m).bind fun x m1 => match truth L.g m1 x with | some false => db s m1 | some true => .ok x m1 | none => .bad) := by
  refine PE.imp (pe_orT ha hb) fun σ H Q ⟨s, m, ρ, hs, S, h⟩ => ⟨s, m, ρ, hs, S, h.bind fun v m1 ρ1 H1 V1 _ e1 S1 r1 h1 => ?_⟩
  cases e : truth L.g m1 v with
  | none => rw [e] at h1; exact False.elim h1
  | some k =>
    rw [e] at h1
    refine ⟨k, by rw [C.K]; exact truth_ok LO.c S1 r1 e, ?_⟩
    cases k with
    | false => exact iteF ⟨s, m1, ρ1, hs.mono e1, S1, h1⟩
    | true => exact iteT (PostR.ok h1 S1 r1)
theorem st_nt (ha : PT X a (tT L E ta)) : PT X (.UnaryOp .Not a pos) (tT L E fun s m => (ta s m).bind fun k m1 => .ok (!k) m1) := by
  refine PT.imp (pt_not ha) fun σ H Q ⟨s, m, ρ, hs, S, h⟩ => ⟨s, m, ρ, hs, S, h.bind fun v m1 ρ1 H1 V1 _ e1 S1 r1 h1 => ?_⟩
  exact PostR.ok h1 S1 (by show (!v) = !V1; rw [show v = V1 from r1])
/-- tests of and, or: whatever their whole is -/
structure TWk (X : Cx) (e : Expr) (t : TT) : Prop where
  w : PT X e t ∧ ∀ op xs pos, e = .BoolOp op xs pos → PW X e t
theorem PW.imp {e : Expr} {t t' : TT} (h : PW X e t) (k : ∀ σ H Q, t' σ H Q → t σ H Q) : PW X e t' := ⟨fun wh pins s σ H Q I q => h.run wh pins s σ H Q I (k σ H Q q)⟩
theorem TWk.pw {e : Expr} {t : TT} (h : PW X e t) : TWk X e t := ⟨h.pt, fun _ _ _ _ => h⟩
theorem st_an (ha : PT X a (tT L E ta)) (hb : TWk X (.BoolOp .And (b :: rest) pos) (tT L E tb)) :
    TWk X (.BoolOp .And (a :: b :: rest) pos) (tT L E fun s m => (ta s m).bind fun k m1 => match k with | true => tb s m1 | false => .ok false m1) := by
  refine TWk.pw (PW.imp (pw_and ha (hb.w.2 _ _ _ rfl)) fun σ H Q ⟨s, m, ρ, hs, S, h⟩ => ⟨s, m, ρ, hs, S, h.bind fun v m1 ρ1 H1 V1 _ e1 S1 r1 h1 => ?_⟩)
  cases (show v = V1 from r1)
  cases v with
  | true => exact iteT ⟨s, m1, ρ1, hs.mono e1, S1, h1⟩
  | false => exact iteF (PostR.ok h1 S1 rfl)
theorem st_orr (ha : PT X a (tT L E ta)) (hb : TWk X (.BoolOp .Or (b :: rest) pos) (tT L E tb)) :
    TWk X (.BoolOp .Or (a :: b :: rest) pos) (tT L E fun s m => (ta s m).bind fun k m1 => match k with | true => .ok true m1 | false => tb s m1) := by
  refine TWk.pw (PW.imp (pw_or ha (hb.w.2 _ _ _ rfl)) fun σ H Q ⟨s, m, ρ, hs, S, h⟩ => ⟨s, m, ρ, hs, S, h.bind fun v m1 ρ1 H1 V1 _ e1 S1 r1 h1 => ?_⟩)
  cases (show v = V1 from r1)
  cases v with
  | false => exact iteF ⟨s, m1, ρ1, hs.mono e1, S1, h1⟩
  | true => exact iteT (PostR.ok h1 S1 rfl)
theorem st_one {op : BoolOp} (ha : PT X a (tT L E ta)) : TWk X (.BoolOp op [a] pos) (tT L E ta) := by
  cases op with
  | And => exact TWk.pw (pw_and1 ha)
  | Or => exact TWk.pw (pw_or1 ha)
theorem se_ife (ht : PT X a (tT L E ta)) (hb : PE X b (tE L E db)) (hd : PE X d (tE L E dd)) :
    PE X (.IfExp a b d pos) (tE L E fun s m => (ta s m).bind fun k m1 => match k with | true => db s m1 | false => dd s m1) := by
  refine PE.imp (pe_ifExp ht hb hd) fun σ H Q ⟨s, m, ρ, hs, S, h⟩ => ⟨s, m, ρ, hs, S, h.bind fun v m1 ρ1 H1 V1 _ e1 S1 r1 h1 => ?_⟩
  cases (show v = V1 from r1)
  cases v with
  | true => exact iteT ⟨s, m1, ρ1, hs.mono e1, S1, h1⟩
  | false => exact iteF ⟨s, m1, ρ1, hs.mono e1, S1, h1⟩
theorem se_lst (h : PA X es (tA L E das)) : PE X (.List es pos) (tE L E fun s m => (das s m).bind fun xs m1 => if xs.length ≤ sizeLine then new m1 (.lst xs) else .bad) := by
  refine PE.imp (pe_lst h) fun σ H Q ⟨s, m, ρ, hs, S, h⟩ => ⟨s, m, ρ, hs, S, h.bind fun v m1 ρ1 H1 V1 _ e1 S1 r1 h1 => ?_⟩
  split at h1
  · rename_i hz
    exact ⟨by rw [← relL_len r1]; exact hz, fun p hp => PostR.new h1 S1 hp rfl ⟨_, upd_same, RelL.mono r1 (List.prefix_append _ _)⟩⟩
  · exact False.elim h1
theorem se_tup {j} (h : PA X es (tA L E das)) : PE X (.Tuple es j pos) (tE L E fun s m => (das s m).bind fun xs m1 => if xs.length ≤ sizeLine then new m1 (.tup xs) else .bad) := by
  refine PE.imp (pe_tup h) fun σ H Q ⟨s, m, ρ, hs, S, h⟩ => ⟨s, m, ρ, hs, S, h.bind fun v m1 ρ1 H1 V1 _ e1 S1 r1 h1 => ?_⟩
  split at h1
  · rename_i hz
    exact ⟨by rw [← relL_len r1]; exact hz, fun p hp => PostR.new h1 S1 hp rfl ⟨_, upd_same, RelL.mono r1 (List.prefix_append _ _)⟩⟩
  · exact False.elim h1
theorem se_ix (LO : LOk L c.gl c.fns) (C : Ctx L k X W c) (ha : PE X a (tE L E da)) (hb : PE X b (tE L E db)) (hn : notSlice b = true) :
    PE X (.Subscript a b pos) (tE L E fun s m => (da s m).bind fun x m1 => (db s m1).bind fun y m2 => ixM L.g x y m2) := by
  refine ⟨fun pins s σ H Q I h => ?_⟩
  refine (pe_ix (ix_ok (L := L) (E := E σ) C.K C.w LO.c) ha hb (plainIx_ok hn)).run pins s σ H Q I ?_
  obtain ⟨s, m, ρ, hs, S, h⟩ := h
  exact ⟨s, m, ρ, hs, S, h.bind fun v m1 ρ1 H1 V1 _ e1 S1 r1 h1 => ⟨s, m1, ρ1, hs.mono e1, S1, h1.bind fun w m2 ρ2 H2 V2 _ e2 S2 r2 h2 => ⟨v, w, m2, ρ2, r1.mono e2, r2, S2, h2⟩⟩⟩
def tPo (L : Link) (E : St → XK) (d : MS → MH → Rs (Option Int)) : TO := fun σ H Q => ∃ s m ρ, SimS L ρ s σ ∧ Sim L ρ m H ∧ PostR L (fun _ a b => a = b) (E σ) ρ (d s m) Q
theorem PO.imp {e : Option Expr} {t t' : TO} (h : PO X e t) (k : ∀ σ H Q, t' σ H Q → t σ H Q) : PO X e t' := ⟨fun pins s σ H Q I q => h.run pins s σ H Q I (k σ H Q q)⟩
theorem se_sl (C : Ctx L k X W c) {lo hi : Option Expr} {dl dh : MS → MH → Rs (Option Int)} {p2 : Pos} (ha : PE X a (tE L E da)) (hl : PO X lo (tPo L E dl)) (hh : PO X hi (tPo L E dh)) :
    PE X (.Subscript a (.Slice lo hi none p2) pos) (tE L E fun s m => (da s m).bind fun x m1 => (dl s m1).bind fun l m2 => (dh s m2).bind fun h m3 => slM x l h m3) := by
  refine ⟨fun pins s σ H Q I h => ?_⟩
  refine (pe_slice (sl_ok (L := L) (E := E σ) C.K) ha hl hh).run pins s σ H Q I ?_
  obtain ⟨s, m, ρ, hs, S, h⟩ := h
  refine ⟨s, m, ρ, hs, S, h.bind fun v m1 ρ1 H1 V1 _ e1 S1 r1 h1 => ⟨s, m1, ρ1, hs.mono e1, S1, h1.bind fun w m2 ρ2 H2 V2 _ e2 S2 r2 h2 => ⟨s, m2, ρ2, hs.mono (e1.trans e2), S2, h2.bind fun z m3 ρ3 H3 V3 _ e3 S3 r3 h3 => ?_⟩⟩⟩
  cases (show w = V2 from r2)
  cases (show z = V3 from r3)
  exact ⟨v, m3, ρ3, r1.mono (e2.trans e3), S3, h3⟩
theorem sa_nil : PA X [] (tA L E fun _ m => .ok [] m) := PA.imp pa_nil fun σ H Q ⟨s, m, ρ, hs, S, h⟩ => PostR.ok h S .nil
theorem sa_cons (ha : PE X a (tE L E da)) (hb : PA X es (tA L E das)) (hn : notStar a = true) : PA X (a :: es) (tA L E fun s m => (da s m).bind fun x m1 => (das s m1).bind fun xs m2 => .ok (x :: xs) m2) := by
  refine PA.imp (pa_cons ha hb (star_cons hn)) fun σ H Q ⟨s, m, ρ, hs, S, h⟩ => ⟨s, m, ρ, hs, S, h.bind fun v m1 ρ1 H1 V1 _ e1 S1 r1 h1 => ⟨s, m1, ρ1, hs.mono e1, S1, h1.bind fun w m2 ρ2 H2 V2 _ e2 S2 r2 h2 => ?_⟩⟩
  exact PostR.ok h2 S2 (.cons (r1.mono e2) r2)
theorem se_call (LO : LOk L c.gl c.fns) (FO : FOk L k) (C : Ctx L k X W c) {f : Nat} {x : Str} {p : Pos} (hx : glB c.sc x = true) (hf : c.fns[f]? = some x) (hd : ndbg x = true) (ha : PA X (a :: es) (tA L (WE W) das)) (hst : ∀ y ∈ a :: es, notStar y = true) :
    PE X (.Call (.Name x p) (a :: es) [] pos) (tE L (WE W) fun s m => (das s m).bind fun xs m1 => callD L.g k f xs m1) := by
  obtain ⟨m1, m2, F, e, m3⟩ := LO.fn f x hf
  have Fn : FnOk X.prog X.w X.K X.mg X.base (L2.CX X.prog X.w) k (L.fa f) (L.fd f) F.ps (spD L k f) := by
    rw [C.prog, C.w, C.K, C.mg, C.base]
    exact FO k f F (Nat.le_refl _) e
  refine PE.imp (pe_callS Fn C.room (glB_ok C hx) (by rw [C.mg]; exact m1) (by rw [C.K]; exact m2) (by rw [C.K]; exact m3) (fun σ => passAt C.tk σ) ha (ndbg_1 hd) (star_cons (hst a List.mem_cons_self)) (star_all fun z hz => hst z (List.mem_cons_of_mem _ hz))) fun σ H Q ⟨s, m, ρ, hs, S, h⟩ =>
      ⟨s, m, ρ, hs, S, h.bind fun v m1 ρ1 H1 V1 _ e1 S1 r1 h1 => ⟨v, m1, ρ1, r1, S1, h1⟩⟩
theorem se_call0 (LO : LOk L c.gl c.fns) (FO : FOk L k) (C : Ctx L k X W c) {f : Nat} {x : Str} {p : Pos} (hx : glB c.sc x = true) (hf : c.fns[f]? = some x) (hd : ndbg x = true) :
    PE X (.Call (.Name x p) [] [] pos) (tE L (WE W) fun s m => callD L.g k f [] m) := by
  obtain ⟨m1, m2, F, e, m3⟩ := LO.fn f x hf
  have Fn : FnOk X.prog X.w X.K X.mg X.base (L2.CX X.prog X.w) k (L.fa f) (L.fd f) F.ps (spD L k f) := by
    rw [C.prog, C.w, C.K, C.mg, C.base]
    exact FO k f F (Nat.le_refl _) e
  refine ⟨fun pins s σ H Q I h => ?_⟩
  refine wpAny_Call_Name_kw (ld_glob I (glB_ok C hx) (by rw [C.mg]; exact m1) ?_ (ndbg_1 hd))
  obtain ⟨s', m, ρ, hs, S, h⟩ := h
  exact PySem.W.callWith_K0 I.kIn (by rw [C.K]; exact m2) (run_fnS (us := []) (vs := []) Fn C.room (by rw [C.K]; exact m3) (passAt C.tk σ) I .nil ⟨[], m, ρ, .nil, S, h⟩)
theorem blt_boot (b : Blt) : bootBuiltins b.name = some b.val := by cases b <;> decide +kernel
theorem blt_n1 (b : Blt) : b.name ≠ "__name__" := by cases b <;> decide +kernel
theorem blt_n2 (b : Blt) : (b.name == ("__debug__" : Str)) = false := by cases b <;> decide +kernel
theorem blt_in (b : Blt) : b.name ∈ (["len", "str", "int", "max", "min", "all", "any", "sum", "tuple", "list", "abs", "sorted", "dict", "isinstance", "range", "enumerate", "zip", "bool"] : List Str) := by cases b <;> decide +kernel
theorem se_blt (LO : LOk L c.gl c.fns) (C : Ctx L k X W c) (b : Blt) {p : Pos} (hx : glB c.sc b.name = true) (ha : PA X (a :: es) (tA L E das)) (hst : ∀ y ∈ a :: es, notStar y = true) :
    PE X (.Call (.Name b.name p) (a :: es) [] pos) (tE L E fun s m => (das s m).bind fun xs m1 => bltM L.g b xs m1) := by
  have hm : X.mg b.name = none := by rw [C.mg]; exact LO.bl _ (blt_in b)
  refine ⟨fun pins s σ H Q I h => ?_⟩
  have go : tCB (rC L (E σ) (bltM L.g b)) (tA L E das) σ H Q := by
    obtain ⟨s, m, ρ, hs, S, h⟩ := h
    exact ⟨s, m, ρ, hs, S, h.bind fun v m1 ρ1 H1 V1 _ e1 S1 r1 h1 => ⟨v, m1, ρ1, r1, S1, h1⟩⟩
  have st1 := star_cons (es := es) (env := X.env) (hst a List.mem_cons_self)
  have st2 := star_all (env := X.env) (pos := pos) fun z hz => hst z (List.mem_cons_of_mem _ hz)
  have hc := blt_ok (L := L) (E := E σ) C.K LO.c C.calm b
  have hv := blt_boot b
  cases hb : b.val with
  | builtin id =>
    rw [hb] at hc hv
    exact (pe_callB hc (glB_ok C hx) hm hv ha (blt_n1 b) (blt_n2 b) st1 st2).run pins s σ H Q I go
  | type T =>
    rw [hb] at hc hv
    exact (pe_callTy hc (glB_ok C hx) hm hv ha (blt_n1 b) (blt_n2 b) st1 st2).run pins s σ H Q I go
  | _ => cases b <;> cases hb
theorem bm_tyV {b : Bm} {x : MV} {V1 : V} {m : MH} {ρ : List Addr} {H : Hp} (S : Sim L ρ m H) (r : RelM L ρ x V1) (h : bmTy b m x = true) : tyV L.K b.ty V1 H := by
  have str : ∀ y, x = .str y → tyV L.K "str" V1 H := fun y e => by subst e; cases r; rfl
  have lst : ∀ i, x = .ref i → (match m[i]? with | some (.lst _) => true | _ => false) = true → tyV L.K "list" V1 H := fun i e h2 => by
    subst e
    split at h2
    · rename_i xs e
      obtain ⟨a, _, rfl, zs, g1, g2⟩ := S.atr e r
      exact .inl ⟨rfl, _, .inl (.inl g1)⟩
    · cases h2
  cases b <;> cases x <;> first
    | exact absurd (show false = true from h) Bool.false_ne_true
    | exact str _ rfl
    | exact lst _ rfl h
theorem bm_hfew {pos : Pos} (hst : ∀ y ∈ a :: es, notStar y = true) (hl : es.length < 20) : ((backTo pos (starEach (a :: es) X.env)).all (fun x => !x.1) && (backToKw pos (keywordEach [] X.env)).all (fun x => x.1.isSome)
      && decide ((a :: es).length + ([] : List Keyword).length + (if ([] : List Keyword).isEmpty then 0 else 1) < 30)) = true := by
  rw [star_all2 hst]
  show (true && true && decide _) = true
  rw [Bool.true_and, Bool.true_and, decide_eq_true_eq]
  simp only [List.length_cons, List.length_nil, List.isEmpty_nil, if_true]
  omega
theorem se_bm (LO : LOk L c.gl c.fns) (C : Ctx L k X W c) (b : Bm) (hb2 : bmSup b = true) {ap : Pos} (ho : PE X d (tE L E dd)) (ha : PA X (a :: es) (tA L E das)) (hst : ∀ y ∈ a :: es, notStar y = true) (hl : es.length < 20) (hb : notCall0 d = true) (hline : (ap.endLine == pos.line) = true) :
    PE X (.Call (.Attribute d b.name ap) (a :: es) [] pos) (tE L E fun s m => (dd s m).bind fun x m1 => match bmTy b m1 x with
      | true => (das s m1).bind fun xs m2 => bmM L.g b x xs m2
      | false => .bad) := by
  refine ⟨fun pins s σ H Q I h => ?_⟩
  have go : ∀ (r : V → List V → Hp → VK → Prop), r = rMt L (E σ) (bmM L.g b) → tBM X.K b.ty r (tE L E dd) (tA L E das) σ H Q := by
    rintro _ rfl
    obtain ⟨s, m, ρ, hs, S, h⟩ := h
    refine ⟨s, m, ρ, hs, S, h.bind fun v m1 ρ1 H1 V1 _ e1 S1 r1 h1 => ?_⟩
    cases e : bmTy b m1 v with
    | false => rw [e] at h1; exact False.elim h1
    | true =>
      rw [e] at h1
      refine ⟨by rw [C.K]; exact bm_tyV S1 r1 e, s, m1, ρ1, hs.mono e1, S1, PostR.bind h1 fun w m2 ρ2 H2 V2 _ e2 S2 r2 h2 => ?_⟩
      exact ⟨v, w, m2, ρ2, r1.mono e2, r2, S2, h2⟩
  have st1 := star_cons (es := es) (env := X.env) (hst a List.mem_cons_self)
  have st2 := star_all (env := X.env) (pos := pos) fun z hz => hst z (List.mem_cons_of_mem _ hz)
  have hf := bm_hfew (X := X) (pos := pos) hst hl
  cases b with
  | strip1 => exact (pe_bm PySem.F.plainAttrs_str PySem.F.slot_str_strip PySem.F.type_str_strip (bm_strip L.g) ho ha (attr_base hb) hf hline st1 st2).run pins s σ H Q I (go _ rfl)
  | split1 => exact (pe_bm PySem.F.plainAttrs_str PySem.F.slot_str_split PySem.F.type_str_split (bm_split L.g) ho ha (attr_base hb) hf hline st1 st2).run pins s σ H Q I (go _ rfl)
  | join => exact (pe_bm PySem.F.plainAttrs_str PySem.F.slot_str_join PySem.F.type_str_join (bm_join C.K LO.c) ho ha (attr_base hb) hf hline st1 st2).run pins s σ H Q I (go _ rfl)
  | append => exact (pe_bm PySem.F.plainAttrs_list PySem.F.slot_list_append PySem.F.type_list_append (bm_append L.g) ho ha (attr_base hb) hf hline st1 st2).run pins s σ H Q I (go _ rfl)
  | _ => exact absurd (show false = true from hb2) Bool.false_ne_true
end
end Mi

set_option Elab.async false
set_option maxRecDepth 100000
set_option linter.all false
set_option maxHeartbeats 4000000
set_option autoImplicit false
namespace Mi
open PySem PySem.Spec PyProof.Rows L2
theorem Rs.bind_assoc {α β γ : Type} (r : Rs α) (f : α → MH → Rs β) (g : β → MH → Rs γ) : (r.bind f).bind g = r.bind fun a m => (f a m).bind g := by cases r <;> rfl
section
variable {L : Link} {k : Nat} {X : Cx} {W : WX} {c : Ck} {E : St → XK} {pos : Pos} {a b d : Expr} {es : List Expr} {rest : List Expr}
  {da db dd : MS → MH → Rs MV} {das : MS → MH → Rs (List MV)} {ta tb : MS → MH → Rs Bool}
def Knd.nm : Knd → Str
  | .int => "int" | .bool => "bool" | .str => "str" | .list => "list" | .tuple => "tuple" | .cls _ => "int"
theorem knd_boot (j : Knd) : bootBuiltins j.nm = some (.type j.ty) := by
  cases j with
  | cls C => (show bootBuiltins Knd.int.nm = some (.type Knd.int.ty)); decide +kernel
  | _ => decide +kernel
theorem knd_n1 (j : Knd) : j.nm ≠ "__name__" := by
  cases j with
  | cls C => (show Knd.int.nm ≠ "__name__"); decide +kernel
  | _ => decide +kernel
theorem knd_n2 (j : Knd) : (j.nm == ("__debug__" : Str)) = false := by
  cases j with
  | cls C => (show (Knd.int.nm == ("__debug__" : Str)) = false); decide +kernel
  | _ => decide +kernel
theorem knd_in (j : Knd) : j.nm ∈ (["len", "str", "int", "max", "min", "all", "any", "sum", "tuple", "list", "abs", "sorted", "dict", "isinstance", "range", "enumerate", "zip", "bool"] : List Str) := by
  cases j with
  | cls C => (show Knd.int.nm ∈ (["len", "str", "int", "max", "min", "all", "any", "sum", "tuple", "list", "abs", "sorted", "dict", "isinstance", "range", "enumerate", "zip", "bool"] : List Str)); decide +kernel
  | _ => decide +kernel
theorem boot_isi : bootBuiltins "isinstance" = some (.builtin "isinstance") := by decide +kernel
theorem se_isi (LO : LOk L c.gl c.fns) (C : Ctx L k X W c) {j : Knd} (hj : ∀ C, j ≠ .cls C) {p p2 : Pos} (hx : glB c.sc "isinstance" = true) (ht : glB c.sc j.nm = true) (hs : notStar a = true) (ha : PE X a (tE L E da)) :
    PE X (.Call (.Name "isinstance" p) [a, .Name j.nm p2] [] pos) (tE L E fun s m => (da s m).bind fun x m1 => rb (isiM L.g j m1 x) m1) := by
  have hm : X.mg "isinstance" = none := by rw [C.mg]; exact LO.bl _ (by decide +kernel)
  have hm2 : X.mg j.nm = none := by rw [C.mg]; exact LO.bl _ (knd_in j)
  have hcl := isi_ok (L := L) (X := X) C.K hj
  refine PE.imp (pe_callB hcl (glB_ok C hx) hm boot_isi (pa_cons ha (pa_cons (pe_bltn (v := .ty j.ty) (glB_ok C ht) hm2 (knd_boot j) rfl (knd_n1 j) (knd_n2 j)) pa_nil) (star_cons hs)) (by decide +kernel) (by decide +kernel) (star_cons hs)) ?_
  intro σ H Q ⟨s, m, ρ, hs, S, h⟩
  refine ⟨s, m, ρ, hs, S, h.bind fun v m1 ρ1 H1 V1 _ e1 S1 r1 h1 => ?_⟩
  cases e : isiM L.g j m1 v with
  | none => rw [e] at h1; exact False.elim h1
  | some k => rw [e] at h1; exact ⟨v, V1, m1, ρ1, k, rfl, r1, S1, e, PostR.ok h1 S1 rfl⟩

/-! ### walks -/
theorem boot_range : bootBuiltins "range" = some (.type "range") := by decide +kernel
theorem sw_wl (LO : LOk L c.gl c.fns) (C : Ctx L k X W c) {tg : Expr} (ha : PE X a (tE L E da)) :
    PI X tg a (tW L E fun s m => (da s m).bind fun x m1 => match gl m1 x with
      | some xs => .ok (.lst x xs) m1
      | none => match gt L.g m1 x with
        | some xs => .ok (.tup x xs) m1
        | none => .bad) := by
  refine ⟨fun pins s σ H R I ⟨s', m, ρ, hs, S, h⟩ => ?_⟩
  have lst : (∀ v m1, da s' m = .ok v m1 → ∃ xs, gl m1 v = some xs) → wpAny (model X.prog X.w) X.A (eval a X.env) (fun v s1 => wpAny (model X.prog X.w) X.A (pyIter v) (PIE X pins σ tg R) X.xe s1) X.xe s := fun hk => by
    refine (pi_list (tg := tg) ha).run pins s σ H R I ⟨s', m, ρ, hs, S, h.bind fun v m1 ρ1 H1 V1 eq e1 S1 r1 h1 => ?_⟩
    obtain ⟨xs, e⟩ := hk v m1 eq
    rw [e] at h1
    obtain ⟨p, ys, rfl, g1, g2⟩ := gl_sq S1 r1 e
    rw [← C.K] at g1
    exact ⟨p, rfl, ⟨ys, g1⟩, PostR.ok h1 S1 (by rw [C.K]; exact wk_lst (x := .non) r1)⟩
  cases hd : da s' m with
  | bad => dsimp only at h; rw [hd] at h; exact False.elim h
  | exc cc pp m1 => exact lst fun v m1 e => by rw [hd] at e; cases e
  | ok v m1 =>
    cases e : gl m1 v with
    | some xs => exact lst fun v' m1' e' => by rw [hd] at e'; cases e'; exact ⟨xs, e⟩
    | none =>
      refine (pi_tup (tg := tg) ha).run pins s σ H R I ⟨s', m, ρ, hs, S, h.bind fun v' m1' ρ1 H1 V1 eq e1 S1 r1 h1 => ?_⟩
      rw [hd] at eq
      cases eq
      rw [e] at h1
      cases e2 : gt L.g m1 v with
      | none => rw [e2] at h1; exact False.elim h1
      | some xs =>
        rw [e2] at h1
        obtain ⟨p, ys, rfl, g1, g2⟩ := gt_sq LO.c S1 r1 e2
        rw [← C.K] at g1
        exact ⟨p, rfl, ⟨ys, g1⟩, PostR.ok h1 S1 (by rw [C.K]; exact wk_tup (x := .non) LO.c r1)⟩
theorem sw_wr1 (LO : LOk L c.gl c.fns) (C : Ctx L k X W c) {tg : Expr} {p : Pos} (hx : glB c.sc "range" = true) (hs : notStar a = true) (ha : PE X a (tE L E da)) :
    PI X tg (.Call (.Name "range" p) [a] [] pos) (tW L E fun s m => (da s m).bind fun x m1 => match x with
      | .int j => if -(2 ^ 62) ≤ j ∧ j < 2 ^ 62 then .ok (.rng 0 j.toNat) m1 else .bad
      | _ => .bad) := by
  have hm : X.mg "range" = none := by rw [C.mg]; exact LO.bl _ (by decide +kernel)
  refine PI.imp (pi_range1 (glB_ok C hx) hm (pa_cons ha pa_nil (star_cons hs)) (star_cons hs)) fun σ H R ⟨s, m, ρ, hs, S, h⟩ => ⟨s, m, ρ, hs, S, h.bind fun v m1 ρ1 H1 V1 _ e1 S1 r1 h1 => ?_⟩
  cases v with
  | int j =>
    dsimp only at h1
    split at h1
    · rename_i hz
      exact ⟨j, by rw [show V1 = .int j from r1], hz.1, hz.2, PostR.ok h1 S1 wk_rng⟩
    · exact False.elim h1
  | _ => exact False.elim h1
theorem sw_wr2 (LO : LOk L c.gl c.fns) (C : Ctx L k X W c) {tg : Expr} {p : Pos} (hx : glB c.sc "range" = true) (hs : notStar a = true) (hs2 : notStar b = true) (ha : PE X a (tE L E da)) (hb : PE X b (tE L E db)) :
    PI X tg (.Call (.Name "range" p) [a, b] [] pos) (tW L E fun s m => (da s m).bind fun x m1 => (db s m1).bind fun y m2 => match x, y with
      | .int i, .int j => if -(2 ^ 62) ≤ i ∧ i < 2 ^ 62 ∧ -(2 ^ 62) ≤ j ∧ j < 2 ^ 62 then .ok (.rng i (j - i).toNat) m2 else .bad
      | _, _ => .bad) := by
  have hm : X.mg "range" = none := by rw [C.mg]; exact LO.bl _ (by decide +kernel)
  refine PI.imp (pi_range2 (glB_ok C hx) hm (pa_cons ha (pa_cons hb pa_nil (star_cons hs2)) (star_cons hs)) (by rw [star_cons hs, star_cons hs2]; rfl) (by rw [star_cons hs2]; rfl)) fun σ H R ⟨s, m, ρ, hs, S, h⟩ => ⟨s, m, ρ, hs, S, h.bind fun v m1 ρ1 H1 V1 _ e1 S1 r1 h1 => ⟨s, m1, ρ1, hs.mono e1, S1, h1.bind fun w m2 ρ2 H2 V2 _ e2 S2 r2 h2 => ?_⟩⟩
  cases v with
  | int i =>
    cases w with
    | int j =>
      dsimp only at h2
      split at h2
      · rename_i hz
        exact ⟨i, j, by rw [show V1 = .int i from r1, show V2 = .int j from r2], hz, PostR.ok h2 S2 wk_rng⟩
      · exact False.elim h2
    | _ => exact False.elim h2
  | _ => exact False.elim h2
theorem sw_wen (LO : LOk L c.gl c.fns) (C : Ctx L k X W c) {ts : List Expr} {kk : Nat} {tp p : Pos} (hx : glB c.sc "enumerate" = true) (hs : notStar a = true) (ha : PE X a (tE L E da)) :
    PI X (.Tuple ts kk tp) (.Call (.Name "enumerate" p) [a] [] pos) (tW L E fun s m => (da s m).bind fun x m1 => match gl m1 x with
      | some xs => .ok (.enm x xs) m1
      | none => .bad) := by
  have hm : X.mg "enumerate" = none := by rw [C.mg]; exact LO.bl _ (by decide +kernel)
  refine PI.imp (pi_enum (glB_ok C hx) hm (pa_cons ha pa_nil (star_cons hs)) (star_cons hs)) fun σ H R ⟨s, m, ρ, hs, S, h⟩ => ⟨s, m, ρ, hs, S, h.bind fun v m1 ρ1 H1 V1 _ e1 S1 r1 h1 => ?_⟩
  cases e : gl m1 v with
  | none => rw [e] at h1; exact False.elim h1
  | some xs =>
    rw [e] at h1
    obtain ⟨p, ys, rfl, g1, g2⟩ := gl_sq S1 r1 e
    rw [← C.K] at g1
    exact ⟨p, ys, rfl, g1, PostR.ok h1 S1 (by rw [C.K]; exact wk_enm (x := .non) r1)⟩
theorem sw_wzip (LO : LOk L c.gl c.fns) (C : Ctx L k X W c) {ts : List Expr} {kk : Nat} {tp p : Pos} (hx : glB c.sc "zip" = true) (hs : notStar a = true) (hs2 : notStar b = true) (ha : PE X a (tE L E da)) (hb : PE X b (tE L E db)) :
    PI X (.Tuple ts kk tp) (.Call (.Name "zip" p) [a, b] [] pos) (tW L E fun s m => (da s m).bind fun x m1 => (db s m1).bind fun y m2 => match gl m2 x, gl m2 y with
      | some xs, some ys => if xs.length = ys.length then .ok (.zip x y xs ys) m2 else .bad
      | _, _ => .bad) := by
  have hm : X.mg "zip" = none := by rw [C.mg]; exact LO.bl _ (by decide +kernel)
  refine PI.imp (pi_zip (glB_ok C hx) hm (pa_cons ha (pa_cons hb pa_nil (star_cons hs2)) (star_cons hs)) (by rw [star_cons hs]) (star_all fun z hz => by rw [List.mem_singleton.mp hz]; exact hs2)) fun σ H R ⟨s, m, ρ, hs, S, h⟩ => ⟨s, m, ρ, hs, S, h.bind fun v m1 ρ1 H1 V1 _ e1 S1 r1 h1 => ⟨s, m1, ρ1, hs.mono e1, S1, h1.bind fun w m2 ρ2 H2 V2 _ e2 S2 r2 h2 => ?_⟩⟩
  cases e : gl m2 v with
  | none => rw [e] at h2; exact False.elim h2
  | some xs =>
    cases e' : gl m2 w with
    | none => rw [e, e'] at h2; exact False.elim h2
    | some ys =>
      rw [e, e'] at h2
      obtain ⟨p, zs, rfl, g1, g2⟩ := gl_sq S2 (r1.mono e2) e
      obtain ⟨q, ws, rfl, g3, g4⟩ := gl_sq S2 r2 e'
      rw [← C.K] at g1 g3
      dsimp only at h2
      split at h2
      · exact ⟨p, q, zs, ws, rfl, g1, g3, PostR.ok h2 S2 (by rw [C.K]; exact wk_zip (r1.mono e2) r2)⟩
      · exact False.elim h2

/-! ### comprehensions -/
abbrev W0 : WX := fun _ _ _ _ => False
theorem lc_imp {tt : TT} {te : TE} {dw : MS → MH → Rs Wk} {dt : MS → MH → Rs Bool} {de : MS → MH → Rs MV} {vs : List Nat} {tup : Bool} {σ : St} {H : Hp} {Q : VK}
    (htt : tt = tT L (WE W0) dt) (hte : te = tE L (WE W0) de)
    (h : tE L E (fun s m => (dw s m).bind fun wk m1 => lcL (fun m => wk.still L.g m) (fun x s m => bindT L.g vs tup x s m) dt de m1.length (wipeM s vs) wk.items (m1 ++ [.lst []])) σ H Q) :
    tLc (tW L E dw) (gM L vs tup) tt te vs σ H Q := by
  subst htt hte
  obtain ⟨s, m, ρ, hs, S, h⟩ := h
  refine ⟨s, m, ρ, hs, S, h.bind fun wk m1 ρ1 H1 J _ e1 S1 wok h1 => ?_⟩
  intro D hD
  have S2 : Sim L (ρ1 ++ [D]) (m1 ++ [.lst []]) (upd H1 D (.lst [])) := S1.new hD rfl ⟨[], upd_same, .nil⟩
  have hDat : (ρ1 ++ [D])[m1.length]? = some D := by
    rw [← S1.len, List.getElem?_append_right (Nat.le_refl _), Nat.sub_self]
    rfl
  refine ⟨fun i n H => ∃ m ρ', (ρ1 ++ [D]) <+: ρ' ∧ Sim L ρ' m H ∧ i ≤ wk.items.length ∧ n = wk.items.length - i ∧
    PostV L (E σ) ρ' (lcL (fun m => wk.still L.g m) (fun x s m => bindT L.g vs tup x s m) dt de m1.length (wipeM s vs) (wk.items.drop i) m) Q, ⟨_, _, _, List.prefix_refl _, S2, Nat.zero_le _, rfl, h1.mono (List.prefix_append _ _)⟩, ?_⟩
  rintro i n H2 ⟨m2, ρ2, e2, S3, hi, rfl, h2⟩
  have e12 : ρ1 <+: ρ2 := (List.prefix_append _ _).trans e2
  cases hd : wk.items.drop i with
  | nil =>
    rw [hd] at h2
    unfold lcL at h2
    split at h2
    · rename_i st
      have hl : i = wk.items.length := by
        have := congrArg List.length hd
        rw [List.length_drop, List.length_nil] at this
        omega
      subst hl
      exact .inl ⟨wok.stop ρ2 m2 H2 e12 S3 st, PostR.ok h2 S3 ⟨D, pre_get e2 hDat, rfl⟩⟩
    · exact False.elim h2
  | cons x r =>
    have hx : wk.items[i]? = some x := by
      have := congrArg (fun l => l[0]?) hd
      simpa using this
    have hr : wk.items.drop (i + 1) = r := by
      rw [← List.tail_drop, hd]
      rfl
    have hil : i < wk.items.length := (List.getElem?_eq_some_iff.mp hx).1
    rw [hd] at h2
    unfold lcL at h2
    split at h2
    · rename_i st
      obtain ⟨go, yl⟩ := wok.go i x ρ2 m2 H2 e12 S3 st hx
      refine .inr ⟨go, fun H' => ∃ m ρ', (ρ1 ++ [D]) <+: ρ' ∧ Sim L ρ' m H' ∧ PostV L (E σ) ρ' (lcL (fun m => wk.still L.g m) (fun x s m => bindT L.g vs tup x s m) dt de m1.length (wipeM s vs) (wk.items.drop (i + 1)) m) Q, ?_, ?_⟩
      · rintro H' ⟨m, ρ', a1, a2, a3⟩
        exact ⟨wk.items.length - (i + 1), by omega, m, ρ', a1, a2, hil, rfl, a3⟩
      · intro v H' hy
        have ir := yl v H' hy
        cases hb : bindT L.g vs tup x (wipeM s vs) m2 with
        | none => rw [hb] at h2; exact False.elim h2
        | some s1 =>
          rw [hb] at h2
          dsimp only at h2
          refine ⟨wipeM s vs, m2, ρ2, x, s1, H2, simS_wipe (hs.mono (e1.trans e12)) vs, S3, ir, hb, fun σ' H'' S4 hs4 sb => ⟨sb.wipe, s1, m2, ρ2, hs4, S4, ?_⟩⟩
          cases ht : dt s1 m2 with
          | bad => rw [ht] at h2; exact False.elim h2
          | exc cc pp mm => rw [ht] at h2; exact False.elim h2
          | ok kb m3 =>
            rw [ht] at h2
            intro ρ3 H3 b e3 S5 eb
            cases (show kb = b from eb)
            cases kb with
            | false =>
              refine iteF ⟨m3, ρ3, e2.trans e3, S5, ?_⟩
              rw [hr]
              exact PostR.mono h2 e3
            | true =>
              dsimp only at h2
              refine iteT ⟨s1, m3, ρ3, hs4.mono e3, S5, ?_⟩
              cases he : de s1 m3 with
              | bad => rw [he] at h2; exact False.elim h2
              | exc cc pp mm => rw [he] at h2; exact False.elim h2
              | ok y m4 =>
                rw [he] at h2
                dsimp only at h2
                intro ρ4 H4 Y e4 S6 ry
                split at h2
                · rename_i acc hacc
                  split at h2
                  · rename_i hz
                    obtain ⟨q1, q2, q3, q4⟩ := S6.at hacc
                    have q5 : q1 = D := by
                      have := pre_get (e3.trans e4) (pre_get e2 hDat)
                      rw [q2] at this
                      exact Option.some.inj this
                    subst q5
                    refine ⟨q3, q4.1, by rw [← relL_len q4.2]; exact hz, _, ρ4, e2.trans (e3.trans e4), S6.set (o := .lst (acc ++ [y])) q2 hacc rfl rfl ⟨_, upd_same, relL_app q4.2 (.cons ry .nil)⟩, ?_⟩
                    rw [hr]
                    exact PostR.mono h2 (e3.trans e4)
                  · exact False.elim h2
                · exact False.elim h2
    · exact False.elim h2
theorem PTs.imp {X : Cx} {ifs : List Expr} {t t' : TT} (h : PTs X ifs t) (k : ∀ σ H Q, t' σ H Q → t σ H Q) : PTs X ifs t' := ⟨fun pins s σ H Q I q => h.run pins s σ H Q I (k σ H Q q)⟩
end
end Mi

set_option Elab.async false
set_option maxRecDepth 100000
set_option linter.all false
set_option maxHeartbeats 4000000
set_option autoImplicit false
namespace Mi
open PySem PySem.Spec PyProof.Rows L2
theorem pe_bad {L : Link} {E : St → XK} {X : Cx} {e : Expr} : PE X e (tE L E fun _ _ => .bad) := ⟨fun _ _ _ _ _ _ ⟨_, _, _, _, _, h⟩ => False.elim h⟩
theorem pt_bad {L : Link} {E : St → XK} {X : Cx} {e : Expr} : PT X e (tT L E fun _ _ => .bad) := ⟨fun _ _ _ _ _ _ ⟨_, _, _, _, _, h⟩ => False.elim h⟩
theorem pw_bad {L : Link} {E : St → XK} {X : Cx} {e : Expr} : PW X e (tT L E fun _ _ => .bad) := ⟨fun _ _ _ _ _ _ _ ⟨_, _, _, _, _, h⟩ => False.elim h⟩
theorem pi_bad {L : Link} {E : St → XK} {X : Cx} {tg e : Expr} : PI X tg e (tW L E fun _ _ => .bad) := ⟨fun _ _ _ _ _ _ ⟨_, _, _, _, _, h⟩ => False.elim h⟩
theorem tw_bad {L : Link} {E : St → XK} {X : Cx} {e : Expr} : TWk X e (tT L E fun _ _ => .bad) := TWk.pw pw_bad
theorem TWk.of {X : Cx} {e : Expr} {t : TT} (h : PT X e t) (hn : ∀ op xs pos, e ≠ .BoolOp op xs pos) : TWk X e t := ⟨h, fun op xs pos q => absurd q (hn op xs pos)⟩
theorem Ctx.blk {L : Link} {k : Nat} {X : Cx} {W : WX} {c : Ck} (C : Ctx L k X W c) (s : Shared) (H : Hp) (scope : Scope) (hk : scope.kind = .function) (Ca : Addr) (cl : List (Str × Addr)) (fp : List Addr) :
    Ctx L k (X.blk s H scope (compEnvC scope cl Ca X.env) fp) W0 { c with sc := relS scope c.sc, top := false } :=
  ⟨C.prog, C.w, C.K, C.mg, C.base, C.N, C.nd, by rw [← C.sc]; rfl, hk, C.calm, C.room, takes0, fun h => by cases h⟩
theorem chkTg_tup {c : Ck} {vs : List Nat} {e : Expr} (h : chkTg c vs true e = true) : ∃ ts kk tp, e = .Tuple ts kk tp := by
  cases e <;> first
    | exact absurd (show false = true from h) Bool.false_ne_true
    | exact ⟨_, _, _, rfl⟩
theorem chk_star {c : Ck} {ir : IE} {e : Expr} (h : chkE c ir e = true) : notStar e = true := by
  cases e with
  | Starred v p => cases ir <;> exact absurd (show false = true from h) Bool.false_ne_true
  | _ => rfl
theorem chk_no {c : Ck} {ir : IE} {e : Expr} (h : chkE c ir e = true) (hn : ∀ e, chkE c ir e = false) : False := by
  rw [hn e] at h
  cases h
theorem st_eq {L : Link} {E : St → XK} {X : Cx} {e : Expr} {d d' : MS → MH → Rs Bool} (h : PT X e (tT L E d)) (q : ∀ s m, d' s m = d s m) : PT X e (tT L E d') := by
  rw [show d' = d from funext fun s => funext fun m => q s m]
  exact h
section
variable {L : Link} {k : Nat}
/-- what a comprehension needs -/
theorem lc_parts {X : Cx} {W : WX} {c : Ck} (LO : LOk L c.gl c.fns) (C : Ctx L k X W c) {vs : List Nat} {tup : Bool} {tg : Expr} {scope : Scope} (hk : scope.kind = .function) (h : chkTg { c with sc := relS scope c.sc, top := false } vs tup tg = true) :
    ∀ (s : Shared) (H : Hp) (Ca : Addr) (cl : List (Str × Addr)) (fp : List Addr), PG (X.blk s H scope (compEnvC scope cl Ca X.env) fp) tg (gM L vs tup) :=
  fun s H Ca cl fp => tg_ok LO.c (C.blk s H scope hk Ca cl fp) h
theorem lc_pack (FO : FOk L k) {elt : IE} {vs : List Nat} {tup : Bool} {it test : IE} {X : Cx} {W : WX} {c : Ck} (LO : LOk L c.gl c.fns) (C : Ctx L k X W c) {x tg iter : Expr} {ifs : List Expr} {scope : Scope} {p : Pos}
    (hE : ∀ {X : Cx} {W : WX} {c : Ck}, LOk L c.gl c.fns → Ctx L k X W c → ∀ e, chkE c elt e = true → PE X e (tE L (WE W) (dE L.g (callD L.g k) (fmOf L.g k) elt)))
    (hT : ∀ {X : Cx} {W : WX} {c : Ck}, LOk L c.gl c.fns → Ctx L k X W c → ∀ e, chkE c test e = true → TWk X e (tT L (WE W) (dT L.g (callD L.g k) (fmOf L.g k) test)))
    (hW : ∀ {X : Cx} {W : WX} {c : Ck}, LOk L c.gl c.fns → Ctx L k X W c → ∀ tg e, (wTup it = true → ∃ ts kk tp, tg = .Tuple ts kk tp) → chkW c it e = true → PI X tg e (tW L (WE W) (dW L.g (callD L.g k) (fmOf L.g k) it)))
    (h : chkE c (.lc elt vs tup it test) (.ListComp x [⟨tg, iter, ifs, 0⟩] scope p) = true) : ∃ (wi : TI) (tt : TT) (te : TE) (own : List (Str × Nat)), PI X tg iter wi ∧ BlkOk X.N X.env.scope scope own ∧
      (∀ (s : Shared) (H : Hp) (Ca : Addr) (cl : List (Str × Addr)) (fp : List Addr), PG (X.blk s H scope (compEnvC scope cl Ca X.env) fp) tg (gM L vs tup)) ∧
      (∀ (s : Shared) (H : Hp) (Ca : Addr) (cl : List (Str × Addr)) (fp : List Addr), PTs (X.blk s H scope (compEnvC scope cl Ca X.env) fp) ifs tt) ∧
      (∀ (s : Shared) (H : Hp) (Ca : Addr) (cl : List (Str × Addr)) (fp : List Addr), PE (X.blk s H scope (compEnvC scope cl Ca X.env) fp) x te) ∧ (∀ z, foldedSetIterable iter X.env z = pure z) ∧
      ∀ σ H Q, tE L (WE W) (dE L.g (callD L.g k) (fmOf L.g k) (.lc elt vs tup it test)) σ H Q → tLc wi (gM L vs tup) tt te (own.map (·.2)) σ H Q := by
    unfold chkE at h
    simp only [Bool.and_eq_true, decide_eq_true_eq] at h
    obtain ⟨⟨⟨⟨⟨⟨⟨h1, h2⟩, h3⟩, h4⟩, h5⟩, h6⟩, h7⟩, h8⟩ := h
    have hk : scope.kind = .function := (blkOk_by h5).kind
    refine ⟨_, tT L (WE W0) (dT L.g (callD L.g k) (fmOf L.g k) test), _, namesAt c.N vs, hW LO C tg iter (fun hw => ?_) h2, by rw [C.N, C.sc]; exact blkOk_by h5, lc_parts LO C hk h1, fun s H Ca cl fp => ?_,
      fun s H Ca cl fp => hE (c := { c with sc := relS scope c.sc, top := false }) LO (C.blk s H scope hk Ca cl fp) x h8, foldset_ok h4, fun σ H Q hh => by rw [h6]; exact lc_imp rfl rfl hh⟩
    · cases tup with
      | false => rw [hw] at h3; cases h3
      | true => exact chkTg_tup h1
    · rcases ifs with _ | ⟨t, _ | ⟨t2, tr⟩⟩
      · cases test <;> first
          | exact absurd (show false = true from h7) Bool.false_ne_true
          | skip
        exact PTs.imp pts_nil fun σ H Q ⟨s, m, ρ, hs, S, h⟩ => PostR.ok h S rfl
      · dsimp only at h7
        rw [Bool.and_eq_true] at h7
        exact pts_one (hT (c := { c with sc := relS scope c.sc, top := false }) LO (C.blk s H scope hk Ca cl fp) t h7.2).w.1
      · exact absurd (show false = true from h7) Bool.false_ne_true
mutual
theorem soundE (FO : FOk L k) : ∀ (ir : IE) {X : Cx} {W : WX} {c : Ck} (LO : LOk L c.gl c.fns) (C : Ctx L k X W c) (e : Expr), chkE c ir e = true → PE X e (tE L (WE W) (dE L.g (callD L.g k) (fmOf L.g k) ir))
  | .var i, X, W, c, LO, C, e, h => by
    cases e <;> first
      | exact absurd (show false = true from h) Bool.false_ne_true
      | skip
    simp only [chkE, Bool.and_eq_true, decide_eq_true_eq] at h
    exact se_var C h.1.1 h.1.2 h.2
  | .con v, X, W, c, LO, C, e, h => by
    cases e <;> first
      | exact absurd (show false = true from h) Bool.false_ne_true
      | skip
    simp only [chkE, decide_eq_true_eq] at h
    exact se_con h
  | .glo v, X, W, c, LO, C, e, h => by
    cases e <;> first
      | exact absurd (show false = true from h) Bool.false_ne_true
      | skip
    simp only [chkE, Bool.and_eq_true, decide_eq_true_eq] at h
    exact se_glo LO C h.1.1 h.1.2 h.2
  | .bin op a b, X, W, c, LO, C, e, h => by
    cases e <;> first
      | exact absurd (show false = true from h) Bool.false_ne_true
      | skip
    simp only [chkE, Bool.and_eq_true, decide_eq_true_eq] at h
    obtain ⟨⟨rfl, h1⟩, h2⟩ := h
    exact se_bin _ (soundE FO a LO C _ h1) (soundE FO b LO C _ h2)
  | .neg a, X, W, c, LO, C, e, h => by
    cases e <;> first
      | exact absurd (show false = true from h) Bool.false_ne_true
      | skip
    rename_i op x p
    cases op <;> first
      | exact absurd (show false = true from h) Bool.false_ne_true
      | exact se_neg (soundE FO a LO C _ h)
  | .nt a, X, W, c, LO, C, e, h => by
    cases e <;> first
      | exact absurd (show false = true from h) Bool.false_ne_true
      | skip
    rename_i op x p
    cases op <;> first
      | exact absurd (show false = true from h) Bool.false_ne_true
      | exact se_nt LO C (soundE FO a LO C _ h)
  | .cmp op a b, X, W, c, LO, C, e, h => by
    cases e <;> first
      | exact absurd (show false = true from h) Bool.false_ne_true
      | skip
    rename_i l ops rs p
    rcases ops with _ | ⟨o, _ | ⟨o2, ot⟩⟩ <;> rcases rs with _ | ⟨r, _ | ⟨r2, rt⟩⟩ <;> first
      | exact absurd (show false = true from h) Bool.false_ne_true
      | skip
    simp only [chkE, Bool.and_eq_true, decide_eq_true_eq] at h
    obtain ⟨⟨⟨rfl, h1⟩, h2⟩, h3⟩ := h
    exact se_cmp LO C _ (soundE FO a LO C _ h2) (soundE FO b LO C _ h3) h1
  | .isn ps a, X, W, c, LO, C, e, h => by
    cases e <;> first
      | exact absurd (show false = true from h) Bool.false_ne_true
      | skip
    rename_i l ops rs p
    rcases ops with _ | ⟨o, _ | ⟨o2, ot⟩⟩ <;> rcases rs with _ | ⟨r, _ | ⟨r2, rt⟩⟩ <;> first
      | exact absurd (show false = true from h) Bool.false_ne_true
      | skip
    all_goals
      cases r <;> first
        | exact absurd (show false = true from h) Bool.false_ne_true
        | skip
    all_goals
      rename_i kc j p2
      cases kc <;> first
        | exact absurd (show false = true from h) Bool.false_ne_true
        | skip
    simp only [chkE, Bool.and_eq_true, decide_eq_true_eq] at h
    exact se_isn ps h.1 (soundE FO a LO C _ h.2)
  | .chn op op' a b d, X, W, c, LO, C, e, h => by
    cases e <;> first
      | exact absurd (show false = true from h) Bool.false_ne_true
      | skip
    rename_i l ops rs p
    rcases ops with _ | ⟨o, _ | ⟨o2, _ | ⟨o3, ot⟩⟩⟩ <;> rcases rs with _ | ⟨r, _ | ⟨r2, _ | ⟨r3, rt⟩⟩⟩ <;> first
      | exact absurd (show false = true from h) Bool.false_ne_true
      | skip
    simp only [chkE, Bool.and_eq_true, decide_eq_true_eq] at h
    obtain ⟨⟨⟨⟨⟨rfl, rfl⟩, h1⟩, h2⟩, h3⟩, h4⟩ := h
    exact se_chn LO C _ _ (soundE FO a LO C _ h2) (soundE FO b LO C _ h3) (soundE FO d LO C _ h4) h1
  | .an a b, X, W, c, LO, C, e, h => by
    cases e <;> first
      | exact absurd (show false = true from h) Bool.false_ne_true
      | skip
    rename_i op xs p
    cases op <;> rcases xs with _ | ⟨x, _ | ⟨y, xt⟩⟩ <;> first
      | exact absurd (show false = true from h) Bool.false_ne_true
      | skip
    simp only [chkE, Bool.and_eq_true] at h
    exact se_an LO C (soundE FO a LO C _ h.1) (soundE FO b LO C _ h.2)
  | .orr a b, X, W, c, LO, C, e, h => by
    cases e <;> first
      | exact absurd (show false = true from h) Bool.false_ne_true
      | skip
    rename_i op xs p
    cases op <;> rcases xs with _ | ⟨x, _ | ⟨y, xt⟩⟩ <;> first
      | exact absurd (show false = true from h) Bool.false_ne_true
      | skip
    simp only [chkE, Bool.and_eq_true] at h
    exact se_orr LO C (soundE FO a LO C _ h.1) (soundE FO b LO C _ h.2)
  | .one a, X, W, c, LO, C, e, h => by
    cases e <;> first
      | exact absurd (show false = true from h) Bool.false_ne_true
      | skip
    rename_i op xs p
    rcases xs with _ | ⟨x, _ | ⟨y, xt⟩⟩ <;> first
      | exact absurd (show false = true from h) Bool.false_ne_true
      | skip
    exact pe_one (soundE FO a LO C _ h)
  | .ife t a b, X, W, c, LO, C, e, h => by
    cases e <;> first
      | exact absurd (show false = true from h) Bool.false_ne_true
      | skip
    simp only [chkE, Bool.and_eq_true] at h
    exact se_ife (soundT FO t LO C _ h.1.1).w.1 (soundE FO a LO C _ h.1.2) (soundE FO b LO C _ h.2)
  | .lst es, X, W, c, LO, C, e, h => by
    cases e <;> first
      | exact absurd (show false = true from h) Bool.false_ne_true
      | skip
    exact se_lst (soundA FO es LO C _ h)
  | .tup es, X, W, c, LO, C, e, h => by
    cases e <;> first
      | exact absurd (show false = true from h) Bool.false_ne_true
      | skip
    exact se_tup (soundA FO es LO C _ h)
  | .ix a i, X, W, c, LO, C, e, h => by
    cases e <;> first
      | exact absurd (show false = true from h) Bool.false_ne_true
      | skip
    simp only [chkE, Bool.and_eq_true] at h
    exact se_ix LO C (soundE FO a LO C _ h.1.2) (soundE FO i LO C _ h.2) h.1.1
  | .sl a lo hi, X, W, c, LO, C, e, h => by
    cases e <;> first
      | exact absurd (show false = true from h) Bool.false_ne_true
      | skip
    rename_i x y p
    cases y <;> first
      | exact absurd (show false = true from h) Bool.false_ne_true
      | skip
    rename_i l u st p2
    cases st <;> first
      | exact absurd (show false = true from h) Bool.false_ne_true
      | skip
    simp only [chkE, Bool.and_eq_true] at h
    exact se_sl C (soundE FO a LO C _ h.1.1) (soundP FO lo LO C _ h.1.2) (soundP FO hi LO C _ h.2)
  | .nopart, X, W, c, LO, C, e, h => by
    cases e <;> first
      | exact absurd (show false = true from h) Bool.false_ne_true
      | skip

  | .call f es, X, W, c, LO, C, e, h => by
    cases e <;> first
      | exact absurd (show false = true from h) Bool.false_ne_true
      | skip
    rename_i fn as kw p
    cases fn <;> first
      | exact absurd (show false = true from h) Bool.false_ne_true
      | skip
    cases kw <;> first
      | exact absurd (show false = true from h) Bool.false_ne_true
      | skip
    simp only [chkE, Bool.and_eq_true, decide_eq_true_eq] at h
    obtain ⟨⟨⟨h1, h2⟩, h3⟩, h4⟩ := h
    have ha := soundA FO es LO C _ h4
    cases as with
    | cons y ys => exact se_call LO FO C h1 h2 h3 ha (chkA_star h4)
    | nil =>
      cases es with
      | nil => exact se_call0 LO FO C h1 h2 h3
      | cons a b => exact absurd (show false = true from h4) Bool.false_ne_true
  | .blt b es, X, W, c, LO, C, e, h => by
    cases e <;> first
      | exact absurd (show false = true from h) Bool.false_ne_true
      | skip
    rename_i fn as kw p
    cases fn <;> first
      | exact absurd (show false = true from h) Bool.false_ne_true
      | skip
    cases as <;> cases kw <;> first
      | exact absurd (show false = true from h) Bool.false_ne_true
      | skip
    simp only [chkE, Bool.and_eq_true, decide_eq_true_eq] at h
    obtain ⟨⟨rfl, h1⟩, h2⟩ := h
    exact se_blt LO C b h1 (soundA FO es LO C _ h2) (chkA_star h2)
  | .bm o b es, X, W, c, LO, C, e, h => by
    cases e <;> first
      | exact absurd (show false = true from h) Bool.false_ne_true
      | skip
    rename_i fn as kw p
    cases fn <;> first
      | exact absurd (show false = true from h) Bool.false_ne_true
      | skip
    cases as <;> cases kw <;> first
      | exact absurd (show false = true from h) Bool.false_ne_true
      | skip
    simp only [chkE, Bool.and_eq_true, decide_eq_true_eq] at h
    obtain ⟨⟨⟨⟨⟨⟨rfl, h1⟩, h2⟩, h3⟩, h4⟩, h5⟩, h6⟩ := h
    exact se_bm LO C b h1 (soundE FO o LO C _ h5) (soundA FO es LO C _ h6) (chkA_star h6) h4 h3 h2
  | .isi a j, X, W, c, LO, C, e, h => by
    cases e <;> first
      | exact absurd (show false = true from h) Bool.false_ne_true
      | skip
    rename_i fn as kw p
    cases fn <;> first
      | exact absurd (show false = true from h) Bool.false_ne_true
      | skip
    rcases as with _ | ⟨x, _ | ⟨y, _ | ⟨z, zt⟩⟩⟩ <;> cases kw <;> first
      | exact absurd (show false = true from h) Bool.false_ne_true
      | skip
    all_goals try (cases y <;> first
      | exact absurd (show false = true from h) Bool.false_ne_true
      | skip)
    all_goals try exact absurd (show false = true from h) Bool.false_ne_true
    simp only [chkE, Bool.and_eq_true, decide_eq_true_eq] at h
    obtain ⟨⟨⟨⟨⟨rfl, h1⟩, h2⟩, h3⟩, h4⟩, h5⟩ := h
    have ha := soundE FO a LO C _ h5
    cases j with
    | int => obtain rfl := of_decide_eq_true h4; exact se_isi LO C (j := .int) (fun _ z => nomatch z) h1 h2 h3 ha
    | bool => obtain rfl := of_decide_eq_true h4; exact se_isi LO C (j := .bool) (fun _ z => nomatch z) h1 h2 h3 ha
    | str => obtain rfl := of_decide_eq_true h4; exact se_isi LO C (j := .str) (fun _ z => nomatch z) h1 h2 h3 ha
    | list => obtain rfl := of_decide_eq_true h4; exact se_isi LO C (j := .list) (fun _ z => nomatch z) h1 h2 h3 ha
    | tuple => obtain rfl := of_decide_eq_true h4; exact se_isi LO C (j := .tuple) (fun _ z => nomatch z) h1 h2 h3 ha
    | cls q => exact absurd h4 Bool.false_ne_true
  | .lc elt vs tup it test, X, W, c, LO, C, e, h => by
    cases e <;> first
      | exact absurd (show false = true from h) Bool.false_ne_true
      | skip
    rename_i x gs scope p
    rcases gs with _ | ⟨⟨tg, iter, ifs, (_ | n) | n⟩, _ | ⟨g2, gt⟩⟩ <;> first
      | exact absurd (show false = true from h) Bool.false_ne_true
      | skip
    obtain ⟨wi, tt, te, own, q1, q2, q3, q4, q5, q6, q7⟩ := lc_pack FO LO C (fun LO C => soundE FO elt LO C) (fun LO C => soundT FO test LO C) (fun LO C => soundW FO it LO C) h
    exact PE.imp (pe_lc C.calm (by rw [C.N]; exact C.nd) q1 q2 q3 q4 q5 q6) q7
  | .make C es, X, W, c, LO, C', e, h => absurd (chk_no h (by intro e; cases e <;> rfl)) id
  | .meth o n es, X, W, c, LO, C, e, h => absurd (chk_no h (by intro e; cases e <;> rfl)) id
  | .fld o n, X, W, c, LO, C, e, h => absurd (chk_no h (by intro e; cases e <;> rfl)) id
  | .dnew t, X, W, c, LO, C, e, h => absurd (chk_no h (by intro e; cases e <;> rfl)) id
  | .ddisp t, X, W, c, LO, C, e, h => absurd (chk_no h (by intro e; cases e <;> rfl)) id
  | .dget o k' d, X, W, c, LO, C, e, h => absurd (chk_no h (by intro e; cases e <;> rfl)) id
  | .dpop o k' d, X, W, c, LO, C, e, h => absurd (chk_no h (by intro e; cases e <;> rfl)) id
  | .wl e', X, W, c, LO, C, e, h => absurd (chk_no h (by intro e; cases e <;> rfl)) id
  | .wr1 e', X, W, c, LO, C, e, h => absurd (chk_no h (by intro e; cases e <;> rfl)) id
  | .wr2 a b, X, W, c, LO, C, e, h => absurd (chk_no h (by intro e; cases e <;> rfl)) id
  | .wen e', X, W, c, LO, C, e, h => absurd (chk_no h (by intro e; cases e <;> rfl)) id
  | .wzip a b, X, W, c, LO, C, e, h => absurd (chk_no h (by intro e; cases e <;> rfl)) id
  | .wit e', X, W, c, LO, C, e, h => absurd (chk_no h (by intro e; cases e <;> rfl)) id
  | .wval e', X, W, c, LO, C, e, h => absurd (chk_no h (by intro e; cases e <;> rfl)) id
  | .wkey e', X, W, c, LO, C, e, h => absurd (chk_no h (by intro e; cases e <;> rfl)) id
  | .never, X, W, c, LO, C, e, h => absurd (chk_no h (by intro e; cases e <;> rfl)) id
theorem soundT (FO : FOk L k) : ∀ (ir : IE) {X : Cx} {W : WX} {c : Ck} (LO : LOk L c.gl c.fns) (C : Ctx L k X W c) (e : Expr), chkE c ir e = true → TWk X e (tT L (WE W) (dT L.g (callD L.g k) (fmOf L.g k) ir))
  | .nt a, X, W, c, LO, C, e, h => by
    cases e <;> first
      | exact absurd (show false = true from h) Bool.false_ne_true
      | skip
    rename_i op x p
    cases op <;> first
      | exact absurd (show false = true from h) Bool.false_ne_true
      | skip
    exact TWk.of (st_nt (soundT FO a LO C _ h).w.1) (fun _ _ _ z => nomatch z)
  | .an a b, X, W, c, LO, C, e, h => by
    cases e <;> first
      | exact absurd (show false = true from h) Bool.false_ne_true
      | skip
    rename_i op xs p
    cases op <;> rcases xs with _ | ⟨x, _ | ⟨y, xt⟩⟩ <;> first
      | exact absurd (show false = true from h) Bool.false_ne_true
      | skip
    simp only [chkE, Bool.and_eq_true] at h
    exact st_an (soundT FO a LO C _ h.1).w.1 (soundT FO b LO C _ h.2)
  | .orr a b, X, W, c, LO, C, e, h => by
    cases e <;> first
      | exact absurd (show false = true from h) Bool.false_ne_true
      | skip
    rename_i op xs p
    cases op <;> rcases xs with _ | ⟨x, _ | ⟨y, xt⟩⟩ <;> first
      | exact absurd (show false = true from h) Bool.false_ne_true
      | skip
    simp only [chkE, Bool.and_eq_true] at h
    exact st_orr (soundT FO a LO C _ h.1).w.1 (soundT FO b LO C _ h.2)
  | .one a, X, W, c, LO, C, e, h => by
    cases e <;> first
      | exact absurd (show false = true from h) Bool.false_ne_true
      | skip
    rename_i op xs p
    rcases xs with _ | ⟨x, _ | ⟨y, xt⟩⟩ <;> first
      | exact absurd (show false = true from h) Bool.false_ne_true
      | skip
    exact st_one (soundT FO a LO C _ h).w.1
  | .cmp op a b, X, W, c, LO, C, e, h => by
    cases e <;> first
      | exact absurd (show false = true from h) Bool.false_ne_true
      | skip
    rename_i l ops rs p
    rcases ops with _ | ⟨o, _ | ⟨o2, ot⟩⟩ <;> rcases rs with _ | ⟨r, _ | ⟨r2, rt⟩⟩ <;> first
      | exact absurd (show false = true from h) Bool.false_ne_true
      | skip
    simp only [chkE, Bool.and_eq_true, decide_eq_true_eq] at h
    obtain ⟨⟨⟨rfl, h1⟩, h2⟩, h3⟩ := h
    exact TWk.of (st_cmp LO C _ (soundE FO a LO C _ h2) (soundE FO b LO C _ h3) h1) (fun _ _ _ z => nomatch z)
  | .isn ps a, X, W, c, LO, C, e, h => by
    cases e <;> first
      | exact absurd (show false = true from h) Bool.false_ne_true
      | skip
    rename_i l ops rs p
    rcases ops with _ | ⟨o, _ | ⟨o2, ot⟩⟩ <;> rcases rs with _ | ⟨r, _ | ⟨r2, rt⟩⟩ <;> first
      | exact absurd (show false = true from h) Bool.false_ne_true
      | skip
    all_goals
      cases r <;> first
        | exact absurd (show false = true from h) Bool.false_ne_true
        | skip
    all_goals
      rename_i kc j p2
      cases kc <;> first
        | exact absurd (show false = true from h) Bool.false_ne_true
        | skip
    simp only [chkE, Bool.and_eq_true, decide_eq_true_eq] at h
    exact TWk.of (st_isn ps h.1 (soundE FO a LO C _ h.2)) (fun _ _ _ z => nomatch z)
  | .chn op op' a b d, X, W, c, LO, C, e, h => by
    cases e <;> first
      | exact absurd (show false = true from h) Bool.false_ne_true
      | skip
    rename_i l ops rs p
    rcases ops with _ | ⟨o, _ | ⟨o2, _ | ⟨o3, ot⟩⟩⟩ <;> rcases rs with _ | ⟨r, _ | ⟨r2, _ | ⟨r3, rt⟩⟩⟩ <;> first
      | exact absurd (show false = true from h) Bool.false_ne_true
      | skip
    simp only [chkE, Bool.and_eq_true, decide_eq_true_eq] at h
    obtain ⟨⟨⟨⟨⟨rfl, rfl⟩, h1⟩, h2⟩, h3⟩, h4⟩ := h
    exact TWk.of (st_chn LO C _ _ (soundE FO a LO C _ h2) (soundE FO b LO C _ h3) (soundE FO d LO C _ h4) h1) (fun _ _ _ z => nomatch z)
  | .var i, X, W, c, LO, C, e, h => by
    cases e <;> first
      | exact absurd (show false = true from h) Bool.false_ne_true
      | skip
    simp only [chkE, Bool.and_eq_true, decide_eq_true_eq] at h
    refine TWk.of (st_eq (st_truth LO C (se_var (E := WE W) C h.1.1 h.1.2 h.2) rfl) fun s m => ?_) (fun _ _ _ z => nomatch z)
    simp only [dT]
    cases s[i]? with
    | none => rfl
    | some o => cases o <;> rfl
  | .call f es, X, W, c, LO, C, e, h => by
    cases e <;> first
      | exact absurd (show false = true from h) Bool.false_ne_true
      | skip
    rename_i fn as kw p
    cases fn <;> first
      | exact absurd (show false = true from h) Bool.false_ne_true
      | skip
    cases kw <;> first
      | exact absurd (show false = true from h) Bool.false_ne_true
      | skip
    simp only [chkE, Bool.and_eq_true, decide_eq_true_eq] at h
    obtain ⟨⟨⟨h1, h2⟩, h3⟩, h4⟩ := h
    have ha := soundA FO es LO C _ h4
    cases as with
    | cons y ys => exact TWk.of (st_eq (st_truth LO C (se_call LO FO C h1 h2 h3 ha (chkA_star h4)) rfl) fun s m => by rw [Rs.bind_assoc]; rfl) (fun _ _ _ z => nomatch z)
    | nil =>
      cases es with
      | nil => exact TWk.of (st_eq (st_truth LO C (se_call0 LO FO C h1 h2 h3) rfl) fun s m => rfl) (fun _ _ _ z => nomatch z)
      | cons a b => exact absurd (show false = true from h4) Bool.false_ne_true
  | .blt b es, X, W, c, LO, C, e, h => by
    cases e <;> first
      | exact absurd (show false = true from h) Bool.false_ne_true
      | skip
    rename_i fn as kw p
    cases fn <;> first
      | exact absurd (show false = true from h) Bool.false_ne_true
      | skip
    cases as <;> cases kw <;> first
      | exact absurd (show false = true from h) Bool.false_ne_true
      | skip
    simp only [chkE, Bool.and_eq_true, decide_eq_true_eq] at h
    obtain ⟨⟨rfl, h1⟩, h2⟩ := h
    exact TWk.of (st_eq (st_truth LO C (se_blt LO C b h1 (soundA FO es LO C _ h2) (chkA_star h2)) rfl) fun s m => by rw [Rs.bind_assoc]; rfl) (fun _ _ _ z => nomatch z)
  | .isi a j, X, W, c, LO, C, e, h => by
    cases e <;> first
      | exact absurd (show false = true from h) Bool.false_ne_true
      | skip
    rename_i fn as kw p
    cases fn <;> first
      | exact absurd (show false = true from h) Bool.false_ne_true
      | skip
    rcases as with _ | ⟨x, _ | ⟨y, _ | ⟨z, zt⟩⟩⟩ <;> cases kw <;> first
      | exact absurd (show false = true from h) Bool.false_ne_true
      | skip
    all_goals try (cases y <;> first
      | exact absurd (show false = true from h) Bool.false_ne_true
      | skip)
    all_goals try exact absurd (show false = true from h) Bool.false_ne_true
    simp only [chkE, Bool.and_eq_true, decide_eq_true_eq] at h
    obtain ⟨⟨⟨⟨⟨rfl, h1⟩, h2⟩, h3⟩, h4⟩, h5⟩ := h
    have ha := soundE FO a LO C _ h5
    have go : ∀ (p p2 : Pos) (ps : Pos), (∀ C, j ≠ .cls C) → glB c.sc j.nm = true → TWk X (.Call (.Name "isinstance" p) [x, .Name j.nm p2] [] ps) (tT L (WE W) (dT L.g (callD L.g k) (fmOf L.g k) (.isi a j))) := fun p p2 ps hj h2 => by
      refine TWk.of (st_eq (st_truth LO C (se_isi LO C hj h1 h2 h3 ha) rfl) fun s m => ?_) (fun _ _ _ z => nomatch z)
      simp only [dT]
      rw [Rs.bind_assoc]
      congr 1
      funext v m1
      cases isiM L.g j m1 v <;> rfl
    cases j with
    | int => obtain rfl := of_decide_eq_true h4; exact go _ _ _ (fun _ z => nomatch z) h2
    | bool => obtain rfl := of_decide_eq_true h4; exact go _ _ _ (fun _ z => nomatch z) h2
    | str => obtain rfl := of_decide_eq_true h4; exact go _ _ _ (fun _ z => nomatch z) h2
    | list => obtain rfl := of_decide_eq_true h4; exact go _ _ _ (fun _ z => nomatch z) h2
    | tuple => obtain rfl := of_decide_eq_true h4; exact go _ _ _ (fun _ z => nomatch z) h2
    | cls q => exact absurd h4 Bool.false_ne_true
  | .con v, X, W, c, LO, C, e, h => tw_bad
  | .glo v, X, W, c, LO, C, e, h => tw_bad
  | .bin op a b, X, W, c, LO, C, e, h => tw_bad
  | .neg a, X, W, c, LO, C, e, h => tw_bad
  | .ife t a b, X, W, c, LO, C, e, h => tw_bad
  | .lst es, X, W, c, LO, C, e, h => tw_bad
  | .tup es, X, W, c, LO, C, e, h => tw_bad
  | .ix a i, X, W, c, LO, C, e, h => tw_bad
  | .sl a lo hi, X, W, c, LO, C, e, h => tw_bad
  | .nopart, X, W, c, LO, C, e, h => by
    cases e <;> first
      | exact absurd (show false = true from h) Bool.false_ne_true
      | skip

  | .bm o b es, X, W, c, LO, C, e, h => tw_bad
  | .lc elt vs tup it test, X, W, c, LO, C, e, h => tw_bad
  | .make C es, X, W, c, LO, C', e, h => tw_bad
  | .meth o n es, X, W, c, LO, C, e, h => tw_bad
  | .fld o n, X, W, c, LO, C, e, h => tw_bad
  | .dnew t, X, W, c, LO, C, e, h => tw_bad
  | .ddisp t, X, W, c, LO, C, e, h => tw_bad
  | .dget o k' d, X, W, c, LO, C, e, h => tw_bad
  | .dpop o k' d, X, W, c, LO, C, e, h => tw_bad
  | .wl e', X, W, c, LO, C, e, h => tw_bad
  | .wr1 e', X, W, c, LO, C, e, h => tw_bad
  | .wr2 a b, X, W, c, LO, C, e, h => tw_bad
  | .wen e', X, W, c, LO, C, e, h => tw_bad
  | .wzip a b, X, W, c, LO, C, e, h => tw_bad
  | .wit e', X, W, c, LO, C, e, h => tw_bad
  | .wval e', X, W, c, LO, C, e, h => tw_bad
  | .wkey e', X, W, c, LO, C, e, h => tw_bad
  | .never, X, W, c, LO, C, e, h => tw_bad
theorem soundA (FO : FOk L k) : ∀ (es : IEs) {X : Cx} {W : WX} {c : Ck} (LO : LOk L c.gl c.fns) (C : Ctx L k X W c) (xs : List Expr), chkA c es xs = true → PA X xs (tA L (WE W) (dA L.g (callD L.g k) (fmOf L.g k) es))
  | .nil, X, W, c, LO, C, [], h => sa_nil
  | .nil, X, W, c, LO, C, _ :: _, h => absurd (show false = true from h) Bool.false_ne_true
  | .cons e es, X, W, c, LO, C, [], h => absurd (show false = true from h) Bool.false_ne_true
  | .cons e es, X, W, c, LO, C, x :: xs, h => by
    simp only [chkA, Bool.and_eq_true] at h
    exact sa_cons (soundE FO e LO C _ h.1.2) (soundA FO es LO C _ h.2) h.1.1
theorem soundP (FO : FOk L k) : ∀ (ir : IE) {X : Cx} {W : WX} {c : Ck} (LO : LOk L c.gl c.fns) (C : Ctx L k X W c) (e : Option Expr), chkP c ir e = true → PO X e (tPo L (WE W) (dP L.g (callD L.g k) (fmOf L.g k) ir))
  | .nopart, X, W, c, LO, C, none, h => PO.imp po_none fun σ H Q ⟨s, m, ρ, hs, S, h⟩ => PostR.ok h S rfl
  | .con v, X, W, c, LO, C, some e, h => by
    cases v <;> first
      | exact absurd (show false = true from h) Bool.false_ne_true
      | skip
    cases e <;> first
      | exact absurd (show false = true from h) Bool.false_ne_true
      | skip
    simp only [chkP, decide_eq_true_eq] at h
    subst h
    exact PO.imp (po_some pe_int) fun σ H Q ⟨s, m, ρ, hs, S, h⟩ => ⟨_, rfl, PostR.ok h S rfl⟩
  | .neg a, X, W, c, LO, C, some e, h => by
    cases e <;> first
      | exact absurd (show false = true from h) Bool.false_ne_true
      | skip
    rename_i op x p
    cases op <;> first
      | exact absurd (show false = true from h) Bool.false_ne_true
      | skip
    refine PO.imp (po_some (pe_un un_neg (soundE FO a LO C _ h))) fun σ H Q ⟨s, m, ρ, hs, S, h⟩ => ⟨s, m, ρ, hs, S, h.bind fun v m1 ρ1 H1 V1 _ e1 S1 r1 h1 => ?_⟩
    cases v with
    | int i => exact ⟨i, r1, _, rfl, PostR.ok h1 S1 rfl⟩
    | _ => exact False.elim h1
  | .var i, X, W, c, LO, C, some e, h => by
    cases e <;> first
      | exact absurd (show false = true from h) Bool.false_ne_true
      | skip
    simp only [chkP, Bool.and_eq_true, decide_eq_true_eq] at h
    refine PO.imp (po_some (se_var (E := WE W) C h.1.1 h.1.2 h.2)) fun σ H Q ⟨s, m, ρ, hs, S, h⟩ => ⟨s, m, ρ, hs, S, ?_⟩
    dsimp only [dP] at h ⊢
    cases e : s[i]? with
    | none => rw [e] at h; exact False.elim h
    | some o =>
      cases o with
      | none => rw [e] at h; exact False.elim h
      | some v =>
        rw [e] at h
        cases v with
        | int j => exact fun ρ' H' V1 e1 S1 r1 => ⟨j, r1, h ρ' H' _ e1 S1 rfl⟩
        | _ => exact False.elim h
  | .con v, X, W, c, LO, C, none, h => by
    cases v <;> exact absurd (show false = true from h) Bool.false_ne_true
  | .neg _, X, W, c, LO, C, none, h => absurd (show false = true from h) Bool.false_ne_true
  | .var _, X, W, c, LO, C, none, h => absurd (show false = true from h) Bool.false_ne_true
  | .nopart, X, W, c, LO, C, some _, h => absurd (show false = true from h) Bool.false_ne_true
  | .glo _, X, W, c, LO, C', e, h => absurd (show false = true from h) Bool.false_ne_true
  | .bin _ _ _, X, W, c, LO, C', e, h => absurd (show false = true from h) Bool.false_ne_true
  | .nt _, X, W, c, LO, C', e, h => absurd (show false = true from h) Bool.false_ne_true
  | .cmp _ _ _, X, W, c, LO, C', e, h => absurd (show false = true from h) Bool.false_ne_true
  | .isn _ _, X, W, c, LO, C', e, h => absurd (show false = true from h) Bool.false_ne_true
  | .chn _ _ _ _ _, X, W, c, LO, C', e, h => absurd (show false = true from h) Bool.false_ne_true
  | .an _ _, X, W, c, LO, C', e, h => absurd (show false = true from h) Bool.false_ne_true
  | .orr _ _, X, W, c, LO, C', e, h => absurd (show false = true from h) Bool.false_ne_true
  | .one _, X, W, c, LO, C', e, h => absurd (show false = true from h) Bool.false_ne_true
  | .ife _ _ _, X, W, c, LO, C', e, h => absurd (show false = true from h) Bool.false_ne_true
  | .lst _, X, W, c, LO, C', e, h => absurd (show false = true from h) Bool.false_ne_true
  | .tup _, X, W, c, LO, C', e, h => absurd (show false = true from h) Bool.false_ne_true
  | .ix _ _, X, W, c, LO, C', e, h => absurd (show false = true from h) Bool.false_ne_true
  | .sl _ _ _, X, W, c, LO, C', e, h => absurd (show false = true from h) Bool.false_ne_true
  | .call _ _, X, W, c, LO, C', e, h => absurd (show false = true from h) Bool.false_ne_true
  | .make _ _, X, W, c, LO, C', e, h => absurd (show false = true from h) Bool.false_ne_true
  | .meth _ _ _, X, W, c, LO, C', e, h => absurd (show false = true from h) Bool.false_ne_true
  | .fld _ _, X, W, c, LO, C', e, h => absurd (show false = true from h) Bool.false_ne_true
  | .blt _ _, X, W, c, LO, C', e, h => absurd (show false = true from h) Bool.false_ne_true
  | .bm _ _ _, X, W, c, LO, C', e, h => absurd (show false = true from h) Bool.false_ne_true
  | .isi _ _, X, W, c, LO, C', e, h => absurd (show false = true from h) Bool.false_ne_true
  | .lc _ _ _ _ _, X, W, c, LO, C', e, h => absurd (show false = true from h) Bool.false_ne_true
  | .dnew _, X, W, c, LO, C', e, h => absurd (show false = true from h) Bool.false_ne_true
  | .ddisp _, X, W, c, LO, C', e, h => absurd (show false = true from h) Bool.false_ne_true
  | .dget _ _ _, X, W, c, LO, C', e, h => absurd (show false = true from h) Bool.false_ne_true
  | .dpop _ _ _, X, W, c, LO, C', e, h => absurd (show false = true from h) Bool.false_ne_true
  | .wl _, X, W, c, LO, C', e, h => absurd (show false = true from h) Bool.false_ne_true
  | .wr1 _, X, W, c, LO, C', e, h => absurd (show false = true from h) Bool.false_ne_true
  | .wr2 _ _, X, W, c, LO, C', e, h => absurd (show false = true from h) Bool.false_ne_true
  | .wen _, X, W, c, LO, C', e, h => absurd (show false = true from h) Bool.false_ne_true
  | .wzip _ _, X, W, c, LO, C', e, h => absurd (show false = true from h) Bool.false_ne_true
  | .wit _, X, W, c, LO, C', e, h => absurd (show false = true from h) Bool.false_ne_true
  | .wval _, X, W, c, LO, C', e, h => absurd (show false = true from h) Bool.false_ne_true
  | .wkey _, X, W, c, LO, C', e, h => absurd (show false = true from h) Bool.false_ne_true
  | .never, X, W, c, LO, C', e, h => absurd (show false = true from h) Bool.false_ne_true
theorem soundW (FO : FOk L k) : ∀ (ir : IE) {X : Cx} {W : WX} {c : Ck} (LO : LOk L c.gl c.fns) (C : Ctx L k X W c) (tg e : Expr), (wTup ir = true → ∃ ts kk tp, tg = .Tuple ts kk tp) → chkW c ir e = true → PI X tg e (tW L (WE W) (dW L.g (callD L.g k) (fmOf L.g k) ir))
  | .wl a, X, W, c, LO, C, tg, e, ht, h => sw_wl LO C (soundE FO a LO C e h)
  | .wr1 a, X, W, c, LO, C, tg, e, ht, h => by
    cases e <;> first
      | exact absurd (show false = true from h) Bool.false_ne_true
      | skip
    rename_i fn as kw p
    cases fn <;> rcases as with _ | ⟨x, _ | ⟨y, yt⟩⟩ <;> cases kw <;> first
      | exact absurd (show false = true from h) Bool.false_ne_true
      | skip
    simp only [chkW, Bool.and_eq_true, decide_eq_true_eq] at h
    obtain ⟨⟨⟨rfl, h1⟩, h2⟩, h3⟩ := h
    exact sw_wr1 LO C h1 h2 (soundE FO a LO C _ h3)
  | .wr2 a b, X, W, c, LO, C, tg, e, ht, h => by
    cases e <;> first
      | exact absurd (show false = true from h) Bool.false_ne_true
      | skip
    rename_i fn as kw p
    cases fn <;> rcases as with _ | ⟨x, _ | ⟨y, _ | ⟨z, zt⟩⟩⟩ <;> cases kw <;> first
      | exact absurd (show false = true from h) Bool.false_ne_true
      | skip
    simp only [chkW, Bool.and_eq_true, decide_eq_true_eq] at h
    obtain ⟨⟨⟨⟨⟨rfl, h1⟩, h2⟩, h3⟩, h4⟩, h5⟩ := h
    exact sw_wr2 LO C h1 h2 h3 (soundE FO a LO C _ h4) (soundE FO b LO C _ h5)
  | .wen a, X, W, c, LO, C, tg, e, ht, h => by
    cases e <;> first
      | exact absurd (show false = true from h) Bool.false_ne_true
      | skip
    rename_i fn as kw p
    cases fn <;> rcases as with _ | ⟨x, _ | ⟨y, yt⟩⟩ <;> cases kw <;> first
      | exact absurd (show false = true from h) Bool.false_ne_true
      | skip
    simp only [chkW, Bool.and_eq_true, decide_eq_true_eq] at h
    obtain ⟨⟨⟨rfl, h1⟩, h2⟩, h3⟩ := h
    obtain ⟨ts, kk, tp, rfl⟩ := ht rfl
    exact sw_wen LO C h1 h2 (soundE FO a LO C _ h3)
  | .wzip a b, X, W, c, LO, C, tg, e, ht, h => by
    cases e <;> first
      | exact absurd (show false = true from h) Bool.false_ne_true
      | skip
    rename_i fn as kw p
    cases fn <;> rcases as with _ | ⟨x, _ | ⟨y, _ | ⟨z, zt⟩⟩⟩ <;> cases kw <;> first
      | exact absurd (show false = true from h) Bool.false_ne_true
      | skip
    simp only [chkW, Bool.and_eq_true, decide_eq_true_eq] at h
    obtain ⟨⟨⟨⟨⟨rfl, h1⟩, h2⟩, h3⟩, h4⟩, h5⟩ := h
    obtain ⟨ts, kk, tp, rfl⟩ := ht rfl
    exact sw_wzip LO C h1 h2 h3 (soundE FO a LO C _ h4) (soundE FO b LO C _ h5)
  | .var _, X, W, c, LO, C', tg, e, ht, h => absurd (show false = true from h) Bool.false_ne_true
  | .con _, X, W, c, LO, C', tg, e, ht, h => absurd (show false = true from h) Bool.false_ne_true
  | .neg _, X, W, c, LO, C', tg, e, ht, h => absurd (show false = true from h) Bool.false_ne_true
  | .glo _, X, W, c, LO, C', tg, e, ht, h => absurd (show false = true from h) Bool.false_ne_true
  | .bin _ _ _, X, W, c, LO, C', tg, e, ht, h => absurd (show false = true from h) Bool.false_ne_true
  | .nt _, X, W, c, LO, C', tg, e, ht, h => absurd (show false = true from h) Bool.false_ne_true
  | .cmp _ _ _, X, W, c, LO, C', tg, e, ht, h => absurd (show false = true from h) Bool.false_ne_true
  | .isn _ _, X, W, c, LO, C', tg, e, ht, h => absurd (show false = true from h) Bool.false_ne_true
  | .chn _ _ _ _ _, X, W, c, LO, C', tg, e, ht, h => absurd (show false = true from h) Bool.false_ne_true
  | .an _ _, X, W, c, LO, C', tg, e, ht, h => absurd (show false = true from h) Bool.false_ne_true
  | .orr _ _, X, W, c, LO, C', tg, e, ht, h => absurd (show false = true from h) Bool.false_ne_true
  | .one _, X, W, c, LO, C', tg, e, ht, h => absurd (show false = true from h) Bool.false_ne_true
  | .ife _ _ _, X, W, c, LO, C', tg, e, ht, h => absurd (show false = true from h) Bool.false_ne_true
  | .lst _, X, W, c, LO, C', tg, e, ht, h => absurd (show false = true from h) Bool.false_ne_true
  | .tup _, X, W, c, LO, C', tg, e, ht, h => absurd (show false = true from h) Bool.false_ne_true
  | .ix _ _, X, W, c, LO, C', tg, e, ht, h => absurd (show false = true from h) Bool.false_ne_true
  | .sl _ _ _, X, W, c, LO, C', tg, e, ht, h => absurd (show false = true from h) Bool.false_ne_true
  | .nopart, X, W, c, LO, C', tg, e, ht, h => absurd (show false = true from h) Bool.false_ne_true
  | .call _ _, X, W, c, LO, C', tg, e, ht, h => absurd (show false = true from h) Bool.false_ne_true
  | .make _ _, X, W, c, LO, C', tg, e, ht, h => absurd (show false = true from h) Bool.false_ne_true
  | .meth _ _ _, X, W, c, LO, C', tg, e, ht, h => absurd (show false = true from h) Bool.false_ne_true
  | .fld _ _, X, W, c, LO, C', tg, e, ht, h => absurd (show false = true from h) Bool.false_ne_true
  | .blt _ _, X, W, c, LO, C', tg, e, ht, h => absurd (show false = true from h) Bool.false_ne_true
  | .bm _ _ _, X, W, c, LO, C', tg, e, ht, h => absurd (show false = true from h) Bool.false_ne_true
  | .isi _ _, X, W, c, LO, C', tg, e, ht, h => absurd (show false = true from h) Bool.false_ne_true
  | .lc _ _ _ _ _, X, W, c, LO, C', tg, e, ht, h => absurd (show false = true from h) Bool.false_ne_true
  | .dnew _, X, W, c, LO, C', tg, e, ht, h => absurd (show false = true from h) Bool.false_ne_true
  | .ddisp _, X, W, c, LO, C', tg, e, ht, h => absurd (show false = true from h) Bool.false_ne_true
  | .dget _ _ _, X, W, c, LO, C', tg, e, ht, h => absurd (show false = true from h) Bool.false_ne_true
  | .dpop _ _ _, X, W, c, LO, C', tg, e, ht, h => absurd (show false = true from h) Bool.false_ne_true
  | .wit _, X, W, c, LO, C', tg, e, ht, h => absurd (show false = true from h) Bool.false_ne_true
  | .wval _, X, W, c, LO, C', tg, e, ht, h => absurd (show false = true from h) Bool.false_ne_true
  | .wkey _, X, W, c, LO, C', tg, e, ht, h => absurd (show false = true from h) Bool.false_ne_true
  | .never, X, W, c, LO, C', tg, e, ht, h => absurd (show false = true from h) Bool.false_ne_true
end
end
end Mi

set_option Elab.async false
set_option maxRecDepth 100000
set_option linter.all false
set_option maxHeartbeats 4000000
set_option autoImplicit false
namespace Mi
open PySem PySem.Spec PyProof.Rows L2
def PostS (L : Link) (W : WX) (D : Ends) (ρ : List Addr) (f : Fl) : Prop := match f with
  | .nx s m => ∀ ρ' H' σ', ρ <+: ρ' → Sim L ρ' m H' → SimS L ρ' s σ' → D.nx σ' H'
  | .rt v m => ∀ ρ' H' V, ρ <+: ρ' → Sim L ρ' m H' → RelM L ρ' v V → D.rt V H'
  | .bk s m => ∀ ρ' H' σ', ρ <+: ρ' → Sim L ρ' m H' → SimS L ρ' s σ' → D.bk σ' H'
  | .ct s m => ∀ ρ' H' σ', ρ <+: ρ' → Sim L ρ' m H' → SimS L ρ' s σ' → D.ct σ' H'
  | .exc c p s m => ∀ ρ' H' σ' d, ρ <+: ρ' → Sim L ρ' m H' → SimS L ρ' s σ' → XRel L ρ' p d H' → W (.ref (L.ca c)) d σ' H'
  | .bad => False
def tSM (L : Link) (W : WX) (d : MS → MH → Fl) : TS := fun D σ H => ∃ s m ρ, SimS L ρ s σ ∧ Sim L ρ m H ∧ PostS L W D ρ (d s m)
section
variable {L : Link} {k : Nat} {X : Cx} {W : WX} {c : Ck} {D : Ends} {ρ ρ1 : List Addr} {σ : St} {s : MS} {m : MH} {H : Hp}
theorem PostS.mono {f : Fl} (h : PostS L W D ρ f) (e : ρ <+: ρ1) : PostS L W D ρ1 f := by
  cases f with
  | nx s m => exact fun ρ' H' σ' e' => h ρ' H' σ' (e.trans e')
  | rt v m => exact fun ρ' H' V1 e' => h ρ' H' V1 (e.trans e')
  | bk s m => exact fun ρ' H' σ' e' => h ρ' H' σ' (e.trans e')
  | ct s m => exact fun ρ' H' σ' e' => h ρ' H' σ' (e.trans e')
  | exc cc p s m => exact fun ρ' H' σ' d e' => h ρ' H' σ' d (e.trans e')
  | bad => exact h
theorem PostS.lift {α β : Type} {R : List Addr → α → β → Prop} {r : Rs α} {f : α → MH → Fl} (h : PostS L W D ρ (Mi.lift r s f)) (hs : SimS L ρ s σ) {Q1 : β → Hp → Prop}
    (k : ∀ a m1 ρ1 H1 b, r = .ok a m1 → ρ <+: ρ1 → Sim L ρ1 m1 H1 → R ρ1 a b → SimS L ρ1 s σ → PostS L W D ρ1 (f a m1) → Q1 b H1) : PostR L R (WE W σ) ρ r Q1 := by
  cases r with
  | ok a m => exact fun ρ' H' b e S q => k a m ρ' H' b rfl e S q (hs.mono e) (PostS.mono h e)
  | exc cc p m => exact fun ρ' H' d e S q => h ρ' H' σ d e S (hs.mono e) q
  | bad => exact h
theorem PostS.next {s1 : MS} (h : PostS L W D ρ (.nx s1 m)) (S : Sim L ρ m H) (hs : SimS L ρ s1 σ) : D.nx σ H := h ρ H σ (List.prefix_refl _) S hs
theorem ps_bad {st : Stmt} : PS X st (tSM L W fun _ _ => .bad) := ⟨fun _ _ _ _ _ _ ⟨_, _, _, _, _, h⟩ => False.elim h⟩
def isLC : Expr → Bool
  | .ListComp .. => true | .SetComp .. => true | .DictComp .. => true | _ => false
theorem swaps_no {e : Expr} {t : Option Expr} {l : Nat} {env : Env} (h : isLC e = false) : swapsWith e t l env = pure false := by
  cases e <;> first
    | rfl
    | (exact absurd (show true = false from h) (by decide))
theorem swaps_sole {t e : Expr} {l : Nat} {env : Env} (h : isLC e = false) : swapsWithSole [t] e l env = pure false := swaps_no (t := some t) h
theorem asg_form {o i : Expr} {pos : Pos} {env : Env} (h : notSlice i = true) : ∀ v, assign (.Subscript o i pos) env v = (do
      let ov ← holding [v] (eval o env)
      let iv ← holding [v, ov] (eval i env)
      standAt pos
      holding [v, ov, iv] (setItem ov iv v)
      release [v, ov, iv] []) := by
  intro v
  cases i <;> first
    | rfl
    | exact absurd (show false = true from h) Bool.false_ne_true
section
variable {a b d : Expr} {da db dd : MS → MH → Rs MV} {ta : MS → MH → Rs Bool} {st : Stmt} {xs ys : List Stmt} {fa fb : MS → MH → Fl} {pos : Pos}
theorem ss_nil : PSs X [] (tSM L W fun s m => .nx s m) := PSs.imp pss_nil fun D σ H ⟨s, m, ρ, hs, S, h⟩ => h.next S hs
theorem ss_seq (ha : PS X st (tSM L W fa)) (hb : PSs X xs (tSM L W fb)) : PSs X (st :: xs) (tSM L W fun s m => match fa s m with
    | .nx s1 m1 => fb s1 m1
    | r => r) := by
  refine PSs.imp (pss_cons ha hb) fun D σ H ⟨s, m, ρ, hs, S, h⟩ => ⟨s, m, ρ, hs, S, ?_⟩
  dsimp only at h
  cases e : fa s m with
  | nx s1 m1 => rw [e] at h; exact fun ρ' H' σ' e1 S1 hs1 => ⟨s1, m1, ρ', hs1, S1, PostS.mono h e1⟩
  | rt v m1 => rw [e] at h; exact h
  | bk s1 m1 => rw [e] at h; exact h
  | ct s1 m1 => rw [e] at h; exact h
  | exc cc p s1 m1 => rw [e] at h; exact h
  | bad => rw [e] at h; exact h
theorem ss_asg (C : Ctx L k X W c) {i : Nat} {x : Str} {p : Pos} (h1 : c.N[i]? = some x) (h2 : storeB c x = true) (ha : PE X a (tE L (WE W) da)) (hn : isLC a = false) :
    PS X (.Assign [.Name x p] a pos) (tSM L W fun s m => lift (da s m) s fun v m1 => .nx (s.set i (some v)) m1) := by
  obtain ⟨l1, l2⟩ := storeB_ok C h2
  refine PS.imp (ps_set (i := i) (by rw [C.N]; exact C.nd) (slot_ok C h1) l1 ha (swaps_no hn) l2) fun D σ H ⟨s, m, ρ, hs, S, h⟩ => ⟨s, m, ρ, hs, S, h.lift hs fun v m1 ρ1 H1 V1 _ e1 S1 r1 hs1 h1 => ?_⟩
  exact h1.next S1 (simS_set hs1 r1)
theorem ss_seti (C : Ctx L k X W c) {p : Pos} (ho : PE X a (tE L (WE W) da)) (hi : PE X b (tE L (WE W) db)) (hv : PE X d (tE L (WE W) dd)) (hn : isLC d = false) (hx : notSlice b = true) :
    PS X (.Assign [.Subscript a b p] d pos) (tSM L W fun s m => lift (dd s m) s fun v m1 => lift (da s m1) s fun x m2 => lift (db s m2) s fun y m3 => match setM x y v m3 with
      | some m4 => .nx s m4
      | none => .bad) := by
  refine PS.imp (ps_asg hv (pg_sub ho hi (set_ok (L := L)) (asg_form hx)) (swaps_sole hn) (by cases d <;> rfl)) fun D σ H ⟨s, m, ρ, hs, S, h⟩ => ⟨s, m, ρ, hs, S, h.lift hs fun v m1 ρ1 H1 V1 _ e1 S1 r1 hs1 h1 => ⟨s, m1, ρ1, hs1, S1, h1.lift hs1 fun x m2 ρ2 H2 V2 _ e2 S2 r2 hs2 h2 => ⟨s, m2, ρ2, hs2, S2, h2.lift hs2 fun y m3 ρ3 H3 V3 _ e3 S3 r3 hs3 h3 => ?_⟩⟩⟩
  cases e : setM x y v m3 with
  | none => rw [e] at h3; exact False.elim h3
  | some m4 =>
    rw [e] at h3
    exact ⟨x, y, v, m3, ρ3, m4, r2.mono e3, r3, r1.mono (e2.trans e3), S3, e, fun H' S4 => h3.next S4 hs3⟩
theorem ss_unp (LO : COk L) (C : Ctx L k X W c) {is : List Nat} {ts : List Expr} {kk : Nat} {p : Pos} (ht : chkTgs c is ts = true) (ha : PE X a (tE L (WE W) da)) (hn : isLC a = false) (hw : ∀ es j q, a ≠ .Tuple es j q) :
    PS X (.Assign [.Tuple ts kk p] a pos) (tSM L W fun s m => lift (da s m) s fun v m1 => match gt L.g m1 v with
      | some xs => match setAll is xs s with
        | some s1 => .nx s1 m1
        | none => .bad
      | none => .bad) := by
  obtain ⟨a1, a2, _⟩ := assign_names (env := X.env) ht
  have sw : swappedStores [.Tuple ts kk p] a X.env = pure none := by
    cases a <;> first
      | rfl
      | exact absurd rfl (hw _ _ _)
  refine PS.imp (ps_asg ha (pg_tup C.calm (pgs_names C ht) a1 a2) (swaps_sole hn) sw) fun D σ H ⟨s, m, ρ, hs, S, h⟩ => ⟨s, m, ρ, hs, S, h.lift hs fun v m1 ρ1 H1 V1 _ e1 S1 r1 hs1 h1 => ?_⟩
  cases e : gt L.g m1 v with
  | none => rw [e] at h1; exact False.elim h1
  | some xs =>
    rw [e] at h1
    dsimp only at h1
    cases e2 : setAll is xs s with
    | none => rw [e2] at h1; exact False.elim h1
    | some s1 =>
      rw [e2] at h1
      obtain ⟨p, ys, rfl, g1, g2⟩ := gt_sq LO S1 r1 e
      obtain ⟨q1, σ', q2, q3, q4⟩ := sets_ok is (vs := is) hs1 g2 e2 (fun i hi => hi) .refl
      refine ⟨p, ys, rfl, by rw [C.K]; exact g1, q1, q1, ?_⟩
      rw [← q4]
      exact h1.next S1 q2
theorem aug_ok {op : Operator} (ho : (op == .Add || op == .Sub) = true) : PIp X op (fun x y H Q => ∃ (ρ : List Addr) (x' y' v : MV), RelM L ρ x' x ∧ RelM L ρ y' y ∧ augM op x' y' = some v ∧ ∀ z, RelM L ρ v z → Q z H) := by
  intro pins s σ H x y v u Q I r1 r2 ⟨ρ, x', y', w, h1, h2, h3, h4⟩
  cases op <;> first
    | exact absurd ho (by decide)
    | skip
  all_goals
    cases x' <;> cases y' <;> first
      | exact absurd (show none = some w from h3) (by simp)
      | skip
  · cases h3; exact ip_add pins s σ H x y v u Q I r1 r2 ⟨_, _, h1, h2, h4 _ rfl⟩
  · cases h3; exact ip_sub pins s σ H x y v u Q I r1 r2 ⟨_, _, h1, h2, h4 _ rfl⟩
theorem ss_aug (C : Ctx L k X W c) {i : Nat} {x : Str} {p : Pos} {op : Operator} (h1 : c.N[i]? = some x) (h2 : storeB c x = true) (ho : (op == .Add || op == .Sub) = true) (ha : PE X a (tE L (WE W) da)) :
    PS X (.AugAssign (.Name x p) op a pos) (tSM L W fun s m => match s[i]? with
      | some (some x) => lift (da s m) s fun y m1 => match augM op x y with
        | some v => .nx (s.set i (some v)) m1
        | none => .bad
      | _ => .bad) := by
  obtain ⟨l1, l2⟩ := storeB_ok C h2
  refine PS.imp (ps_aug (i := i) (by rw [C.N]; exact C.nd) (slot_ok C h1) l1 ha (aug_ok (L := L) ho) l2) fun D σ H ⟨s, m, ρ, hs, S, h⟩ => ?_
  dsimp only at h
  cases e : s[i]? with
  | none => rw [e] at h; exact False.elim h
  | some o =>
    cases o with
    | none => rw [e] at h; exact False.elim h
    | some v =>
      rw [e] at h
      obtain ⟨V1, g1, g2⟩ := hs.2 i v e
      refine ⟨V1, g1, s, m, ρ, hs, S, PostS.lift h hs fun y m1 ρ1 H1 V2 _ e1 S1 r1 hs1 h1 => ?_⟩
      cases e2 : augM op v y with
      | none => rw [e2] at h1; exact False.elim h1
      | some w =>
        rw [e2] at h1
        exact ⟨ρ1, v, y, w, g2.mono e1, r1, e2, fun z rz => h1.next S1 (simS_set hs1 rz)⟩
theorem ss_ex (ha : PE X a (tE L (WE W) da)) (hn : isLC a = false) : PS X (.Expr a pos) (tSM L W fun s m => lift (da s m) s fun _ m1 => .nx s m1) :=
  PS.imp (ps_expr ha (swaps_no hn)) fun D σ H ⟨s, m, ρ, hs, S, h⟩ => ⟨s, m, ρ, hs, S, h.lift hs fun v m1 ρ1 H1 V1 _ e1 S1 r1 hs1 h1 => h1.next S1 hs1⟩
theorem ss_ret (ha : PE X a (tE L (WE W) da)) : PS X (.Return (some a) pos) (tSM L W fun s m => lift (da s m) s fun v m1 => .rt v m1) :=
  PS.imp (ps_ret ha) fun D σ H ⟨s, m, ρ, hs, S, h⟩ => ⟨s, m, ρ, hs, S, h.lift hs fun v m1 ρ1 H1 V1 _ e1 S1 r1 hs1 h1 => h1 ρ1 H1 V1 (List.prefix_refl _) S1 r1⟩
theorem ss_retn : PS X (.Return none pos) (tSM L W fun _ m => .rt .non m) := PS.imp ps_retN fun D σ H ⟨s, m, ρ, hs, S, h⟩ => h ρ H .non (List.prefix_refl _) S rfl
theorem ss_iff (ht : PT X a (tT L (WE W) ta)) (ha : PSs X xs (tSM L W fa)) (hb : PSs X ys (tSM L W fb)) :
    PS X (.If a xs ys pos) (tSM L W fun s m => lift (ta s m) s fun k m1 => match k with | true => fa s m1 | false => fb s m1) := by
  refine PS.imp (ps_if ht ha hb) fun D σ H ⟨s, m, ρ, hs, S, h⟩ => ⟨s, m, ρ, hs, S, h.lift hs fun v m1 ρ1 H1 V1 _ e1 S1 r1 hs1 h1 => ?_⟩
  cases (show v = V1 from r1)
  cases v with
  | true => exact iteT ⟨s, m1, ρ1, hs1, S1, h1⟩
  | false => exact iteF ⟨s, m1, ρ1, hs1, S1, h1⟩
theorem ss_whl (hp : PassesOwn (model X.prog X.w) X.A X.env X.xe) (ht : PT X a (tT L (WE W) ta)) (hb : PSs X xs (tSM L W fb)) :
    PS X (.While a xs [] pos) (tSM L W fun s m => whl ta fb loopFuel s m) := by
  refine PS.imp (ps_while hp ht hb) fun D σ H ⟨s, m, ρ, hs, S, h⟩ => ?_
  refine ⟨fun n σ H => ∃ s m ρ, SimS L ρ s σ ∧ Sim L ρ m H ∧ PostS L W D ρ (whl ta fb n s m), ⟨loopFuel, s, m, ρ, hs, S, h⟩, ?_⟩
  rintro n σ1 H1 ⟨s1, m1, ρ1, hs1, S1, h1⟩
  cases n with
  | zero => exact False.elim h1
  | succ n =>
    unfold whl at h1
    refine ⟨s1, m1, ρ1, hs1, S1, ?_⟩
    cases e : ta s1 m1 with
    | bad => rw [e] at h1; exact h1
    | exc cc p mm => rw [e] at h1; exact fun ρ' H' d e1 S2 q => h1 ρ' H' σ1 d e1 S2 (hs1.mono e1) q
    | ok kb m2 =>
      rw [e] at h1
      intro ρ2 H2 b e2 S2 eb
      cases (show kb = b from eb)
      cases kb with
      | false => exact iteF ((PostS.mono h1 e2).next S2 (hs1.mono e2))
      | true =>
        refine iteT ⟨fun σ H => ∃ s m ρ, SimS L ρ s σ ∧ Sim L ρ m H ∧ PostS L W D ρ (whl ta fb n s m), fun σ' H' q => ⟨n, Nat.lt_succ_self _, q⟩, s1, m2, ρ2, hs1.mono e2, S2, ?_⟩
        have h2 := PostS.mono h1 e2
        dsimp only at h2
        cases e3 : fb s1 m2 with
        | nx s3 m3 => rw [e3] at h2; exact fun ρ' H' σ' e4 S4 hs4 => ⟨s3, m3, ρ', hs4, S4, PostS.mono h2 e4⟩
        | ct s3 m3 => rw [e3] at h2; exact fun ρ' H' σ' e4 S4 hs4 => ⟨s3, m3, ρ', hs4, S4, PostS.mono h2 e4⟩
        | bk s3 m3 => rw [e3] at h2; exact h2
        | rt v m3 => rw [e3] at h2; exact h2
        | exc cc p s3 m3 => rw [e3] at h2; exact h2
        | bad => rw [e3] at h2; exact h2
theorem ss_for (hp : PassesOwn (model X.prog X.w) X.A X.env X.xe) (hc : X.calm = true) {tg iter : Expr} {vs : List Nat} {tup : Bool} {dw : MS → MH → Rs Wk} (hi : PI X tg iter (tW L (WE W) dw)) (hg : PG X tg (gM L vs tup)) (hb : PSs X xs (tSM L W fb)) (hn : notSet iter = true) :
    PS X (.For tg iter xs [] pos) (tSM L W fun s m => lift (dw s m) s fun wk m1 => forL (fun m => wk.still L.g m) (fun x s m => bindT L.g vs tup x s m) fb wk.items s m1) := by
  refine PS.imp (ps_for hp hc hi hg hb (foldset_ok hn)) fun D σ H ⟨s, m, ρ, hs, S, h⟩ => ⟨s, m, ρ, hs, S, h.lift hs fun wk m1 ρ1 H1 J _ e1 S1 wok hs1 h1 => ?_⟩
  refine ⟨fun i n σ H => ∃ s m ρ', ρ1 <+: ρ' ∧ SimS L ρ' s σ ∧ Sim L ρ' m H ∧ i ≤ wk.items.length ∧ n = wk.items.length - i ∧ PostS L W D ρ' (forL (fun m => wk.still L.g m) (fun x s m => bindT L.g vs tup x s m) fb (wk.items.drop i) s m),
    ⟨_, s, m1, ρ1, List.prefix_refl _, hs1, S1, Nat.zero_le _, rfl, h1⟩, ?_⟩
  rintro i n σ2 H2 ⟨s2, m2, ρ2, e2, hs2, S3, hi, rfl, h2⟩
  cases hd : wk.items.drop i with
  | nil =>
    rw [hd] at h2
    unfold forL at h2
    split at h2
    · rename_i st
      have hl : i = wk.items.length := by
        have := congrArg List.length hd
        rw [List.length_drop, List.length_nil] at this
        omega
      subst hl
      exact .inl ⟨wok.stop ρ2 m2 H2 e2 S3 st, h2.next S3 hs2⟩
    · exact False.elim h2
  | cons x r =>
    have hx : wk.items[i]? = some x := by
      have := congrArg (fun l => l[0]?) hd
      simpa using this
    have hr : wk.items.drop (i + 1) = r := by
      rw [← List.tail_drop, hd]
      rfl
    have hil : i < wk.items.length := (List.getElem?_eq_some_iff.mp hx).1
    rw [hd] at h2
    unfold forL at h2
    split at h2
    · rename_i st
      obtain ⟨go, yl⟩ := wok.go i x ρ2 m2 H2 e2 S3 st hx
      refine .inr ⟨go, fun σ' H' => ∃ s m ρ', ρ1 <+: ρ' ∧ SimS L ρ' s σ' ∧ Sim L ρ' m H' ∧ PostS L W D ρ' (forL (fun m => wk.still L.g m) (fun x s m => bindT L.g vs tup x s m) fb (wk.items.drop (i + 1)) s m), ?_, ?_⟩
      · rintro σ' H' ⟨s, m, ρ', a1, a2, a3, a4⟩
        exact ⟨wk.items.length - (i + 1), by omega, s, m, ρ', a1, a2, a3, hil, rfl, a4⟩
      · intro v H' hy
        have ir := yl v H' hy
        cases hbd : bindT L.g vs tup x s2 m2 with
        | none => rw [hbd] at h2; exact False.elim h2
        | some s3 =>
          rw [hbd] at h2
          dsimp only at h2
          refine ⟨s2, m2, ρ2, x, s3, H2, hs2, S3, ir, hbd, fun σ' H'' S4 hs4 sb => ⟨s3, m2, ρ2, hs4, S4, ?_⟩⟩
          cases e3 : fb s3 m2 with
          | nx s4 m4 => rw [e3] at h2; rw [hr]; exact fun ρ' H' σ' e4 S5 hs5 => ⟨s4, m4, ρ', e2.trans e4, hs5, S5, PostS.mono h2 e4⟩
          | ct s4 m4 => rw [e3] at h2; rw [hr]; exact fun ρ' H' σ' e4 S5 hs5 => ⟨s4, m4, ρ', e2.trans e4, hs5, S5, PostS.mono h2 e4⟩
          | bk s4 m4 => rw [e3] at h2; exact h2
          | rt v m4 => rw [e3] at h2; exact h2
          | exc cc p s4 m4 => rw [e3] at h2; exact h2
          | bad => rw [e3] at h2; exact h2
    · exact False.elim h2
end
end
section
variable {L : Link} {k : Nat}
mutual
theorem soundS (FO : FOk L k) : ∀ (ir : IS) {X : Cx} {W : WX} {c : Ck} (LO : LOk L c.gl c.fns) (C : Ctx L k X W c) (hp : PassesOwn (model X.prog X.w) X.A X.env X.xe) (st : Stmt), chkS c ir st = true → PS X st (tSM L W (dS L.g (callD L.g k) (fmOf L.g k) ir))
  | .asg i e, X, W, c, LO, C, hp, st, h => by
    cases st <;> first
      | exact absurd (show false = true from h) Bool.false_ne_true
      | skip
    rename_i ts v pos
    rcases ts with _ | ⟨t, _ | ⟨t2, tr⟩⟩ <;> first
      | exact absurd (show false = true from h) Bool.false_ne_true
      | skip
    all_goals
      cases t <;> first
        | exact absurd (show false = true from h) Bool.false_ne_true
        | skip
    rename_i x p
    simp only [chkS, Bool.and_eq_true, decide_eq_true_eq] at h
    obtain ⟨⟨⟨h1, h2⟩, h3⟩, h4⟩ := h
    have he := soundE FO e LO C v h3
    by_cases hl : isLC v = true
    · cases v <;> first
        | exact absurd (show false = true from hl) Bool.false_ne_true
        | exact absurd (show false = true from h4) Bool.false_ne_true
        | skip
      rename_i elt gs scope vp
      simp only [Bool.and_eq_true, decide_eq_true_eq, Bool.not_eq_true'] at h4
      obtain ⟨⟨g1, g2⟩, g3⟩ := h4
      cases e <;> first
        | exact absurd (show false = true from h3) Bool.false_ne_true
        | skip
      rename_i ie vs tup it test
      rcases gs with _ | ⟨⟨tg, iter, ifs, (_ | n) | n⟩, _ | ⟨g2, gt⟩⟩ <;> first
        | exact absurd (show false = true from h3) Bool.false_ne_true
        | skip
      obtain ⟨wi, tt, te, own, q1, q2, q3, q4, q5, q6, q7⟩ := lc_pack FO LO C (fun LO C => soundE FO ie LO C) (fun LO C => soundT FO test LO C) (fun LO C => soundW FO it LO C) h3
      have hk : X.env.scope.names.lookup x = some .local := by rw [C.sc]; exact g2
      have hkind : X.env.scope.kind = .function := C.kind
      refine PS.imp (ps_setLc (i := i) C.calm (by rw [C.N]; exact C.nd) (slot_ok C h1) hk (sw_true hkind hk g1 g3) q1 q2 q3 q4 q5 q6) fun D σ H ⟨s, m, ρ, hs, S, h⟩ => ?_
      refine q7 σ H _ ⟨s, m, ρ, hs, S, PostS.lift h hs fun v m1 ρ1 H1 V1 _ e1 S1 r1 hs1 h1 => ?_⟩
      exact h1.next S1 (simS_set hs1 r1)
    · exact ss_asg C h1 h2 he (by simpa using hl)
  | .seti o i e, X, W, c, LO, C, hp, st, h => by
    cases st <;> first
      | exact absurd (show false = true from h) Bool.false_ne_true
      | skip
    rename_i ts v pos
    rcases ts with _ | ⟨t, _ | ⟨t2, tr⟩⟩ <;> first
      | exact absurd (show false = true from h) Bool.false_ne_true
      | skip
    all_goals
      cases t <;> first
        | exact absurd (show false = true from h) Bool.false_ne_true
        | skip
    simp only [chkS, Bool.and_eq_true] at h
    obtain ⟨⟨⟨⟨h1, h2⟩, h3⟩, h4⟩, h5⟩ := h
    exact ss_seti C (soundE FO o LO C _ h2) (soundE FO i LO C _ h3) (soundE FO e LO C _ h1) (by cases v <;> first | rfl | exact absurd (show false = true from h5) Bool.false_ne_true) h4
  | .unp is e, X, W, c, LO, C, hp, st, h => by
    cases st <;> first
      | exact absurd (show false = true from h) Bool.false_ne_true
      | skip
    rename_i ts v pos
    rcases ts with _ | ⟨t, _ | ⟨t2, tr⟩⟩ <;> first
      | exact absurd (show false = true from h) Bool.false_ne_true
      | skip
    all_goals
      cases t <;> first
        | exact absurd (show false = true from h) Bool.false_ne_true
        | skip
    simp only [chkS, Bool.and_eq_true] at h
    obtain ⟨⟨h1, h2⟩, h3⟩ := h
    exact ss_unp LO.c C h2 (soundE FO e LO C _ h1) (by cases v <;> first | rfl | exact absurd (show false = true from h3) Bool.false_ne_true) (by intro es j q z; subst z; exact absurd (show false = true from h3) Bool.false_ne_true)
  | .aug i op e, X, W, c, LO, C, hp, st, h => by
    cases st <;> first
      | exact absurd (show false = true from h) Bool.false_ne_true
      | skip
    rename_i t op' v pos
    cases t <;> first
      | exact absurd (show false = true from h) Bool.false_ne_true
      | skip
    simp only [chkS, Bool.and_eq_true, decide_eq_true_eq] at h
    obtain ⟨⟨⟨⟨h1, h2⟩, rfl⟩, h4⟩, h5⟩ := h
    exact ss_aug C h1 h2 h4 (soundE FO e LO C _ h5)
  | .ex e, X, W, c, LO, C, hp, st, h => by
    cases st <;> first
      | exact absurd (show false = true from h) Bool.false_ne_true
      | skip
    rename_i v pos
    simp only [chkS, Bool.and_eq_true] at h
    exact ss_ex (soundE FO e LO C _ h.1) (by cases v <;> first | rfl | exact absurd (show false = true from h.2) Bool.false_ne_true)
  | .ret e, X, W, c, LO, C, hp, st, h => by
    cases st <;> first
      | exact absurd (show false = true from h) Bool.false_ne_true
      | skip
    rename_i v pos
    cases v <;> first
      | exact absurd (show false = true from h) Bool.false_ne_true
      | skip
    exact ss_ret (soundE FO e LO C _ h)
  | .retn, X, W, c, LO, C, hp, st, h => by
    cases st <;> first
      | exact absurd (show false = true from h) Bool.false_ne_true
      | skip
    rename_i v pos
    cases v <;> first
      | exact absurd (show false = true from h) Bool.false_ne_true
      | skip
    exact ss_retn
  | .iff t a b, X, W, c, LO, C, hp, st, h => by
    cases st <;> first
      | exact absurd (show false = true from h) Bool.false_ne_true
      | skip
    simp only [chkS, Bool.and_eq_true] at h
    exact ss_iff (soundT FO t LO C _ h.1.1).w.1 (soundB FO a LO C hp _ h.1.2) (soundB FO b LO C hp _ h.2)
  | .whl t b, X, W, c, LO, C, hp, st, h => by
    cases st <;> first
      | exact absurd (show false = true from h) Bool.false_ne_true
      | skip
    rename_i x y z pos
    cases z <;> first
      | exact absurd (show false = true from h) Bool.false_ne_true
      | skip
    simp only [chkS, Bool.and_eq_true] at h
    exact ss_whl hp (soundT FO t LO C _ h.1).w.1 (soundB FO b LO C hp _ h.2)
  | .for vs tup it b, X, W, c, LO, C, hp, st, h => by
    cases st <;> first
      | exact absurd (show false = true from h) Bool.false_ne_true
      | skip
    rename_i tg iter body z pos
    cases z <;> first
      | exact absurd (show false = true from h) Bool.false_ne_true
      | skip
    simp only [chkS, Bool.and_eq_true] at h
    obtain ⟨⟨⟨⟨h1, h2⟩, h3⟩, h4⟩, h5⟩ := h
    refine ss_for hp C.calm (soundW FO it LO C tg iter (fun hw => ?_) h2) (tg_ok LO.c C h1) (soundB FO b LO C hp _ h4) h3
    cases tup with
    | false => rw [hw] at h5; cases h5
    | true => exact chkTg_tup h1
  | .brk, X, W, c, LO, C, hp, st, h => by
    cases st <;> first
      | exact absurd (show false = true from h) Bool.false_ne_true
      | exact PS.imp ps_break fun D σ H ⟨s, m, ρ, hs, S, h⟩ => h ρ H σ (List.prefix_refl _) S hs
  | .cont, X, W, c, LO, C, hp, st, h => by
    cases st <;> first
      | exact absurd (show false = true from h) Bool.false_ne_true
      | exact PS.imp ps_continue fun D σ H ⟨s, m, ρ, hs, S, h⟩ => h ρ H σ (List.prefix_refl _) S hs
  | .pass, X, W, c, LO, C, hp, st, h => by
    cases st <;> first
      | exact absurd (show false = true from h) Bool.false_ne_true
      | exact PS.imp ps_pass fun D σ H ⟨s, m, ρ, hs, S, h⟩ => h.next S hs
      | skip
    rename_i v pos
    cases v <;> first
      | exact absurd (show false = true from h) Bool.false_ne_true
      | skip
    rename_i kc j p
    cases kc <;> first
      | exact absurd (show false = true from h) Bool.false_ne_true
      | exact PS.imp ps_doc fun D σ H ⟨s, m, ρ, hs, S, h⟩ => h.next S hs
  | .never, X, W, c, LO, C, hp, st, h => ps_bad
  | .nil, X, W, c, LO, C, hp, st, h => by cases st <;> exact absurd (show false = true from h) Bool.false_ne_true
  | .seq a b, X, W, c, LO, C, hp, st, h => by cases st <;> exact absurd (show false = true from h) Bool.false_ne_true
  | .setf o f e, X, W, c, LO, C, hp, st, h => by cases st <;> exact absurd (show false = true from h) Bool.false_ne_true
  | .augf o f op e, X, W, c, LO, C, hp, st, h => by cases st <;> exact absurd (show false = true from h) Bool.false_ne_true
  | .augi o i op e, X, W, c, LO, C, hp, st, h => by cases st <;> exact absurd (show false = true from h) Bool.false_ne_true
  | .rais q e, X, W, c, LO, C, hp, st, h => by cases st <;> exact absurd (show false = true from h) Bool.false_ne_true
theorem soundB (FO : FOk L k) : ∀ (ir : IS) {X : Cx} {W : WX} {c : Ck} (LO : LOk L c.gl c.fns) (C : Ctx L k X W c) (hp : PassesOwn (model X.prog X.w) X.A X.env X.xe) (st : List Stmt), chkB c ir st = true → PSs X st (tSM L W (dS L.g (callD L.g k) (fmOf L.g k) ir))
  | .nil, X, W, c, LO, C, hp, [], h => ss_nil
  | .seq a b, X, W, c, LO, C, hp, x :: xs, h => by
    simp only [chkB, Bool.and_eq_true] at h
    exact ss_seq (soundS FO a LO C hp x h.1) (soundB FO b LO C hp xs h.2)
  | .nil, X, W, c, LO, C, hp, _ :: _, h => absurd (show false = true from h) Bool.false_ne_true
  | .seq a b, X, W, c, LO, C, hp, [], h => absurd (show false = true from h) Bool.false_ne_true
  | .asg _ _, X, W, c, LO, C, hp, st, h => by cases st <;> exact absurd (show false = true from h) Bool.false_ne_true
  | .setf _ _ _, X, W, c, LO, C, hp, st, h => by cases st <;> exact absurd (show false = true from h) Bool.false_ne_true
  | .seti _ _ _, X, W, c, LO, C, hp, st, h => by cases st <;> exact absurd (show false = true from h) Bool.false_ne_true
  | .unp _ _, X, W, c, LO, C, hp, st, h => by cases st <;> exact absurd (show false = true from h) Bool.false_ne_true
  | .aug _ _ _, X, W, c, LO, C, hp, st, h => by cases st <;> exact absurd (show false = true from h) Bool.false_ne_true
  | .augf _ _ _ _, X, W, c, LO, C, hp, st, h => by cases st <;> exact absurd (show false = true from h) Bool.false_ne_true
  | .augi _ _ _ _, X, W, c, LO, C, hp, st, h => by cases st <;> exact absurd (show false = true from h) Bool.false_ne_true
  | .ex _, X, W, c, LO, C, hp, st, h => by cases st <;> exact absurd (show false = true from h) Bool.false_ne_true
  | .ret _, X, W, c, LO, C, hp, st, h => by cases st <;> exact absurd (show false = true from h) Bool.false_ne_true
  | .retn, X, W, c, LO, C, hp, st, h => by cases st <;> exact absurd (show false = true from h) Bool.false_ne_true
  | .iff _ _ _, X, W, c, LO, C, hp, st, h => by cases st <;> exact absurd (show false = true from h) Bool.false_ne_true
  | .whl _ _, X, W, c, LO, C, hp, st, h => by cases st <;> exact absurd (show false = true from h) Bool.false_ne_true
  | .for _ _ _ _, X, W, c, LO, C, hp, st, h => by cases st <;> exact absurd (show false = true from h) Bool.false_ne_true
  | .brk, X, W, c, LO, C, hp, st, h => by cases st <;> exact absurd (show false = true from h) Bool.false_ne_true
  | .cont, X, W, c, LO, C, hp, st, h => by cases st <;> exact absurd (show false = true from h) Bool.false_ne_true
  | .pass, X, W, c, LO, C, hp, st, h => by cases st <;> exact absurd (show false = true from h) Bool.false_ne_true
  | .rais _ _, X, W, c, LO, C, hp, st, h => by cases st <;> exact absurd (show false = true from h) Bool.false_ne_true
  | .never, X, W, c, LO, C, hp, st, h => by cases st <;> exact absurd (show false = true from h) Bool.false_ne_true
end
end
end Mi

set_option Elab.async false
set_option maxRecDepth 100000
set_option linter.all false
set_option maxHeartbeats 4000000
set_option autoImplicit false
namespace Mi
open PySem PySem.Spec PyProof.Rows L2
structure FS (L : Link) (gl : List (Str × MV)) (fns : List Str) (f : Nat) (F : FnI) : Prop where
  ex : ∃ (x : Str) (st : Stmt), Fun L.K x F.qual st (L.fa f) (L.fd f) ∧ FnScope F.N F.ps (defScope st) ∧ chkB ⟨defScope st, F.N, gl, fns, true⟩ F.body (defBody st) = true
theorem sim_start {L : Link} {ρ : List Addr} : ∀ {ms : List MV} {vs : List V} (n : Nat), RelL L ρ ms vs → SimS L ρ (ms.map some ++ List.replicate n none) (vs.map some ++ List.replicate n none)
  | _, _, n, .nil => ⟨by simp, fun i v h => by
      have := List.mem_of_getElem? h
      simp at this⟩
  | _, _, n, .cons r t => by
    have ih := sim_start n t
    refine ⟨by simpa using ih.1, fun i v h => ?_⟩
    cases i with
    | zero => simp at h; subst h; exact ⟨_, by simp, r⟩
    | succ i => simp at h; obtain ⟨V1, a, b⟩ := ih.2 i v (by simpa using h); exact ⟨V1, by simpa using a, b⟩
theorem fok {L : Link} {gl : List (Str × MV)} {fns : List Str} (LO : LOk L gl fns) (all : ∀ f F, L.g.fns[f]? = some F → FS L gl fns f F) : ∀ k, FOk L k := by
  intro k
  induction k with
  | zero =>
    intro j f F hj hF
    obtain rfl : j = 0 := Nat.le_zero.mp hj
    exact ⟨fun vs H Q E ⟨ms, m, ρ, r, S, h⟩ => False.elim h, fun A outer s H args us vs Q E p0 p1 p2 p3 ⟨ms, m, ρ, r, S, h⟩ => False.elim h⟩
  | succ k ih =>
    intro j f F hj hF
    by_cases hjk : j ≤ k
    · exact ih j f F hjk hF
    · obtain rfl : j = k + 1 := by omega
      obtain ⟨x, st, hfun, hsc, hchk⟩ := (all f F hF).ex
      have len : ∀ vs H Q E, spD L (k + 1) f vs H Q E → vs.length = F.ps.length := fun vs H Q E ⟨ms, m, ρ, r, S, h⟩ => by
        rw [callD_succ] at h
        unfold callB at h
        rw [hF] at h
        dsimp only at h
        split at h
        · rename_i hl; rw [← relL_len r]; exact hl
        · exact False.elim h
      refine hfun.okX hsc len fun cdv A outer s H vs Q E hr h => ?_
      obtain ⟨ms, m, ρ, r, S, h⟩ := h
      have hlen := relL_len r
      rw [callD_succ] at h
      unfold callB at h
      rw [hF] at h
      dsimp only at h
      split at h
      · rename_i hl
        refine ⟨_, soundB ih F.body (W := fun cls d _ H => E cls d H) (c := ⟨defScope st, F.N, gl, fns, true⟩) LO ⟨rfl, rfl, rfl, rfl, rfl, rfl, hsc.nd, rfl, hsc.kind, rfl, hr, takes_of rfl rfl rfl rfl, fun _ _ => rfl⟩ (passes_of rfl) (defBody st) hchk, ?_⟩
        refine ⟨startM F.N.length ms, m, ρ, ?_, S, ?_⟩
        · unfold startM L2.start
          rw [hlen]
          exact sim_start _ r
        · cases e : dS L.g (callD L.g k) (fmOf L.g k) F.body (startM F.N.length ms) m with
          | nx s1 m1 => rw [e] at h; exact fun ρ' H' σ' e1 S1 _ => h ρ' H' .non e1 S1 rfl
          | rt v m1 => rw [e] at h; exact fun ρ' H' V1 e1 S1 r1 => h ρ' H' V1 e1 S1 r1
          | exc cc p s1 m1 => rw [e] at h; exact fun ρ' H' σ' d e1 S1 _ q => h ρ' H' d e1 S1 q
          | bk s1 m1 => rw [e] at h; exact False.elim h
          | ct s1 m1 => rw [e] at h; exact False.elim h
          | bad => rw [e] at h; exact False.elim h
      · exact False.elim h
/-- the law's promise -/
def spLaw (K : PySem.W.Frag) : Sp := fun vs H Q _ => ∃ (a : Addr) (ns : List Int), vs = [.ref a] ∧ SqL K H a (ns.map V.int) ∧ Only H ∧ ns.length ≤ 63 ∧ (∀ z ∈ ns, Builtin.Int.intBits z ≤ 1048576) ∧ ∀ H', Q (.bl true) H'
/-- the law holds of the code: what is left to be shown -/
def LawOk (g : G) (k f : Nat) : Prop := ∀ ns : List Int, ns.length ≤ 63 → (∀ z ∈ ns, Builtin.Int.intBits z ≤ 1048576) → ∃ m, callD g k f [.ref 0] [.fz (ns.map .int)] = .ok (.bl true) m
theorem rel_ints {L : Link} {ρ : List Addr} : ∀ (ns : List Int), RelL L ρ (ns.map .int) (ns.map .int)
  | [] => .nil
  | n :: r => .cons rfl (rel_ints r)
theorem law_sp {L : Link} {k f : Nat} (hl : LawOk L.g k f) : ∀ vs H Q E, spLaw L.K vs H Q E → spD L k f vs H Q E := by
  rintro vs H Q E ⟨a, ns, rfl, hs, ho, h63, hb, hq⟩
  obtain ⟨m, hm⟩ := hl ns h63 hb
  refine ⟨[.ref 0], [.fz (ns.map .int)], [a], .cons ⟨a, rfl, rfl⟩ .nil, ⟨rfl, fun i j b oi oj h1 h2 h3 h4 f1 f2 => ?_, fun i b o h1 h2 => ?_⟩, ?_⟩
  · cases i with
    | zero => simp at h3; subst h3; cases f1
    | succ i => simp at h3
  · cases i with
    | zero =>
      simp at h1 h2
      subst h1 h2
      refine ⟨ns.map .int, rel_ints ns, ?_⟩
      rcases hs with (hs | ⟨o, hs⟩) | hs
      · rcases ho a with h | ⟨o, xs, h⟩
        · rw [h] at hs; cases hs
        · rw [h] at hs; cases hs
      · exact .inl ⟨o, hs⟩
      · exact .inr hs
    | succ i => simp at h1
  · rw [hm]
    exact fun ρ' H' V1 _ _ r => by cases r; exact hq H'
theorem walkM {l : PySem.W.OpenLaw} {q : Program} {loose : List Str} {XP : (Str → Option Value) → Heap → Prop} {YP : World → Heap → Prop} {d : DefRec} {K : Params → PySem.W.Frag} {k : Nat} {x : Str} (hn : l.most = some 63) (hdf : d.params.defaults = []) (hr : Room k callerA)
    (hY : ∀ (w : World) (h : Heap), YP w h → (K w.params).In h)
    (F : ∀ (w : World) (mg : Str → Option Value) (fa : Addr) (h : Heap), (K w.params).In h → h.Ns mainGlobals mg → mg d.name = some (.ref fa) →
      ∃ fd : FuncData, (∀ (s : Shared) (u : Value), BindsTo s fd ⟨[u], []⟩ [(x, u)]) ∧ ∀ base : Heap, (K w.params).In base → base.Ns mainGlobals mg → FnOk l.prog w (K w.params) mg base (L2.CX l.prog w) k fa fd [x] (spLaw (K w.params))) :
    PySem.W.WalkO q loose XP YP l.row.toRowW d [] (fun f vs => PySem.call f vs) :=
  walk_ofB (n := 63) (k := k) (x := x) (CX := fun w => L2.CX l.prog w) (sp := fun w => spLaw (K w.params)) hn (by decide) hdf hr hY F (fun w H a ns hl hb ho hS => ⟨a, ns, rfl, hS, ho, hl, hb, fun _ => rfl⟩) fun w H s e s' z => by
    obtain ⟨_, _, _, _, _, _, _, _, _, _, _, _, z⟩ := z
    exact z.elim
end Mi

set_option Elab.async false
set_option maxRecDepth 100000
set_option linter.all false
set_option maxHeartbeats 4000000
set_option autoImplicit false
namespace Mi
open PySem PySem.Spec PyProof.Rows L2
/-- for every place of a list -/
def AllF {α : Type} (P : Nat → α → Prop) : Nat → List α → Prop
  | _, [] => True
  | i, x :: r => P i x ∧ AllF P (i + 1) r
theorem AllF.get {α : Type} {P : Nat → α → Prop} : ∀ {l : List α} {i j : Nat} {x : α}, AllF P i l → l[j]? = some x → P (i + j) x
  | [], _, _, _, _, h => by simp at h
  | y :: r, i, 0, x, ⟨a, _⟩, h => by simp at h; subst h; exact a
  | y :: r, i, j + 1, x, ⟨_, b⟩, h => by
    have := AllF.get (i := i + 1) (j := j) b (by simpa using h)
    rw [show i + (j + 1) = i + 1 + j by omega]
    exact this
theorem allFrom2 {α : Type} {P : Nat → α → Prop} {l : List α} (h : AllF P 0 l) : ∀ (f : Nat) (x : α), l[f]? = some x → P f x := fun f x e => by
  have := h.get e
  rwa [Nat.zero_add] at this
def AllG (P : Str → MV → Prop) : List (Str × MV) → Prop
  | [] => True
  | p :: r => P p.1 p.2 ∧ AllG P r
theorem allGl {P : Str → MV → Prop} : ∀ {l : List (Str × MV)}, AllG P l → ∀ x v, l.lookup x = some v → P x v
  | [], _, _, _, h => by simp at h
  | (y, u) :: r, ⟨a, b⟩, x, v, h => by
    by_cases e : x = y
    · subst e
      rw [List.lookup_cons_self] at h
      cases h
      exact a
    · have hb : (x == y) = false := beq_eq_false_iff_ne.mpr e
      simp only [List.lookup, hb] at h
      exact allGl b x v h
/-- a written dict with text keys -/
def EsRel : List DictEntry → List (Str × MV) → Prop
  | [], [] => True
  | e :: r, p :: s => ((∃ t, e.key = .str p.1 t) ∧ match p.2 with
    | .int i => ∃ t, e.val = .int i t
    | .str x => ∃ t, e.val = .str x t
    | _ => False) ∧ EsRel r s
  | _, _ => False
theorem es_find {L : Link} : ∀ {es : List DictEntry} {kvs : List (Str × MV)}, EsRel es kvs → ∀ z : Str, (∀ v, lookS z kvs = some v → ∃ e V, es.find? (fun e => e.key.isStr z) = some e ∧ RelV V e.val ∧ RelM L [] v V) ∧ (lookS z kvs = none → es.find? (fun e => e.key.isStr z) = none) ∧ es.any (·.refKey) = false
  | [], [], _, z => ⟨fun v h => (nomatch h), fun _ => rfl, rfl⟩
  | [], _ :: _, h, _ => h.elim
  | _ :: _, [], h, _ => h.elim
  | e :: es, p :: kvs, hh, z => by
    obtain ⟨⟨⟨t, hk⟩, hv⟩, hr⟩ := hh
    obtain ⟨h1, h2, h3⟩ := es_find (L := L) hr z
    obtain ⟨x, u⟩ := p
    have rk : e.refKey = false := by simp [DictEntry.refKey, hk]
    have an : (e :: es).any (·.refKey) = false := by rw [List.any_cons, rk, h3]; rfl
    have ik : e.key.isStr z = decide (x = z) := by
      rw [PySem.W.isStr_of, hk]
      by_cases q : x = z
      · subst q; simp [Value.isStrOf]
      · simp [Value.isStrOf, q]
    by_cases q : x = z
    · subst q
      have f : (e :: es).find? (fun e => e.key.isStr x) = some e := by rw [List.find?_cons, ik]; simp
      refine ⟨fun v h => ?_, fun h => ?_, an⟩
      · simp only [lookS, if_pos] at h
        cases h
        refine ⟨e, ?_⟩
        cases u with
        | int i => obtain ⟨t, hv⟩ := hv; exact ⟨.int i, f, ⟨t, hv⟩, rfl⟩
        | str i => obtain ⟨t, hv⟩ := hv; exact ⟨.str i, f, ⟨t, hv⟩, rfl⟩
        | _ => exact hv.elim
      · simp [lookS] at h
    · have f : (e :: es).find? (fun e => e.key.isStr z) = es.find? (fun e => e.key.isStr z) := by rw [List.find?_cons, ik]; simp [q]
      rw [f]
      refine ⟨fun v h => h1 v ?_, fun h => h2 ?_, an⟩
      · simpa [lookS, q] using h
      · simpa [lookS, q] using h
theorem ns_es {L : Link} {d : Addr} {es : Array DictEntry} {n : Nat} {kvs : List (Str × MV)} (hl : L.K.lookup d = some ⟨.type "dict", none, .dict es n, #[]⟩) (r : EsRel es.toList kvs) :
    ∀ z, (∀ v, lookS z kvs = some v → ∃ u V, PySem.W.nsIn L.K d z = some (some u) ∧ RelV V u ∧ RelM L [] v V) ∧ (lookS z kvs = none → PySem.W.nsIn L.K d z = some none) := by
  intro z
  obtain ⟨h1, h2, h3⟩ := es_find (L := L) r z
  refine ⟨fun v h => ?_, fun h => ?_⟩
  · obtain ⟨e, V1, a, b, c⟩ := h1 v h
    refine ⟨e.val, V1, ?_, b, c⟩
    unfold PySem.W.nsIn
    rw [hl]
    dsimp only
    rw [a]
  · unfold PySem.W.nsIn
    rw [hl]
    dsimp only
    rw [h2 h, h3]
    rfl
def TupOk (L : Link) (c : Nat) (x : CO) : Prop := ∀ xs, x = .tup xs → ∃ ys, RelL L [] xs ys ∧ ∃ (o : Obj) (its : Array Value) (n : Nat), L.K.lookup (L.ka c) = some o ∧ o.cls = .type "tuple" ∧ o.data = .seq its n ∧ its.size ≤ sizeLine ∧ Vals ys its.toList
def DsOk (L : Link) (c : Nat) (x : CO) : Prop := ∀ kvs, x = .dS kvs → ∃ es n, KDict L.K L.w (L.ka c) es n ∧
    ∀ z, (∀ v, lookS z kvs = some v → ∃ u V, PySem.W.nsIn L.K (L.ka c) z = some (some u) ∧ RelV V u ∧ RelM L [] v V) ∧ (lookS z kvs = none → PySem.W.nsIn L.K (L.ka c) z = some none)
def GlOk (L : Link) (x : Str) (v : MV) : Prop := ∃ u V, L.mg x = some u ∧ RelV V u ∧ RelM L [] v V
def FnLk (L : Link) (f : Nat) (x : Str) : Prop := L.mg x = some (.ref (L.fa f)) ∧ PySem.W.keepIn L.K (.ref (L.fa f)) = true ∧ ∃ F, L.g.fns[f]? = some F ∧ Binds L.K (L.fd f) F.ps []
theorem lok_mk {L : Link} {gl : List (Str × MV)} {fns : List Str} (h1 : AllF (TupOk L) 0 L.g.cst) (h2 : AllF (DsOk L) 0 L.g.cst) (h3 : L.g.an.Nodup) (h4 : AllG (GlOk L) gl)
    (h5 : ∀ x ∈ (["len", "str", "int", "max", "min", "all", "any", "sum", "tuple", "list", "abs", "sorted", "dict", "isinstance", "range", "enumerate", "zip", "bool"] : List Str), L.mg x = none) (h6 : AllF (FnLk L) 0 fns) : LOk L gl fns :=
  ⟨⟨fun c xs h => allFrom2 h1 c _ h xs rfl, fun c kvs h => allFrom2 h2 c _ h kvs rfl, h3⟩, fun x v h => allGl h4 x v h, h5, fun f x h => allFrom2 h6 f x h⟩
theorem all_fs {L : Link} {gl : List (Str × MV)} {fns : List Str} (h : AllF (FS L gl fns) 0 L.g.fns) : ∀ f F, L.g.fns[f]? = some F → FS L gl fns f F := fun f F e => allFrom2 h f F e
end Mi

set_option Elab.async false
set_option maxRecDepth 100000
set_option linter.all false
set_option maxHeartbeats 4000000
set_option autoImplicit false
namespace Mi
open PySem PySem.Spec PyProof.Rows L2
section
variable {g : G} {fc fm : Nat → List MV → MH → Rs MV} {s s1 : MS} {m m1 m2 m3 m4 m5 : MH} {a b c : IE} {es : IEs} {x y z v w : MV} {xs ys : List MV} {k k' : Bool} {r : Rs MV} {rb' : Rs Bool}
theorem ev_call {lv f : Nat} {vs : List MV} {nm q : Str} {ps N : List Str} {B : IS} {fl : Fl} (hF : g.fns[f]? = some ⟨nm, q, ps, N, B⟩) (hl : vs.length = ps.length) (hb : dS g (callD g lv) (fmOf g lv) B (startM N.length vs) m = fl) (hr : fl.back = r) : callD g (lv + 1) f vs m = r := by
  rw [callD_succ]
  unfold callB
  rw [hF]
  dsimp only
  rw [if_pos hl, hb, hr]
theorem ev_var {i : Nat} (h : s[i]? = some (some v)) : dE g fc fm (.var i) s m = .ok v m := by simp only [dE, h]
theorem ev_con : dE g fc fm (.con v) s m = .ok v m := rfl
theorem ev_glo : dE g fc fm (.glo v) s m = .ok v m := rfl
theorem ev_bin {op : Operator} (h1 : dE g fc fm a s m = .ok x m1) (h2 : dE g fc fm b s m1 = .ok y m2) (h3 : bop op x y m2 = r) : dE g fc fm (.bin op a b) s m = r := by simp only [dE, h1, Rs.bind, h2, h3]
theorem ev_neg {i : Int} (h1 : dE g fc fm a s m = .ok (.int i) m1) : dE g fc fm (.neg a) s m = .ok (.int (-i)) m1 := by simp only [dE, h1, Rs.bind]
theorem ev_cmp {op : CmpOp} (h1 : dE g fc fm a s m = .ok x m1) (h2 : dE g fc fm b s m1 = .ok y m2) (h3 : cop g op x y m2 = r) : dE g fc fm (.cmp op a b) s m = r := by simp only [dE, h1, Rs.bind, h2, h3]
theorem ev_isn {ps : Bool} (h1 : dE g fc fm a s m = .ok x m1) (h2 : (if ps then decide (x = .non) else !decide (x = .non)) = k) : dE g fc fm (.isn ps a) s m = .ok (.bl k) m1 := by simp only [dE, h1, Rs.bind, h2]
theorem ev_nt (h1 : dE g fc fm a s m = .ok x m1) (h2 : truth g m1 x = some k) : dE g fc fm (.nt a) s m = .ok (.bl (!k)) m1 := by simp only [dE, h1, Rs.bind, h2]
theorem ev_an (h1 : dE g fc fm a s m = .ok x m1) (h2 : truth g m1 x = some k) (h3 : (match k with | true => dE g fc fm b s m1 | false => .ok x m1) = r) : dE g fc fm (.an a b) s m = r := by
  simp only [dE, h1, Rs.bind, h2]
  rw [← h3]
  cases k <;> rfl
theorem ev_orr (h1 : dE g fc fm a s m = .ok x m1) (h2 : truth g m1 x = some k) (h3 : (match k with | true => .ok x m1 | false => dE g fc fm b s m1) = r) : dE g fc fm (.orr a b) s m = r := by
  simp only [dE, h1, Rs.bind, h2]
  rw [← h3]
  cases k <;> rfl
theorem ev_one (h1 : dE g fc fm a s m = r) : dE g fc fm (.one a) s m = r := by simp only [dE, h1]
theorem ev_ife (h1 : dT g fc fm c s m = .ok k m1) (h3 : (match k with | true => dE g fc fm a s m1 | false => dE g fc fm b s m1) = r) : dE g fc fm (.ife c a b) s m = r := by
  simp only [dE, h1, Rs.bind]
  rw [← h3]
  cases k <;> rfl
theorem ev_lst (h1 : dA g fc fm es s m = .ok xs m1) (h2 : xs.length ≤ sizeLine) : dE g fc fm (.lst es) s m = .ok (.ref m1.length) (m1 ++ [.lst xs]) := by simp only [dE, h1, Rs.bind, if_pos h2, new]
theorem ev_tup (h1 : dA g fc fm es s m = .ok xs m1) (h2 : xs.length ≤ sizeLine) : dE g fc fm (.tup es) s m = .ok (.ref m1.length) (m1 ++ [.tup xs]) := by simp only [dE, h1, Rs.bind, if_pos h2, new]
theorem ev_ix (h1 : dE g fc fm a s m = .ok x m1) (h2 : dE g fc fm b s m1 = .ok y m2) (h3 : ixM g x y m2 = r) : dE g fc fm (.ix a b) s m = r := by simp only [dE, h1, Rs.bind, h2, h3]
theorem ev_sl {lo hi : Option Int} {p q : IE} (h1 : dE g fc fm a s m = .ok x m1) (h2 : dP g fc fm p s m1 = .ok lo m2) (h3 : dP g fc fm q s m2 = .ok hi m3) (h4 : slM x lo hi m3 = r) : dE g fc fm (.sl a p q) s m = r := by simp only [dE, h1, Rs.bind, h2, h3, h4]
theorem ev_p0 : dP g fc fm .nopart s m = .ok none m := rfl
theorem ev_p1 {i : Int} : dP g fc fm (.con (.int i)) s m = .ok (some i) m := rfl
theorem ev_p2 {i : Int} (h1 : dE g fc fm a s m = .ok (.int i) m1) : dP g fc fm (.neg a) s m = .ok (some (-i)) m1 := by simp only [dP, h1, Rs.bind]
theorem ev_p3 {i : Nat} {j : Int} (h : s[i]? = some (some (.int j))) : dP g fc fm (.var i) s m = .ok (some j) m := by simp only [dP, h]
theorem ev_callE {f : Nat} (h1 : dA g fc fm es s m = .ok xs m1) (h2 : fc f xs m1 = r) : dE g fc fm (.call f es) s m = r := by simp only [dE, h1, Rs.bind, h2]
theorem ev_blt {f : Blt} (h1 : dA g fc fm es s m = .ok xs m1) (h2 : bltM g f xs m1 = r) : dE g fc fm (.blt f es) s m = r := by simp only [dE, h1, Rs.bind, h2]
theorem ev_bm {f : Bm} (h1 : dE g fc fm a s m = .ok x m1) (h2 : bmTy f m1 x = true) (h3 : dA g fc fm es s m1 = .ok xs m2) (h4 : bmM g f x xs m2 = r) : dE g fc fm (.bm a f es) s m = r := by simp only [dE, h1, Rs.bind, h2, h3, h4]
theorem ev_isi {j : Knd} (h1 : dE g fc fm a s m = .ok x m1) (h2 : isiM g j m1 x = some k) : dE g fc fm (.isi a j) s m = .ok (.bl k) m1 := by simp only [dE, h1, Rs.bind, h2, rb]
theorem ev_lc {elt it t : IE} {vs : List Nat} {tup : Bool} {wk : Wk} (h1 : dW g fc fm it s m = .ok wk m1) (h2 : lcL (fun m => wk.still g m) (fun x s m => bindT g vs tup x s m) (dT g fc fm t) (dE g fc fm elt) m1.length (wipeM s vs) wk.items (m1 ++ [.lst []]) = r) : dE g fc fm (.lc elt vs tup it t) s m = r := by simp only [dE, h1, Rs.bind, h2]
theorem ev_fld {f : Nat} (h1 : dE g fc fm a s m = .ok x m1) (h2 : fldM m1 x f = some v) : dE g fc fm (.fld a f) s m = .ok v m1 := by simp only [dE, h1, Rs.bind, h2]
theorem ev_meth {n f : Nat} (h1 : dE g fc fm a s m = .ok x m1) (h2 : methM g m1 x n = some f) (h3 : dA g fc fm es s m1 = .ok xs m2) (h4 : fc f (x :: xs) m2 = r) : dE g fc fm (.meth a n es) s m = r := by simp only [dE, h1, Rs.bind, h2, h3, h4]
theorem ev_a0 : dA g fc fm .nil s m = .ok [] m := rfl
theorem ev_a1 (h1 : dE g fc fm a s m = .ok x m1) (h2 : dA g fc fm es s m1 = .ok xs m2) : dA g fc fm (.cons a es) s m = .ok (x :: xs) m2 := by simp only [dA, h1, Rs.bind, h2]
theorem ev_chn {op op' : CmpOp} (h1 : dE g fc fm a s m = .ok x m1) (h2 : dE g fc fm b s m1 = .ok y m2) (h3 : cop g op x y m2 = .ok (.bl k) m3) (h4 : (match k with | true => (dE g fc fm c s m3).bind fun w m4 => cop g op' y w m4 | false => .ok (.bl false) m3) = r) : dE g fc fm (.chn op op' a b c) s m = r := by
  simp only [dE, h1, Rs.bind, h2, h3]
  rw [← h4]
  cases k <;> rfl
theorem ev_bind {α β : Type} {p : Rs α} {f : α → MH → Rs β} {u : α} {q : Rs β} (h1 : p = .ok u m) (h2 : f u m = q) : p.bind f = q := by rw [h1]; exact h2
-- tests
theorem et_nt (h1 : dT g fc fm a s m = .ok k m1) : dT g fc fm (.nt a) s m = .ok (!k) m1 := by simp only [dT, h1, Rs.bind]
theorem et_an (h1 : dT g fc fm a s m = .ok k m1) (h3 : (match k with | true => dT g fc fm b s m1 | false => .ok false m1) = rb') : dT g fc fm (.an a b) s m = rb' := by
  simp only [dT, h1, Rs.bind]
  rw [← h3]
  cases k <;> rfl
theorem et_orr (h1 : dT g fc fm a s m = .ok k m1) (h3 : (match k with | true => .ok true m1 | false => dT g fc fm b s m1) = rb') : dT g fc fm (.orr a b) s m = rb' := by
  simp only [dT, h1, Rs.bind]
  rw [← h3]
  cases k <;> rfl
theorem et_one (h1 : dT g fc fm a s m = rb') : dT g fc fm (.one a) s m = rb' := by simp only [dT, h1]
theorem et_no : dT g fc fm .nopart s m = .ok true m := rfl
theorem et_cmp {op : CmpOp} (h1 : dE g fc fm a s m = .ok x m1) (h2 : dE g fc fm b s m1 = .ok y m2) (h3 : cop g op x y m2 = .ok (.bl k) m3) : dT g fc fm (.cmp op a b) s m = .ok k m3 := by simp only [dT, h1, Rs.bind, h2, h3]
theorem et_isn {ps : Bool} (h1 : dE g fc fm a s m = .ok x m1) (h2 : (if ps then decide (x = .non) else !decide (x = .non)) = k) : dT g fc fm (.isn ps a) s m = .ok k m1 := by simp only [dT, h1, Rs.bind, h2]
theorem et_chn {op op' : CmpOp} (h1 : dE g fc fm a s m = .ok x m1) (h2 : dE g fc fm b s m1 = .ok y m2) (h3 : cop g op x y m2 = .ok (.bl k) m3) (h4 : (match k with | true => ((dE g fc fm c s m3).bind fun w m4 => cop g op' y w m4).bind fun z m5 => (match z with | MV.bl k => Rs.ok k m5 | _ => Rs.bad) | false => .ok false m3) = rb') : dT g fc fm (.chn op op' a b c) s m = rb' := by
  simp only [dT, h1, Rs.bind, h2, h3]
  rw [← h4]
  cases k with
  | true =>
    dsimp only
    cases dE g fc fm c s m3 <;> rfl
  | false => rfl
theorem et_var {i : Nat} (h : s[i]? = some (some v)) (h2 : truth g m v = some k) : dT g fc fm (.var i) s m = .ok k m := by simp only [dT, h, h2]
theorem et_call {f : Nat} (h1 : dA g fc fm es s m = .ok xs m1) (h2 : fc f xs m1 = .ok x m2) (h3 : truth g m2 x = some k) : dT g fc fm (.call f es) s m = .ok k m2 := by simp only [dT, h1, Rs.bind, h2, h3]
theorem et_blt {f : Blt} (h1 : dA g fc fm es s m = .ok xs m1) (h2 : bltM g f xs m1 = .ok x m2) (h3 : truth g m2 x = some k) : dT g fc fm (.blt f es) s m = .ok k m2 := by simp only [dT, h1, Rs.bind, h2, h3]
theorem et_isi {j : Knd} (h1 : dE g fc fm a s m = .ok x m1) (h2 : isiM g j m1 x = some k) : dT g fc fm (.isi a j) s m = .ok k m1 := by simp only [dT, h1, Rs.bind, h2]
-- walks
theorem ew_l (h1 : dE g fc fm a s m = .ok x m1) (h2 : gl m1 x = some xs) : dW g fc fm (.wl a) s m = .ok (.lst x xs) m1 := by simp only [dW, h1, Rs.bind, h2]
theorem ew_t (h1 : dE g fc fm a s m = .ok x m1) (h2 : gl m1 x = none) (h3 : gt g m1 x = some xs) : dW g fc fm (.wl a) s m = .ok (.tup x xs) m1 := by simp only [dW, h1, Rs.bind, h2, h3]
theorem ew_r1 {j : Int} (h1 : dE g fc fm a s m = .ok (.int j) m1) (h2 : -(2 ^ 62) ≤ j ∧ j < 2 ^ 62) : dW g fc fm (.wr1 a) s m = .ok (.rng 0 j.toNat) m1 := by simp only [dW, h1, Rs.bind, if_pos h2]
theorem ew_r2 {i j : Int} (h1 : dE g fc fm a s m = .ok (.int i) m1) (h0 : dE g fc fm b s m1 = .ok (.int j) m2) (h2 : -(2 ^ 62) ≤ i ∧ i < 2 ^ 62 ∧ -(2 ^ 62) ≤ j ∧ j < 2 ^ 62) : dW g fc fm (.wr2 a b) s m = .ok (.rng i (j - i).toNat) m2 := by simp only [dW, h1, h0, Rs.bind, if_pos h2]
theorem ew_en (h1 : dE g fc fm a s m = .ok x m1) (h2 : gl m1 x = some xs) : dW g fc fm (.wen a) s m = .ok (.enm x xs) m1 := by simp only [dW, h1, Rs.bind, h2]
-- statements
variable {A B : IS} {fl : Fl}
theorem es_nil : dS g fc fm .nil s m = .nx s m := rfl
theorem es_seq (h1 : dS g fc fm A s m = .nx s1 m1) (h2 : dS g fc fm B s1 m1 = fl) : dS g fc fm (.seq A B) s m = fl := by simp only [dS, h1, h2]
theorem es_seqR (h1 : dS g fc fm A s m = .rt v m1) : dS g fc fm (.seq A B) s m = .rt v m1 := by simp only [dS, h1]
theorem es_asg {i : Nat} (h1 : dE g fc fm a s m = .ok v m1) : dS g fc fm (.asg i a) s m = .nx (s.set i (some v)) m1 := by simp only [dS, h1, lift]
theorem es_ex (h1 : dE g fc fm a s m = .ok v m1) : dS g fc fm (.ex a) s m = .nx s m1 := by simp only [dS, h1, lift]
theorem es_ret (h1 : dE g fc fm a s m = .ok v m1) : dS g fc fm (.ret a) s m = .rt v m1 := by simp only [dS, h1, lift]
theorem es_iff (h1 : dT g fc fm c s m = .ok k m1) (h2 : (match k with | true => dS g fc fm A s m1 | false => dS g fc fm B s m1) = fl) : dS g fc fm (.iff c A B) s m = fl := by
  simp only [dS, h1, lift]
  rw [← h2]
  cases k <;> rfl
theorem es_unp {is : List Nat} (h1 : dE g fc fm a s m = .ok v m1) (h2 : gt g m1 v = some xs) (h3 : setAll is xs s = some s1) : dS g fc fm (.unp is a) s m = .nx s1 m1 := by simp only [dS, h1, lift, h2, h3]
theorem es_aug {i : Nat} {op : Operator} (h0 : s[i]? = some (some x)) (h1 : dE g fc fm a s m = .ok y m1) (h2 : augM op x y = some v) : dS g fc fm (.aug i op a) s m = .nx (s.set i (some v)) m1 := by simp only [dS, h0, h1, lift, h2]
theorem es_seti (h1 : dE g fc fm c s m = .ok v m1) (h2 : dE g fc fm a s m1 = .ok x m2) (h3 : dE g fc fm b s m2 = .ok y m3) (h4 : setM x y v m3 = some m4) : dS g fc fm (.seti a b c) s m = .nx s m4 := by simp only [dS, h1, lift, h2, h3, h4]
theorem es_for {vs : List Nat} {tup : Bool} {wk : Wk} (h1 : dW g fc fm a s m = .ok wk m1) (h2 : forL (fun m => wk.still g m) (fun x s m => bindT g vs tup x s m) (dS g fc fm B) wk.items s m1 = fl) : dS g fc fm (.for vs tup a B) s m = fl := by simp only [dS, h1, lift, h2]
theorem es_whl (h2 : whl (dT g fc fm c) (dS g fc fm B) loopFuel s m = fl) : dS g fc fm (.whl c B) s m = fl := by simp only [dS, h2]
-- which way
theorem mt_t {α : Type} {p q : α} {r : α} (hk : k = true) (h : p = r) : (match k with | true => p | false => q) = r := by subst hk; exact h
theorem mt_f {α : Type} {p q : α} {r : α} (hk : k = false) (h : q = r) : (match k with | true => p | false => q) = r := by subst hk; exact h
-- operations
theorem bo_mod {i j : Int} (h : 0 < j) : bop .Mod (.int i) (.int j) m = .ok (.int (i % j)) m := by simp only [bop, if_pos h]
theorem bo_fdiv {i j : Int} (h : 0 < j ∧ j.natAbs.log2 < 9000) : bop .FloorDiv (.int i) (.int j) m = .ok (.int (i / j)) m := by simp only [bop, if_pos h]
theorem bo_mulR {i j : Int} (h : -(2 ^ 64) < j ∧ j < 2 ^ 64) : bop .Mult (.int i) (.int j) m = .ok (.int (i * j)) m := by
  have : mulOk i j = true := by unfold mulOk; rw [decide_eq_true h, Bool.or_true]
  simp only [bop, if_pos this]
theorem bo_mulL {i j : Int} (h : -(2 ^ 64) < i ∧ i < 2 ^ 64) : bop .Mult (.int i) (.int j) m = .ok (.int (i * j)) m := by
  have : mulOk i j = true := by unfold mulOk; rw [decide_eq_true h, Bool.true_or]
  simp only [bop, if_pos this]
theorem bo_adds {p q : Str} (h : p.length + q.length ≤ sizeLine) : bop .Add (.str p) (.str q) m = .ok (.str (p ++ q)) m := by simp only [bop, if_pos h]
theorem bo_muls {p : Str} {j : Int} (h : -(2 ^ 63) ≤ j ∧ j ≤ 65536 ∧ p.length ≤ 16) : bop .Mult (.str p) (.int j) m = .ok (.str (Txt.mul p j)) m := by simp only [bop, if_pos h]
theorem bo_addl {i j : Nat} {p q : List MV} (h1 : m[i]? = some (.lst p)) (h2 : m[j]? = some (.lst q)) (h : p.length + q.length ≤ sizeLine) : bop .Add (.ref i) (.ref j) m = .ok (.ref m.length) (m ++ [.lst (p ++ q)]) := by simp only [bop, h1, h2, if_pos h, new]
theorem co_eqi {i j : Int} : cop g .Eq (.int i) (.int j) m = .ok (.bl (decide (i = j))) m := by
  show Rs.ok (MV.bl (decide (V.int i = V.int j))) m = _
  congr 2
  simp
theorem co_eqs {i j : Str} : cop g .Eq (.str i) (.str j) m = .ok (.bl (decide (i = j))) m := by
  show Rs.ok (MV.bl (decide (V.str i = V.str j))) m = _
  congr 2
  simp
theorem co_nei {i j : Int} : cop g .NotEq (.int i) (.int j) m = .ok (.bl (!decide (i = j))) m := by
  show Rs.ok (MV.bl (!decide (V.int i = V.int j))) m = _
  congr 2
  simp
theorem co_nes {i j : Str} : cop g .NotEq (.str i) (.str j) m = .ok (.bl (!decide (i = j))) m := by
  show Rs.ok (MV.bl (!decide (V.str i = V.str j))) m = _
  congr 2
  simp
theorem bl_lenS {z : Str} (h : z.length ≤ sizeLine) : bltM g .len [.str z] m = .ok (.int z.length) m := by simp only [bltM, if_pos h]
theorem bl_lenL (h : gs g m x = some xs) (hx : ∀ z, x ≠ .str z) : bltM g .len [x] m = .ok (.int xs.length) m := by
  cases x <;> simp only [bltM, h]
  exact absurd rfl (hx _)
theorem bl_str {i : Int} (h : i.natAbs.log2 < 1920) : bltM g .str [.int i] m = .ok (.str (toString i)) m := by simp only [bltM, if_pos h]
theorem bl_intS {p : Str} {n : Int} (h : PySem.intText? p = some n) (h2 : p.length ≤ 640) : bltM g .int [.str p] m = .ok (.int n) m := by simp only [bltM, h, if_pos h2]
theorem bl_list (h : gs g m x = some xs) : bltM g .list [x] m = .ok (.ref m.length) (m ++ [.lst xs]) := by simp only [bltM, h, new]
theorem bl_tuple (h : gl m x = some xs) : bltM g .tuple [x] m = .ok (.ref m.length) (m ++ [.tup xs]) := by simp only [bltM, h, new]
theorem bl_all {bs : List Bool} (h : gl m x = some xs) (h2 : blsOf xs = some bs) : bltM g .all [x] m = .ok (.bl (bs.all id)) m := by simp only [bltM, h, h2, Option.bind_some]
theorem bm_st {p q : Str} (h : p.length ≤ sizeLine) : bmM g .strip1 (.str p) [.str q] m = .ok (.str (Txt.stripChars p q)) m := by simp only [bmM, if_pos h]
theorem bm_sp {p q : Str} (h : (q.length == 0) = false ∧ p.length + 2 ≤ sizeLine) : bmM g .split1 (.str p) [.str q] m = .ok (.ref m.length) (m ++ [.lst ((Txt.split p q).map .str)]) := by simp only [bmM, if_pos h, new]
theorem bm_jo {p : Str} {q : List Str} (h : gs g m x = some xs) (h2 : strsOf xs = some q) (h3 : (q.map (·.length)).sum + q.length * p.length ≤ 16777216) : bmM g .join (.str p) [x] m = .ok (.str (Txt.join p q)) m := by simp only [bmM, h, h2, Option.bind_some, if_pos h3]
theorem bm_ap {l : Nat} {p : List MV} (h : m[l]? = some (.lst p)) (h2 : p.length < sizeLine) : bmM g .append (.ref l) [v] m = .ok .non (m.set l (.lst (p ++ [v]))) := by simp only [bmM, h, if_pos h2]
theorem ix_s {p : Str} {i : Int} {q : Nat} (h : p.length ≤ sizeLine) (h2 : atI p.cps.toList i = some q) : ixM g (.str p) (.int i) m = .ok (.str ⟨#[q]⟩) m := by simp only [ixM, if_pos h, h2]
theorem ix_l {i : Int} (h : gs g m x = some xs) (hx : ∀ z, x ≠ .str z) (h2 : atI xs i = some v) : ixM g x (.int i) m = .ok v m := by
  cases x <;> simp only [ixM, h, h2]
  exact absurd rfl (hx _)
theorem sl_s {p : Str} {lo hi : Option Int} (h : p.length ≤ sizeLine) : slM (.str p) lo hi m = .ok (.str (cutS p lo hi)) m := by simp only [slM, if_pos h]
theorem sl_l {lo hi : Option Int} (h : gl m x = some xs) (hx : ∀ z, x ≠ .str z) : slM x lo hi m = .ok (.ref m.length) (m ++ [.lst (cutM xs lo hi)]) := by
  cases x <;> simp only [slM, h, new]
  exact absurd rfl (hx _)
end
end Mi

set_option Elab.async false
set_option maxRecDepth 100000
set_option maxHeartbeats 4000000
namespace Mi
open PySem PySem.Spec PyProof.Rows L2
namespace K
/-- 0: number_of -/
def f0 : FnI := ⟨"number_of", "number_of", ["word"], ["word"],
    (.seq (.iff (.orr (.nt (.chn .LtE .LtE (.con (.int 1)) (.blt .len (.cons (.var 0) .nil)) (.glo (.int 3)))) (.one (.cmp .NotEq (.bm (.var 0) .strip1 (.cons (.glo (.str "0123456789")) .nil)) (.con (.str ""))))) (.seq (.ret (.con .non))
    .nil) .nil)
    (.seq (.iff (.an (.cmp .Eq (.ix (.var 0) (.con (.int 0))) (.con (.str "0"))) (.one (.cmp .NotEq (.var 0) (.con (.str "0"))))) (.seq (.ret (.con .non))
    .nil) .nil)
    (.seq (.ret (.blt .int (.cons (.var 0) .nil)))
    .nil)))⟩
/-- 1: number_below -/
def f1 : FnI := ⟨"number_below", "number_below", ["word", "bound"], ["word", "bound", "number"],
    (.seq (.asg 2 (.call 0 (.cons (.var 0) .nil)))
    (.seq (.ret (.an (.isn false (.var 2)) (.one (.cmp .Lt (.var 2) (.var 1)))))
    .nil))⟩
/-- 2: address_good -/
def f2 : FnI := ⟨"address_good", "address_good", ["word"], ["word"],
    (.seq (.ret (.call 1 (.cons (.var 0) (.cons (.glo (.int 512)) .nil))))
    .nil)⟩
/-- 3: argument_good -/
def f3 : FnI := ⟨"argument_good", "argument_good", ["word"], ["word"],
    (.seq (.iff (.cmp .Eq (.ix (.var 0) (.con (.int 0))) (.con (.str "@"))) (.seq (.ret (.call 2 (.cons (.sl (.var 0) (.con (.int 1)) .nopart) .nil)))
    .nil) .nil)
    (.seq (.iff (.cmp .Eq (.bm (.var 0) .strip1 (.cons (.glo (.str "0123456789")) .nil)) (.con (.str ""))) (.seq (.ret (.isn false (.call 0 (.cons (.var 0) .nil))))
    .nil) .nil)
    (.seq (.ret (.con (.bl true)))
    .nil)))⟩
/-- 4: call_parts -/
def f4 : FnI := ⟨"call_parts", "call_parts", ["words"], ["words"],
    (.seq (.iff (.cmp .Eq (.ix (.var 0) (.neg (.con (.int 2)))) (.con (.str "to"))) (.seq (.ret (.tup (.cons (.sl (.var 0) (.con (.int 1)) (.neg (.con (.int 2)))) (.cons (.ix (.var 0) (.neg (.con (.int 1)))) .nil))))
    .nil) .nil)
    (.seq (.ret (.tup (.cons (.sl (.var 0) (.con (.int 1)) .nopart) (.cons (.con .non) .nil))))
    .nil))⟩
/-- 5: call_good -/
def f5 : FnI := ⟨"call_good", "call_good", ["words"], ["words", "parts", "answer", "word"],
    (.seq (.iff (.cmp .Lt (.blt .len (.cons (.var 0) .nil)) (.con (.int 2))) (.seq (.ret (.con (.bl false)))
    .nil) .nil)
    (.seq (.unp [1, 2] (.call 4 (.cons (.var 0) .nil)))
    (.seq (.iff (.an (.isn false (.var 2)) (.one (.nt (.call 2 (.cons (.var 2) .nil))))) (.seq (.ret (.con (.bl false)))
    .nil) .nil)
    (.seq (.iff (.orr (.cmp .Eq (.blt .len (.cons (.var 1) .nil)) (.con (.int 0))) (.orr (.cmp .NotIn (.ix (.var 1) (.con (.int 0))) (.glo (.cst 0))) (.one (.cmp .NotEq (.bin .Sub (.blt .len (.cons (.var 1) .nil)) (.con (.int 1))) (.ix (.glo (.cst 0)) (.ix (.var 1) (.con (.int 0)))))))) (.seq (.ret (.con (.bl false)))
    .nil) .nil)
    (.seq (.ret (.blt .all (.cons (.lc (.call 3 (.cons (.var 3) .nil)) [3] false (.wl (.sl (.var 1) (.con (.int 1)) .nopart)) .nopart) .nil)))
    .nil)))))⟩
/-- 6: step_good -/
def f6 : FnI := ⟨"step_good", "step_good", ["words"], ["words"],
    (.seq (.iff (.cmp .Eq (.ix (.var 0) (.con (.int 0))) (.con (.str "call"))) (.seq (.ret (.call 5 (.cons (.var 0) .nil)))
    .nil) .nil)
    (.seq (.iff (.cmp .Eq (.ix (.var 0) (.con (.int 0))) (.con (.str "back"))) (.seq (.ret (.cmp .Eq (.blt .len (.cons (.var 0) .nil)) (.con (.int 1))))
    .nil) .nil)
    (.seq (.iff (.cmp .Eq (.ix (.var 0) (.con (.int 0))) (.con (.str "jump"))) (.seq (.ret (.an (.cmp .Eq (.blt .len (.cons (.var 0) .nil)) (.con (.int 2))) (.one (.isn false (.call 0 (.cons (.ix (.var 0) (.con (.int 1))) .nil))))))
    .nil) .nil)
    (.seq (.iff (.orr (.cmp .NotEq (.blt .len (.cons (.var 0) .nil)) (.con (.int 3))) (.one (.nt (.call 2 (.cons (.ix (.var 0) (.con (.int 1))) .nil))))) (.seq (.ret (.con (.bl false)))
    .nil) .nil)
    (.seq (.iff (.cmp .Eq (.ix (.var 0) (.con (.int 0))) (.con (.str "set"))) (.seq (.ret (.call 1 (.cons (.ix (.var 0) (.con (.int 2))) (.cons (.glo (.int 256)) .nil))))
    .nil) .nil)
    (.seq (.iff (.cmp .Eq (.ix (.var 0) (.con (.int 0))) (.con (.str "if"))) (.seq (.ret (.isn false (.call 0 (.cons (.ix (.var 0) (.con (.int 2))) .nil))))
    .nil) .nil)
    (.seq (.ret (.an (.cmp .In (.ix (.var 0) (.con (.int 0))) (.tup (.cons (.con (.str "add")) (.cons (.con (.str "less")) .nil)))) (.one (.call 2 (.cons (.ix (.var 0) (.con (.int 2))) .nil)))))
    .nil)))))))⟩
/-- 7: read_program -/
def f7 : FnI := ⟨"read_program", "read_program", ["text"], ["text", "steps", "at", "row", "words", "word"],
    (.seq (.asg 1 (.lst .nil))
    (.seq (.for [2, 3] true (.wen (.bm (.var 0) .split1 (.cons (.con (.str "\n")) .nil))) (.seq (.asg 4 (.lc (.var 5) [5] false (.wl (.bm (.var 3) .split1 (.cons (.con (.str " ")) .nil))) (.cmp .NotEq (.var 5) (.con (.str "")))))
    (.seq (.iff (.cmp .Gt (.blt .len (.cons (.var 4) .nil)) (.con (.int 0))) (.seq (.iff (.nt (.call 6 (.cons (.var 4) .nil))) (.seq .never
    .nil) .nil)
    (.seq (.ex (.bm (.var 1) .append (.cons (.blt .tuple (.cons (.var 4) .nil)) .nil)))
    .nil)) .nil)
    .nil)))
    (.seq (.ret (.var 1))
    .nil)))⟩
/-- 8: _law_cell_at -/
def f8 : FnI := ⟨"_law_cell_at", "_law_cell_at", ["_law_script", "_law_k"], ["_law_script", "_law_k"],
    (.seq (.iff (.cmp .Lt (.var 1) (.blt .len (.cons (.var 0) .nil))) (.seq (.ret (.ix (.var 0) (.var 1)))
    .nil) .nil)
    (.seq (.ret (.con (.int 0)))
    .nil))⟩
/-- 9: _law_mix -/
def f9 : FnI := ⟨"_law_mix", "_law_mix", ["_law_cell", "_law_factor", "_law_prime"], ["_law_cell", "_law_factor", "_law_prime"],
    (.seq (.ret (.bin .Mod (.bin .Mult (.var 0) (.var 1)) (.var 2)))
    .nil)⟩
/-- 10: _law_address -/
def f10 : FnI := ⟨"_law_address", "_law_address", ["_law_number"], ["_law_number"],
    (.seq (.ret (.blt .str (.cons (.ix (.lst (.cons (.bin .Mod (.var 0) (.con (.int 16))) (.cons (.bin .Mod (.var 0) (.con (.int 16))) (.cons (.bin .Mod (.var 0) (.con (.int 24))) (.cons (.bin .Mod (.bin .FloorDiv (.var 0) (.con (.int 4))) (.con (.int 512))) .nil))))) (.bin .Mod (.var 0) (.con (.int 4)))) .nil)))
    .nil)⟩
/-- 11: _law_argument -/
def f11 : FnI := ⟨"_law_argument", "_law_argument", ["_law_kind", "_law_number", "_law_many"], ["_law_kind", "_law_number", "_law_many"],
    (.seq (.iff (.an (.cmp .Eq (.bin .Mod (.var 1) (.con (.int 13))) (.con (.int 5))) (.an (.cmp .NotEq (.var 0) (.con (.str "path"))) (.one (.cmp .NotEq (.var 0) (.con (.str "mode")))))) (.seq (.ret (.bin .Add (.con (.str "@")) (.blt .str (.cons (.ix (.lst (.cons (.bin .Mod (.bin .FloorDiv (.var 1) (.con (.int 13))) (.con (.int 16))) (.cons (.bin .Mod (.bin .FloorDiv (.var 1) (.con (.int 13))) (.con (.int 512))) .nil))) (.bin .Mod (.bin .FloorDiv (.var 1) (.con (.int 208))) (.con (.int 2)))) .nil))))
    .nil) .nil)
    (.seq (.iff (.cmp .Eq (.bin .Mod (.var 1) (.con (.int 13))) (.con (.int 7))) (.seq (.ret (.ix (.lst (.cons (.con (.str "5")) (.cons (.con (.str "-")) (.cons (.con (.str "on")) (.cons (.con (.str "x")) (.cons (.con (.str "@511")) (.cons (.con (.str "/a")) (.cons (.con (.str "off")) (.cons (.con (.str "300")) (.cons (.con (.str "999")) (.cons (.con (.str "0")) .nil))))))))))) (.bin .Mod (.bin .FloorDiv (.var 1) (.con (.int 13))) (.con (.int 10)))))
    .nil) .nil)
    (.seq (.iff (.cmp .Eq (.var 0) (.con (.str "path"))) (.seq (.ret (.ix (.lst (.cons (.con (.str "/a")) (.cons (.con (.str "/b")) (.cons (.con (.str "/d")) (.cons (.con (.str "/d/a")) (.cons (.con (.str "/d/b")) (.cons (.con (.str "/")) (.cons (.con (.str "/e/a")) (.cons (.con (.str "/A")) .nil))))))))) (.bin .Mod (.var 1) (.con (.int 8)))))
    .nil) .nil)
    (.seq (.iff (.cmp .Eq (.var 0) (.con (.str "mode"))) (.seq (.ret (.ix (.lst (.cons (.con (.str "rw")) (.cons (.con (.str "r")) (.cons (.con (.str "w")) (.cons (.con (.str "rw")) (.cons (.con (.str "x")) .nil)))))) (.bin .Mod (.var 1) (.con (.int 5)))))
    .nil) .nil)
    (.seq (.iff (.cmp .Eq (.var 0) (.con (.str "address"))) (.seq (.ret (.call 10 (.cons (.var 1) .nil)))
    .nil) .nil)
    (.seq (.iff (.cmp .Eq (.var 0) (.con (.str "place"))) (.seq (.ret (.ix (.lst (.cons (.con (.str "-")) (.cons (.blt .str (.cons (.bin .Mod (.bin .FloorDiv (.var 1) (.con (.int 3))) (.var 2)) .nil)) (.cons (.blt .str (.cons (.bin .Mod (.bin .FloorDiv (.var 1) (.con (.int 3))) (.var 2)) .nil)) .nil)))) (.bin .Mod (.var 1) (.con (.int 3)))))
    .nil) .nil)
    (.seq (.iff (.cmp .Eq (.var 0) (.con (.str "flag"))) (.seq (.ret (.ix (.lst (.cons (.con (.str "on")) (.cons (.con (.str "off")) .nil))) (.bin .Mod (.var 1) (.con (.int 2)))))
    .nil) .nil)
    (.seq (.iff (.cmp .Eq (.var 0) (.con (.str "signal"))) (.seq (.ret (.blt .str (.cons (.bin .Mod (.var 1) (.con (.int 9))) .nil)))
    .nil) .nil)
    (.seq (.iff (.cmp .Eq (.var 0) (.con (.str "task"))) (.seq (.ret (.blt .str (.cons (.bin .Add (.con (.int 1)) (.bin .Mod (.var 1) (.con (.int 4)))) .nil)))
    .nil) .nil)
    (.seq (.iff (.cmp .Eq (.var 0) (.con (.str "page"))) (.seq (.ret (.blt .str (.cons (.ix (.lst (.cons (.bin .Mod (.var 1) (.con (.int 4))) (.cons (.bin .Mod (.var 1) (.con (.int 3))) (.cons (.bin .Mod (.var 1) (.con (.int 70))) .nil)))) (.bin .Mod (.var 1) (.con (.int 3)))) .nil)))
    .nil) .nil)
    (.seq (.ret (.blt .str (.cons (.bin .Mod (.var 1) (.con (.int 6))) .nil)))
    .nil)))))))))))⟩
/-- 12: _law_call_by -/
def f12 : FnI := ⟨"_law_call_by", "_law_call_by", ["_law_number", "_law_many"], ["_law_number", "_law_many", "_law_menu", "_law_call", "_law_left", "_law_words", "_law_kind"],
    (.seq (.asg 2 (.lst (.cons (.lst (.cons (.con (.str "fork")) .nil)) (.cons (.lst (.cons (.con (.str "pipe")) .nil)) (.cons (.lst (.cons (.con (.str "wait")) .nil)) (.cons (.lst (.cons (.con (.str "read")) (.cons (.con (.str "handle")) (.cons (.con (.str "address")) (.cons (.con (.str "small")) .nil))))) .nil))))))
    (.seq (.asg 2 (.bin .Add (.var 2) (.lst (.cons (.lst (.cons (.con (.str "write")) (.cons (.con (.str "handle")) (.cons (.con (.str "address")) (.cons (.con (.str "small")) .nil))))) .nil))))
    (.seq (.asg 2 (.bin .Add (.var 2) (.lst (.cons (.lst (.cons (.con (.str "signal")) (.cons (.con (.str "task")) (.cons (.con (.str "signal")) .nil)))) (.cons (.lst (.cons (.con (.str "handle")) (.cons (.con (.str "signal")) (.cons (.con (.str "place")) .nil)))) (.cons (.lst (.cons (.con (.str "map")) (.cons (.con (.str "page")) (.cons (.con (.str "small")) .nil)))) (.cons (.lst (.cons (.con (.str "who")) .nil)) .nil)))))))
    (.seq (.asg 2 (.bin .Add (.var 2) (.lst (.cons (.lst (.cons (.con (.str "make")) (.cons (.con (.str "path")) .nil))) (.cons (.lst (.cons (.con (.str "open")) (.cons (.con (.str "path")) (.cons (.con (.str "mode")) .nil)))) (.cons (.lst (.cons (.con (.str "close")) (.cons (.con (.str "handle")) .nil))) (.cons (.lst (.cons (.con (.str "end")) (.cons (.con (.str "small")) .nil))) (.cons (.lst (.cons (.con (.str "time")) .nil)) .nil))))))))
    (.seq (.asg 2 (.bin .Add (.var 2) (.lst (.cons (.lst (.cons (.con (.str "drop")) (.cons (.con (.str "page")) (.cons (.con (.str "small")) .nil)))) (.cons (.lst (.cons (.con (.str "mask")) (.cons (.con (.str "signal")) (.cons (.con (.str "flag")) .nil)))) (.cons (.lst (.cons (.con (.str "due")) .nil)) (.cons (.lst (.cons (.con (.str "alarm")) (.cons (.con (.str "small")) .nil))) (.cons (.lst (.cons (.con (.str "dir")) (.cons (.con (.str "path")) .nil))) .nil))))))))
    (.seq (.asg 2 (.bin .Add (.var 2) (.lst (.cons (.lst (.cons (.con (.str "same")) (.cons (.con (.str "handle")) .nil))) (.cons (.lst (.cons (.con (.str "give")) (.cons (.con (.str "handle")) (.cons (.con (.str "task")) .nil)))) (.cons (.lst (.cons (.con (.str "seek")) (.cons (.con (.str "handle")) (.cons (.con (.str "small")) .nil)))) (.cons (.lst (.cons (.con (.str "unlink")) (.cons (.con (.str "path")) .nil))) .nil)))))))
    (.seq (.asg 2 (.bin .Add (.var 2) (.lst (.cons (.lst (.cons (.con (.str "link")) (.cons (.con (.str "path")) (.cons (.con (.str "path")) .nil)))) (.cons (.lst (.cons (.con (.str "move")) (.cons (.con (.str "path")) (.cons (.con (.str "path")) .nil)))) (.cons (.lst (.cons (.con (.str "undir")) (.cons (.con (.str "path")) .nil))) (.cons (.lst (.cons (.con (.str "names")) (.cons (.con (.str "path")) .nil))) .nil)))))))
    (.seq (.asg 2 (.bin .Add (.var 2) (.lst (.cons (.lst (.cons (.con (.str "stat")) (.cons (.con (.str "path")) .nil))) (.cons (.lst (.cons (.con (.str "read")) (.cons (.con (.str "handle")) (.cons (.con (.str "address")) (.cons (.con (.str "small")) .nil))))) (.cons (.lst (.cons (.con (.str "write")) (.cons (.con (.str "handle")) (.cons (.con (.str "address")) (.cons (.con (.str "small")) .nil))))) .nil))))))
    (.seq (.asg 2 (.bin .Add (.var 2) (.lst (.cons (.lst (.cons (.con (.str "signal")) (.cons (.con (.str "task")) (.cons (.con (.str "signal")) .nil)))) (.cons (.lst (.cons (.con (.str "handle")) (.cons (.con (.str "signal")) (.cons (.con (.str "place")) .nil)))) .nil)))))
    (.seq (.asg 3 (.ix (.var 2) (.bin .Mod (.var 0) (.blt .len (.cons (.var 2) .nil)))))
    (.seq (.asg 4 (.bin .FloorDiv (.var 0) (.blt .len (.cons (.var 2) .nil))))
    (.seq (.asg 5 (.lst (.cons (.con (.str "call")) (.cons (.ix (.var 3) (.con (.int 0))) .nil))))
    (.seq (.for [6] false (.wl (.sl (.var 3) (.con (.int 1)) .nopart)) (.seq (.ex (.bm (.var 5) .append (.cons (.call 11 (.cons (.var 6) (.cons (.bin .Mod (.var 4) (.con (.int 1000))) (.cons (.var 1) .nil)))) .nil)))
    (.seq (.asg 4 (.bin .FloorDiv (.var 4) (.con (.int 7))))
    .nil)))
    (.seq (.iff (.an (.cmp .Eq (.ix (.var 3) (.neg (.con (.int 1)))) (.con (.str "path"))) (.one (.cmp .Eq (.bin .Mod (.bin .FloorDiv (.var 4) (.con (.int 3))) (.con (.int 9))) (.con (.int 4))))) (.seq (.seti (.var 5) (.neg (.con (.int 1))) (.con (.str "to")))
    .nil) .nil)
    (.seq (.iff (.cmp .Gt (.bin .Mod (.var 4) (.con (.int 3))) (.con (.int 0))) (.seq (.asg 5 (.bin .Add (.var 5) (.lst (.cons (.con (.str "to")) (.cons (.call 10 (.cons (.bin .FloorDiv (.var 4) (.con (.int 3))) .nil)) .nil)))))
    .nil) .nil)
    (.seq (.ret (.var 5))
    .nil))))))))))))))))⟩
/-- 13: _law_words_by -/
def f13 : FnI := ⟨"_law_words_by", "_law_words_by", ["_law_number", "_law_many"], ["_law_number", "_law_many", "_law_left", "_law_spot"],
    (.seq (.asg 2 (.bin .FloorDiv (.var 0) (.con (.int 10))))
    (.seq (.iff (.cmp .Eq (.bin .Mod (.var 0) (.con (.int 10))) (.con (.int 0))) (.seq (.ret (.lst (.cons (.con (.str "set")) (.cons (.call 10 (.cons (.var 2) .nil)) (.cons (.blt .str (.cons (.bin .Mod (.bin .FloorDiv (.var 2) (.con (.int 16))) (.con (.int 256))) .nil)) .nil)))))
    .nil) .nil)
    (.seq (.iff (.cmp .Eq (.bin .Mod (.var 0) (.con (.int 10))) (.con (.int 1))) (.seq (.ret (.lst (.cons (.ix (.lst (.cons (.con (.str "add")) (.cons (.con (.str "less")) .nil))) (.bin .Mod (.var 2) (.con (.int 2)))) (.cons (.call 10 (.cons (.bin .FloorDiv (.var 2) (.con (.int 2))) .nil)) (.cons (.call 10 (.cons (.bin .FloorDiv (.var 2) (.con (.int 32))) .nil)) .nil)))))
    .nil) .nil)
    (.seq (.iff (.cmp .Eq (.bin .Mod (.var 0) (.con (.int 10))) (.con (.int 2))) (.seq (.ret (.lst (.cons (.con (.str "if")) (.cons (.call 10 (.cons (.var 2) .nil)) (.cons (.blt .str (.cons (.ix (.lst (.cons (.bin .Mod (.bin .FloorDiv (.var 2) (.con (.int 16))) (.var 1)) (.cons (.bin .Mod (.bin .FloorDiv (.var 2) (.con (.int 16))) (.con (.int 1000))) .nil))) (.bin .FloorDiv (.bin .Mod (.bin .FloorDiv (.var 2) (.con (.int 128))) (.con (.int 8))) (.con (.int 7)))) .nil)) .nil)))))
    .nil) .nil)
    (.seq (.iff (.cmp .Eq (.bin .Mod (.var 0) (.con (.int 10))) (.con (.int 3))) (.seq (.asg 3 (.blt .str (.cons (.ix (.lst (.cons (.bin .Mod (.bin .FloorDiv (.var 2) (.con (.int 3))) (.var 1)) (.cons (.bin .Mod (.bin .FloorDiv (.var 2) (.con (.int 3))) (.con (.int 1000))) .nil))) (.bin .FloorDiv (.bin .Mod (.bin .FloorDiv (.var 2) (.con (.int 24))) (.con (.int 8))) (.con (.int 7)))) .nil)))
    (.seq (.ret (.ix (.lst (.cons (.lst (.cons (.con (.str "back")) .nil)) (.cons (.lst (.cons (.con (.str "jump")) (.cons (.var 3) .nil))) (.cons (.lst (.cons (.con (.str "jump")) (.cons (.con (.str "999")) .nil))) (.cons (.lst (.cons (.con (.str "back")) .nil)) .nil))))) (.bin .Mod (.var 2) (.con (.int 4)))))
    .nil)) .nil)
    (.seq (.ret (.call 12 (.cons (.var 2) (.cons (.var 1) .nil))))
    .nil))))))⟩
/-- 14: _law_program_by -/
def f14 : FnI := ⟨"_law_program_by", "_law_program_by", ["_law_script"], ["_law_script", "_law_numbers_here", "_law_digits", "_law_cell", "_law_many", "_law_left", "_law_turns", "_law_number"],
    (.seq (.asg 1 (.lst .nil))
    (.seq (.asg 2 (.cmp .Eq (.bin .Mod (.call 8 (.cons (.var 0) (.cons (.con (.int 0)) .nil))) (.con (.int 2))) (.con (.int 0))))
    (.seq (.for [3] false (.wl (.sl (.var 0) (.con (.int 1)) .nopart)) (.seq (.asg 5 (.blt .max2 (.cons (.var 3) (.cons (.neg (.var 3)) .nil))))
    (.seq (.iff (.nt (.var 2)) (.seq (.asg 5 (.call 9 (.cons (.bin .Add (.call 9 (.cons (.var 3) (.cons (.con (.int 48271)) (.cons (.con (.int 2147483647)) .nil)))) (.con (.int 11))) (.cons (.con (.int 6364136223846793005)) (.cons (.con (.int 18446744073709551557)) .nil)))))
    .nil) .nil)
    (.seq (.asg 6 (.con (.int 0)))
    (.seq (.whl (.orr (.cmp .Eq (.var 6) (.con (.int 0))) (.one (.an (.var 2) (.an (.cmp .Gt (.var 5) (.con (.int 0))) (.one (.cmp .Lt (.var 6) (.con (.int 20)))))))) (.seq (.ex (.bm (.var 1) .append (.cons (.bin .Mod (.var 5) (.con (.int 1000000000000))) .nil)))
    (.seq (.asg 5 (.bin .FloorDiv (.var 5) (.con (.int 1000000000000))))
    (.seq (.aug 6 .Add (.con (.int 1)))
    .nil))))
    .nil)))))
    (.seq (.asg 1 (.sl (.var 1) .nopart (.con (.int 40))))
    (.seq (.asg 4 (.bin .Add (.blt .len (.cons (.var 1) .nil)) (.con (.int 2))))
    (.seq (.ret (.bin .Add (.lst (.cons (.lst (.cons (.con (.str "call")) (.cons (.con (.str "map")) (.cons (.con (.str "0")) (.cons (.con (.str "2")) (.cons (.con (.str "to")) (.cons (.con (.str "0")) .nil))))))) .nil)) (.lc (.call 13 (.cons (.var 7) (.cons (.var 4) .nil))) [7] false (.wl (.var 1)) .nopart)))
    .nil))))))⟩
/-- 15: _law_text_of -/
def f15 : FnI := ⟨"_law_text_of", "_law_text_of", ["_law_program", "_law_seed"], ["_law_program", "_law_seed", "_law_rows", "_law_k", "_law_drawn"],
    (.seq (.asg 2 (.lst .nil))
    (.seq (.for [3] false (.wr1 (.blt .len (.cons (.var 0) .nil))) (.seq (.asg 4 (.call 9 (.cons (.bin .Add (.bin .Add (.var 1) (.bin .Mult (.con (.int 31)) (.var 3))) (.con (.int 7))) (.cons (.con (.int 48271)) (.cons (.con (.int 2147483647)) .nil)))))
    (.seq (.iff (.cmp .Eq (.bin .Mod (.var 4) (.con (.int 7))) (.con (.int 0))) (.seq (.ex (.bm (.var 2) .append (.cons (.bin .Mult (.con (.str " ")) (.bin .Mod (.bin .FloorDiv (.var 4) (.con (.int 7))) (.con (.int 3)))) .nil)))
    .nil) .nil)
    (.seq (.ex (.bm (.var 2) .append (.cons (.bin .Add (.bin .Add (.bin .Mult (.con (.str " ")) (.bin .Mod (.bin .FloorDiv (.var 4) (.con (.int 21))) (.con (.int 2)))) (.bm (.bin .Mult (.con (.str " ")) (.bin .Add (.con (.int 1)) (.bin .Mod (.bin .FloorDiv (.var 4) (.con (.int 42))) (.con (.int 2))))) .join (.cons (.ix (.var 0) (.var 3)) .nil))) (.bin .Mult (.con (.str " ")) (.bin .Mod (.bin .FloorDiv (.var 4) (.con (.int 84))) (.con (.int 2))))) .nil)))
    .nil))))
    (.seq (.ret (.bm (.con (.str "\n")) .join (.cons (.var 2) .nil)))
    .nil)))⟩
/-- 16: _law_steps -/
def f16 : FnI := ⟨"_law_steps", "_law_steps", ["_law_found", "_law_program"], ["_law_found", "_law_program", "_law_k"],
    (.seq (.iff (.orr (.nt (.isi (.var 0) .list)) (.one (.cmp .NotEq (.blt .len (.cons (.var 0) .nil)) (.blt .len (.cons (.var 1) .nil))))) (.seq (.ret (.con (.bl false)))
    .nil) .nil)
    (.seq (.for [2] false (.wr1 (.blt .len (.cons (.var 1) .nil))) (.seq (.iff (.orr (.nt (.isi (.ix (.var 0) (.var 2)) .tuple)) (.one (.cmp .NotEq (.blt .list (.cons (.ix (.var 0) (.var 2)) .nil)) (.ix (.var 1) (.var 2))))) (.seq (.ret (.con (.bl false)))
    .nil) .nil)
    .nil))
    (.seq (.ret (.con (.bl true)))
    .nil)))⟩
/-- 17: law -/
def f17 : FnI := ⟨"law", "law", ["_law_script"], ["_law_script", "_law_program", "_law_text", "_law_found"],
    (.seq (.asg 1 (.call 14 (.cons (.var 0) .nil)))
    (.seq (.asg 2 (.call 15 (.cons (.var 1) (.cons (.call 8 (.cons (.var 0) (.cons (.con (.int 1)) .nil))) .nil))))
    (.seq (.asg 3 (.call 7 (.cons (.var 2) .nil)))
    (.seq (.iff (.nt (.call 16 (.cons (.var 3) (.cons (.var 1) .nil)))) (.seq (.ret (.con (.bl false)))
    .nil) .nil)
    (.seq (.ex (.bm (.var 3) .append (.cons (.tup (.cons (.con (.str "back")) .nil)) .nil)))
    (.seq (.seti (.var 3) (.con (.int 0)) (.tup (.cons (.con (.str "back")) .nil)))
    (.seq (.iff (.orr (.nt (.call 16 (.cons (.call 7 (.cons (.var 2) .nil)) (.cons (.var 1) .nil)))) (.one (.nt (.call 16 (.cons (.call 7 (.cons (.bin .Add (.bin .Add (.con (.str "\n\n")) (.var 2)) (.con (.str "\n  "))) .nil)) (.cons (.var 1) .nil)))))) (.seq (.ret (.con (.bl false)))
    .nil) .nil)
    (.seq (.ret (.an (.cmp .Eq (.call 7 (.cons (.con (.str "")) .nil)) (.lst .nil)) (.one (.cmp .Eq (.call 7 (.cons (.con (.str "  \n \n")) .nil)) (.lst .nil)))))
    .nil))))))))⟩
def gcst : List CO := [.dS [("map", .int 2), ("drop", .int 2), ("fork", .int 0), ("end", .int 1), ("wait", .int 0), ("who", .int 0), ("make", .int 1), ("dir", .int 1), ("link", .int 2), ("unlink", .int 1), ("undir", .int 1), ("move", .int 2), ("names", .int 1), ("stat", .int 1), ("open", .int 2), ("close", .int 1), ("same", .int 1), ("give", .int 2), ("pipe", .int 0), ("read", .int 3), ("write", .int 3), ("seek", .int 2), ("signal", .int 2), ("handle", .int 2), ("mask", .int 2), ("due", .int 0), ("time", .int 0), ("alarm", .int 1)]]
def ggl : List (Str × MV) := [("FIGURES", .str "0123456789"), ("MOST_FIGURES", .int 3), ("ADDRESSES", .int 512), ("CELLS", .int 256), ("ARGUMENTS", .cst 0)]
def gfns : List Str := ["number_of", "number_below", "address_good", "argument_good", "call_parts", "call_good", "step_good", "read_program", "_law_cell_at", "_law_mix", "_law_address", "_law_argument", "_law_call_by", "_law_words_by", "_law_program_by", "_law_text_of", "_law_steps", "law"]
def gg : G := ⟨gcst, [], [], [f0, f1, f2, f3, f4, f5, f6, f7, f8, f9, f10, f11, f12, f13, f14, f15, f16, f17]⟩
def topS (i : Nat) : Stmt := PySem.Challenge.pw_ownroom_k75_programs_read.main.body.getD i (.Pass ⟨0, 0, 0, 0⟩)
abbrev s0 : Stmt := topS 9
abbrev s1 : Stmt := topS 10
abbrev s2 : Stmt := topS 11
abbrev s3 : Stmt := topS 12
abbrev s4 : Stmt := topS 13
abbrev s5 : Stmt := topS 14
abbrev s6 : Stmt := topS 15
abbrev s7 : Stmt := topS 16
abbrev s8 : Stmt := topS 19
abbrev s9 : Stmt := topS 20
abbrev s10 : Stmt := topS 22
abbrev s11 : Stmt := topS 23
abbrev s12 : Stmt := topS 24
abbrev s13 : Stmt := topS 25
abbrev s14 : Stmt := topS 26
abbrev s15 : Stmt := topS 27
abbrev s16 : Stmt := topS 28
abbrev s17 : Stmt := topS 29
theorem sc0 : FnScope f0.N f0.ps (defScope s0) := ⟨rfl, rfl, rfl, by decide +kernel, rfl, by decide +kernel, by decide +kernel⟩
theorem chk0 : chkB ⟨defScope s0, f0.N, ggl, gfns, true⟩ f0.body (defBody s0) = true := by decide +kernel
theorem sc1 : FnScope f1.N f1.ps (defScope s1) := ⟨rfl, rfl, rfl, by decide +kernel, rfl, by decide +kernel, by decide +kernel⟩
theorem chk1 : chkB ⟨defScope s1, f1.N, ggl, gfns, true⟩ f1.body (defBody s1) = true := by decide +kernel
theorem sc2 : FnScope f2.N f2.ps (defScope s2) := ⟨rfl, rfl, rfl, by decide +kernel, rfl, by decide +kernel, by decide +kernel⟩
theorem chk2 : chkB ⟨defScope s2, f2.N, ggl, gfns, true⟩ f2.body (defBody s2) = true := by decide +kernel
theorem sc3 : FnScope f3.N f3.ps (defScope s3) := ⟨rfl, rfl, rfl, by decide +kernel, rfl, by decide +kernel, by decide +kernel⟩
theorem chk3 : chkB ⟨defScope s3, f3.N, ggl, gfns, true⟩ f3.body (defBody s3) = true := by decide +kernel
theorem sc4 : FnScope f4.N f4.ps (defScope s4) := ⟨rfl, rfl, rfl, by decide +kernel, rfl, by decide +kernel, by decide +kernel⟩
theorem chk4 : chkB ⟨defScope s4, f4.N, ggl, gfns, true⟩ f4.body (defBody s4) = true := by decide +kernel
theorem sc5 : FnScope f5.N f5.ps (defScope s5) := ⟨rfl, rfl, rfl, by decide +kernel, rfl, by decide +kernel, by decide +kernel⟩
theorem chk5 : chkB ⟨defScope s5, f5.N, ggl, gfns, true⟩ f5.body (defBody s5) = true := by decide +kernel
theorem sc6 : FnScope f6.N f6.ps (defScope s6) := ⟨rfl, rfl, rfl, by decide +kernel, rfl, by decide +kernel, by decide +kernel⟩
theorem chk6 : chkB ⟨defScope s6, f6.N, ggl, gfns, true⟩ f6.body (defBody s6) = true := by decide +kernel
theorem sc7 : FnScope f7.N f7.ps (defScope s7) := ⟨rfl, rfl, rfl, by decide +kernel, rfl, by decide +kernel, by decide +kernel⟩
theorem chk7 : chkB ⟨defScope s7, f7.N, ggl, gfns, true⟩ f7.body (defBody s7) = true := by decide +kernel
theorem sc8 : FnScope f8.N f8.ps (defScope s8) := ⟨rfl, rfl, rfl, by decide +kernel, rfl, by decide +kernel, by decide +kernel⟩
theorem chk8 : chkB ⟨defScope s8, f8.N, ggl, gfns, true⟩ f8.body (defBody s8) = true := by decide +kernel
theorem sc9 : FnScope f9.N f9.ps (defScope s9) := ⟨rfl, rfl, rfl, by decide +kernel, rfl, by decide +kernel, by decide +kernel⟩
theorem chk9 : chkB ⟨defScope s9, f9.N, ggl, gfns, true⟩ f9.body (defBody s9) = true := by decide +kernel
theorem sc10 : FnScope f10.N f10.ps (defScope s10) := ⟨rfl, rfl, rfl, by decide +kernel, rfl, by decide +kernel, by decide +kernel⟩
theorem chk10 : chkB ⟨defScope s10, f10.N, ggl, gfns, true⟩ f10.body (defBody s10) = true := by decide +kernel
theorem sc11 : FnScope f11.N f11.ps (defScope s11) := ⟨rfl, rfl, rfl, by decide +kernel, rfl, by decide +kernel, by decide +kernel⟩
theorem chk11 : chkB ⟨defScope s11, f11.N, ggl, gfns, true⟩ f11.body (defBody s11) = true := by decide +kernel
theorem sc12 : FnScope f12.N f12.ps (defScope s12) := ⟨rfl, rfl, rfl, by decide +kernel, rfl, by decide +kernel, by decide +kernel⟩
theorem chk12 : chkB ⟨defScope s12, f12.N, ggl, gfns, true⟩ f12.body (defBody s12) = true := by decide +kernel
theorem sc13 : FnScope f13.N f13.ps (defScope s13) := ⟨rfl, rfl, rfl, by decide +kernel, rfl, by decide +kernel, by decide +kernel⟩
theorem chk13 : chkB ⟨defScope s13, f13.N, ggl, gfns, true⟩ f13.body (defBody s13) = true := by decide +kernel
theorem sc14 : FnScope f14.N f14.ps (defScope s14) := ⟨rfl, rfl, rfl, by decide +kernel, rfl, by decide +kernel, by decide +kernel⟩
theorem chk14 : chkB ⟨defScope s14, f14.N, ggl, gfns, true⟩ f14.body (defBody s14) = true := by decide +kernel
theorem sc15 : FnScope f15.N f15.ps (defScope s15) := ⟨rfl, rfl, rfl, by decide +kernel, rfl, by decide +kernel, by decide +kernel⟩
theorem chk15 : chkB ⟨defScope s15, f15.N, ggl, gfns, true⟩ f15.body (defBody s15) = true := by decide +kernel
theorem sc16 : FnScope f16.N f16.ps (defScope s16) := ⟨rfl, rfl, rfl, by decide +kernel, rfl, by decide +kernel, by decide +kernel⟩
theorem chk16 : chkB ⟨defScope s16, f16.N, ggl, gfns, true⟩ f16.body (defBody s16) = true := by decide +kernel
theorem sc17 : FnScope f17.N f17.ps (defScope s17) := ⟨rfl, rfl, rfl, by decide +kernel, rfl, by decide +kernel, by decide +kernel⟩
theorem chk17 : chkB ⟨defScope s17, f17.N, ggl, gfns, true⟩ f17.body (defBody s17) = true := by decide +kernel
end K
end Mi

set_option Elab.async false
set_option maxRecDepth 100000
set_option maxHeartbeats 4000000
set_option linter.all false
set_option autoImplicit false
namespace Mi
open PySem PySem.Spec PyProof.Rows L2
section
variable {g : G} {m m1 m2 : MH} {i j : Int}
theorem cop_lt : cop g .Lt (.int i) (.int j) m = .ok (.bl (decide (i < j))) m := rfl
theorem cop_le : cop g .LtE (.int i) (.int j) m = .ok (.bl (decide (i ≤ j))) m := rfl
theorem cop_gt : cop g .Gt (.int i) (.int j) m = .ok (.bl (decide (j < i))) m := rfl
theorem cop_ge : cop g .GtE (.int i) (.int j) m = .ok (.bl (decide (j ≤ i))) m := rfl
theorem bop_addi : bop .Add (.int i) (.int j) m = .ok (.int (i + j)) m := rfl
theorem bop_subi : bop .Sub (.int i) (.int j) m = .ok (.int (i - j)) m := rfl
theorem truth_i : truth g m (.int i) = some (i != 0) := rfl
theorem truth_b {k : Bool} : truth g m (.bl k) = some k := rfl
theorem callF {lv f : Nat} {vs : List MV} {F : FnI} (hF : g.fns[f]? = some F) : callD g (lv+1) f vs m = if vs.length = F.ps.length then (dS g (callD g lv) (fmOf g lv) F.body (startM F.N.length vs) m).back else .bad := by
  rw [callD_succ]; unfold callB; rw [hF]
end
/-- everything there stays -/
def Gro (m m' : MH) : Prop := ∀ (i : Nat) (o : MO), m[i]? = some o → m'[i]? = some o
theorem Gro.refl (m : MH) : Gro m m := fun _ _ h => h
theorem Gro.trans {a b c : MH} (h : Gro a b) (h' : Gro b c) : Gro a c := fun i o e => h' i o (h i o e)
theorem Gro.at {a b : MH} (h : Gro a b) {i : Nat} {o : MO} (e : a[i]? = some o) : b[i]? = some o := h i o e
theorem Gro.len {a b : MH} (h : Gro a b) : a.length ≤ b.length := by
  rcases Nat.eq_zero_or_pos a.length with e | e
  · omega
  · have h1 : a[a.length - 1]? = some a[a.length - 1] := List.getElem?_eq_getElem (by omega)
    have h2 := h.at h1
    have := (List.getElem?_eq_some_iff.mp h2).1
    omega
theorem Gro.app (a b : MH) : Gro a (a ++ b) := fun (i : Nat) (o : MO) (e : a[i]? = some o) => by
  have := (List.getElem?_eq_some_iff.mp e).1
  rw [List.getElem?_append_left this]; exact e
theorem Gro.to_app {a b c : MH} (h : Gro a b) : Gro a (b ++ c) := h.trans (.app _ _)
theorem Gro.set {a b : MH} (h : Gro a b) {l : Nat} (hl : a.length ≤ l) (o : MO) : Gro a (b.set l o) := fun (i : Nat) (o' : MO) (e : a[i]? = some o') => by
  have := (List.getElem?_eq_some_iff.mp e).1
  rw [List.getElem?_set_ne (by omega)]; exact h i o' e
theorem Gro.gl {a b : MH} (h : Gro a b) {v : MV} {xs : List MV} (e : gl a v = some xs) : gl b v = some xs := by
  cases v <;> simp only [Mi.gl] at e ⊢ <;> try exact absurd e (by simp)
  rename_i i
  cases hi : a[i]? with
  | none => rw [hi] at e; exact absurd e (by simp)
  | some o => rw [hi] at e; rw [h.at hi]; exact e
theorem last_app (m : MH) (o : MO) : (m ++ [o])[m.length]? = some o := by simp
/-- string list object -/
def SL (m : MH) (v : MV) (ss : List Str) : Prop := ∃ r, v = .ref r ∧ m[r]? = some (.lst (ss.map .str))
theorem SL.ext {m m' : MH} {v : MV} {ss : List Str} (h : SL m v ss) (e : Gro m m') : SL m' v ss := by
  obtain ⟨r, hv, hr⟩ := h
  exact ⟨r, hv, e.at hr⟩
theorem SL.gl {m : MH} {v : MV} {ss : List Str} (h : SL m v ss) : Mi.gl m v = some (ss.map .str) := by
  obtain ⟨r, rfl, hr⟩ := h
  simp only [Mi.gl, hr]
theorem SL.gs {g : G} {m : MH} {v : MV} {ss : List Str} (h : SL m v ss) : Mi.gs g m v = some (ss.map .str) := by simp only [Mi.gs, h.gl]
theorem SL.nstr {m : MH} {v : MV} {ss : List Str} (h : SL m v ss) : ∀ z, v ≠ .str z := by
  obtain ⟨r, rfl, hr⟩ := h
  intro z hz; cases hz
theorem SL.new (m : MH) (ss : List Str) : SL (m ++ [.lst (ss.map .str)]) (.ref m.length) ss := ⟨_, rfl, last_app _ _⟩
theorem atI_map {α β : Type} (f : α → β) (xs : List α) (i : Int) : atI (xs.map f) i = (atI xs i).map f := by
  unfold atI
  simp only [List.length_map, List.getElem?_map]
  cases ixN xs.length i <;> rfl
theorem SL.ix {g : G} {m : MH} {v : MV} {ss : List Str} (h : SL m v ss) {i : Int} {w : Str} (hw : atI ss i = some w) : ixM g v (.int i) m = .ok (.str w) m :=
  ix_l h.gs h.nstr (by rw [atI_map, hw]; rfl)
theorem SL.len {g : G} {m : MH} {v : MV} {ss : List Str} (h : SL m v ss) : bltM g .len [v] m = .ok (.int ss.length) m := by
  have := bl_lenL (g := g) h.gs h.nstr
  rwa [List.length_map] at this
theorem cutM_map {α : Type} (f : α → MV) (xs : List α) (lo hi : Option Int) : cutM (xs.map f) lo hi = ((xs.drop (HT.sIx xs.length 0 lo)).take (HT.sIx xs.length xs.length hi - HT.sIx xs.length 0 lo)).map f := by
  unfold cutM
  rw [List.length_map, List.map_take, List.map_drop]
def cutL {α : Type} (xs : List α) (lo hi : Option Int) : List α := (xs.drop (HT.sIx xs.length 0 lo)).take (HT.sIx xs.length xs.length hi - HT.sIx xs.length 0 lo)
theorem SL.cut {m : MH} {v : MV} {ss : List Str} (h : SL m v ss) (lo hi : Option Int) : slM v lo hi m = .ok (.ref m.length) (m ++ [.lst ((cutL ss lo hi).map .str)]) := by
  rw [sl_l h.gl h.nstr, cutM_map]; rfl
/-- a literal list of texts -/
def strsI : List Str → IEs
  | [] => .nil
  | x :: r => .cons (.con (.str x)) (strsI r)
theorem dA_strs {g : G} {fc fm : Nat → List MV → MH → Rs MV} {s : MS} {m : MH} : ∀ ws : List Str, dA g fc fm (strsI ws) s m = .ok (ws.map .str) m
  | [] => rfl
  | x :: r => by simp only [strsI, dA, dE, Rs.bind, dA_strs r, List.map_cons]
theorem dE_strs {g : G} {fc fm : Nat → List MV → MH → Rs MV} {s : MS} {m : MH} (ws : List Str) (h : ws.length ≤ sizeLine) : dE g fc fm (.lst (strsI ws)) s m = .ok (.ref m.length) (m ++ [.lst (ws.map .str)]) := by
  simp only [dE, dA_strs, Rs.bind, List.length_map, if_pos h, new]
/-- all stays but what lies at D -/
def GroX (D : Nat) (m m' : MH) : Prop := ∀ (i : Nat) (o : MO), i ≠ D → m[i]? = some o → m'[i]? = some o
theorem GroX.refl (D : Nat) (m : MH) : GroX D m m := fun _ _ _ h => h
theorem GroX.trans {D : Nat} {a b c : MH} (h : GroX D a b) (h' : GroX D b c) : GroX D a c := fun i o n e => h' i o n (h i o n e)
theorem Gro.x {D : Nat} {a b : MH} (h : Gro a b) : GroX D a b := fun i o _ e => h i o e
theorem GroX.set (D : Nat) (m : MH) (o : MO) : GroX D m (m.set D o) := fun (i : Nat) (o' : MO) (n : i ≠ D) (e : m[i]? = some o') => by
  rw [List.getElem?_set_ne (Ne.symm n)]; exact e
def All2 {α β : Type} (Q : α → β → Prop) : List α → List β → Prop
  | [], [] => True
  | x :: xs, y :: ys => Q x y ∧ All2 Q xs ys
  | _, _ => False
theorem All2.imp {α β : Type} {P Q : α → β → Prop} (h : ∀ x y, P x y → Q x y) : ∀ {xs : List α} {ys : List β}, All2 P xs ys → All2 Q xs ys
  | [], [], _ => trivial
  | _ :: _, _ :: _, k => ⟨h _ _ k.1, All2.imp h k.2⟩
  | [], _ :: _, k => k.elim
  | _ :: _, [], k => k.elim
theorem All2.len {α β : Type} {P : α → β → Prop} : ∀ {xs : List α} {ys : List β}, All2 P xs ys → xs.length = ys.length
  | [], [], _ => rfl
  | _ :: _, _ :: _, k => by rw [List.length_cons, List.length_cons, All2.len k.2]
  | [], _ :: _, k => k.elim
  | _ :: _, [], k => k.elim
theorem All2.app {α β : Type} {P : α → β → Prop} : ∀ {xs xs' : List α} {ys ys' : List β}, All2 P xs ys → All2 P xs' ys' → All2 P (xs ++ xs') (ys ++ ys')
  | [], _, [], _, _, h => h
  | _ :: _, _, _ :: _, _, k, h => ⟨k.1, All2.app k.2 h⟩
  | [], _, _ :: _, _, k, _ => k.elim
  | _ :: _, _, [], _, k, _ => k.elim
theorem All2.get {α β : Type} {P : α → β → Prop} : ∀ {xs : List α} {ys : List β}, All2 P xs ys → ∀ (i : Nat) (x : α), xs[i]? = some x → ∃ y, ys[i]? = some y ∧ P x y
  | [], [], _, i, x, h => by simp at h
  | a :: r, b :: t, k, 0, x, h => by
    simp at h
    exact ⟨b, rfl, h ▸ k.1⟩
  | a :: r, b :: t, k, i + 1, x, h => by
    rw [List.getElem?_cons_succ] at h
    obtain ⟨y, h1, h2⟩ := All2.get k.2 i x h
    exact ⟨y, by rw [List.getElem?_cons_succ]; exact h1, h2⟩
  | [], _ :: _, k, _, _, _ => k.elim
  | _ :: _, [], k, _, _, _ => k.elim
section
variable {still : MH → Bool} {tg : List MV → MS → MH → Option MS}
theorem lc_map {t : MS → MH → Rs Bool} {e : MS → MH → Rs MV} {D : Nat} {s : MS} (m0 : MH) (hD : m0.length ≤ D) (hstill : ∀ m, Gro m0 m → still m = true) (Q : List MV → MV → MH → Prop) (hQ : ∀ x y m m', GroX D m m' → Q x y m → Q x y m') :
    ∀ (items : List (List MV)) (acc : List MV) (m : MH), Gro m0 m → m[D]? = some (.lst acc) → acc.length + items.length ≤ sizeLine →
      (∀ x ∈ items, ∀ m, Gro m0 m → D < m.length → ∃ s1 y m2, tg x s m = some s1 ∧ t s1 m = .ok true m ∧ e s1 m = .ok y m2 ∧ Gro m m2 ∧ Q x y m2) →
      ∃ ys m', lcL still tg t e D s items m = .ok (.ref D) m' ∧ Gro m0 m' ∧ GroX D m m' ∧ m'[D]? = some (.lst (acc ++ ys)) ∧ All2 (fun x y => Q x y m') items ys
  | [], acc, m, hm, hd, _, _ => ⟨[], m, by unfold lcL; rw [hstill m hm]; rfl, hm, .refl _ _, by rw [List.append_nil]; exact hd, trivial⟩
  | x :: r, acc, m, hm, hd, hl, hx => by
    rw [List.length_cons] at hl
    have hDm : D < m.length := (List.getElem?_eq_some_iff.mp hd).1
    obtain ⟨s1, y, m2, h1, h2, h3, h4, h5⟩ := hx x (List.mem_cons_self ..) m hm hDm
    have hd2 := h4.at hd
    have hD2 : D < m2.length := (List.getElem?_eq_some_iff.mp hd2).1
    obtain ⟨ys, m', k1, k2, k3, k4, k5⟩ := lc_map m0 hD hstill Q hQ r (acc ++ [y]) (m2.set D (.lst (acc ++ [y]))) ((hm.trans h4).set hD _) (by rw [List.getElem?_set_self hD2]) (by rw [List.length_append, List.length_singleton]; omega) (fun z hz => hx z (List.mem_cons_of_mem _ hz))
    refine ⟨y :: ys, m', ?_, k2, (h4.x.trans (GroX.set _ _ _)).trans k3, ?_, hQ _ _ _ _ ((GroX.set _ _ _).trans k3) h5, k5⟩
    · unfold lcL
      rw [hstill m hm]
      simp only [if_true, h1, h2, h3, hd2]
      rw [if_pos (by omega)]
      exact k1
    · rw [k4, List.append_assoc]; rfl
theorem forL_inv {b : MS → MH → Fl} (I : List (List MV) → MS → MH → Prop) (hs : ∀ l s m, I l s m → still m = true)
    (hst : ∀ x l s m, I (x :: l) s m → ∃ s1 s2 m2, tg x s m = some s1 ∧ b s1 m = .nx s2 m2 ∧ I l s2 m2) : ∀ items s m, I items s m → ∃ s' m', forL still tg b items s m = .nx s' m' ∧ I [] s' m'
  | [], s, m, h => ⟨s, m, by unfold forL; rw [hs _ _ _ h]; rfl, h⟩
  | x :: r, s, m, h => by
    obtain ⟨s1, s2, m2, h1, h2, h3⟩ := hst x r s m h
    obtain ⟨s', m', k1, k2⟩ := forL_inv I hs hst r s2 m2 h3
    refine ⟨s', m', ?_, k2⟩
    unfold forL
    rw [hs _ _ _ h]
    simp only [if_true, h1, h2]
    exact k1
end
theorem whl_inv {c : MS → MH → Rs Bool} {b : MS → MH → Fl} (I : Nat → MS → MH → Prop) (J : MS → MH → Prop)
    (h : ∀ k s m, I k s m → (∃ m1, c s m = .ok false m1 ∧ J s m1) ∨ (∃ m1 s2 m2 k', c s m = .ok true m1 ∧ b s m1 = .nx s2 m2 ∧ k' < k ∧ I k' s2 m2)) :
    ∀ n k s m, k < n → I k s m → ∃ s' m', whl c b n s m = .nx s' m' ∧ J s' m'
  | 0, k, _, _, hk, _ => absurd hk (Nat.not_lt_zero _)
  | n + 1, k, s, m, hk, hI => by
    rcases h k s m hI with ⟨m1, h1, h2⟩ | ⟨m1, s2, m2, k', h1, h2, h3, h4⟩
    · exact ⟨s, m1, by simp only [whl, h1], h2⟩
    · obtain ⟨s', m', k1, k2⟩ := whl_inv I J h n k' s2 m2 (by omega) h4
      exact ⟨s', m', by simp only [whl, h1, h2, k1], k2⟩
namespace K
theorem fn_0 : gg.fns[0]? = some f0 := rfl
theorem fn_1 : gg.fns[1]? = some f1 := rfl
theorem fn_2 : gg.fns[2]? = some f2 := rfl
theorem fn_3 : gg.fns[3]? = some f3 := rfl
theorem fn_4 : gg.fns[4]? = some f4 := rfl
theorem fn_5 : gg.fns[5]? = some f5 := rfl
theorem fn_6 : gg.fns[6]? = some f6 := rfl
theorem fn_7 : gg.fns[7]? = some f7 := rfl
theorem fn_8 : gg.fns[8]? = some f8 := rfl
theorem fn_9 : gg.fns[9]? = some f9 := rfl
theorem fn_10 : gg.fns[10]? = some f10 := rfl
theorem fn_11 : gg.fns[11]? = some f11 := rfl
theorem fn_12 : gg.fns[12]? = some f12 := rfl
theorem fn_13 : gg.fns[13]? = some f13 := rfl
theorem fn_14 : gg.fns[14]? = some f14 := rfl
theorem fn_15 : gg.fns[15]? = some f15 := rfl
theorem fn_16 : gg.fns[16]? = some f16 := rfl
theorem fn_17 : gg.fns[17]? = some f17 := rfl
end K
end Mi

set_option Elab.async false
set_option maxRecDepth 100000
set_option maxHeartbeats 4000000
set_option linter.all false
namespace Mi
open PySem PySem.Spec PyProof.Rows L2
local macro_rules | `(tactic| walk_at "mi") => `(tactic| simp only [dS, dT, dE, dA, dP, lift, Rs.bind, Fl.back, startM, List.map_cons, List.map_nil, List.length_cons, List.length_nil, List.nil_append, List.cons_append, List.replicate_succ, List.replicate_zero, Nat.reduceAdd, Nat.reduceSub, List.getElem?_cons_zero, List.getElem?_cons_succ, List.set_cons_zero, List.set_cons_succ,
  co_eqi, co_eqs, co_nei, co_nes, cop_lt, cop_le, cop_gt, cop_ge, bop_addi, bop_subi, truth_i, truth_b, bmTy, decide_true, decide_false, Bool.not_true, Bool.not_false, if_true, if_false, decide_eq_true_eq, Bool.false_eq_true, *])
namespace K
def numOk (w : Str) (n : Int) : Bool := decide (1 ≤ w.length) && decide (w.length ≤ 3) && decide (Txt.stripChars w "0123456789" = "") && (decide (w = "0") || (match atI w.cps.toList 0 with | some c => decide (c ≠ 48 ∧ c ≠ 64) | none => false)) && decide (PySem.intText? w = some n)
structure NumW (w : Str) (n : Int) : Prop where
  h1 : 1 ≤ w.length
  h2 : w.length ≤ 3
  h3 : Txt.stripChars w "0123456789" = ""
  h4 : w = "0" ∨ ∃ c, atI w.cps.toList 0 = some c ∧ c ≠ 48 ∧ c ≠ 64
  h5 : PySem.intText? w = some n
theorem numW_of {w : Str} {n : Int} (h : numOk w n = true) : NumW w n := by
  simp only [numOk, Bool.and_eq_true, decide_eq_true_eq, Bool.or_eq_true] at h
  obtain ⟨⟨⟨⟨h1, h2⟩, h3⟩, h4⟩, h5⟩ := h
  refine ⟨h1, h2, h3, ?_, h5⟩
  rcases h4 with h4 | h4
  · exact .inl h4
  · right
    cases e : atI w.cps.toList 0 with
    | none => rw [e] at h4; exact absurd h4 (by simp)
    | some c => rw [e] at h4; exact ⟨c, rfl, of_decide_eq_true h4⟩
theorem num_all : (List.range 1000).all (fun n => numOk (Str.ofString (toString (n : Int))) n) = true := by decide +kernel
theorem numW_num {n : Int} (h0 : 0 ≤ n) (h1 : n < 1000) : NumW (Str.ofString (toString n)) n := by
  obtain ⟨k, rfl⟩ := Int.eq_ofNat_of_zero_le h0
  exact numW_of (List.all_eq_true.mp num_all k (List.mem_range.mpr (by omega)))
theorem one_ne {c : Nat} (h : c ≠ 48) : (⟨#[c]⟩ : Str) ≠ Str.ofString "0" := by
  intro e
  have := congrArg (fun z : Str => z.cps.toList) e
  have e2 : (Str.ofString "0").cps.toList = [48] := by decide +kernel
  rw [e2] at this
  exact h (by simpa using this)
theorem one_ne2 {c : Nat} (h : c ≠ 64) : (⟨#[c]⟩ : Str) ≠ Str.ofString "@" := by
  intro e
  have := congrArg (fun z : Str => z.cps.toList) e
  have e2 : (Str.ofString "@").cps.toList = [64] := by decide +kernel
  rw [e2] at this
  exact h (by simpa using this)
theorem call0 (k : Nat) (w : Str) (n : Int) (m : MH) (h : NumW w n) : callD gg (k+1) 0 [.str w] m = .ok (.int n) m := by
  obtain ⟨h1, h2, h3, h4, h5⟩ := h
  have hz : w.length ≤ sizeLine := by rw [sizeLine_eq]; omega
  have hz6 : w.length ≤ 640 := by omega
  rw [callF fn_0, f0]
  have e1 : bltM gg .len [.str w] m = .ok (.int w.length) m := bl_lenS hz
  have e2 : decide ((1 : Int) ≤ (w.length : Int)) = true := decide_eq_true (by omega)
  have e3 : decide ((w.length : Int) ≤ 3) = true := decide_eq_true (by omega)
  have e4 := bm_st (g := gg) (m := m) (q := "0123456789") hz
  have e5 := bl_intS (g := gg) (m := m) h5 hz6
  rcases h4 with h4 | ⟨c, h4, h4', _⟩
  · subst h4
    have e7 : atI (Str.ofString "0").cps.toList 0 = some 48 := by decide +kernel
    have e6 := ix_s (g := gg) (m := m) hz e7
    have e8 : decide ((⟨#[48]⟩ : Str) = Str.ofString "0") = true := by decide +kernel
    clear h1 h2 h5
    walk_at "mi"
  have e6 := ix_s (g := gg) (m := m) hz h4
  have e7 := decide_eq_false (one_ne h4')
  clear h1 h2 h4 h5
  walk_at "mi"
theorem call1 (k : Nat) (w : Str) (n b : Int) (m : MH) (h : NumW w n) : callD gg (k+2) 1 [.str w, .int b] m = .ok (.bl (decide (n < b))) m := by
  rw [callF fn_1, f1]
  have e1 := call0 k w n m h
  have e2 : decide (MV.int n = MV.non) = false := decide_eq_false (by intro e; cases e)
  clear h
  walk_at "mi"
theorem call2 (k : Nat) (w : Str) (n : Int) (m : MH) (h : NumW w n) (hn : n < 512) : callD gg (k+3) 2 [.str w] m = .ok (.bl true) m := by
  rw [callF fn_2, f2]
  have e1 := call1 k w n 512 m h
  have e2 : decide (n < 512) = true := decide_eq_true hn
  clear h hn
  walk_at "mi"
/-- an argument -/
def ArgW (w : Str) : Prop := w ≠ "to" ∧ ∀ k m, callD gg (k+4) 3 [.str w] m = .ok (.bl true) m
def argOk (w : Str) : Prop := ∀ k m, callD gg (k+4) 3 [.str w] m = .ok (.bl true) m
theorem arg_num {w : Str} {n : Int} (h : NumW w n) : argOk w := by
  intro k m
  rw [callF fn_3, f3]
  have e0 := call0 (k+2) w n m h
  obtain ⟨h1, h2, h3, h4, h5⟩ := h
  have hz : w.length ≤ sizeLine := by rw [sizeLine_eq]; omega
  have e4 := bm_st (g := gg) (m := m) (q := "0123456789") hz
  have e2 : decide (MV.int n = MV.non) = false := decide_eq_false (by intro e; cases e)
  have : ∃ c, atI w.cps.toList 0 = some c ∧ c ≠ 64 := by
    rcases h4 with h4 | ⟨c, h, _, h'⟩
    · subst h4
      exact ⟨48, by decide +kernel, by decide⟩
    · exact ⟨c, h, h'⟩
  obtain ⟨c, hc, hc'⟩ := this
  have e6 := ix_s (g := gg) (m := m) hz hc
  have e7 := decide_eq_false (one_ne2 hc')
  clear h1 h2 h4 h5
  walk_at "mi"
theorem arg_lit {w : Str} (h1 : w.length ≤ 640) (h3 : decide (Txt.stripChars w "0123456789" = "") = false) {c : Nat} (hc : atI w.cps.toList 0 = some c) (hc' : c ≠ 64) : argOk w := by
  intro k m
  rw [callF fn_3, f3]
  have hz : w.length ≤ sizeLine := by rw [sizeLine_eq]; omega
  have e4 := bm_st (g := gg) (m := m) (q := "0123456789") hz
  have e6 := ix_s (g := gg) (m := m) hz hc
  have e7 := decide_eq_false (one_ne2 hc')
  clear h1 hc
  walk_at "mi"
theorem arg_at {w a : Str} {n : Int} (h : NumW a n) (hn : n < 512) (h1 : w.length ≤ 640) (hc : atI w.cps.toList 0 = some 64) (ht : cutS w (some 1) none = a) : argOk w := by
  intro k m
  rw [callF fn_3, f3]
  have hz : w.length ≤ sizeLine := by rw [sizeLine_eq]; omega
  have e6 := ix_s (g := gg) (m := m) hz hc
  have e7 : decide ((⟨#[64]⟩ : Str) = Str.ofString "@") = true := by decide +kernel
  have e8 := sl_s (m := m) (lo := some 1) (hi := none) hz
  rw [ht] at e8
  have e9 := call2 k a n m h hn
  clear h1 hc h hn ht
  walk_at "mi"
def litOk (w : Str) : Bool := decide (w.length ≤ 640) && !decide (Txt.stripChars w "0123456789" = "") && (match atI w.cps.toList 0 with | some c => decide (c ≠ 64) | none => false)
theorem arg_litOk {w : Str} (h : litOk w = true) : argOk w := by
  simp only [litOk, Bool.and_eq_true, decide_eq_true_eq, Bool.not_eq_true'] at h
  obtain ⟨⟨h1, h2⟩, h3⟩ := h
  cases e : atI w.cps.toList 0 with
  | none => rw [e] at h3; exact absurd h3 (by simp)
  | some c => rw [e] at h3; exact arg_lit h1 h2 e (of_decide_eq_true h3)
theorem at_all : (List.range 512).all (fun n => let w := Str.ofString "@" ++ Str.ofString (toString (n : Int)); decide (w.length ≤ 640) && decide (atI w.cps.toList 0 = some 64) && decide (cutS w (some 1) none = Str.ofString (toString (n : Int)))) = true := by decide +kernel
theorem arg_atn {n : Int} (h0 : 0 ≤ n) (h1 : n < 512) : argOk (Str.ofString "@" ++ Str.ofString (toString n)) := by
  obtain ⟨k, rfl⟩ := Int.eq_ofNat_of_zero_le h0
  have := List.all_eq_true.mp at_all k (List.mem_range.mpr (by omega))
  simp only [Bool.and_eq_true, decide_eq_true_eq] at this
  exact arg_at (numW_num h0 (by omega)) h1 this.1.1 this.1.2 this.2
theorem call8 (k : Nat) (v : MV) (i : Int) (m : MH) (ns : List Int) (hv : gl m v = some (ns.map .int)) (hns : ∀ z, v ≠ .str z) (hi : 0 ≤ i) : ∃ z, callD gg (k+1) 8 [v, .int i] m = .ok (.int z) m ∧ (z = 0 ∨ z ∈ ns) := by
  have hg : gs gg m v = some (ns.map .int) := by simp only [gs, hv]
  have e1 := bl_lenL (g := gg) hg hns
  rw [List.length_map] at e1
  rw [callF fn_8, f8]
  by_cases h : i < (ns.length : Int)
  · obtain ⟨j, rfl⟩ := Int.eq_ofNat_of_zero_le hi
    have hj : j < ns.length := by omega
    have e2 : atI (ns.map .int) (j : Int) = some (MV.int ns[j]) := by
      rw [atI_map]
      have : atI ns (j : Int) = some ns[j] := by
        unfold atI ixN
        simp [hj]
      rw [this]; rfl
    have e3 := ix_l hg hns e2
    have e4 := decide_eq_true h
    clear hi
    exact ⟨ns[j], by walk_at "mi", .inr (List.getElem_mem hj)⟩
  · have e4 := decide_eq_false h
    exact ⟨0, by clear hi; walk_at "mi", .inl rfl⟩
theorem call9 (k : Nat) (c f p : Int) (m : MH) (hf : -(2 ^ 64) < f ∧ f < 2 ^ 64) (hp : 0 < p) : callD gg (k+1) 9 [.int c, .int f, .int p] m = .ok (.int (c * f % p)) m := by
  rw [callF fn_9, f9]
  have e1 := bo_mulR (m := m) (i := c) hf
  have e2 := bo_mod (m := m) (i := c * f) hp
  clear hf hp
  walk_at "mi"
end K
end Mi

set_option Elab.async false
set_option maxRecDepth 100000
set_option maxHeartbeats 4000000
set_option linter.all false
namespace Mi
open PySem PySem.Spec PyProof.Rows L2
local macro_rules | `(tactic| walk_at "mi") => `(tactic| simp only [dS, dT, dE, dA, dP, dW, lift, Rs.bind, Fl.back, startM, List.map_cons, List.map_nil, List.length_cons, List.length_nil, List.nil_append, List.cons_append, List.replicate_succ, List.replicate_zero, Nat.reduceAdd, Nat.reduceSub, Int.reduceNeg, List.getElem?_cons_zero, List.getElem?_cons_succ, List.set_cons_zero, List.set_cons_succ,
  co_eqi, co_eqs, co_nei, co_nes, cop_lt, cop_le, cop_gt, cop_ge, bop_addi, bop_subi, truth_i, truth_b, bmTy, decide_true, decide_false, Bool.not_true, Bool.not_false, if_true, if_false, decide_eq_true_eq, Bool.false_eq_true, new, setAll, *])
theorem gt_new (g : G) (m : MH) (xs : List MV) : gt g (m ++ [.tup xs]) (.ref m.length) = some xs := by simp only [gt, last_app]
theorem SL.none_tup {g : G} {m : MH} {v : MV} {ss : List Str} (h : SL m v ss) : gt g m v = none := by
  obtain ⟨r, rfl, hr⟩ := h
  simp only [gt, hr]
theorem dW_sl {g : G} {fc fm : Nat → List MV → MH → Rs MV} {s : MS} {m m' : MH} {a : IE} {v : MV} {xs : List MV} (h : dE g fc fm a s m = .ok v m') (hv : gl m' v = some xs) : dW g fc fm (.wl a) s m = .ok (.lst v xs) m' := by
  simp only [dW, h, Rs.bind, hv]
theorem bls_all {α : Type} : ∀ {xs : List α} {ys : List MV}, All2 (fun _ y => y = .bl true) xs ys → ∃ bs, blsOf ys = some bs ∧ bs.all id = true
  | [], [], _ => ⟨[], rfl, rfl⟩
  | _ :: _, y :: ys, h => by
    obtain ⟨bs, h1, h2⟩ := bls_all h.2
    obtain ⟨h3, _⟩ := h
    subst h3
    refine ⟨true :: bs, ?_, by rw [List.all_cons, h2]; rfl⟩
    unfold blsOf at h1 ⊢
    simp only [allSome, h1]
  | [], _ :: _, k => k.elim
  | _ :: _, [], k => k.elim
namespace K
def argsK : List (Str × MV) := [("map", .int 2), ("drop", .int 2), ("fork", .int 0), ("end", .int 1), ("wait", .int 0), ("who", .int 0), ("make", .int 1), ("dir", .int 1), ("link", .int 2), ("unlink", .int 1), ("undir", .int 1), ("move", .int 2), ("names", .int 1), ("stat", .int 1), ("open", .int 2), ("close", .int 1), ("same", .int 1), ("give", .int 2), ("pipe", .int 0), ("read", .int 3), ("write", .int 3), ("seek", .int 2), ("signal", .int 2), ("handle", .int 2), ("mask", .int 2), ("due", .int 0), ("time", .int 0), ("alarm", .int 1)]
theorem cst0 : gg.cst[0]? = some (.dS argsK) := rfl
theorem call4_to (k : Nat) (v : MV) (ws : List Str) (a : Str) (m : MH) (h : SL m v ws) (h2 : atI ws (-2) = some "to") (h1 : atI ws (-1) = some a) :
    ∃ r m', callD gg (k+1) 4 [v] m = .ok r m' ∧ Gro m m' ∧ ∃ p, gt gg m' r = some [p, .str a] ∧ SL m' p (cutL ws (some 1) (some (-2))) := by
  refine ⟨.ref (m.length + 1), (m ++ [.lst ((cutL ws (some 1) (some (-2))).map .str)]) ++ [.tup [.ref m.length, .str a]], ?_, (Gro.app _ _).to_app, .ref m.length, ?_, (SL.new _ _).ext (.app _ _)⟩
  · rw [callF fn_4, f4]
    have e1 := h.ix (g := gg) h2
    have e2 := h.cut (some 1) (some (-2))
    have e3 := (h.ext (Gro.app m [.lst ((cutL ws (some 1) (some (-2))).map .str)])).ix (g := gg) h1
    have e4 : (2 : Nat) ≤ sizeLine := by rw [sizeLine_eq]; omega
    clear h h1 h2
    walk_at "mi"
    simp only [List.length_append, List.length_singleton]
  · have := gt_new gg (m ++ [.lst ((cutL ws (some 1) (some (-2))).map .str)]) [.ref m.length, .str a]
    simpa only [List.length_append, List.length_singleton] using this
theorem call4_no (k : Nat) (v : MV) (ws : List Str) (a : Str) (m : MH) (h : SL m v ws) (h2 : atI ws (-2) = some a) (ha : a ≠ "to") :
    ∃ r m', callD gg (k+1) 4 [v] m = .ok r m' ∧ Gro m m' ∧ ∃ p, gt gg m' r = some [p, .non] ∧ SL m' p (cutL ws (some 1) none) := by
  refine ⟨.ref (m.length + 1), (m ++ [.lst ((cutL ws (some 1) none).map .str)]) ++ [.tup [.ref m.length, .non]], ?_, (Gro.app _ _).to_app, .ref m.length, ?_, (SL.new _ _).ext (.app _ _)⟩
  · rw [callF fn_4, f4]
    have e1 := h.ix (g := gg) h2
    have e2 := h.cut (some 1) none
    have e4 : (2 : Nat) ≤ sizeLine := by rw [sizeLine_eq]; omega
    have e5 := decide_eq_false ha
    clear h h2
    walk_at "mi"
    simp only [List.length_append, List.length_singleton]
  · have := gt_new gg (m ++ [.lst ((cutL ws (some 1) none).map .str)]) [.ref m.length, .non]
    simpa only [List.length_append, List.length_singleton] using this
/-- the comprehension over the arguments -/
theorem all_args (k : Nat) (s : MS) (m : MH) (p : MV) (ws : List Str) (hp : SL m p ws) (hs : s[1]? = some (some p)) (hs3 : 3 < s.length) (hl : ws.length ≤ 100) (hw : ∀ w ∈ cutL ws (some 1) none, argOk w) :
    ∃ m', dE gg (callD gg (k+4)) (fmOf gg (k+4)) (.blt .all (.cons (.lc (.call 3 (.cons (.var 3) .nil)) [3] false (.wl (.sl (.var 1) (.con (.int 1)) .nopart)) .nopart) .nil)) s m = .ok (.bl true) m' ∧ Gro m m' := by
  have e2 := hp.cut (some 1) none
  have hsl := SL.new m (cutL ws (some 1) none)
  generalize hm1 : m ++ [.lst ((cutL ws (some 1) none).map .str)] = m1 at e2 hsl
  have g1 : Gro m m1 := by rw [← hm1]; exact .app _ _
  have ew : dE gg (callD gg (k+4)) (fmOf gg (k+4)) (.sl (.var 1) (.con (.int 1)) .nopart) s m = .ok (.ref m.length) m1 := by
    simp only [dE, dP, hs, Rs.bind, e2]
  have eW := dW_sl ew hsl.gl
  have hcl : (cutL ws (some 1) none).length ≤ 100 := by
    unfold cutL
    rw [List.length_take, List.length_drop]
    omega
  have hst : ∀ m', Gro m1 m' → (Wk.lst (.ref m.length) ((cutL ws (some 1) none).map .str)).still gg m' = true := fun m' hm => decide_eq_true (hm.gl hsl.gl)
  obtain ⟨ys, m', k1, k2, k3, k4, k5⟩ := lc_map (still := fun m' => (Wk.lst (.ref m.length) ((cutL ws (some 1) none).map .str)).still gg m') (tg := fun x s m => bindT gg [3] false x s m) (t := dT gg (callD gg (k+4)) (fmOf gg (k+4)) .nopart) (e := dE gg (callD gg (k+4)) (fmOf gg (k+4)) (.call 3 (.cons (.var 3) .nil))) (D := m1.length) (s := wipeM s [3]) m1 (Nat.le_refl _) hst (fun _ y _ => y = .bl true) (fun _ _ _ _ _ h => h)
    (Wk.lst (.ref m.length) ((cutL ws (some 1) none).map .str)).items [] (m1 ++ [.lst []]) (.app _ _) (last_app _ _) (by simp only [Wk.items, List.length_map, List.length_nil]; rw [sizeLine_eq]; omega) (by
      intro x hx m2 _ _
      simp only [Wk.items, List.map_map, List.mem_map] at hx
      obtain ⟨w, hw1, rfl⟩ := hx
      refine ⟨(wipeM s [3]).set 3 (some (.str w)), .bl true, m2, ?_, ?_, ?_, .refl _, rfl⟩
      · simp only [Function.comp, bindT]; rfl
      · simp only [dT]
      · have hq : (wipeM s [3]).set 3 (some (.str w)) = s.set 3 (some (.str w)) := by simp only [wipeM, List.set_set]
        rw [hq]
        have : (s.set 3 (some (.str w)))[3]? = some (some (.str w)) := by rw [List.getElem?_set_self hs3]
        simp only [dE, dA, this, Rs.bind, hw w hw1 k m2])
  obtain ⟨bs, hb1, hb2⟩ := bls_all k5
  have hg : gl m' (.ref m1.length) = some ys := by simp only [gl, k4, List.nil_append]
  refine ⟨m', ?_, g1.trans k2⟩
  show (dA _ _ _ (.cons (.lc _ _ _ _ _) .nil) s m).bind _ = _
  have : dE gg (callD gg (k+4)) (fmOf gg (k+4)) (.lc (.call 3 (.cons (.var 3) .nil)) [3] false (.wl (.sl (.var 1) (.con (.int 1)) .nopart)) .nopart) s m = .ok (.ref m1.length) m' := ev_lc eW k1
  simp only [dA, this, Rs.bind, bl_all hg hb1, hb2]
theorem argsK_ok : argsK.all (fun p => match p.2 with | .int i => decide (0 ≤ i ∧ i ≤ 3) | _ => false) = true := by decide +kernel
/-- call_good, once the parts are there -/
def CallW (ws : List Str) : Prop := ∃ (name : Str) (args : List Str) (tail : List Str), ws = Str.ofString "call" :: name :: (args ++ tail) ∧ lookS name argsK = some (.int args.length) ∧ args.length ≤ 3 ∧ (∀ w ∈ args, argOk w)
  ∧ ((tail = [] ∧ ∃ a, atI ws (-2) = some a ∧ a ≠ "to") ∨ (∃ a n, tail = [Str.ofString "to", a] ∧ NumW a n ∧ n < 512))
theorem call5 (k : Nat) (v : MV) (ws : List Str) (m : MH) (h : SL m v ws) (hw : CallW ws) : ∃ m', callD gg (k+5) 5 [v] m = .ok (.bl true) m' ∧ Gro m m' := by
  obtain ⟨name, args, tail, e, hl, ha, hargs, ht⟩ := hw
  have hlen : ws.length = 2 + args.length + tail.length := by rw [e]; simp; omega
  have i1 : atI (name :: args) 0 = some name := by
    unfold atI ixN; simp
  have ew : cutL (name :: args) (some 1) none = args := by
    unfold cutL HT.sIx; simp
  have fin : ∀ (r p A : MV) (m1 : MH), callD gg (k+4) 4 [v] m = .ok r m1 → Gro m m1 → gt gg m1 r = some [p, A] → SL m1 p (name :: args) →
      (A = .non ∨ ∃ a n, A = .str a ∧ NumW a n ∧ n < 512) → ∃ m', callD gg (k+5) 5 [v] m = .ok (.bl true) m' ∧ Gro m m' := by
    intro r p A m1 e1 g1 e2 hp hA
    have e3 := h.len (g := gg)
    have e4 : decide ((ws.length : Int) < 2) = false := decide_eq_false (by omega)
    have e5 := hp.len (g := gg)
    have e6 := hp.ix (g := gg) i1
    have e7 : cop gg .NotIn (.str name) (.cst 0) m1 = .ok (.bl false) m1 := by
      simp only [cop, inM, cst0, hl]; rfl
    have e8 : ixM gg (.cst 0) (.str name) m1 = .ok (.int args.length) m1 := by
      simp only [ixM, cst0, hl]
    rw [List.length_cons] at e5
    have e9 : decide (((args.length + 1 : Nat) : Int) = 0) = false := decide_eq_false (by omega)
    have e10 : decide (((args.length + 1 : Nat) : Int) - 1 = args.length) = true := decide_eq_true (by omega)
    have e11 : ∃ m', dE gg (callD gg (k+4)) (fmOf gg (k+4)) (.blt .all (.cons (.lc (.call 3 (.cons (.var 3) .nil)) [3] false (.wl (.sl (.var 1) (.con (.int 1)) .nopart)) .nopart) .nil)) [some v, some p, some A, none] m1 = .ok (.bl true) m' ∧ Gro m1 m' :=
      all_args k _ m1 p (name :: args) hp rfl (by simp) (by rw [List.length_cons]; omega) (by rw [ew]; exact hargs)
    obtain ⟨m', e12, g2⟩ := e11
    refine ⟨m', ?_, g1.trans g2⟩
    rw [callF fn_5, f5]
    generalize IE.blt .all (.cons (.lc (.call 3 (.cons (.var 3) .nil)) [3] false (.wl (.sl (.var 1) (.con (.int 1)) .nopart)) .nopart) .nil) = X at e12 ⊢
    rcases hA with rfl | ⟨a, n, rfl, hn, hn2⟩
    · have a1 : decide (MV.non = MV.non) = true := decide_eq_true rfl
      clear h e hl ha hargs ht hlen i1 ew g1 hp g2
      walk_at "mi"
    · have a1 : decide (MV.str a = MV.non) = false := decide_eq_false (by intro h; cases h)
      have a2 := call2 (k+1) a n m1 hn hn2
      clear h e hl ha hargs ht hlen i1 ew g1 hp g2 hn hn2
      walk_at "mi"
  rcases ht with ⟨rfl, a, h1, h2⟩ | ⟨a, n, rfl, h1, h2⟩
  · obtain ⟨r, m1, k1, k2, p, k3, k4⟩ := call4_no (k+3) v ws a m h h1 h2
    refine fin r p .non m1 k1 k2 k3 ?_ (.inl rfl)
    have : cutL ws (some 1) none = name :: args := by
      rw [e]; unfold cutL HT.sIx; simp
    rwa [this] at k4
  · have q : ws.length = args.length + 4 := by rw [hlen]; simp; omega
    have j2 : atI ws (-2) = some "to" := by
      unfold atI ixN
      rw [if_neg (by decide), if_pos (by omega), q]
      have : ((-2 : Int) + ((args.length + 4 : Nat) : Int)).toNat = args.length + 2 := by omega
      rw [Option.bind_some, this, e]; simp
    have j1 : atI ws (-1) = some a := by
      unfold atI ixN
      rw [if_neg (by decide), if_pos (by omega), q]
      have : ((-1 : Int) + ((args.length + 4 : Nat) : Int)).toNat = args.length + 3 := by omega
      rw [Option.bind_some, this, e]; simp
    obtain ⟨r, m1, k1, k2, p, k3, k4⟩ := call4_to (k+3) v ws a m h j2 j1
    refine fin r p (.str a) m1 k1 k2 k3 ?_ (.inr ⟨a, n, rfl, h1, h2⟩)
    have : cutL ws (some 1) (some (-2)) = name :: args := by
      have s1 : HT.sIx (args.length + 4) 0 (some 1) = 1 := by unfold HT.sIx; simp
      have s2 : HT.sIx (args.length + 4) (args.length + 4) (some (-2)) = args.length + 2 := by
        unfold HT.sIx
        simp only
        rw [if_pos (by decide)]
        omega
      unfold cutL
      rw [q, s1, s2, e]
      simp
    rwa [this] at k4
/-- a good row -/
inductive RowW : List Str → Prop
  | call {ws : List Str} (h : CallW ws) : RowW ws
  | back : RowW ["back"]
  | jump {w : Str} {n : Int} (h : NumW w n) : RowW ["jump", w]
  | set {a w : Str} {n z : Int} (h : NumW a n) (hn : n < 512) (h' : NumW w z) (hz : z < 256) : RowW ["set", a, w]
  | ifz {a w : Str} {n z : Int} (h : NumW a n) (hn : n < 512) (h' : NumW w z) : RowW ["if", a, w]
  | add {o a w : Str} {n z : Int} (ho : o = "add" ∨ o = "less") (h : NumW a n) (hn : n < 512) (h' : NumW w z) (hz : z < 512) : RowW [o, a, w]
theorem lit_ne {a b : Str} (h : decide (a = b) = false) : decide (a = b) = false := h
theorem at0 (a : Str) (r : List Str) : atI (a :: r) 0 = some a := by unfold atI ixN; simp
theorem at1 (a b : Str) (r : List Str) : atI (a :: b :: r) 1 = some b := by
  unfold atI ixN
  rw [if_pos (by decide), if_pos (by simp only [List.length_cons]; omega)]; rfl
theorem at2 (a b c : Str) (r : List Str) : atI (a :: b :: c :: r) 2 = some c := by
  unfold atI ixN
  rw [if_pos (by decide), if_pos (by simp only [List.length_cons]; omega)]; rfl
theorem l1 : decide (Str.ofString "back" = Str.ofString "call") = false := by decide +kernel
theorem l2 : decide (Str.ofString "jump" = Str.ofString "call") = false := by decide +kernel
theorem l3 : decide (Str.ofString "jump" = Str.ofString "back") = false := by decide +kernel
theorem l4 : decide (Str.ofString "set" = Str.ofString "call") = false := by decide +kernel
theorem l5 : decide (Str.ofString "set" = Str.ofString "back") = false := by decide +kernel
theorem l6 : decide (Str.ofString "set" = Str.ofString "jump") = false := by decide +kernel
theorem l7 : decide (Str.ofString "if" = Str.ofString "call") = false := by decide +kernel
theorem l8 : decide (Str.ofString "if" = Str.ofString "back") = false := by decide +kernel
theorem l9 : decide (Str.ofString "if" = Str.ofString "jump") = false := by decide +kernel
theorem l10 : decide (Str.ofString "if" = Str.ofString "set") = false := by decide +kernel
theorem call6 (k : Nat) (v : MV) (ws : List Str) (m : MH) (h : SL m v ws) (hw : RowW ws) : ∃ m', callD gg (k+6) 6 [v] m = .ok (.bl true) m' ∧ Gro m m' := by
  have en : ∀ n : Int, decide (MV.int n = MV.non) = false := fun n => decide_eq_false (by intro h; cases h)
  have ef : ((false : Bool) = true) = False := by simp
  have d3 : decide (((3 : Nat) : Int) = 3) = true := by decide
  have d2 : decide (((2 : Nat) : Int) = 2) = true := by decide
  cases hw with
  | call hc =>
    obtain ⟨m', e1, g1⟩ := call5 k v ws m h hc
    refine ⟨m', ?_, g1⟩
    obtain ⟨name, args, tail, e, _⟩ := hc
    have e2 := h.ix (g := gg) (i := 0) (w := "call") (by rw [e]; exact at0 _ _)
    rw [callF fn_6, f6]
    clear h e g1
    walk_at "mi"
  | back =>
    refine ⟨m, ?_, .refl _⟩
    have e2 := h.ix (g := gg) (at0 _ _)
    have e3 := h.len (g := gg)
    have e4 := l1
    have e5 : decide (((1 : Nat) : Int) = 1) = true := by decide
    rw [callF fn_6, f6]
    clear h
    walk_at "mi"
  | @jump w n hn =>
    refine ⟨m, ?_, .refl _⟩
    have e2 := h.ix (g := gg) (at0 _ _)
    have e3 := h.len (g := gg)
    have e6 := h.ix (g := gg) (at1 _ _ _)
    have e4 := l2
    have e5 := l3
    have e7 := call0 (k+4) w n m hn
    rw [callF fn_6, f6]
    clear h hn
    walk_at "mi"
  | @set a w n z hn hn2 hz hz2 =>
    refine ⟨m, ?_, .refl _⟩
    have e2 := h.ix (g := gg) (at0 _ _)
    have e3 := h.len (g := gg)
    have e6 := h.ix (g := gg) (at1 _ _ _)
    have e8 := h.ix (g := gg) (at2 _ _ _ _)
    have e4 := l4
    have e5 := l5
    have e9 := l6
    have e7 := call2 (k+2) a n m hn hn2
    have e10 := call1 (k+3) w z 256 m hz
    have e11 : decide (z < 256) = true := decide_eq_true hz2
    rw [callF fn_6, f6]
    clear h hn hn2 hz hz2
    walk_at "mi"
  | @ifz a w n z hn hn2 hz =>
    refine ⟨m, ?_, .refl _⟩
    have e2 := h.ix (g := gg) (at0 _ _)
    have e3 := h.len (g := gg)
    have e6 := h.ix (g := gg) (at1 _ _ _)
    have e8 := h.ix (g := gg) (at2 _ _ _ _)
    have e4 := l7
    have e5 := l8
    have e9 := l9
    have e12 := l10
    have e7 := call2 (k+2) a n m hn hn2
    have e10 := call0 (k+4) w z m hz
    rw [callF fn_6, f6]
    clear h hn hn2 hz
    walk_at "mi"
  | @add o a w n z ho hn hn2 hz hz2 =>
    refine ⟨m ++ [.tup [.str "add", .str "less"]], ?_, .app _ _⟩
    have e2 := h.ix (g := gg) (at0 _ _)
    have e3 := h.len (g := gg)
    have e6 := h.ix (g := gg) (at1 _ _ _)
    have h' := h.ext (Gro.app m [.tup [.str "add", .str "less"]])
    have e8 := h'.ix (g := gg) (at2 _ _ _ _)
    have e7 := call2 (k+2) a n m hn hn2
    have e10 := call2 (k+2) w z (m ++ [.tup [.str "add", .str "less"]]) hz hz2
    have e4 : (2 : Nat) ≤ sizeLine := by rw [sizeLine_eq]; omega
    have e13 : cop gg .In (.str o) (.ref m.length) (m ++ [.tup [.str "add", .str "less"]]) = .ok (.bl true) (m ++ [.tup [.str "add", .str "less"]]) := by
      simp only [cop, inM, last_app]
      rcases ho with rfl | rfl <;> rfl
    have o1 : decide (o = Str.ofString "call") = false := by rcases ho with rfl | rfl <;> decide +kernel
    have o2 : decide (o = Str.ofString "back") = false := by rcases ho with rfl | rfl <;> decide +kernel
    have o3 : decide (o = Str.ofString "jump") = false := by rcases ho with rfl | rfl <;> decide +kernel
    have o4 : decide (o = Str.ofString "set") = false := by rcases ho with rfl | rfl <;> decide +kernel
    have o5 : decide (o = Str.ofString "if") = false := by rcases ho with rfl | rfl <;> decide +kernel
    rw [callF fn_6, f6]
    clear h h' ho hn hn2 hz hz2
    walk_at "mi"
end K
end Mi

set_option Elab.async false
set_option maxRecDepth 100000
set_option maxHeartbeats 4000000
set_option linter.all false
namespace Mi
open PySem PySem.Spec PyProof.Rows L2
local macro_rules | `(tactic| walk_at "mi") => `(tactic| simp only [dS, dT, dE, dA, dP, dW, lift, Rs.bind, Fl.back, startM, List.map_cons, List.map_nil, List.length_cons, List.length_nil, List.nil_append, List.cons_append, List.replicate_succ, List.replicate_zero, Nat.reduceAdd, Nat.reduceSub, Int.reduceNeg, List.getElem?_cons_zero, List.getElem?_cons_succ, List.set_cons_zero, List.set_cons_succ,
  co_eqi, co_eqs, co_nei, co_nes, cop_lt, cop_le, cop_gt, cop_ge, bop_addi, bop_subi, truth_i, truth_b, bmTy, decide_true, decide_false, Bool.not_true, Bool.not_false, if_true, if_false, decide_eq_true_eq, Bool.false_eq_true, new, setAll, *])
theorem lit_ix {g : G} (m : MH) (vs : List MV) (i : Int) (h0 : 0 ≤ i) (h1 : i < vs.length) : ∃ v, v ∈ vs ∧ ixM g (.ref m.length) (.int i) (m ++ [.lst vs]) = .ok v (m ++ [.lst vs]) := by
  obtain ⟨j, rfl⟩ := Int.eq_ofNat_of_zero_le h0
  have hj : j < vs.length := by omega
  refine ⟨vs[j], List.getElem_mem hj, ix_l (xs := vs) ?_ (by intro z hz; cases hz) ?_⟩
  · simp only [gs, gl, last_app]
  · unfold atI ixN; simp [hj]
theorem str_ok {g : G} {m : MH} {z : Int} (h0 : 0 ≤ z) (h1 : z < 100000) : bltM g .str [.int z] m = .ok (.str (Str.ofString (toString z))) m := by
  refine bl_str ?_
  by_cases h : z.natAbs = 0
  · rw [h]; decide
  · exact (Nat.log2_lt h).mpr (Nat.lt_of_lt_of_le (show z.natAbs < 2 ^ 17 by omega) (Nat.pow_le_pow_right (by omega) (by omega)))
theorem five {k : Nat} (h : k ≤ 100) : k ≤ sizeLine := by rw [sizeLine_eq]; omega
namespace K
def cleanOk (w : Str) : Bool := decide (w.cps.toList ≠ []) && decide (32 ∉ w.cps.toList) && decide (10 ∉ w.cps.toList) && decide (w.length ≤ 8) && decide (w.cps.all (· < 0x110000) = true) && decide (w ≠ "to")
structure Clean (w : Str) : Prop where
  ne : w.cps.toList ≠ []
  sp : 32 ∉ w.cps.toList
  nl : 10 ∉ w.cps.toList
  len : w.length ≤ 8
  cp : w.cps.all (· < 0x110000) = true
structure ArgP (w : Str) : Prop extends Clean w where
  ok : argOk w
  nto : w ≠ "to"
def argChk (w : Str) : Bool := cleanOk w && (litOk w || (match PySem.intText? w with | some n => numOk w n | none => false) || (decide (atI w.cps.toList 0 = some 64) && (match PySem.intText? (cutS w (some 1) none) with | some n => numOk (cutS w (some 1) none) n && decide (n < 512) | none => false)))
theorem argP_of {w : Str} (h : argChk w = true) : ArgP w := by
  simp only [argChk, cleanOk, Bool.and_eq_true, Bool.or_eq_true, decide_eq_true_eq] at h
  obtain ⟨⟨⟨⟨⟨⟨h1, h2⟩, h3⟩, h4⟩, hc⟩, h5⟩, h6⟩ := h
  refine ⟨⟨h1, h2, h3, h4, hc⟩, ?_, h5⟩
  rcases h6 with (h6 | h6) | ⟨h6, h7⟩
  · exact arg_litOk h6
  · cases e : PySem.intText? w with
    | none => rw [e] at h6; exact absurd h6 (by simp)
    | some n => rw [e] at h6; exact arg_num (numW_of h6)
  · cases e : PySem.intText? (cutS w (some 1) none) with
    | none => rw [e] at h7; exact absurd h7 (by simp)
    | some n =>
      rw [e] at h7
      simp only [Bool.and_eq_true, decide_eq_true_eq] at h7
      exact arg_at (numW_of h7.1) h7.2 (by omega) h6 rfl
theorem arg_all1 : (List.range 1000).all (fun n => argChk (Str.ofString (toString (n : Int)))) = true := by decide +kernel
theorem arg_all2 : (List.range 512).all (fun n => argChk (Str.ofString "@" ++ Str.ofString (toString (n : Int)))) = true := by decide +kernel
theorem argP_num {z : Int} (h0 : 0 ≤ z) (h1 : z < 1000) : ArgP (Str.ofString (toString z)) := by
  obtain ⟨k, rfl⟩ := Int.eq_ofNat_of_zero_le h0
  exact argP_of (List.all_eq_true.mp arg_all1 k (List.mem_range.mpr (by omega)))
theorem argP_at {z : Int} (h0 : 0 ≤ z) (h1 : z < 512) : ArgP (Str.ofString "@" ++ Str.ofString (toString z)) := by
  obtain ⟨k, rfl⟩ := Int.eq_ofNat_of_zero_le h0
  exact argP_of (List.all_eq_true.mp arg_all2 k (List.mem_range.mpr (by omega)))
theorem call10 (k : Nat) (n : Int) (m : MH) : ∃ (z : Int) (m' : MH), callD gg (k+1) 10 [.int n] m = .ok (.str (Str.ofString (toString z))) m' ∧ 0 ≤ z ∧ z < 512 ∧ Gro m m' := by
  have b1 := fun m => bo_mod (m := m) (i := n) (j := 16) (by decide)
  have b2 := fun m => bo_mod (m := m) (i := n) (j := 24) (by decide)
  have b3 := fun m => bo_fdiv (m := m) (i := n) (j := 4) (by decide)
  have b4 := fun m => bo_mod (m := m) (i := n / 4) (j := 512) (by decide)
  have b5 := fun m => bo_mod (m := m) (i := n) (j := 4) (by decide)
  obtain ⟨v, hv, e1⟩ := lit_ix (g := gg) m [.int (n % 16), .int (n % 16), .int (n % 24), .int (n / 4 % 512)] (n % 4) (by omega) (by simp; omega)
  have : ∃ z, v = .int z ∧ 0 ≤ z ∧ z < 512 := by
    simp only [List.mem_cons, List.not_mem_nil, or_false] at hv
    rcases hv with rfl | rfl | rfl | rfl <;> exact ⟨_, rfl, by omega, by omega⟩
  obtain ⟨z, rfl, h0, h1⟩ := this
  refine ⟨z, m ++ [.lst [.int (n % 16), .int (n % 16), .int (n % 24), .int (n / 4 % 512)]], ?_, h0, h1, .app _ _⟩
  have e2 := fun m => str_ok (g := gg) (m := m) h0 (by omega)
  have e3 : 4 ≤ sizeLine := five (by omega)
  rw [callF fn_10, f10]
  clear h0 h1 hv
  walk_at "mi"
def lits1 : List Str := ["5", "-", "on", "x", "@511", "/a", "off", "300", "999", "0"]
def lits2 : List Str := ["/a", "/b", "/d", "/d/a", "/d/b", "/", "/e/a", "/A"]
def lits3 : List Str := ["rw", "r", "w", "rw", "x"]
def lits4 : List Str := ["on", "off"]
theorem lits_ok : (lits1 ++ lits2 ++ lits3 ++ lits4).all argChk = true := by decide +kernel
theorem lit_strs {g : G} (m : MH) (ws : List Str) (i : Int) (h0 : 0 ≤ i) (h1 : i < ws.length) : ∃ w, w ∈ ws ∧ ixM g (.ref m.length) (.int i) (m ++ [.lst (ws.map .str)]) = .ok (.str w) (m ++ [.lst (ws.map .str)]) := by
  obtain ⟨v, hv, e⟩ := lit_ix (g := g) m (ws.map .str) i h0 (by rw [List.length_map]; exact h1)
  obtain ⟨w, hw, rfl⟩ := List.mem_map.mp hv
  exact ⟨w, hw, e⟩
end K
end Mi

set_option Elab.async false
set_option maxRecDepth 100000
set_option maxHeartbeats 4000000
set_option linter.all false
namespace Mi
open PySem PySem.Spec PyProof.Rows L2
local macro_rules | `(tactic| walk_at "mi") => `(tactic| simp only [dS, dT, dE, dA, dP, dW, lift, Rs.bind, Fl.back, startM, List.map_cons, List.map_nil, List.length_cons, List.length_nil, List.nil_append, List.cons_append, List.replicate_succ, List.replicate_zero, Nat.reduceAdd, Nat.reduceSub, Int.reduceNeg, List.getElem?_cons_zero, List.getElem?_cons_succ, List.set_cons_zero, List.set_cons_succ,
  co_eqi, co_eqs, co_nei, co_nes, cop_lt, cop_le, cop_gt, cop_ge, bop_addi, bop_subi, truth_i, truth_b, bmTy, decide_true, decide_false, Bool.not_true, Bool.not_false, if_true, if_false, decide_eq_true_eq, Bool.false_eq_true, new, setAll, *])
namespace K
def headOf : IS → IS | .seq a _ => a | x => x
def tailOf : IS → IS | .seq _ a => a | x => x
theorem body11 : f11.body = .seq (headOf f11.body) (tailOf f11.body) := rfl
theorem tail11 (k : Nat) (kd : Str) (n mn : Int) (m : MH) (hm : 2 ≤ mn ∧ mn ≤ 42) : ∃ w m', (dS gg (callD gg (k+1)) (fmOf gg (k+1)) (tailOf f11.body) [some (.str kd), some (.int n), some (.int mn)] m).back = .ok (.str w) m' ∧ ArgP w ∧ Gro m m' := by
  have b1 := fun m => bo_mod (m := m) (i := n) (j := 13) (by decide)
  have b2 := fun m => bo_fdiv (m := m) (i := n) (j := 13) (by decide)
  have b3 := fun m => bo_mod (m := m) (i := n / 13) (j := 16) (by decide)
  have b4 := fun m => bo_mod (m := m) (i := n / 13) (j := 512) (by decide)
  have b5 := fun m => bo_fdiv (m := m) (i := n) (j := 208) (by decide)
  have b6 := fun m => bo_mod (m := m) (i := n / 208) (j := 2) (by decide)
  have b7 := fun m => bo_mod (m := m) (i := n / 13) (j := 10) (by decide)
  have b8 := fun m => bo_mod (m := m) (i := n) (j := 8) (by decide)
  have b9 := fun m => bo_mod (m := m) (i := n) (j := 5) (by decide)
  have b10 := fun m => bo_fdiv (m := m) (i := n) (j := 3) (by decide)
  have b11 := fun m => bo_mod (m := m) (i := n / 3) (j := mn) (by omega)
  have b12 := fun m => bo_mod (m := m) (i := n) (j := 3) (by decide)
  have b13 := fun m => bo_mod (m := m) (i := n) (j := 2) (by decide)
  have b14 := fun m => bo_mod (m := m) (i := n) (j := 9) (by decide)
  have b15 := fun m => bo_mod (m := m) (i := n) (j := 4) (by decide)
  have b16 := fun m => bo_mod (m := m) (i := n) (j := 70) (by decide)
  have b17 := fun m => bo_mod (m := m) (i := n) (j := 6) (by decide)
  have sz : ∀ k, k ≤ 100 → k ≤ sizeLine := fun k h => five h
  have z2 := sz 2 (by omega)
  have z3 := sz 3 (by omega)
  have z5 := sz 5 (by omega)
  have z8 := sz 8 (by omega)
  have z10 := sz 10 (by omega)
  clear sz
  have z4 : (1 : Nat) ≤ sizeLine := five (by omega)
  have lit : ∀ w ∈ lits1 ++ lits2 ++ lits3 ++ lits4, ArgP w := fun w hw => argP_of (List.all_eq_true.mp lits_ok w hw)
  simp only [tailOf, f11]
  by_cases c0 : n % 13 = 7
  · have d0 := decide_eq_true c0
    clear c0
    obtain ⟨w, hw, e1⟩ := lit_strs (g := gg) m lits1 (n / 13 % 10) (by omega) (by simp [lits1]; omega)
    refine ⟨w, m ++ [.lst (lits1.map .str)], ?_, lit w (by simp only [List.mem_append]; simp [hw]), .app _ _⟩
    have e0 : lits1.map MV.str = lits1.map MV.str := rfl
    simp only [lits1, List.map_cons, List.map_nil] at e1 ⊢
    clear hw lit hm e0
    walk_at "mi"
  have d0 := decide_eq_false c0
  clear c0
  by_cases c1 : kd = "path"
  · have d1 := decide_eq_true c1
    clear c1
    obtain ⟨w, hw, e1⟩ := lit_strs (g := gg) m lits2 (n % 8) (by omega) (by simp [lits2]; omega)
    refine ⟨w, m ++ [.lst (lits2.map .str)], ?_, lit w (by simp only [List.mem_append]; simp [hw]), .app _ _⟩
    have e0 : lits2.map MV.str = lits2.map MV.str := rfl
    simp only [lits2, List.map_cons, List.map_nil] at e1 ⊢
    clear hw lit hm e0
    walk_at "mi"
  have d1 := decide_eq_false c1
  clear c1
  by_cases c2 : kd = "mode"
  · have d2 := decide_eq_true c2
    clear c2
    obtain ⟨w, hw, e1⟩ := lit_strs (g := gg) m lits3 (n % 5) (by omega) (by simp [lits3]; omega)
    refine ⟨w, m ++ [.lst (lits3.map .str)], ?_, lit w (by simp only [List.mem_append]; simp [hw]), .app _ _⟩
    have e0 : lits3.map MV.str = lits3.map MV.str := rfl
    simp only [lits3, List.map_cons, List.map_nil] at e1 ⊢
    clear hw lit hm e0
    walk_at "mi"
  have d2 := decide_eq_false c2
  clear c2
  by_cases c3 : kd = "address"
  · have d3 := decide_eq_true c3
    clear c3
    obtain ⟨z, m', e1, h0, h1, g1⟩ := call10 k n m
    refine ⟨_, m', ?_, argP_num h0 (by omega), g1⟩
    clear h0 h1 g1 lit hm
    walk_at "mi"
  have d3 := decide_eq_false c3
  clear c3
  by_cases c4 : kd = "place"
  · have d4 := decide_eq_true c4
    clear c4
    have hz0 : 0 ≤ n / 3 % mn := Int.emod_nonneg _ (by omega)
    have hz1 : n / 3 % mn < mn := Int.emod_lt_of_pos _ (by omega)
    have e2 := fun m => str_ok (g := gg) (m := m) hz0 (by omega)
    obtain ⟨w, hw, e1⟩ := lit_strs (g := gg) m [Str.ofString "-", Str.ofString (toString (n / 3 % mn)), Str.ofString (toString (n / 3 % mn))] (n % 3) (by omega) (by simp; omega)
    refine ⟨w, _, ?_, ?_, .app _ [.lst ([Str.ofString "-", Str.ofString (toString (n / 3 % mn)), Str.ofString (toString (n / 3 % mn))].map .str)]⟩
    · simp only [List.map_cons, List.map_nil] at e1 ⊢
      clear hw lit hm hz0 hz1
      walk_at "mi"
    · simp only [List.mem_cons, List.not_mem_nil, or_false] at hw
      rcases hw with rfl | rfl | rfl
      · exact lit _ (by simp [lits1])
      · exact argP_num hz0 (by omega)
      · exact argP_num hz0 (by omega)
  have d4 := decide_eq_false c4
  clear c4
  by_cases c5 : kd = "flag"
  · have d5 := decide_eq_true c5
    clear c5
    obtain ⟨w, hw, e1⟩ := lit_strs (g := gg) m lits4 (n % 2) (by omega) (by simp [lits4]; omega)
    refine ⟨w, m ++ [.lst (lits4.map .str)], ?_, lit w (by simp only [List.mem_append]; simp [hw]), .app _ _⟩
    have e0 : lits4.map MV.str = lits4.map MV.str := rfl
    simp only [lits4, List.map_cons, List.map_nil] at e1 ⊢
    clear hw lit hm e0
    walk_at "mi"
  have d5 := decide_eq_false c5
  clear c5
  by_cases c6 : kd = "signal"
  · have d6 := decide_eq_true c6
    clear c6
    have e2 := fun m => str_ok (g := gg) (m := m) (z := n % 9) (by omega) (by omega)
    refine ⟨_, m, ?_, argP_num (z := n % 9) (by omega) (by omega), .refl _⟩
    clear lit hm
    walk_at "mi"
  have d6 := decide_eq_false c6
  clear c6
  by_cases c7 : kd = "task"
  · have d7 := decide_eq_true c7
    clear c7
    have e2 := fun m => str_ok (g := gg) (m := m) (z := 1 + n % 4) (by omega) (by omega)
    refine ⟨_, m, ?_, argP_num (z := 1 + n % 4) (by omega) (by omega), .refl _⟩
    clear lit hm
    walk_at "mi"
  have d7 := decide_eq_false c7
  clear c7
  by_cases c8 : kd = "page"
  · have d8 := decide_eq_true c8
    clear c8
    obtain ⟨v, hv, e1⟩ := lit_ix (g := gg) m [.int (n % 4), .int (n % 3), .int (n % 70)] (n % 3) (by omega) (by simp; omega)
    have : ∃ z, v = .int z ∧ 0 ≤ z ∧ z < 512 := by
      simp only [List.mem_cons, List.not_mem_nil, or_false] at hv
      rcases hv with rfl | rfl | rfl <;> exact ⟨_, rfl, by omega, by omega⟩
    obtain ⟨z, rfl, h0, h1⟩ := this
    refine ⟨_, m ++ [.lst [.int (n % 4), .int (n % 3), .int (n % 70)]], ?_, argP_num h0 (by omega), .app _ _⟩
    have e2 := fun m => str_ok (g := gg) (m := m) h0 (by omega)
    clear h0 h1 hv hm lit
    walk_at "mi"
  have d8 := decide_eq_false c8
  clear c8
  have e2 := fun m => str_ok (g := gg) (m := m) (z := n % 6) (by omega) (by omega)
  refine ⟨_, m, ?_, argP_num (z := n % 6) (by omega) (by omega), .refl _⟩
  clear lit hm
  walk_at "mi"
theorem call11 (k : Nat) (kd : Str) (n mn : Int) (m : MH) (hm : 2 ≤ mn ∧ mn ≤ 42) : ∃ w m', callD gg (k+2) 11 [.str kd, .int n, .int mn] m = .ok (.str w) m' ∧ ArgP w ∧ Gro m m' := by
  have lit : True := trivial
  have b1 := fun m => bo_mod (m := m) (i := n) (j := 13) (by decide)
  have b2 := fun m => bo_fdiv (m := m) (i := n) (j := 13) (by decide)
  have b3 := fun m => bo_mod (m := m) (i := n / 13) (j := 16) (by decide)
  have b4 := fun m => bo_mod (m := m) (i := n / 13) (j := 512) (by decide)
  have b5 := fun m => bo_fdiv (m := m) (i := n) (j := 208) (by decide)
  have b6 := fun m => bo_mod (m := m) (i := n / 208) (j := 2) (by decide)
  have b7 := fun m => bo_mod (m := m) (i := n / 13) (j := 10) (by decide)
  have b8 := fun m => bo_mod (m := m) (i := n) (j := 8) (by decide)
  have b9 := fun m => bo_mod (m := m) (i := n) (j := 5) (by decide)
  have b10 := fun m => bo_fdiv (m := m) (i := n) (j := 3) (by decide)
  have b11 := fun m => bo_mod (m := m) (i := n / 3) (j := mn) (by omega)
  have b12 := fun m => bo_mod (m := m) (i := n) (j := 3) (by decide)
  have b13 := fun m => bo_mod (m := m) (i := n) (j := 2) (by decide)
  have b14 := fun m => bo_mod (m := m) (i := n) (j := 9) (by decide)
  have b15 := fun m => bo_mod (m := m) (i := n) (j := 4) (by decide)
  have b16 := fun m => bo_mod (m := m) (i := n) (j := 70) (by decide)
  have b17 := fun m => bo_mod (m := m) (i := n) (j := 6) (by decide)
  have sz : ∀ k, k ≤ 100 → k ≤ sizeLine := fun k h => five h
  have z2 := sz 2 (by omega)
  have z3 := sz 3 (by omega)
  have z5 := sz 5 (by omega)
  have z8 := sz 8 (by omega)
  have z10 := sz 10 (by omega)
  clear sz
  obtain ⟨w', m', t1, t2, t3⟩ := tail11 k kd n mn m hm
  rw [callF fn_11, if_pos (by rfl), body11]
  have es : startM f11.N.length [.str kd, .int n, .int mn] = [some (.str kd), some (.int n), some (.int mn)] := rfl
  rw [es]
  clear es
  generalize tailOf f11.body = T at t1 ⊢
  simp only [headOf, f11]
  by_cases c1 : n % 13 = 5 ∧ kd ≠ "path" ∧ kd ≠ "mode"
  · obtain ⟨c1, c2, c3⟩ := c1
    obtain ⟨v, hv, e1⟩ := lit_ix (g := gg) m [.int (n / 13 % 16), .int (n / 13 % 512)] (n / 208 % 2) (by omega) (by simp; omega)
    have : ∃ z, v = .int z ∧ 0 ≤ z ∧ z < 512 := by
      simp only [List.mem_cons, List.not_mem_nil, or_false] at hv
      rcases hv with rfl | rfl <;> exact ⟨_, rfl, by omega, by omega⟩
    obtain ⟨z, rfl, h0, h1⟩ := this
    refine ⟨_, m ++ [.lst [.int (n / 13 % 16), .int (n / 13 % 512)]], ?_, argP_at h0 h1, .app _ _⟩
    have a1 := decide_eq_true c1
    have a2 := decide_eq_false c2
    have a3 := decide_eq_false c3
    have e2 := fun m => str_ok (g := gg) (m := m) h0 (by omega)
    have e4 : (Str.ofString "@").length + (Str.ofString (toString z)).length ≤ sizeLine := by
      have := (argP_num h0 (by omega)).len
      have : (Str.ofString "@").length = 1 := by decide +kernel
      rw [sizeLine_eq]; omega
    have e5 := fun m => bo_adds (m := m) e4
    clear t1 t2 t3 h0 h1 hv c1 c2 c3 hm lit
    walk_at "mi"
  · have a1 : ∀ (b1 b2 b3 : Bool), b1 = decide (n % 13 = 5) → b2 = decide (kd = "path") → b3 = decide (kd = "mode") → (b1 = false ∨ (b1 = true ∧ b2 = true) ∨ (b1 = true ∧ b2 = false ∧ b3 = true)) := by
      intro x1 x2 x3 h1 h2 h3
      subst h1 h2 h3
      simp only [decide_eq_false_iff_not, decide_eq_true_eq]
      by_cases d1 : n % 13 = 5
      · by_cases d2 : kd = "path"
        · exact .inr (.inl ⟨d1, d2⟩)
        · by_cases d3 : kd = "mode"
          · exact .inr (.inr ⟨d1, d2, d3⟩)
          · exact absurd ⟨d1, d2, d3⟩ c1
      · exact .inl d1
    have a1 := a1 _ _ _ rfl rfl rfl
    clear c1
    refine ⟨w', m', ?_, t2, t3⟩
    rw [← t1]
    clear t2 t3 hm lit t1
    rcases a1 with a1 | ⟨a1, a2⟩ | ⟨a1, a2, a3⟩ <;> walk_at "mi"
end K
end Mi

set_option Elab.async false
set_option maxRecDepth 100000
set_option maxHeartbeats 4000000
set_option linter.all false
namespace Mi
open PySem PySem.Spec PyProof.Rows L2
local macro_rules | `(tactic| walk_at "mi") => `(tactic| simp only [dS, dT, dE, dA, dP, dW, lift, Rs.bind, Fl.back, startM, List.map_cons, List.map_nil, List.length_cons, List.length_nil, List.nil_append, List.cons_append, List.replicate_succ, List.replicate_zero, Nat.reduceAdd, Nat.reduceSub, Int.reduceNeg, List.getElem?_cons_zero, List.getElem?_cons_succ, List.set_cons_zero, List.set_cons_succ,
  co_eqi, co_eqs, co_nei, co_nes, cop_lt, cop_le, cop_gt, cop_ge, bop_addi, bop_subi, truth_i, truth_b, bmTy, decide_true, decide_false, Bool.not_true, Bool.not_false, if_true, if_false, decide_eq_true_eq, Bool.false_eq_true, new, setAll, *])
def MatS (m : MH) (v : MV) (wss : List (List Str)) : Prop := ∃ r refs, v = .ref r ∧ m[r]? = some (.lst refs) ∧ All2 (fun ws x => SL m x ws) wss refs
theorem MatS.ext {m m' : MH} {v : MV} {wss : List (List Str)} (h : MatS m v wss) (g : Gro m m') : MatS m' v wss := by
  obtain ⟨r, refs, h1, h2, h3⟩ := h
  exact ⟨r, refs, h1, g.at h2, h3.imp fun _ _ k => k.ext g⟩
def lstsI : List (List Str) → IEs
  | [] => .nil
  | x :: r => .cons (.lst (strsI x)) (lstsI r)
section
variable {g : G} {fc fm : Nat → List MV → MH → Rs MV}
theorem dA_lsts {s : MS} : ∀ (wss : List (List Str)) (m : MH), (∀ ws ∈ wss, ws.length ≤ sizeLine) → ∃ refs m', dA g fc fm (lstsI wss) s m = .ok refs m' ∧ Gro m m' ∧ All2 (fun ws x => SL m' x ws) wss refs
  | [], m, _ => ⟨[], m, rfl, .refl _, trivial⟩
  | x :: r, m, h => by
    have e1 := dE_strs (g := g) (fc := fc) (fm := fm) (s := s) (m := m) x (h x (List.mem_cons_self ..))
    obtain ⟨refs, m', k1, k2, k3⟩ := dA_lsts (s := s) r (m ++ [.lst (x.map .str)]) fun ws hw => h ws (List.mem_cons_of_mem _ hw)
    exact ⟨_ :: refs, m', by simp only [lstsI, dA, e1, Rs.bind, k1], (Gro.app _ _).trans k2, (SL.new m x).ext k2, k3⟩
theorem dE_lsts {s : MS} (wss : List (List Str)) (m : MH) (h : ∀ ws ∈ wss, ws.length ≤ sizeLine) (h2 : wss.length ≤ sizeLine) : ∃ v m', dE g fc fm (.lst (lstsI wss)) s m = .ok v m' ∧ Gro m m' ∧ MatS m' v wss := by
  obtain ⟨refs, m', k1, k2, k3⟩ := dA_lsts (g := g) (fc := fc) (fm := fm) (s := s) wss m h
  have : refs.length ≤ sizeLine := by rw [← k3.len]; exact h2
  exact ⟨.ref m'.length, m' ++ [.lst refs], by simp only [dE, k1, Rs.bind, if_pos this, new], k2.to_app, _, refs, rfl, last_app _ _, k3.imp fun _ _ k => k.ext (.app _ _)⟩
theorem MatS.add {m : MH} {x y : MV} {a b : List (List Str)} (hx : MatS m x a) (hy : MatS m y b) (h : a.length + b.length ≤ sizeLine) : ∃ v m', bop .Add x y m = .ok v m' ∧ Gro m m' ∧ MatS m' v (a ++ b) := by
  obtain ⟨r, refs, rfl, h2, h3⟩ := hx
  obtain ⟨r', refs', rfl, h2', h3'⟩ := hy
  exact ⟨.ref m.length, m ++ [.lst (refs ++ refs')], bo_addl h2 h2' (by rw [← h3.len, ← h3'.len]; exact h), .app _ _, _, _, rfl, last_app _ _, (h3.app h3').imp fun _ _ k => k.ext (.app _ _)⟩
def addsI : List (List (List Str)) → IS → IS
  | [], B => B
  | M :: r, B => .seq (.asg 2 (.bin .Add (.var 2) (.lst (lstsI M)))) (addsI r B)
def total (Ms : List (List (List Str))) : Nat := Ms.flatten.length
theorem adds_ok : ∀ (Ms : List (List (List Str))) (w : List (List Str)) (s : MS) (m : MH) (v : MV), 2 < s.length → s[2]? = some (some v) → MatS m v w → (∀ M ∈ Ms, ∀ ws ∈ M, ws.length ≤ sizeLine) → w.length + Ms.flatten.length ≤ sizeLine →
    ∃ v' m', Gro m m' ∧ MatS m' v' (w ++ Ms.flatten) ∧ ∀ B, dS g fc fm (addsI Ms B) s m = dS g fc fm B (s.set 2 (some v')) m'
  | [], w, s, m, v, hl, hs, hv, _, _ => ⟨v, m, .refl _, by rw [List.flatten_nil, List.append_nil]; exact hv, fun B => by
      have : s.set 2 (some v) = s := by
        apply List.ext_getElem?
        intro i
        by_cases e : 2 = i
        · subst e; rw [List.getElem?_set_self hl, hs]
        · rw [List.getElem?_set_ne e]
      rw [this]; rfl⟩
  | M :: r, w, s, m, v, hl, hs, hv, h1, h2 => by
    rw [List.flatten_cons, List.length_append] at h2
    obtain ⟨x, m1, k1, k2, k3⟩ := dE_lsts (g := g) (fc := fc) (fm := fm) (s := s) M m (h1 M (List.mem_cons_self ..)) (by omega)
    obtain ⟨v2, m2, j1, j2, j3⟩ := (hv.ext k2).add k3 (by omega)
    obtain ⟨v', m', i1, i2, i3⟩ := adds_ok r (w ++ M) (s.set 2 (some v2)) m2 v2 (by rw [List.length_set]; exact hl) (by rw [List.getElem?_set_self hl]) j3 (fun M' hM => h1 M' (List.mem_cons_of_mem _ hM)) (by rw [List.length_append]; omega)
    refine ⟨v', m', (k2.trans j2).trans i1, by rw [List.flatten_cons, ← List.append_assoc]; exact i2, fun B => ?_⟩
    have e : dE g fc fm (.bin .Add (.var 2) (.lst (lstsI M))) s m = .ok v2 m2 := ev_bin (ev_var hs) k1 j1
    have i3' := i3 B
    rw [List.set_set] at i3'
    rw [← i3']
    show dS g fc fm (.seq (.asg 2 (.bin .Add (.var 2) (.lst (lstsI M)))) (addsI r B)) s m = _
    simp only [dS, lift, e]
end
namespace K
def M0 : List (List Str) := [["fork"], ["pipe"], ["wait"], ["read", "handle", "address", "small"]]
def MNS : List (List (List Str)) := [[["write", "handle", "address", "small"]],
  [["signal", "task", "signal"], ["handle", "signal", "place"], ["map", "page", "small"], ["who"]],
  [["make", "path"], ["open", "path", "mode"], ["close", "handle"], ["end", "small"], ["time"]],
  [["drop", "page", "small"], ["mask", "signal", "flag"], ["due"], ["alarm", "small"], ["dir", "path"]],
  [["same", "handle"], ["give", "handle", "task"], ["seek", "handle", "small"], ["unlink", "path"]],
  [["link", "path", "path"], ["move", "path", "path"], ["undir", "path"], ["names", "path"]],
  [["stat", "path"], ["read", "handle", "address", "small"], ["write", "handle", "address", "small"]],
  [["signal", "task", "signal"], ["handle", "signal", "place"]]]
def MENU : List (List Str) := M0 ++ MNS.flatten
def restOf : Nat → IS → IS
  | 0, x => x
  | n + 1, .seq _ a => restOf n a
  | _, x => x
theorem body12 : f12.body = .seq (.asg 2 (.lst (lstsI M0))) (addsI MNS (restOf 9 f12.body)) := rfl
def menuChk (ws : List Str) : Bool := match ws with
  | [] => false
  | n :: ks => cleanOk n && decide (n ≠ "path") && decide (lookS n argsK = some (.int ks.length)) && decide (ks.length ≤ 3)
theorem menu_all : MENU.all menuChk = true := by decide +kernel
theorem menu_len : MENU.length = 32 := by decide +kernel
theorem menu_sizes : (M0 :: MNS).all (fun M => M.all fun ws => decide (ws.length ≤ 10)) = true := by decide +kernel
theorem menu_lens : M0.length + MNS.flatten.length = 32 ∧ M0.length = 4 := by decide +kernel
/-- a row that the law may write -/
structure RowK (ws : List Str) : Prop where
  row : RowW ws
  clean : ∀ w ∈ ws, Clean w
  len : ws.length ≤ 8
  ne : ws ≠ []
theorem clean_of {w : Str} (h : cleanOk w = true) : Clean w := by
  simp only [cleanOk, Bool.and_eq_true, decide_eq_true_eq] at h
  obtain ⟨⟨⟨⟨⟨h1, h2⟩, h3⟩, h4⟩, hc⟩, h5⟩ := h
  exact ⟨h1, h2, h3, h4, hc⟩
theorem to_ok : argOk "to" := arg_litOk (by decide +kernel)
theorem clean_to : Clean "to" := ⟨by decide +kernel, by decide +kernel, by decide +kernel, by decide +kernel, by decide +kernel⟩
theorem clean_call : Clean "call" := clean_of (by decide +kernel)
theorem call_to : Str.ofString "call" ≠ Str.ofString "to" := by decide +kernel
structure Args (name : Str) (n : Nat) (as : List Str) : Prop where
  len : as.length = n
  ok : ∀ w ∈ as, argOk w
  clean : ∀ w ∈ as, Clean w
  last : ∃ a, atI (Str.ofString "call" :: name :: as) (-2) = some a ∧ a ≠ "to"
theorem args_plain {name : Str} (hn : name ≠ "to") : ∀ {as : List Str}, as.length ≤ 3 → (∀ w ∈ as, ArgP w) → Args name as.length as
  | [], _, _ => ⟨rfl, by simp, by simp, _, rfl, call_to⟩
  | [x], _, h => ⟨rfl, fun w hw => (h w hw).ok, fun w hw => (h w hw).toClean, _, rfl, hn⟩
  | [x, y], _, h => ⟨rfl, fun w hw => (h w hw).ok, fun w hw => (h w hw).toClean, _, rfl, (h x (by simp)).nto⟩
  | [x, y, z], _, h => ⟨rfl, fun w hw => (h w hw).ok, fun w hw => (h w hw).toClean, _, rfl, (h y (by simp)).nto⟩
  | _ :: _ :: _ :: _ :: _, h, _ => by simp at h
theorem args_to {name : Str} (hn : name ≠ "to") : ∀ {as : List Str}, as.length ≤ 3 → as ≠ [] → (∀ w ∈ as, ArgP w) → ∃ as', (Str.ofString "call" :: name :: as).set (as.length + 1) "to" = Str.ofString "call" :: name :: as' ∧ Args name as.length as'
  | [], _, h, _ => absurd rfl h
  | [x], _, _, h => ⟨["to"], rfl, rfl, by intro w hw; rw [List.mem_singleton.mp hw]; exact to_ok, by intro w hw; rw [List.mem_singleton.mp hw]; exact clean_to, _, rfl, hn⟩
  | [x, y], _, _, h => ⟨[x, "to"], rfl, rfl, by
      intro w hw
      simp only [List.mem_cons, List.not_mem_nil, or_false] at hw
      rcases hw with rfl | rfl
      · exact (h _ (by simp)).ok
      · exact to_ok, by
      intro w hw
      simp only [List.mem_cons, List.not_mem_nil, or_false] at hw
      rcases hw with rfl | rfl
      · exact (h _ (by simp)).toClean
      · exact clean_to, _, rfl, (h x (by simp)).nto⟩
  | [x, y, z], _, _, h => ⟨[x, y, "to"], rfl, rfl, by
      intro w hw
      simp only [List.mem_cons, List.not_mem_nil, or_false] at hw
      rcases hw with rfl | rfl | rfl
      · exact (h _ (by simp)).ok
      · exact (h _ (by simp)).ok
      · exact to_ok, by
      intro w hw
      simp only [List.mem_cons, List.not_mem_nil, or_false] at hw
      rcases hw with rfl | rfl | rfl
      · exact (h _ (by simp)).toClean
      · exact (h _ (by simp)).toClean
      · exact clean_to, _, rfl, (h y (by simp)).nto⟩
  | _ :: _ :: _ :: _ :: _, h, _, _ => by simp at h
theorem row_of {name : Str} {n : Nat} {as : List Str} (hc : Clean name) (hl : lookS name argsK = some (.int n)) (h3 : n ≤ 3) (h : Args name n as) : RowK (Str.ofString "call" :: name :: as) := by
  refine ⟨.call ⟨name, as, [], by rw [List.append_nil], by rw [h.len]; exact hl, by rw [h.len]; exact h3, h.ok, .inl ⟨rfl, h.last⟩⟩, ?_, by have := h.len; simp only [List.length_cons]; omega, by simp⟩
  intro w hw
  simp only [List.mem_cons] at hw
  rcases hw with rfl | rfl | hw
  · exact clean_call
  · exact hc
  · exact h.clean w hw
theorem row_to {name a : Str} {n : Nat} {z : Int} {as : List Str} (hc : Clean name) (hl : lookS name argsK = some (.int n)) (h3 : n ≤ 3) (h : Args name n as) (ha : NumW a z) (hz : z < 512) (ca : Clean a) : RowK (Str.ofString "call" :: name :: as ++ [Str.ofString "to", a]) := by
  refine ⟨.call ⟨name, as, [Str.ofString "to", a], rfl, by rw [h.len]; exact hl, by rw [h.len]; exact h3, h.ok, .inr ⟨a, z, rfl, ha, hz⟩⟩, ?_, by have := h.len; simp only [List.cons_append, List.length_cons, List.length_append, List.length_nil]; omega, by simp⟩
  intro w hw
  simp only [List.cons_append, List.mem_cons, List.mem_append, List.not_mem_nil, or_false] at hw
  rcases hw with rfl | rfl | hw | rfl | rfl
  · exact clean_call
  · exact hc
  · exact h.clean w hw
  · exact clean_to
  · exact ca
end K
end Mi

set_option Elab.async false
set_option maxRecDepth 100000
set_option maxHeartbeats 4000000
set_option linter.all false
namespace Mi
open PySem PySem.Spec PyProof.Rows L2
local macro_rules | `(tactic| walk_at "mi") => `(tactic| simp only [dS, dT, dE, dA, dP, dW, lift, Rs.bind, Fl.back, startM, List.map_cons, List.map_nil, List.length_cons, List.length_nil, List.nil_append, List.cons_append, List.replicate_succ, List.replicate_zero, Nat.reduceAdd, Nat.reduceSub, Int.reduceNeg, List.getElem?_cons_zero, List.getElem?_cons_succ, List.set_cons_zero, List.set_cons_succ,
  co_eqi, co_eqs, co_nei, co_nes, cop_lt, cop_le, cop_gt, cop_ge, bop_addi, bop_subi, truth_i, truth_b, bmTy, decide_true, decide_false, Bool.not_true, Bool.not_false, if_true, if_false, decide_eq_true_eq, Bool.false_eq_true, new, setAll, *])
namespace K
theorem rest12 : restOf 9 f12.body = .seq (.asg 3 (.ix (.var 2) (.bin .Mod (.var 0) (.blt .len (.cons (.var 2) .nil)))))
    (.seq (.asg 4 (.bin .FloorDiv (.var 0) (.blt .len (.cons (.var 2) .nil))))
    (.seq (.asg 5 (.lst (.cons (.con (.str "call")) (.cons (.ix (.var 3) (.con (.int 0))) .nil))))
    (.seq (.for [6] false (.wl (.sl (.var 3) (.con (.int 1)) .nopart)) (.seq (.ex (.bm (.var 5) .append (.cons (.call 11 (.cons (.var 6) (.cons (.bin .Mod (.var 4) (.con (.int 1000))) (.cons (.var 1) .nil)))) .nil)))
    (.seq (.asg 4 (.bin .FloorDiv (.var 4) (.con (.int 7))))
    .nil))) (restOf 13 f12.body)))) := rfl
theorem rest13 : restOf 13 f12.body = (.seq (.iff (.an (.cmp .Eq (.ix (.var 3) (.neg (.con (.int 1)))) (.con (.str "path"))) (.one (.cmp .Eq (.bin .Mod (.bin .FloorDiv (.var 4) (.con (.int 3))) (.con (.int 9))) (.con (.int 4))))) (.seq (.seti (.var 5) (.neg (.con (.int 1))) (.con (.str "to")))
    .nil) .nil)
    (.seq (.iff (.cmp .Gt (.bin .Mod (.var 4) (.con (.int 3))) (.con (.int 0))) (.seq (.asg 5 (.bin .Add (.var 5) (.lst (.cons (.con (.str "to")) (.cons (.call 10 (.cons (.bin .FloorDiv (.var 4) (.con (.int 3))) .nil)) .nil)))))
    .nil) .nil)
    (.seq (.ret (.var 5))
    .nil))) := rfl
/-- the tail once the arguments are there -/
theorem tail12 (k : Nat) (n mn left : Int) (v2 : MV) (c W : Nat) (x6 : Option MV) (name : Str) (ks as : List Str) (m0 m : MH) (hc : c ≠ W) (hW : m0.length ≤ W) (g0 : Gro m0 m)
    (h3 : m[c]? = some (.lst ((name :: ks).map .str))) (h5 : m[W]? = some (.lst ((Str.ofString "call" :: name :: as).map .str))) (hl : as.length = ks.length) (hP : ∀ w ∈ as, ArgP w)
    (cn : Clean name) (nt : name ≠ "to") (np : name ≠ "path") (hlk : lookS name argsK = some (.int ks.length)) (hk : ks.length ≤ 3) :
    ∃ r ws m', (dS gg (callD gg (k+2)) (fmOf gg (k+2)) (restOf 13 f12.body) [some (.int n), some (.int mn), some v2, some (.ref c), some (.int left), some (.ref W), x6] m).back = .ok (.ref r) m' ∧ m'[r]? = some (.lst (ws.map .str)) ∧ m0.length ≤ r ∧ Gro m0 m' ∧ RowK ws := by
  have b1 := fun m => bo_fdiv (m := m) (i := left) (j := 3) (by decide)
  have b2 := fun m => bo_mod (m := m) (i := left / 3) (j := 9) (by decide)
  have b3 := fun m => bo_mod (m := m) (i := left) (j := 3) (by decide)
  have s3 : SL m (.ref c) (name :: ks) := ⟨c, rfl, h3⟩
  rw [rest13]
  -- after the first test
  have fin : ∀ (as' : List Str) (m1 : MH), Args name ks.length as' → m1[W]? = some (.lst ((Str.ofString "call" :: name :: as').map .str)) → Gro m0 m1 →
      ∃ r ws m', (dS gg (callD gg (k+2)) (fmOf gg (k+2)) (.seq (.iff (.cmp .Gt (.bin .Mod (.var 4) (.con (.int 3))) (.con (.int 0))) (.seq (.asg 5 (.bin .Add (.var 5) (.lst (.cons (.con (.str "to")) (.cons (.call 10 (.cons (.bin .FloorDiv (.var 4) (.con (.int 3))) .nil)) .nil)))))
    .nil) .nil)
    (.seq (.ret (.var 5))
    .nil)) [some (.int n), some (.int mn), some v2, some (.ref c), some (.int left), some (.ref W), x6] m1).back = .ok (.ref r) m' ∧ m'[r]? = some (.lst (ws.map .str)) ∧ m0.length ≤ r ∧ Gro m0 m' ∧ RowK ws := by
    intro as' m1 hA hw g1
    by_cases c1 : 0 < left % 3
    · obtain ⟨z, m2, e1, z0, z1, g2⟩ := call10 (k+1) (left / 3) m1
      have d1 := decide_eq_true c1
      have hw2 := g2.at hw
      have sz := five (k := 2) (by omega)
      have hw3 : (m2 ++ [.lst [.str "to", .str (Str.ofString (toString z))]])[W]? = some (.lst ((Str.ofString "call" :: name :: as').map .str)) := (Gro.app _ _).at hw2
      have hlen : as'.length ≤ 3 := by rw [hA.len]; exact hk
      have e2 := bo_addl hw3 (last_app m2 (.lst [.str "to", .str (Str.ofString (toString z))])) (by simp only [List.length_map, List.length_cons, List.length_nil]; exact five (by omega))
      refine ⟨(m2 ++ [MO.lst [.str "to", .str (Str.ofString (toString z))]]).length, Str.ofString "call" :: name :: as' ++ [Str.ofString "to", Str.ofString (toString z)], ((m2 ++ [MO.lst [.str "to", .str (Str.ofString (toString z))]]) ++ [MO.lst ((Str.ofString "call" :: name :: as').map .str ++ [.str "to", .str (Str.ofString (toString z))])] : MH), ?_, ?_, ?_, ?_, row_to cn hlk hk hA (numW_num z0 (by omega)) z1 (argP_num z0 (by omega)).toClean⟩
      · clear hc hW g0 h3 h5 hl hP cn nt np hlk hk s3 hA hw g1 c1 z0 z1 g2 hw2 hw3 hlen
        simp only [List.map_cons] at e2
        walk_at "mi"
      · have := last_app (m2 ++ [.lst [.str "to", .str (Str.ofString (toString z))]]) (.lst ((Str.ofString "call" :: name :: as').map .str ++ [.str "to", .str (Str.ofString (toString z))]))
        rw [this]; simp
      · have := (g1.trans g2).len
        rw [List.length_append]; omega
      · exact ((g1.trans g2).to_app).to_app
    · have d1 := decide_eq_false c1
      refine ⟨W, Str.ofString "call" :: name :: as', m1, ?_, hw, hW, g1, row_of cn hlk hk hA⟩
      clear hc hW g0 h3 h5 hl hP cn nt np hlk hk s3 hA hw g1 c1
      walk_at "mi"
  generalize (IS.seq (.iff (.cmp .Gt (.bin .Mod (.var 4) (.con (.int 3))) (.con (.int 0))) (.seq (.asg 5 (.bin .Add (.var 5) (.lst (.cons (.con (.str "to")) (.cons (.call 10 (.cons (.bin .FloorDiv (.var 4) (.con (.int 3))) .nil)) .nil)))))
    .nil) .nil)
    (.seq (.ret (.var 5))
    .nil)) = T at fin ⊢
  have hlast : ∃ x, atI (name :: ks) (-1) = some x ∧ (ks = [] → x ≠ Str.ofString "path") := by
    match ks, hk with
    | [], _ => exact ⟨name, rfl, fun _ => np⟩
    | [x], _ => exact ⟨x, rfl, fun h => by cases h⟩
    | [_, x], _ => exact ⟨x, rfl, fun h => by cases h⟩
    | [_, _, x], _ => exact ⟨x, rfl, fun h => by cases h⟩
  obtain ⟨x, hx, hx0⟩ := hlast
  have e1 := s3.ix (g := gg) hx
  have F0 := args_plain nt (by omega) hP
  rw [hl] at F0
  by_cases c1 : x = Str.ofString "path"
  · have d1 := decide_eq_true c1
    by_cases c2 : left / 3 % 9 = 4
    · have d2 := decide_eq_true c2
      have hne : as ≠ [] := fun e => hx0 (List.length_eq_zero_iff.mp (by rw [← hl, e]; rfl)) c1
      obtain ⟨as', q1, q2⟩ := args_to nt (by omega) hne hP
      rw [hl] at q2
      have e5 : setM (.ref W) (.int (-1)) (.str "to") m = some (m.set W (.lst ((Str.ofString "call" :: name :: as').map .str))) := by
        have hi : ixN ((Str.ofString "call" :: name :: as).map MV.str).length (-1) = some (as.length + 1) := by
          unfold ixN
          rw [if_neg (by decide), if_pos (by simp only [List.length_map, List.length_cons]; omega)]
          simp only [List.length_map, List.length_cons, Option.some.injEq]
          omega
        simp only [setM, h5, hi]
        rw [← q1, List.map_set]
      have hWm : W < m.length := (List.getElem?_eq_some_iff.mp h5).1
      obtain ⟨r, ws, m', i1, i2, i3, i4, i5⟩ := fin as' (m.set W (.lst ((Str.ofString "call" :: name :: as').map .str))) q2 (by rw [List.getElem?_set_self hWm]) (g0.set hW _)
      refine ⟨r, ws, m', ?_, i2, i3, i4, i5⟩
      rw [← i1]
      clear hc hW g0 h3 h5 hl hP cn nt np hlk hk s3 fin c1 c2 hne q1 q2 hWm i1 i2 i3 i4 i5 F0 hx hx0
      walk_at "mi"
    · have d2 := decide_eq_false c2
      obtain ⟨r, ws, m', i1, i2, i3, i4, i5⟩ := fin as m F0 h5 g0
      refine ⟨r, ws, m', ?_, i2, i3, i4, i5⟩
      rw [← i1]
      clear hc hW g0 h3 h5 hl hP cn nt np hlk hk s3 fin c1 c2 i1 i2 i3 i4 i5 F0 hx hx0
      walk_at "mi"
  · have d1 := decide_eq_false c1
    obtain ⟨r, ws, m', i1, i2, i3, i4, i5⟩ := fin as m F0 h5 g0
    refine ⟨r, ws, m', ?_, i2, i3, i4, i5⟩
    rw [← i1]
    clear hc hW g0 h3 h5 hl hP cn nt np hlk hk s3 fin c1 i1 i2 i3 i4 i5 F0 hx hx0
    walk_at "mi"
end K
end Mi

set_option Elab.async false
set_option maxRecDepth 100000
set_option maxHeartbeats 4000000
set_option linter.all false
namespace Mi
open PySem PySem.Spec PyProof.Rows L2
local macro_rules | `(tactic| walk_at "mi") => `(tactic| simp only [dS, dT, dE, dA, dP, dW, lift, Rs.bind, Fl.back, startM, List.map_cons, List.map_nil, List.length_cons, List.length_nil, List.nil_append, List.cons_append, List.replicate_succ, List.replicate_zero, Nat.reduceAdd, Nat.reduceSub, Int.reduceNeg, List.getElem?_cons_zero, List.getElem?_cons_succ, List.set_cons_zero, List.set_cons_succ,
  co_eqi, co_eqs, co_nei, co_nes, cop_lt, cop_le, cop_gt, cop_ge, bop_addi, bop_subi, truth_i, truth_b, bmTy, decide_true, decide_false, Bool.not_true, Bool.not_false, if_true, if_false, decide_eq_true_eq, Bool.false_eq_true, new, setAll, *])
namespace K
theorem cut1 {α : Type} (x : α) (r : List α) : cutL (x :: r) (some 1) none = r := by
  unfold cutL HT.sIx; simp
theorem call12 (k : Nat) (n mn : Int) (m : MH) (hm : 2 ≤ mn ∧ mn ≤ 42) :
    ∃ r ws m', callD gg (k+3) 12 [.int n, .int mn] m = .ok (.ref r) m' ∧ m'[r]? = some (.lst (ws.map .str)) ∧ m.length ≤ r ∧ Gro m m' ∧ RowK ws := by
  rw [callF fn_12, if_pos (by rfl), body12]
  have es : startM f12.N.length [.int n, .int mn] = [some (.int n), some (.int mn), none, none, none, none, none] := rfl
  rw [es]
  clear es
  have szs : ∀ M ∈ M0 :: MNS, ∀ ws ∈ M, ws.length ≤ sizeLine := fun M hM ws hw => by
    have := of_decide_eq_true (List.all_eq_true.mp (List.all_eq_true.mp menu_sizes M hM) ws hw)
    exact five (by omega)
  obtain ⟨v0, m1, k1, k2, k3⟩ := dE_lsts (g := gg) (fc := callD gg (k+2)) (fm := fmOf gg (k+2)) (s := [some (.int n), some (.int mn), none, none, none, none, none]) M0 m (szs M0 (List.mem_cons_self ..)) (by rw [menu_lens.2]; exact five (by omega))
  obtain ⟨v2, m2, j1, j2, j3⟩ := adds_ok (g := gg) (fc := callD gg (k+2)) (fm := fmOf gg (k+2)) MNS M0 [some (.int n), some (.int mn), some v0, none, none, none, none] m1 v0 (by simp) rfl k3 (fun M hM => szs M (List.mem_cons_of_mem _ hM)) (by rw [menu_lens.1]; exact five (by omega))
  have j3 := j3 (restOf 9 f12.body)
  generalize hA : addsI MNS (restOf 9 f12.body) = A at j3 ⊢
  have st1 : dS gg (callD gg (k+2)) (fmOf gg (k+2)) (.seq (.asg 2 (.lst (lstsI M0))) A) [some (.int n), some (.int mn), none, none, none, none, none] m = dS gg (callD gg (k+2)) (fmOf gg (k+2)) (restOf 9 f12.body) [some (.int n), some (.int mn), some v2, none, none, none, none] m2 := by
    simp only [dS, k1, lift]
    exact j3
  rw [st1, rest12]
  clear st1 j3 hA A
  change MatS m2 v2 MENU at j2
  obtain ⟨rM, refs, rfl, q2, q3⟩ := j2
  have hlen : refs.length = 32 := by rw [← q3.len]; exact menu_len
  have hgs : gs gg m2 (.ref rM) = some refs := by simp only [gs, gl, q2]
  have e1 := bl_lenL (g := gg) hgs (by intro z hz; cases hz)
  rw [hlen] at e1
  have e2 := bo_mod (m := m2) (i := n) (j := ((32 : Nat) : Int)) (by decide)
  have e3 := bo_fdiv (m := m2) (i := n) (j := ((32 : Nat) : Int)) (by decide)
  have hix : ∃ i : Nat, n % ((32 : Nat) : Int) = (i : Int) ∧ i < 32 := ⟨(n % ((32 : Nat) : Int)).toNat, by omega, by omega⟩
  obtain ⟨i, hi, hi2⟩ := hix
  have hw : ∃ ws, MENU[i]? = some ws := ⟨MENU[i]'(by rw [menu_len]; exact hi2), List.getElem?_eq_getElem _⟩
  obtain ⟨ws, hws⟩ := hw
  obtain ⟨cv, hcv, c, rfl, hc⟩ := q3.get i ws hws
  have hchk := List.all_eq_true.mp menu_all ws (List.mem_of_getElem? hws)
  have e4 : ixM gg (.ref rM) (.int (n % ((32 : Nat) : Int))) m2 = .ok (.ref c) m2 := by
    refine ix_l hgs (by intro z hz; cases hz) ?_
    rw [hi]
    unfold atI ixN
    rw [if_pos (by omega), if_pos (by rw [hlen]; omega), Option.bind_some, Int.toNat_natCast]
    exact hcv
  cases ws with
  | nil => exact absurd hchk (by decide)
  | cons name ks =>
    simp only [menuChk, Bool.and_eq_true, decide_eq_true_eq] at hchk
    obtain ⟨⟨⟨hcl, hnp⟩, hlk⟩, hk3⟩ := hchk
    have hcn := clean_of hcl
    have hnt : name ≠ "to" := by
      simp only [cleanOk, Bool.and_eq_true, decide_eq_true_eq] at hcl
      exact hcl.2
    have sC : SL m2 (.ref c) (name :: ks) := ⟨c, rfl, hc⟩
    have e5 := sC.ix (g := gg) (at0 _ _)
    have sz2 := five (k := 2) (by omega)
    have hcm : c < m2.length := (List.getElem?_eq_some_iff.mp hc).1
    have g2 : Gro m m2 := k2.trans j1
    -- the words' list
    generalize hm3 : m2 ++ [MO.lst ([Str.ofString "call", name].map .str)] = m3
    have l3 : m3.length = m2.length + 1 := by rw [← hm3]; simp
    have g3 : Gro m2 m3 := by rw [← hm3]; exact .app _ _
    have w3 : m3[m2.length]? = some (.lst ([Str.ofString "call", name].map .str)) := by rw [← hm3]; exact last_app _ _
    have e6 := (sC.ext g3).cut (some 1) none
    rw [cut1] at e6
    generalize hm4 : m3 ++ [MO.lst (ks.map .str)] = m4 at e6
    have g4 : Gro m3 m4 := by rw [← hm4]; exact .app _ _
    have w4 : m4[m3.length]? = some (.lst (ks.map .str)) := by rw [← hm4]; exact last_app _ _
    have I0 : ∃ (left : Int) (as : List Str) (x6 : Option MV), [some (.int n), some (.int mn), some (.ref rM), some (.ref c), some (.int (n / ((32 : Nat) : Int))), some (.ref m2.length), none] = [some (.int n), some (.int mn), some (.ref rM), some (.ref c), some (.int left), some (.ref m2.length), x6] ∧ Gro m m4 ∧ m4[c]? = some (.lst ((name :: ks).map .str)) ∧ m4[m2.length]? = some (.lst ((Str.ofString "call" :: name :: as).map .str)) ∧ m4[m3.length]? = some (.lst (ks.map .str)) ∧ as.length + ((ks.map .str).map fun x : MV => [x]).length = ks.length ∧ (∀ w ∈ as, ArgP w) ∧ ∃ ls : List Str, ((ks.map .str).map fun x : MV => [x]) = ls.map fun w => [.str w] :=
      ⟨_, [], none, rfl, (g2.trans g3).trans g4, g4.at (g3.at hc), g4.at w3, w4, by simp, by simp, ks, by rw [List.map_map]; rfl⟩
    obtain ⟨s', m5, i1, i2⟩ := forL_inv (still := fun m' => (Wk.lst (.ref m3.length) (ks.map .str)).still gg m') (tg := fun x s m => bindT gg [6] false x s m)
      (b := dS gg (callD gg (k+2)) (fmOf gg (k+2)) (.seq (.ex (.bm (.var 5) .append (.cons (.call 11 (.cons (.var 6) (.cons (.bin .Mod (.var 4) (.con (.int 1000))) (.cons (.var 1) .nil)))) .nil))) (.seq (.asg 4 (.bin .FloorDiv (.var 4) (.con (.int 7)))) .nil)))
      (fun l s m' => ∃ (left : Int) (as : List Str) (x6 : Option MV), s = [some (.int n), some (.int mn), some (.ref rM), some (.ref c), some (.int left), some (.ref m2.length), x6] ∧ Gro m m' ∧ m'[c]? = some (.lst ((name :: ks).map .str)) ∧ m'[m2.length]? = some (.lst ((Str.ofString "call" :: name :: as).map .str)) ∧ m'[m3.length]? = some (.lst (ks.map .str)) ∧ as.length + l.length = ks.length ∧ (∀ w ∈ as, ArgP w) ∧ ∃ ls : List Str, l = ls.map fun w => [.str w])
      (by
        rintro l s m' ⟨left, as, x6, rfl, h1, h2, h3, h4, _⟩
        refine decide_eq_true ?_
        simp only [gl, h4])
      (by
        rintro x l s m' ⟨left, as, x6, rfl, h1, h2, h3, h4, h5, h6, ls, h7⟩
        cases ls with
        | nil => exact absurd h7 (by simp)
        | cons w ls =>
          rw [List.map_cons, List.cons.injEq] at h7
          obtain ⟨rfl, rfl⟩ := h7
          obtain ⟨a, m6, a1, a2, a3⟩ := call11 k w (left % 1000) mn m' hm
          have b1 := bo_mod (m := m') (i := left) (j := 1000) (by decide)
          have hW := a3.at h3
          have hWl : m2.length < m6.length := (List.getElem?_eq_some_iff.mp hW).1
          have b2 := bm_ap (g := gg) (v := .str a) hW (by rw [List.length_cons] at h5; simp only [List.length_map, List.length_cons]; exact Nat.lt_of_lt_of_le (show as.length + 1 + 1 < 100 by omega) (five (by omega)))
          have b3 := fun m => bo_fdiv (m := m) (i := left) (j := 7) (by decide)
          have hgl : m'[m2.length]? = some (.lst ((Str.ofString "call" :: name :: as).map .str)) := h3
          have b4 : bindT gg [6] false [.str w] [some (.int n), some (.int mn), some (.ref rM), some (.ref c), some (.int left), some (.ref m2.length), x6] m' = some [some (.int n), some (.int mn), some (.ref rM), some (.ref c), some (.int left), some (.ref m2.length), some (.str w)] := rfl
          refine ⟨_, [some (.int n), some (.int mn), some (.ref rM), some (.ref c), some (.int (left / 7)), some (.ref m2.length), some (.str w)], m6.set m2.length (.lst ((Str.ofString "call" :: name :: as).map .str ++ [.str a])), b4, ?_, left / 7, as ++ [a], some (.str w), rfl, ?_, ?_, ?_, ?_, ?_, ?_, ls, rfl⟩
          · clear I0 h1 h2 h5 h6 b4 hWl hW
            walk_at "mi"
          · exact (h1.trans a3).set g2.len _
          · rw [List.getElem?_set_ne (by omega)]; exact a3.at h2
          · rw [List.getElem?_set_self hWl]; simp
          · rw [List.getElem?_set_ne (by omega)]; exact a3.at h4
          · rw [List.length_cons] at h5
            rw [List.length_append, List.length_singleton]; omega
          · intro w' hw'
            rcases List.mem_append.mp hw' with h | h
            · exact h6 w' h
            · rw [List.mem_singleton.mp h]; exact a2)
      ((ks.map .str).map fun x : MV => [x]) _ m4 I0
    obtain ⟨left, as, x6, rfl, h1, h2, h3, h4, h5, h6, _⟩ := i2
    obtain ⟨r, ws', m', t1, t2, t3, t4, t5⟩ := tail12 k n mn left (.ref rM) c m2.length x6 name ks as m m5 (by omega) g2.len h1 h2 h3 (by simpa using h5) h6 hcn hnt hnp hlk hk3
    refine ⟨r, ws', m', ?_, t2, t3, t4, t5⟩
    rw [← t1]
    generalize restOf 13 f12.body = T
    have eW : dW gg (callD gg (k+2)) (fmOf gg (k+2)) (.wl (.sl (.var 3) (.con (.int 1)) .nopart)) [some (.int n), some (.int mn), some (.ref rM), some (.ref c), some (.int (n / ((32 : Nat) : Int))), some (.ref m2.length), none] m3 = .ok (.lst (.ref m3.length) (ks.map .str)) m4 := by
      refine dW_sl (v := .ref m3.length) (ev_sl (ev_var rfl) ev_p1 ev_p0 e6) ?_
      simp only [gl, w4]
    have eF := es_for (g := gg) (fc := callD gg (k+2)) (fm := fmOf gg (k+2)) (vs := [6]) (tup := false) (B := .seq (.ex (.bm (.var 5) .append (.cons (.call 11 (.cons (.var 6) (.cons (.bin .Mod (.var 4) (.con (.int 1000))) (.cons (.var 1) .nil)))) .nil))) (.seq (.asg 4 (.bin .FloorDiv (.var 4) (.con (.int 7)))) .nil)) eW i1
    generalize (IS.for [6] false (.wl (.sl (.var 3) (.con (.int 1)) .nopart)) (.seq (.ex (.bm (.var 5) .append (.cons (.call 11 (.cons (.var 6) (.cons (.bin .Mod (.var 4) (.con (.int 1000))) (.cons (.var 1) .nil)))) .nil))) (.seq (.asg 4 (.bin .FloorDiv (.var 4) (.con (.int 7)))) .nil))) = LP at eF ⊢
    simp only [List.map_cons, List.map_nil] at hm3
    have hl2 : dE gg (callD gg (k+2)) (fmOf gg (k+2)) (.lst (.cons (.con (.str "call")) (.cons (.ix (.var 3) (.con (.int 0))) .nil))) [some (.int n), some (.int mn), some (.ref rM), some (.ref c), some (.int (n / ((32 : Nat) : Int))), none, none] m2 = .ok (.ref m2.length) m3 := by
      simp only [dE, dA, Rs.bind, List.getElem?_cons_zero, List.getElem?_cons_succ, e5, List.length_cons, List.length_nil, sz2, if_true, new, hm3]
    generalize (IE.lst (.cons (.con (.str "call")) (.cons (.ix (.var 3) (.con (.int 0))) .nil))) = L5 at hl2 ⊢
    clear I0 i1 h1 h2 h3 h4 h5 h6 t1 t2 t3 t4 t5 eW w4 g4 hm4 e6 w3 g3 l3 hm3 g2 hcm sC hnt hcn hk3 hlk hnp hcl hcv hws hi hi2 hgs hlen q3 q2 hc k1 k2 k3 szs j1
    walk_at "mi"
end K
end Mi

set_option Elab.async false
set_option maxRecDepth 100000
set_option maxHeartbeats 4000000
set_option linter.all false
namespace Mi
open PySem PySem.Spec PyProof.Rows L2
local macro_rules | `(tactic| walk_at "mi") => `(tactic| simp only [dS, dT, dE, dA, dP, dW, lift, Rs.bind, Fl.back, startM, List.map_cons, List.map_nil, List.length_cons, List.length_nil, List.nil_append, List.cons_append, List.replicate_succ, List.replicate_zero, Nat.reduceAdd, Nat.reduceSub, Int.reduceNeg, List.getElem?_cons_zero, List.getElem?_cons_succ, List.set_cons_zero, List.set_cons_succ,
  co_eqi, co_eqs, co_nei, co_nes, cop_lt, cop_le, cop_gt, cop_ge, bop_addi, bop_subi, truth_i, truth_b, bmTy, decide_true, decide_false, Bool.not_true, Bool.not_false, if_true, if_false, decide_eq_true_eq, Bool.false_eq_true, new, setAll, *])
namespace K
theorem clean_num {z : Int} (h0 : 0 ≤ z) (h1 : z < 1000) : Clean (Str.ofString (toString z)) := (argP_num h0 h1).toClean
theorem cl_set : Clean "set" := clean_of (by decide +kernel)
theorem cl_add : Clean "add" := clean_of (by decide +kernel)
theorem cl_less : Clean "less" := clean_of (by decide +kernel)
theorem cl_if : Clean "if" := clean_of (by decide +kernel)
theorem cl_back : Clean "back" := clean_of (by decide +kernel)
theorem cl_jump : Clean "jump" := clean_of (by decide +kernel)
theorem n999 : NumW "999" 999 := numW_of (by decide +kernel)
theorem cl_999 : Clean "999" := clean_of (by decide +kernel)
theorem clean3 {a b c : Str} (ha : Clean a) (hb : Clean b) (hc : Clean c) : ∀ w ∈ [a, b, c], Clean w := by
  intro w hw
  simp only [List.mem_cons, List.not_mem_nil, or_false] at hw
  rcases hw with rfl | rfl | rfl
  · exact ha
  · exact hb
  · exact hc
theorem rk_back : RowK ["back"] := ⟨.back, by intro w hw; rw [List.mem_singleton.mp hw]; exact cl_back, by simp, by simp⟩
theorem rk_jump {w : Str} {n : Int} (h : NumW w n) (c : Clean w) : RowK [Str.ofString "jump", w] := ⟨.jump h, by
  intro x hx
  simp only [List.mem_cons, List.not_mem_nil, or_false] at hx
  rcases hx with rfl | rfl
  · exact cl_jump
  · exact c, by simp, by simp⟩
theorem call13 (k : Nat) (n mn : Int) (m : MH) (hm : 2 ≤ mn ∧ mn ≤ 42) :
    ∃ r ws m', callD gg (k+4) 13 [.int n, .int mn] m = .ok (.ref r) m' ∧ m'[r]? = some (.lst (ws.map .str)) ∧ m.length ≤ r ∧ Gro m m' ∧ RowK ws := by
  rw [callF fn_13, f13]
  have b1 := fun m => bo_fdiv (m := m) (i := n) (j := 10) (by decide)
  have b2 := fun m => bo_mod (m := m) (i := n) (j := 10) (by decide)
  have b3 := fun m => bo_fdiv (m := m) (i := n / 10) (j := 16) (by decide)
  have b4 := fun m => bo_mod (m := m) (i := n / 10 / 16) (j := 256) (by decide)
  have b5 := fun m => bo_mod (m := m) (i := n / 10) (j := 2) (by decide)
  have b6 := fun m => bo_fdiv (m := m) (i := n / 10) (j := 2) (by decide)
  have b7 := fun m => bo_fdiv (m := m) (i := n / 10) (j := 32) (by decide)
  have b8 := fun m => bo_mod (m := m) (i := n / 10 / 16) (j := mn) (by omega)
  have b9 := fun m => bo_mod (m := m) (i := n / 10 / 16) (j := 1000) (by decide)
  have b10 := fun m => bo_fdiv (m := m) (i := n / 10) (j := 128) (by decide)
  have b11 := fun m => bo_mod (m := m) (i := n / 10 / 128) (j := 8) (by decide)
  have b12 := fun m => bo_fdiv (m := m) (i := n / 10 / 128 % 8) (j := 7) (by decide)
  have b13 := fun m => bo_fdiv (m := m) (i := n / 10) (j := 3) (by decide)
  have b14 := fun m => bo_mod (m := m) (i := n / 10 / 3) (j := mn) (by omega)
  have b15 := fun m => bo_mod (m := m) (i := n / 10 / 3) (j := 1000) (by decide)
  have b16 := fun m => bo_fdiv (m := m) (i := n / 10) (j := 24) (by decide)
  have b17 := fun m => bo_mod (m := m) (i := n / 10 / 24) (j := 8) (by decide)
  have b18 := fun m => bo_fdiv (m := m) (i := n / 10 / 24 % 8) (j := 7) (by decide)
  have b19 := fun m => bo_mod (m := m) (i := n / 10) (j := 4) (by decide)
  have z1 := five (k := 1) (by omega)
  have z2 := five (k := 2) (by omega)
  have z3 := five (k := 3) (by omega)
  have z4 := five (k := 4) (by omega)
  by_cases c0 : n % 10 = 0
  · have d0 := decide_eq_true c0
    obtain ⟨z, m1, e1, h0, h1, g1⟩ := call10 (k+2) (n / 10) m
    have e2 := fun m => str_ok (g := gg) (m := m) (z := n / 10 / 16 % 256) (by omega) (by omega)
    refine ⟨m1.length, [Str.ofString "set", Str.ofString (toString z), Str.ofString (toString (n / 10 / 16 % 256))], m1 ++ [.lst ([Str.ofString "set", Str.ofString (toString z), Str.ofString (toString (n / 10 / 16 % 256))].map .str)], ?_, last_app _ _, g1.len, g1.to_app, .set (numW_num h0 (by omega)) h1 (numW_num (by omega) (by omega)) (by omega), clean3 cl_set (clean_num h0 (by omega)) (clean_num (by omega) (by omega)), by simp, by simp⟩
    clear h0 h1 g1 hm c0
    walk_at "mi"
  have d0 := decide_eq_false c0
  clear c0
  by_cases c0 : n % 10 = 1
  · have d1 := decide_eq_true c0
    obtain ⟨w, hw, e1⟩ := lit_strs (g := gg) m ["add", "less"] (n / 10 % 2) (by omega) (by simp; omega)
    obtain ⟨z, m1, e2, h0, h1, g1⟩ := call10 (k+2) (n / 10 / 2) (m ++ [.lst ((["add", "less"] : List Str).map .str)])
    obtain ⟨z', m2, e3, h0', h1', g2⟩ := call10 (k+2) (n / 10 / 32) m1
    have gA := ((Gro.app m [.lst ((["add", "less"] : List Str).map .str)]).trans g1).trans g2
    have hw' : w = "add" ∨ w = "less" := by simpa using hw
    refine ⟨m2.length, [w, Str.ofString (toString z), Str.ofString (toString z')], m2 ++ [.lst ([w, Str.ofString (toString z), Str.ofString (toString z')].map .str)], ?_, last_app _ _, gA.len, gA.to_app, .add hw' (numW_num h0 (by omega)) h1 (numW_num h0' (by omega)) h1', clean3 (by rcases hw' with rfl | rfl; exact cl_add; exact cl_less) (clean_num h0 (by omega)) (clean_num h0' (by omega)), by simp, by simp⟩
    simp only [List.map_cons, List.map_nil] at e1 e2
    clear h0 h1 g1 h0' h1' g2 gA hw hw' hm c0
    walk_at "mi"
  have d1 := decide_eq_false c0
  clear c0
  by_cases c0 : n % 10 = 2
  · have d2 := decide_eq_true c0
    obtain ⟨z, m1, e2, h0, h1, g1⟩ := call10 (k+2) (n / 10) m
    obtain ⟨v, hv, e1⟩ := lit_ix (g := gg) m1 [.int (n / 10 / 16 % mn), .int (n / 10 / 16 % 1000)] (n / 10 / 128 % 8 / 7) (by omega) (by simp; omega)
    have hq0 : 0 ≤ n / 10 / 16 % mn := Int.emod_nonneg _ (by omega)
    have hq1 : n / 10 / 16 % mn < mn := Int.emod_lt_of_pos _ (by omega)
    have : ∃ y, v = .int y ∧ 0 ≤ y ∧ y < 1000 := by
      simp only [List.mem_cons, List.not_mem_nil, or_false] at hv
      rcases hv with rfl | rfl <;> exact ⟨_, rfl, by omega, by omega⟩
    obtain ⟨y, rfl, y0, y1⟩ := this
    have e3 := fun m => str_ok (g := gg) (m := m) (z := y) (by omega) (by omega)
    have gA := g1.trans (Gro.app m1 [.lst [.int (n / 10 / 16 % mn), .int (n / 10 / 16 % 1000)]])
    refine ⟨(m1 ++ [MO.lst [.int (n / 10 / 16 % mn), .int (n / 10 / 16 % 1000)]]).length, [Str.ofString "if", Str.ofString (toString z), Str.ofString (toString y)], (m1 ++ [MO.lst [.int (n / 10 / 16 % mn), .int (n / 10 / 16 % 1000)]]) ++ [.lst ([Str.ofString "if", Str.ofString (toString z), Str.ofString (toString y)].map .str)], ?_, last_app _ _, gA.len, gA.to_app, .ifz (numW_num h0 (by omega)) h1 (numW_num y0 y1), clean3 cl_if (clean_num h0 (by omega)) (clean_num y0 y1), by simp, by simp⟩
    clear h0 h1 g1 gA hv y0 y1 hq0 hq1 hm c0
    walk_at "mi"
  have d2 := decide_eq_false c0
  clear c0
  by_cases c0 : n % 10 = 3
  · have d3 := decide_eq_true c0
    obtain ⟨v, hv, e1⟩ := lit_ix (g := gg) m [.int (n / 10 / 3 % mn), .int (n / 10 / 3 % 1000)] (n / 10 / 24 % 8 / 7) (by omega) (by simp; omega)
    have hq0 : 0 ≤ n / 10 / 3 % mn := Int.emod_nonneg _ (by omega)
    have hq1 : n / 10 / 3 % mn < mn := Int.emod_lt_of_pos _ (by omega)
    have : ∃ y, v = .int y ∧ 0 ≤ y ∧ y < 1000 := by
      simp only [List.mem_cons, List.not_mem_nil, or_false] at hv
      rcases hv with rfl | rfl <;> exact ⟨_, rfl, by omega, by omega⟩
    obtain ⟨y, rfl, y0, y1⟩ := this
    have e3 := fun m => str_ok (g := gg) (m := m) (z := y) (by omega) (by omega)
    generalize hm1 : m ++ [MO.lst [.int (n / 10 / 3 % mn), .int (n / 10 / 3 % 1000)]] = m1 at e1
    have g1 : Gro m m1 := by rw [← hm1]; exact .app _ _
    have l1 : m.length ≤ m1.length := g1.len
    generalize hm2 : m1 ++ [MO.lst [.str "back"]] = m2
    have g2 : Gro m1 m2 := by rw [← hm2]; exact .app _ _
    have w2 : m2[m1.length]? = some (.lst ([Str.ofString "back"].map .str)) := by rw [← hm2]; exact last_app _ _
    generalize hm3 : m2 ++ [MO.lst [.str "jump", .str (Str.ofString (toString y))]] = m3
    have g3 : Gro m2 m3 := by rw [← hm3]; exact .app _ _
    have w3 : m3[m2.length]? = some (.lst ([Str.ofString "jump", Str.ofString (toString y)].map .str)) := by rw [← hm3]; exact last_app _ _
    generalize hm4 : m3 ++ [MO.lst [.str "jump", .str "999"]] = m4
    have g4 : Gro m3 m4 := by rw [← hm4]; exact .app _ _
    have w4 : m4[m3.length]? = some (.lst ([Str.ofString "jump", Str.ofString "999"].map .str)) := by rw [← hm4]; exact last_app _ _
    generalize hm5 : m4 ++ [MO.lst [.str "back"]] = m5
    have g5 : Gro m4 m5 := by rw [← hm5]; exact .app _ _
    have w5 : m5[m4.length]? = some (.lst ([Str.ofString "back"].map .str)) := by rw [← hm5]; exact last_app _ _
    obtain ⟨v, hv, e4⟩ := lit_ix (g := gg) m5 [.ref m1.length, .ref m2.length, .ref m3.length, .ref m4.length] (n / 10 % 4) (by omega) (by simp; omega)
    have g25 := (g3.trans g4).trans g5
    have : ∃ r ws, v = .ref r ∧ m5[r]? = some (.lst (ws.map .str)) ∧ m.length ≤ r ∧ RowK ws := by
      simp only [List.mem_cons, List.not_mem_nil, or_false] at hv
      have q2 := g2.len
      have q3 := g3.len
      have q4 := g4.len
      rcases hv with rfl | rfl | rfl | rfl
      · exact ⟨_, _, rfl, g25.at w2, l1, rk_back⟩
      · exact ⟨_, _, rfl, (g4.trans g5).at w3, by omega, rk_jump (numW_num y0 y1) (clean_num y0 y1)⟩
      · exact ⟨_, _, rfl, g5.at w4, by omega, rk_jump n999 cl_999⟩
      · exact ⟨_, _, rfl, w5, by omega, rk_back⟩
    obtain ⟨r, ws, rfl, r1, r2, r3⟩ := this
    refine ⟨r, ws, m5 ++ [.lst [.ref m1.length, .ref m2.length, .ref m3.length, .ref m4.length]], ?_, (Gro.app _ _).at r1, r2, ((g1.trans g2).trans g25).to_app, r3⟩
    clear g1 g2 g3 g4 g5 g25 w2 w3 w4 w5 r1 r2 r3 hv y0 y1 hq0 hq1 hm c0 l1
    walk_at "mi"
  have d3 := decide_eq_false c0
  clear c0
  obtain ⟨r, ws, m', e1, r1, r2, r3, r4⟩ := call12 k (n / 10) mn m hm
  refine ⟨r, ws, m', ?_, r1, r2, r3, r4⟩
  clear hm r1 r2 r3 r4
  walk_at "mi"
end K
end Mi

set_option Elab.async false
set_option maxRecDepth 100000
set_option maxHeartbeats 4000000
set_option linter.all false
namespace Mi
open PySem PySem.Spec PyProof.Rows L2
local macro_rules | `(tactic| walk_at "mi") => `(tactic| simp only [dS, dT, dE, dA, dP, dW, lift, Rs.bind, Fl.back, startM, List.map_cons, List.map_nil, List.length_cons, List.length_nil, List.nil_append, List.cons_append, List.replicate_succ, List.replicate_zero, Nat.reduceAdd, Nat.reduceSub, Int.reduceNeg, List.getElem?_cons_zero, List.getElem?_cons_succ, List.set_cons_zero, List.set_cons_succ,
  co_eqi, co_eqs, co_nei, co_nes, cop_lt, cop_le, cop_gt, cop_ge, bop_addi, bop_subi, truth_i, truth_b, bmTy, decide_true, decide_false, Bool.not_true, Bool.not_false, if_true, if_false, decide_eq_true_eq, Bool.false_eq_true, new, setAll, *])
namespace K
/-- the numbers of one cell -/
theorem while14 (fc fm : Nat → List MV → MH → Rs MV) (v x3 : MV) (D base : Nat) (b : Bool) (m0 : MH) (hb : base ≤ 10000) :
    ∀ n k s m, k < n → (∃ (left : Int) (t : Nat) (ds : List Int), s = [some v, some (.ref D), some (.bl b), some x3, none, some (.int left), some (.int t), none] ∧ t + k = 20 ∧ GroX D m0 m ∧ m[D]? = some (.lst (ds.map .int)) ∧ ds.length ≤ base + t) →
      ∃ s' m', whl (dT gg fc fm (.orr (.cmp .Eq (.var 6) (.con (.int 0))) (.one (.an (.var 2) (.an (.cmp .Gt (.var 5) (.con (.int 0))) (.one (.cmp .Lt (.var 6) (.con (.int 20)))))))))
        (dS gg fc fm (.seq (.ex (.bm (.var 1) .append (.cons (.bin .Mod (.var 5) (.con (.int 1000000000000))) .nil)))
    (.seq (.asg 5 (.bin .FloorDiv (.var 5) (.con (.int 1000000000000))))
    (.seq (.aug 6 .Add (.con (.int 1)))
    .nil)))) n s m = .nx s' m' ∧ ∃ (left : Int) (t : Nat) (ds : List Int), s' = [some v, some (.ref D), some (.bl b), some x3, none, some (.int left), some (.int t), none] ∧ GroX D m0 m' ∧ m'[D]? = some (.lst (ds.map .int)) ∧ ds.length ≤ base + 20 := by
  refine whl_inv _ _ ?_
  rintro k s m ⟨left, t, ds, rfl, h1, h2, h3, h4⟩
  have body : 0 < k → ∃ s2 m2, dS gg fc fm (.seq (.ex (.bm (.var 1) .append (.cons (.bin .Mod (.var 5) (.con (.int 1000000000000))) .nil)))
    (.seq (.asg 5 (.bin .FloorDiv (.var 5) (.con (.int 1000000000000))))
    (.seq (.aug 6 .Add (.con (.int 1)))
    .nil))) [some v, some (.ref D), some (.bl b), some x3, none, some (.int left), some (.int t), none] m = .nx s2 m2 ∧ (∃ (left : Int) (t : Nat) (ds : List Int), s2 = [some v, some (.ref D), some (.bl b), some x3, none, some (.int left), some (.int t), none] ∧ t + (k-1) = 20 ∧ GroX D m0 m2 ∧ m2[D]? = some (.lst (ds.map .int)) ∧ ds.length ≤ base + t) := by
    intro hk
    have b1 := fun m => bo_mod (m := m) (i := left) (j := 1000000000000) (by decide)
    have b2 := fun m => bo_fdiv (m := m) (i := left) (j := 1000000000000) (by decide)
    have hDm : D < m.length := (List.getElem?_eq_some_iff.mp h3).1
    have b3 := bm_ap (g := gg) (v := .int (left % 1000000000000)) h3 (by rw [List.length_map, sizeLine_eq]; omega)
    refine ⟨[some v, some (.ref D), some (.bl b), some x3, none, some (.int (left / 1000000000000)), some (.int ((t + 1 : Nat) : Int)), none], m.set D (.lst (ds.map .int ++ [.int (left % 1000000000000)])), ?_, _, t + 1, ds ++ [left % 1000000000000], rfl, by omega, h2.trans (GroX.set _ _ _), ?_, ?_⟩
    · have : ((t + 1 : Nat) : Int) = (t : Int) + 1 := by omega
      rw [this]
      have e : augM .Add (.int (t : Int)) (.int 1) = some (.int ((t : Int) + 1)) := rfl
      clear hk h1 h2 h4 hb hDm this
      walk_at "mi"
    · rw [List.getElem?_set_self hDm]; simp
    · rw [List.length_append, List.length_singleton]; omega
  by_cases c0 : (t : Int) = 0
  · right
    obtain ⟨s2, m2, e1, e2⟩ := body (by omega)
    refine ⟨m, s2, m2, k - 1, ?_, e1, by omega, e2⟩
    have d0 := decide_eq_true c0
    clear body e1 e2 c0 h1 h2 h3 h4
    walk_at "mi"
  have d0 := decide_eq_false c0
  cases b with
  | false =>
    left
    refine ⟨m, ?_, left, t, ds, rfl, h2, h3, by omega⟩
    clear body c0 h1 h2 h3 h4
    walk_at "mi"
  | true =>
    by_cases c1 : 0 < left
    · have d1 := decide_eq_true c1
      by_cases c2 : (t : Int) < 20
      · right
        obtain ⟨s2, m2, e1, e2⟩ := body (by omega)
        refine ⟨m, s2, m2, k - 1, ?_, e1, by omega, e2⟩
        have d2 := decide_eq_true c2
        clear body e1 e2 c0 h1 h2 h3 h4 c1 c2
        walk_at "mi"
      · left
        refine ⟨m, ?_, left, t, ds, rfl, h2, h3, by omega⟩
        have d2 := decide_eq_false c2
        clear body c0 h1 h2 h3 h4 c1 c2
        walk_at "mi"
    · left
      refine ⟨m, ?_, left, t, ds, rfl, h2, h3, by omega⟩
      have d1 := decide_eq_false c1
      clear body c0 h1 h2 h3 h4 c1
      walk_at "mi"
def LOOP14 : IS := .seq (.asg 5 (.blt .max2 (.cons (.var 3) (.cons (.neg (.var 3)) .nil))))
    (.seq (.iff (.nt (.var 2)) (.seq (.asg 5 (.call 9 (.cons (.bin .Add (.call 9 (.cons (.var 3) (.cons (.con (.int 48271)) (.cons (.con (.int 2147483647)) .nil)))) (.con (.int 11))) (.cons (.con (.int 6364136223846793005)) (.cons (.con (.int 18446744073709551557)) .nil)))))
    .nil) .nil)
    (.seq (.asg 6 (.con (.int 0)))
    (.seq (.whl (.orr (.cmp .Eq (.var 6) (.con (.int 0))) (.one (.an (.var 2) (.an (.cmp .Gt (.var 5) (.con (.int 0))) (.one (.cmp .Lt (.var 6) (.con (.int 20)))))))) (.seq (.ex (.bm (.var 1) .append (.cons (.bin .Mod (.var 5) (.con (.int 1000000000000))) .nil)))
    (.seq (.asg 5 (.bin .FloorDiv (.var 5) (.con (.int 1000000000000))))
    (.seq (.aug 6 .Add (.con (.int 1)))
    .nil))))
    .nil)))
def TAIL14 : IS := .seq (.asg 1 (.sl (.var 1) .nopart (.con (.int 40))))
    (.seq (.asg 4 (.bin .Add (.blt .len (.cons (.var 1) .nil)) (.con (.int 2))))
    (.seq (.ret (.bin .Add (.lst (.cons (.lst (.cons (.con (.str "call")) (.cons (.con (.str "map")) (.cons (.con (.str "0")) (.cons (.con (.str "2")) (.cons (.con (.str "to")) (.cons (.con (.str "0")) .nil))))))) .nil)) (.lc (.call 13 (.cons (.var 7) (.cons (.var 4) .nil))) [7] false (.wl (.var 1)) .nopart)))
    .nil))
theorem body14 : f14.body = .seq (.asg 1 (.lst .nil)) (.seq (.asg 2 (.cmp .Eq (.bin .Mod (.call 8 (.cons (.var 0) (.cons (.con (.int 0)) .nil))) (.con (.int 2))) (.con (.int 0)))) (.seq (.for [3] false (.wl (.sl (.var 0) (.con (.int 1)) .nopart)) LOOP14) TAIL14)) := rfl
theorem loop14 (k : Nat) (v : MV) (x3 x5 x6 : Option MV) (z : Int) (D base : Nat) (b : Bool) (m0 m : MH) (ds : List Int) (hb : base ≤ 10000) (g0 : GroX D m0 m) (h3 : m[D]? = some (.lst (ds.map .int))) (h4 : ds.length ≤ base) :
    ∃ (y5 y6 : Option MV) (ds' : List Int) (m' : MH), dS gg (callD gg (k+1)) (fmOf gg (k+1)) LOOP14 [some v, some (.ref D), some (.bl b), some (.int z), none, x5, x6, none] m = .nx [some v, some (.ref D), some (.bl b), some (.int z), none, y5, y6, none] m' ∧ GroX D m0 m' ∧ m'[D]? = some (.lst (ds'.map .int)) ∧ ds'.length ≤ base + 20 := by
  have W := fun left : Int => while14 (callD gg (k+1)) (fmOf gg (k+1)) v (.int z) D base b m0 hb loopFuel 20 [some v, some (.ref D), some (.bl b), some (.int z), none, some (.int left), some (.int ((0 : Nat) : Int)), none] m (by unfold loopFuel; omega) ⟨left, 0, ds, rfl, by omega, g0, h3, by omega⟩
  unfold LOOP14
  have e1 : bltM gg .max2 [.int z, .int (-z)] m = .ok (.int (if -z > z then -z else z)) m := rfl
  have w0 : ((0 : Nat) : Int) = 0 := rfl
  rw [w0] at W
  cases b with
  | true =>
    obtain ⟨s', m', k1, left, t, ds', rfl, k2, k3, k4⟩ := W (if -z > z then -z else z)
    refine ⟨some (.int left), some (.int t), ds', m', ?_, k2, k3, k4⟩
    have eW := es_whl (g := gg) k1
    generalize (IS.whl (.orr (.cmp .Eq (.var 6) (.con (.int 0))) (.one (.an (.var 2) (.an (.cmp .Gt (.var 5) (.con (.int 0))) (.one (.cmp .Lt (.var 6) (.con (.int 20)))))))) _) = X at eW ⊢
    generalize (if -z > z then -z else z) = q at e1 eW
    clear W k1 k2 k3 k4 g0 h3 h4 w0
    walk_at "mi"
  | false =>
    have e9 := call9 k z 48271 2147483647 m (by omega) (by omega)
    have e10 := call9 k (z * 48271 % 2147483647 + 11) 6364136223846793005 18446744073709551557 m (by omega) (by omega)
    obtain ⟨s', m', k1, left, t, ds', rfl, k2, k3, k4⟩ := W ((z * 48271 % 2147483647 + 11) * 6364136223846793005 % 18446744073709551557)
    refine ⟨some (.int left), some (.int t), ds', m', ?_, k2, k3, k4⟩
    have eW := es_whl (g := gg) k1
    generalize (IS.whl (.orr (.cmp .Eq (.var 6) (.con (.int 0))) (.one (.an (.var 2) (.an (.cmp .Gt (.var 5) (.con (.int 0))) (.one (.cmp .Lt (.var 6) (.con (.int 20)))))))) _) = X at eW ⊢
    generalize (if -z > z then -z else z) = q at e1
    clear W k1 k2 k3 k4 g0 h3 h4 w0
    walk_at "mi"
end K
end Mi

set_option Elab.async false
set_option maxRecDepth 100000
set_option maxHeartbeats 4000000
set_option linter.all false
namespace Mi
open PySem PySem.Spec PyProof.Rows L2
local macro_rules | `(tactic| walk_at "mi") => `(tactic| simp only [dS, dT, dE, dA, dP, dW, lift, Rs.bind, Fl.back, startM, List.map_cons, List.map_nil, List.length_cons, List.length_nil, List.nil_append, List.cons_append, List.replicate_succ, List.replicate_zero, Nat.reduceAdd, Nat.reduceSub, Int.reduceNeg, List.getElem?_cons_zero, List.getElem?_cons_succ, List.set_cons_zero, List.set_cons_succ,
  co_eqi, co_eqs, co_nei, co_nes, cop_lt, cop_le, cop_gt, cop_ge, bop_addi, bop_subi, truth_i, truth_b, bmTy, decide_true, decide_false, Bool.not_true, Bool.not_false, if_true, if_false, decide_eq_true_eq, Bool.false_eq_true, new, setAll, *])
theorem All2.rows {m : MH} {P : List Str → Prop} : ∀ {items : List (List MV)} {ys : List MV}, All2 (fun _ y => ∃ r ws, y = .ref r ∧ m[r]? = some (.lst (ws.map MV.str)) ∧ P ws) items ys → ∃ wss, All2 (fun ws x => SL m x ws) wss ys ∧ (∀ ws ∈ wss, P ws) ∧ wss.length = ys.length
  | [], [], _ => ⟨[], trivial, by simp, rfl⟩
  | _ :: _, y :: ys, k => by
    obtain ⟨⟨r, ws, h1, h2, h3⟩, k2⟩ := k
    obtain ⟨wss, q1, q2, q3⟩ := All2.rows k2
    refine ⟨ws :: wss, ⟨⟨r, h1, h2⟩, q1⟩, ?_, by simp [q3]⟩
    intro w hw
    rcases List.mem_cons.mp hw with rfl | h
    · exact h3
    · exact q2 w h
  | [], _ :: _, k => k.elim
  | _ :: _, [], k => k.elim
namespace K
def ROW0 : List Str := ["call", "map", "0", "2", "to", "0"]
theorem n0 : NumW "0" 0 := numW_of (by decide +kernel)
theorem a0 : ArgP "0" := argP_of (by decide +kernel)
theorem a2 : ArgP "2" := argP_of (by decide +kernel)
theorem cl_map : Clean "map" := clean_of (by decide +kernel)
theorem row0_ok : RowK ROW0 := by
  have hA : Args "map" 2 ["0", "2"] := args_plain (name := "map") (as := ["0", "2"]) (by decide +kernel) (by simp) (by
    intro w hw
    simp only [List.mem_cons, List.not_mem_nil, or_false] at hw
    rcases hw with rfl | rfl
    · exact a0
    · exact a2)
  exact row_to (a := "0") cl_map (by decide +kernel) (by omega) hA n0 (by omega) a0.toClean
theorem tail14 (k : Nat) (v : MV) (x3 x5 x6 : Option MV) (D : Nat) (b : Bool) (m0 m : MH) (ds : List Int) (g0 : Gro m0 m) (h3 : m[D]? = some (.lst (ds.map .int))) :
    ∃ v' wss m', (dS gg (callD gg (k+4)) (fmOf gg (k+4)) TAIL14 [some v, some (.ref D), some (.bl b), x3, none, x5, x6, none] m).back = .ok v' m' ∧ MatS m' v' wss ∧ Gro m0 m' ∧ (∀ ws ∈ wss, RowK ws) ∧ 1 ≤ wss.length ∧ wss.length ≤ 41 := by
  have hgl : gl m (.ref D) = some (ds.map .int) := by simp only [gl, h3]
  have e1 := sl_l (lo := none) (hi := some 40) hgl (by intro z hz; cases hz)
  have hcut : ∃ es : List Int, cutM (ds.map MV.int) none (some 40) = es.map .int ∧ es.length ≤ 40 := by
    refine ⟨_, cutM_map _ _ _ _, ?_⟩
    rw [List.length_take]
    unfold HT.sIx
    simp
    omega
  obtain ⟨es, hes, hel⟩ := hcut
  rw [hes] at e1
  generalize hm1 : m ++ [MO.lst (es.map .int)] = m1 at e1
  have g1 : Gro m m1 := by rw [← hm1]; exact .app _ _
  have w1 : m1[m.length]? = some (.lst (es.map .int)) := by rw [← hm1]; exact last_app _ _
  have hgl1 : gl m1 (.ref m.length) = some (es.map .int) := by simp only [gl, w1]
  have e2 := bl_lenL (g := gg) (m := m1) (x := .ref m.length) (xs := es.map .int) (by simp only [gs, hgl1]) (by intro z hz; cases hz)
  rw [List.length_map] at e2
  have eL : dE gg (callD gg (k+4)) (fmOf gg (k+4)) (.lst (.cons (.lst (.cons (.con (.str "call")) (.cons (.con (.str "map")) (.cons (.con (.str "0")) (.cons (.con (.str "2")) (.cons (.con (.str "to")) (.cons (.con (.str "0")) .nil))))))) .nil)) [some v, some (.ref m.length), some (.bl b), x3, some (.int ((es.length : Int) + 2)), x5, x6, none] m1 = .ok (.ref (m1.length + 1)) ((m1 ++ [.lst (ROW0.map .str)]) ++ [.lst [.ref m1.length]]) := by
    have z6 := five (k := 6) (by omega)
    have z1 := five (k := 1) (by omega)
    clear hm1 h3 hgl hgl1 w1 hes e1 e2
    simp only [dE, dA, Rs.bind, List.length_cons, List.length_nil, if_pos z6, if_pos z1, new, ROW0, List.map_cons, List.map_nil, List.length_append, Nat.reduceAdd]
  generalize hm2 : (m1 ++ [MO.lst (ROW0.map .str)]) ++ [MO.lst [.ref m1.length]] = m2 at eL
  have g2 : Gro m1 m2 := by rw [← hm2]; exact (Gro.app _ _).to_app
  have w2 : m2[m1.length + 1]? = some (.lst [.ref m1.length]) := by rw [← hm2]; simp
  have w3 : m2[m1.length]? = some (.lst (ROW0.map .str)) := by rw [← hm2]; simp
  have eW : dW gg (callD gg (k+4)) (fmOf gg (k+4)) (.wl (.var 1)) [some v, some (.ref m.length), some (.bl b), x3, some (.int ((es.length : Int) + 2)), x5, x6, none] m2 = .ok (.lst (.ref m.length) (es.map .int)) m2 := dW_sl (ev_var rfl) (g2.gl hgl1)
  obtain ⟨ys, m3, k1, k2, k3, k4, k5⟩ := lc_map (still := fun m' => (Wk.lst (.ref m.length) (es.map .int)).still gg m') (tg := fun x s m => bindT gg [7] false x s m) (t := dT gg (callD gg (k+4)) (fmOf gg (k+4)) .nopart) (e := dE gg (callD gg (k+4)) (fmOf gg (k+4)) (.call 13 (.cons (.var 7) (.cons (.var 4) .nil)))) (D := m2.length) (s := wipeM [some v, some (.ref m.length), some (.bl b), x3, some (.int ((es.length : Int) + 2)), x5, x6, none] [7]) m2 (Nat.le_refl _)
    (fun m' hm => decide_eq_true (hm.gl (g2.gl hgl1)))
    (fun _ y m' => ∃ r ws, y = .ref r ∧ r ≠ m2.length ∧ m'[r]? = some (.lst (ws.map MV.str)) ∧ RowK ws)
    (by
      rintro _ y ma mb hg ⟨r, ws, h1, h2, h3, h4⟩
      exact ⟨r, ws, h1, h2, hg r _ h2 h3, h4⟩)
    (Wk.lst (.ref m.length) (es.map .int)).items [] (m2 ++ [.lst []]) (.app _ _) (last_app _ _) (by simp only [Wk.items, List.length_map, List.length_nil]; exact five (by omega)) (by
      intro x hx ma hma hla
      simp only [Wk.items, List.map_map, List.mem_map] at hx
      obtain ⟨w, hw1, rfl⟩ := hx
      obtain ⟨r, ws, m', e, r1, r2, r3, r4⟩ := call13 k w ((es.length : Int) + 2) ma (by omega)
      refine ⟨[some v, some (.ref m.length), some (.bl b), x3, some (.int ((es.length : Int) + 2)), x5, x6, some (.int w)], .ref r, m', rfl, rfl, ?_, r3, r, ws, rfl, by omega, r1, r4⟩
      clear hma hla r1 r2 r3 r4 e1 e2 eL eW
      walk_at "mi")
  have k5' := k5.imp (Q := fun _ y => ∃ r ws, y = .ref r ∧ m3[r]? = some (.lst (ws.map MV.str)) ∧ RowK ws) (fun _ _ ⟨r, ws, h1, _, h3, h4⟩ => ⟨r, ws, h1, h3, h4⟩)
  obtain ⟨wss, q1, q2, q3⟩ := k5'.rows
  have q4 := k5.len
  simp only [Wk.items, List.length_map] at q4
  rw [List.nil_append] at k4
  have eC : dE gg (callD gg (k+4)) (fmOf gg (k+4)) (.lc (.call 13 (.cons (.var 7) (.cons (.var 4) .nil))) [7] false (.wl (.var 1)) .nopart) [some v, some (.ref m.length), some (.bl b), x3, some (.int ((es.length : Int) + 2)), x5, x6, none] m2 = .ok (.ref m2.length) m3 := ev_lc eW k1
  have eA := bo_addl (k2.at w2) k4 (by simp only [List.length_cons, List.length_nil]; exact five (by omega))
  have eR := ev_bin eL eC eA
  have w3' := k2.at w3
  have hA2 : All2 (fun ws x => SL (m3 ++ [.lst ([.ref m1.length] ++ ys)]) x ws) (ROW0 :: wss) (.ref m1.length :: ys) := ⟨⟨_, rfl, (Gro.app _ _).at w3'⟩, q1.imp fun _ _ h => h.ext (.app _ _)⟩
  refine ⟨.ref m3.length, ROW0 :: wss, m3 ++ [.lst ([.ref m1.length] ++ ys)], ?_, ⟨_, [.ref m1.length] ++ ys, rfl, last_app _ _, hA2⟩, (((g0.trans g1).trans g2).trans k2).to_app, ?_, by simp, by simp; omega⟩
  · unfold TAIL14
    generalize (IE.bin .Add (.lst (.cons (.lst (.cons (.con (.str "call")) (.cons (.con (.str "map")) (.cons (.con (.str "0")) (.cons (.con (.str "2")) (.cons (.con (.str "to")) (.cons (.con (.str "0")) .nil))))))) .nil)) _) = X at eR ⊢
    clear g0 h3 hgl hes hel hm1 g1 w1 hgl1 eL hm2 g2 w2 w3 eW k1 k2 k3 k4 k5 k5' q1 q2 q3 q4 eC eA w3' hA2
    walk_at "mi"
  · intro ws hw
    rcases List.mem_cons.mp hw with rfl | h
    · exact row0_ok
    · exact q2 ws h
theorem call14 (k : Nat) (v : MV) (ns : List Int) (m : MH) (hv : gl m v = some (ns.map .int)) (hns : ∀ z, v ≠ .str z) (hn : ns.length ≤ 63) :
    ∃ v' wss m', callD gg (k+5) 14 [v] m = .ok v' m' ∧ MatS m' v' wss ∧ Gro m m' ∧ (∀ ws ∈ wss, RowK ws) ∧ 1 ≤ wss.length ∧ wss.length ≤ 41 := by
  rw [callF fn_14, if_pos (by rfl), body14]
  have es : startM f14.N.length [v] = [some v, none, none, none, none, none, none, none] := rfl
  rw [es]
  clear es
  generalize hm1 : m ++ [MO.lst []] = m1
  have g1 : Gro m m1 := by rw [← hm1]; exact .app _ _
  have w1 : m1[m.length]? = some (.lst (([] : List Int).map .int)) := by rw [← hm1]; exact last_app _ _
  have hv1 := g1.gl hv
  obtain ⟨z, e1, _⟩ := call8 (k+3) v 0 m1 ns hv1 hns (by omega)
  have e2 := bo_mod (m := m1) (i := z) (j := 2) (by decide)
  have e3 := sl_l (lo := some 1) (hi := none) hv1 hns
  have hcut : ∃ es : List Int, cutM (ns.map MV.int) (some 1) none = es.map .int ∧ es.length ≤ 63 := by
    refine ⟨_, cutM_map _ _ _ _, ?_⟩
    rw [List.length_take, List.length_drop]
    omega
  obtain ⟨es, hes, hel⟩ := hcut
  rw [hes] at e3
  generalize hm2 : m1 ++ [MO.lst (es.map .int)] = m2 at e3
  have g2 : Gro m1 m2 := by rw [← hm2]; exact .app _ _
  have w2 : m2[m1.length]? = some (.lst (es.map .int)) := by rw [← hm2]; exact last_app _ _
  have hl1 : m1.length = m.length + 1 := by rw [← hm1]; simp
  generalize hb : decide (z % 2 = 0) = b
  have eW : dW gg (callD gg (k+4)) (fmOf gg (k+4)) (.wl (.sl (.var 0) (.con (.int 1)) .nopart)) [some v, some (.ref m.length), some (.bl b), none, none, none, none, none] m1 = .ok (.lst (.ref m1.length) (es.map .int)) m2 :=
    dW_sl (ev_sl (ev_var rfl) ev_p1 ev_p0 e3) (by simp only [gl, w2])
  obtain ⟨s', m3, i1, i2⟩ := forL_inv (still := fun m' => (Wk.lst (.ref m1.length) (es.map .int)).still gg m') (tg := fun x s m => bindT gg [3] false x s m)
    (b := dS gg (callD gg (k+4)) (fmOf gg (k+4)) LOOP14)
    (fun l s m' => ∃ (x3 x5 x6 : Option MV) (ds : List Int), s = [some v, some (.ref m.length), some (.bl b), x3, none, x5, x6, none] ∧ GroX m.length m2 m' ∧ m'[m.length]? = some (.lst (ds.map .int)) ∧ ds.length + 20 * l.length ≤ 1300 ∧ ∃ ls : List Int, l = ls.map fun w => [.int w])
    (by
      rintro l s m' ⟨x3, x5, x6, ds, rfl, h1, h2, h3, _⟩
      refine decide_eq_true ?_
      have := h1 _ _ (by omega) w2
      simp only [gl, this])
    (by
      rintro x l s m' ⟨x3, x5, x6, ds, rfl, h1, h2, h3, ls, h4⟩
      cases ls with
      | nil => exact absurd h4 (by simp)
      | cons w ls =>
        rw [List.map_cons, List.cons.injEq] at h4
        obtain ⟨rfl, rfl⟩ := h4
        rw [List.length_cons] at h3
        obtain ⟨y5, y6, ds', m'', j1, j2, j3, j4⟩ := loop14 (k+3) v none x5 x6 w m.length ds.length b m2 m' ds (by omega) h1 h2 (Nat.le_refl _)
        exact ⟨[some v, some (.ref m.length), some (.bl b), some (.int w), none, x5, x6, none], _, m'', rfl, j1, some (.int w), y5, y6, ds', rfl, j2, j3, by rw [List.length_map]; rw [List.length_map] at h3; omega, ls, rfl⟩)
      ((es.map .int).map fun x : MV => [x]) [some v, some (.ref m.length), some (.bl b), none, none, none, none, none] m2 ⟨none, none, none, [], rfl, .refl _ _, g2.at w1, by simp; omega, es, by rw [List.map_map]; rfl⟩
  obtain ⟨x3, x5, x6, ds, rfl, h1, h2, _, _⟩ := i2
  have g3 : Gro m m3 := fun (i : Nat) (o : MO) (e : m[i]? = some o) => h1 i o (by have := (List.getElem?_eq_some_iff.mp e).1; omega) ((g1.trans g2).at e)
  obtain ⟨v', wss, m', t1, t2, t3, t4, t5, t6⟩ := tail14 k v x3 x5 x6 m.length b m m3 ds g3 h2
  refine ⟨v', wss, m', ?_, t2, t3, t4, t5, t6⟩
  rw [← t1]
  have eF := es_for (g := gg) (fc := callD gg (k+4)) (fm := fmOf gg (k+4)) (vs := [3]) (tup := false) (B := LOOP14) eW i1
  generalize (IS.for [3] false (.wl (.sl (.var 0) (.con (.int 1)) .nopart)) LOOP14) = X at eF ⊢
  generalize TAIL14 = T
  have z0 := five (k := 0) (by omega)
  clear i1 eW h1 h2 g3 t1 t2 t3 t4 t5 t6 g1 g2 w1 w2 hv hv1 hns hn hel hes hm2 e3 hl1
  walk_at "mi"
end K
end Mi

set_option Elab.async false
set_option maxRecDepth 100000
set_option maxHeartbeats 4000000
set_option linter.all false
namespace Mi
open PySem PySem.Spec PyProof.Rows L2
namespace K
def sp : Str := Str.ofString " "
def sp2 : Str := Str.ofString "  "
def nl : Str := Str.ofString "\n"
def em : Str := Str.ofString ""
theorem tl_sp : TL.tl sp = [32] := by decide +kernel
theorem tl_sp2 : TL.tl sp2 = [32, 32] := by decide +kernel
theorem tl_nl : TL.tl nl = [10] := by decide +kernel
theorem tl_em : TL.tl em = [] := by decide +kernel
def words (t : Str) : List Str := (Txt.split t sp).filter (fun w => !decide (w = em))
theorem em_iff (w : Str) : w = em ↔ TL.tl w = [] := ⟨fun h => by rw [h, tl_em], fun h => TL.ext_tl (by rw [h, tl_em])⟩
theorem words_join {parts : List Str} (hne : parts ≠ []) (hp : ∀ p ∈ parts, 32 ∉ TL.tl p) : words (Txt.join sp parts) = parts.filter (fun w => !decide (w = em)) := by
  unfold words
  rw [TL.split_join tl_sp (by decide +kernel) hne hp]
theorem em_app (x : Str) : em ++ x = x := TL.ext_tl (by rw [TL.tl_append, tl_em]; rfl)
theorem app_em (x : Str) : x ++ em = x := TL.ext_tl (by rw [TL.tl_append, tl_em, List.append_nil])
theorem app3 (x y z : Str) : x ++ y ++ z = x ++ (y ++ z) := TL.ext_tl (by rw [TL.tl_append, TL.tl_append, TL.tl_append, TL.tl_append, List.append_assoc])
theorem join_pre (x : Str) (r : List Str) : Str.join sp (em :: x :: r) = sp ++ Str.join sp (x :: r) := by
  show em ++ sp ++ Str.join sp (x :: r) = _
  rw [em_app]
theorem join_post (sep : Str) : ∀ (x : Str) (r : List Str), Str.join sep (x :: r ++ [em]) = Str.join sep (x :: r) ++ sep
  | x, [] => by
    show x ++ sep ++ em = x ++ sep
    rw [app_em]
  | x, y :: r => by
    show x ++ sep ++ Str.join sep (y :: r ++ [em]) = x ++ sep ++ Str.join sep (y :: r) ++ sep
    rw [join_post sep y r]
    simp only [app3]
def mid : List Str → List Str
  | [] => []
  | [x] => [x]
  | x :: y :: r => x :: em :: mid (y :: r)
theorem mid_cons (x : Str) (r : List Str) : ∃ q, mid (x :: r) = x :: q := by
  cases r with
  | nil => exact ⟨[], rfl⟩
  | cons y r => exact ⟨_, rfl⟩
theorem join_mid : ∀ ws : List Str, Str.join sp (mid ws) = Str.join sp2 ws
  | [] => rfl
  | [x] => rfl
  | x :: y :: r => by
    obtain ⟨q, hq⟩ := mid_cons y r
    have ih := join_mid (y :: r)
    rw [hq] at ih
    show Str.join sp (x :: em :: mid (y :: r)) = x ++ sp2 ++ Str.join sp2 (y :: r)
    rw [hq, ← ih]
    show x ++ sp ++ (em ++ sp ++ Str.join sp (y :: q)) = _
    rw [em_app]
    apply TL.ext_tl
    simp only [TL.tl_append, tl_sp, tl_sp2, List.append_assoc, List.cons_append, List.nil_append]
theorem mid_filter : ∀ ws : List Str, (mid ws).filter (fun w => !decide (w = em)) = ws.filter (fun w => !decide (w = em))
  | [] => rfl
  | [x] => rfl
  | x :: y :: r => by
    show (x :: em :: mid (y :: r)).filter _ = _
    have h0 : (!decide (em = em)) = false := by simp
    have h1 : (em :: mid (y :: r)).filter (fun w => !decide (w = em)) = (y :: r).filter (fun w => !decide (w = em)) := by
      rw [List.filter_cons, h0, mid_filter (y :: r)]; rfl
    rw [List.filter_cons (x := x), List.filter_cons (x := x) (xs := y :: r), h1]
theorem mid_free : ∀ {ws : List Str}, (∀ p ∈ ws, 32 ∉ TL.tl p) → ∀ p ∈ mid ws, 32 ∉ TL.tl p
  | [], h, p, hp => absurd hp (by simp [mid])
  | [x], h, p, hp => h p hp
  | x :: y :: r, h, p, hp => by
    rcases List.mem_cons.mp hp with rfl | hp
    · exact h _ (by simp)
    · rcases List.mem_cons.mp hp with rfl | hp
      · rw [tl_em]; simp
      · exact mid_free (ws := y :: r) (fun q hq => h q (List.mem_cons_of_mem _ hq)) p hp
theorem filter_clean {ws : List Str} (h : ∀ w ∈ ws, Clean w) : ws.filter (fun w => !decide (w = em)) = ws := by
  rw [List.filter_eq_self]
  intro w hw
  have := (h w hw).ne
  have : w ≠ em := fun e => this ((em_iff w).mp e)
  simp [this]
/-- the row's words, whatever the padding -/
theorem words_row {ws : List Str} (hne : ws ≠ []) (h : ∀ w ∈ ws, Clean w) (a b c : Bool) :
    words ((if a then sp else em) ++ Txt.join (if b then sp2 else sp) ws ++ (if c then sp else em)) = ws := by
  obtain ⟨x, q, hq⟩ : ∃ x q, (if b then mid ws else ws) = x :: q := by
    cases ws with
    | nil => exact absurd rfl hne
    | cons x r => cases b with
      | true => obtain ⟨q, hq⟩ := mid_cons x r; exact ⟨x, q, hq⟩
      | false => exact ⟨x, r, rfl⟩
  have hj : Txt.join (if b then sp2 else sp) ws = Str.join sp (x :: q) := by
    rw [← hq, TL.join_eq]
    cases b with
    | true => exact (join_mid ws).symm
    | false => rfl
  have hfree : ∀ p ∈ x :: q, 32 ∉ TL.tl p := by
    rw [← hq]
    cases b with
    | true => exact mid_free fun p hp => (h p hp).sp
    | false => exact fun p hp => (h p hp).sp
  have hfil : (x :: q).filter (fun w => !decide (w = em)) = ws := by
    rw [← hq]
    cases b with
    | true =>
      show (mid ws).filter _ = ws
      rw [mid_filter, filter_clean h]
    | false => exact filter_clean h
  have hem : 32 ∉ TL.tl em := by rw [tl_em]; simp
  have hd : (!decide (em = em)) = false := by simp
  rw [hj]
  cases a with
  | false =>
    rw [if_neg (by decide), em_app]
    cases c with
    | false =>
      rw [if_neg (by decide), app_em, ← TL.join_eq, words_join (by simp) hfree, hfil]
    | true =>
      rw [if_pos rfl, ← join_post, ← TL.join_eq, words_join (by simp) (by
        intro p hp
        rcases List.mem_append.mp hp with hp | hp
        · exact hfree p hp
        · rw [List.mem_singleton.mp hp]; exact hem), List.filter_append, hfil, List.filter_cons, hd]
      simp
  | true =>
    rw [if_pos rfl, ← join_pre]
    cases c with
    | false =>
      rw [if_neg (by decide), app_em, ← TL.join_eq, words_join (by simp) (by
        intro p hp
        rcases List.mem_cons.mp hp with rfl | hp
        · exact hem
        · exact hfree p hp), List.filter_cons, hd, hfil]
      simp
    | true =>
      rw [if_pos rfl, ← join_post, ← TL.join_eq, words_join (by simp) (by
        intro p hp
        rcases List.mem_append.mp hp with hp | hp
        · rcases List.mem_cons.mp hp with rfl | hp
          · exact hem
          · exact hfree p hp
        · rw [List.mem_singleton.mp hp]; exact hem), List.filter_append, List.filter_cons, hd]
      have : ([em] : List Str).filter (fun w => !decide (w = em)) = [] := by simp
      rw [this, List.append_nil]
      simpa using hfil
theorem words_em : words em = [] := by decide +kernel
theorem words_sp : words sp = [] := by decide +kernel
theorem words_sp2 : words sp2 = [] := by decide +kernel
theorem len_join (sep : Str) : ∀ rs : List Str, (Str.join sep rs).length ≤ (rs.map (·.length)).sum + rs.length * sep.length
  | [] => by simp [Str.join]; decide
  | [x] => by
    show x.length ≤ _
    simp
  | x :: y :: r => by
    have ih := len_join sep (y :: r)
    show (x ++ sep ++ Str.join sep (y :: r)).length ≤ _
    rw [Str.length_append, Str.length_append]
    simp only [List.map_cons, List.sum_cons, List.length_cons] at ih ⊢
    have : (r.length + 1 + 1) * sep.length = (r.length + 1) * sep.length + sep.length := by rw [Nat.succ_mul]
    omega
theorem free_join {c : Nat} {sep : Str} (hs : c ∉ TL.tl sep) : ∀ {rs : List Str}, (∀ t ∈ rs, c ∉ TL.tl t) → c ∉ TL.tl (Str.join sep rs)
  | [], _ => by show c ∉ TL.tl Str.empty; intro h; cases h
  | [x], h => h x (by simp)
  | x :: y :: r, h => by
    show c ∉ TL.tl (x ++ sep ++ Str.join sep (y :: r))
    rw [TL.tl_append, TL.tl_append]
    intro k
    rcases List.mem_append.mp k with k | k
    · rcases List.mem_append.mp k with k | k
      · exact h x (by simp) k
      · exact hs k
    · exact free_join hs (rs := y :: r) (fun t ht => h t (List.mem_cons_of_mem _ ht)) k
/-- rows of a text -/
structure Rows (rs : List Str) (wss : List (List Str)) : Prop where
  nl : ∀ t ∈ rs, 10 ∉ TL.tl t
  len : ∀ t ∈ rs, t.length ≤ 200
  ws : (rs.map words).filter (fun w => !decide (w = [])) = wss
theorem Rows.nil : Rows [] [] := ⟨by simp, by simp, rfl⟩
theorem Rows.app {a b : List Str} {x y : List (List Str)} (h : Rows a x) (k : Rows b y) : Rows (a ++ b) (x ++ y) :=
  ⟨fun t ht => (List.mem_append.mp ht).elim (h.nl t) (k.nl t), fun t ht => (List.mem_append.mp ht).elim (h.len t) (k.len t), by rw [List.map_append, List.filter_append, h.ws, k.ws]⟩
theorem Rows.blank {t : Str} (h : t = em ∨ t = sp ∨ t = sp2) : Rows [t] [] := by
  rcases h with rfl | rfl | rfl
  · exact ⟨by intro t ht; rw [List.mem_singleton.mp ht, tl_em]; simp, by intro t ht; rw [List.mem_singleton.mp ht]; decide +kernel, by simp [words_em]⟩
  · exact ⟨by intro t ht; rw [List.mem_singleton.mp ht, tl_sp]; simp, by intro t ht; rw [List.mem_singleton.mp ht]; decide +kernel, by simp [words_sp]⟩
  · exact ⟨by intro t ht; rw [List.mem_singleton.mp ht, tl_sp2]; simp, by intro t ht; rw [List.mem_singleton.mp ht]; decide +kernel, by simp [words_sp2]⟩
theorem len_sp : sp.length = 1 := by decide +kernel
theorem len_sp2 : sp2.length = 2 := by decide +kernel
theorem len_em : em.length = 0 := by decide +kernel
theorem sum_le {B : Nat} {ts : List Str} (h : ∀ t ∈ ts, t.length ≤ B) : (ts.map (·.length)).sum ≤ ts.length * B := StrLaws.sumLen_le ts h
theorem Rows.one {ws : List Str} (hr : RowK ws) (a b c : Bool) : Rows [(if a then sp else em) ++ Txt.join (if b then sp2 else sp) ws ++ (if c then sp else em)] [ws] := by
  have f1 : ∀ q : Bool, 10 ∉ TL.tl (if q then sp else em) := by intro q; cases q <;> simp [tl_sp, tl_em]
  have f2 : 10 ∉ TL.tl (if b then sp2 else sp) := by cases b <;> simp [tl_sp, tl_sp2]
  refine ⟨?_, ?_, ?_⟩
  · intro t ht
    rw [List.mem_singleton.mp ht, TL.tl_append, TL.tl_append, TL.join_eq]
    intro k
    rcases List.mem_append.mp k with k | k
    · rcases List.mem_append.mp k with k | k
      · exact f1 a k
      · exact free_join f2 (fun t ht => (hr.clean t ht).nl) k
    · exact f1 c k
  · intro t ht
    rw [List.mem_singleton.mp ht, Str.length_append, Str.length_append, TL.join_eq]
    have h1 : ∀ q : Bool, (if q then sp else em).length ≤ 1 := by intro q; cases q <;> decide +kernel
    have h2 : (if b then sp2 else sp).length ≤ 2 := by cases b <;> decide +kernel
    have h3 := len_join (if b then sp2 else sp) ws
    have h4 := sum_le (B := 8) fun t ht => (hr.clean t ht).len
    have h5 : ws.length * (if b then sp2 else sp).length ≤ ws.length * 2 := Nat.mul_le_mul_left _ h2
    have := hr.len
    have := h1 a
    have := h1 c
    omega
  · rw [List.map_singleton, words_row hr.ne hr.clean]
    simp [hr.ne]
/-- a text that reads as these rows -/
def TextOf (T : Str) (wss : List (List Str)) : Prop := ∃ rs, T = Txt.join nl rs ∧ rs ≠ [] ∧ rs.length ≤ 100 ∧ Rows rs wss
theorem TextOf.len {T : Str} {wss : List (List Str)} (h : TextOf T wss) : T.length ≤ 30000 := by
  obtain ⟨rs, rfl, _, h1, h2⟩ := h
  rw [TL.join_eq]
  have h3 := len_join nl rs
  have h4 := sum_le h2.len
  have h5 : nl.length = 1 := by decide +kernel
  rw [h5] at h3
  omega
theorem TextOf.split {T : Str} {wss : List (List Str)} (h : TextOf T wss) : ∃ rs, Txt.split T nl = rs ∧ rs.length ≤ 100 ∧ Rows rs wss := by
  obtain ⟨rs, rfl, h0, h1, h2⟩ := h
  exact ⟨rs, TL.split_join tl_nl (by decide +kernel) h0 h2.nl, h1, h2⟩
theorem TextOf.more {rs : List Str} {wss : List (List Str)} (h0 : rs ≠ []) (h1 : rs.length ≤ 90) (h : Rows rs wss) : TextOf (Str.ofString "\n\n" ++ Txt.join nl rs ++ Str.ofString "\n  ") wss := by
  refine ⟨[em, em] ++ rs ++ [sp2], ?_, by simp, by simp; omega, ?_⟩
  · rw [TL.join_eq, TL.join_eq]
    cases rs with
    | nil => exact absurd rfl h0
    | cons x r =>
      have e1 : Str.join nl ([em, em] ++ (x :: r) ++ [sp2]) = em ++ nl ++ (em ++ nl ++ Str.join nl (x :: r ++ [sp2])) := rfl
      have e2 : ∀ (x : Str) (r : List Str), Str.join nl (x :: r ++ [sp2]) = Str.join nl (x :: r) ++ nl ++ sp2 := by
        intro x r
        induction r generalizing x with
        | nil => rfl
        | cons y r ih =>
          show x ++ nl ++ Str.join nl (y :: r ++ [sp2]) = x ++ nl ++ Str.join nl (y :: r) ++ nl ++ sp2
          rw [ih y]
          simp only [app3]
      rw [e1, e2, em_app]
      have t1 : TL.tl (Str.ofString "\n\n") = [10, 10] := by decide +kernel
      have t2 : TL.tl (Str.ofString "\n  ") = [10, 32, 32] := by decide +kernel
      apply TL.ext_tl
      simp only [TL.tl_append, t1, t2, tl_nl, tl_sp2, List.append_assoc, List.cons_append, List.nil_append]
  · have a1 := Rows.blank (t := em) (.inl rfl)
    have a2 := Rows.blank (t := sp2) (.inr (.inr rfl))
    simpa using ((a1.app a1).app h).app a2
theorem text_em : TextOf em [] := ⟨[em], by rw [TL.join_eq]; rfl, by simp, by simp, Rows.blank (.inl rfl)⟩
theorem text_sp : TextOf (Str.ofString "  \n \n") [] := ⟨[sp2, sp, em], by decide +kernel, by simp, by simp, by
  have := ((Rows.blank (t := sp2) (.inr (.inr rfl))).app (Rows.blank (t := sp) (.inr (.inl rfl)))).app (Rows.blank (t := em) (.inl rfl))
  simpa using this⟩
end K
end Mi

set_option Elab.async false
set_option maxRecDepth 100000
set_option maxHeartbeats 4000000
set_option linter.all false
namespace Mi
open PySem PySem.Spec PyProof.Rows L2
local macro_rules | `(tactic| walk_at "mi") => `(tactic| simp only [dS, dT, dE, dA, dP, dW, lift, Rs.bind, Fl.back, startM, List.map_cons, List.map_nil, List.length_cons, List.length_nil, List.nil_append, List.cons_append, List.replicate_succ, List.replicate_zero, Nat.reduceAdd, Nat.reduceSub, Int.reduceNeg, List.getElem?_cons_zero, List.getElem?_cons_succ, List.set_cons_zero, List.set_cons_succ,
  co_eqi, co_eqs, co_nei, co_nes, cop_lt, cop_le, cop_gt, cop_ge, bop_addi, bop_subi, truth_i, truth_b, bmTy, decide_true, decide_false, Bool.not_true, Bool.not_false, if_true, if_false, decide_eq_true_eq, Bool.false_eq_true, new, setAll, *])
theorem strsOf_map : ∀ ws : List Str, strsOf (ws.map .str) = some ws
  | [] => rfl
  | x :: r => by
    have := strsOf_map r
    unfold strsOf at this ⊢
    simp only [List.map_cons, allSome, this]
namespace K
def LOOP15 : IS := .seq (.asg 4 (.call 9 (.cons (.bin .Add (.bin .Add (.var 1) (.bin .Mult (.con (.int 31)) (.var 3))) (.con (.int 7))) (.cons (.con (.int 48271)) (.cons (.con (.int 2147483647)) .nil)))))
    (.seq (.iff (.cmp .Eq (.bin .Mod (.var 4) (.con (.int 7))) (.con (.int 0))) (.seq (.ex (.bm (.var 2) .append (.cons (.bin .Mult (.con (.str " ")) (.bin .Mod (.bin .FloorDiv (.var 4) (.con (.int 7))) (.con (.int 3)))) .nil)))
    .nil) .nil)
    (.seq (.ex (.bm (.var 2) .append (.cons (.bin .Add (.bin .Add (.bin .Mult (.con (.str " ")) (.bin .Mod (.bin .FloorDiv (.var 4) (.con (.int 21))) (.con (.int 2)))) (.bm (.bin .Mult (.con (.str " ")) (.bin .Add (.con (.int 1)) (.bin .Mod (.bin .FloorDiv (.var 4) (.con (.int 42))) (.con (.int 2))))) .join (.cons (.ix (.var 0) (.var 3)) .nil))) (.bin .Mult (.con (.str " ")) (.bin .Mod (.bin .FloorDiv (.var 4) (.con (.int 84))) (.con (.int 2))))) .nil)))
    .nil))
theorem body15 : f15.body = .seq (.asg 2 (.lst .nil)) (.seq (.for [3] false (.wr1 (.blt .len (.cons (.var 0) .nil))) LOOP15) (.seq (.ret (.bm (.con (.str "\n")) .join (.cons (.var 2) .nil))) .nil)) := rfl
theorem mul0 : Txt.mul sp 0 = em := by decide +kernel
theorem mul1 : Txt.mul sp 1 = sp := by decide +kernel
theorem mul2 : Txt.mul sp 2 = sp2 := by decide +kernel
theorem mul_two (d : Int) : ∃ a : Bool, Txt.mul sp (d % 2) = (if a then sp else em) := by
  have : d % 2 = 0 ∨ d % 2 = 1 := by omega
  rcases this with h | h
  · exact ⟨false, by rw [h, mul0]; rfl⟩
  · exact ⟨true, by rw [h, mul1]; rfl⟩
theorem mul_sep (d : Int) : ∃ a : Bool, Txt.mul sp (1 + d % 2) = (if a then sp2 else sp) := by
  have : d % 2 = 0 ∨ d % 2 = 1 := by omega
  rcases this with h | h
  · exact ⟨false, by rw [h]; exact mul1⟩
  · exact ⟨true, by rw [h]; exact mul2⟩
theorem mul_blank (d : Int) : Rows [Txt.mul sp (d % 3)] [] := by
  refine Rows.blank ?_
  have : d % 3 = 0 ∨ d % 3 = 1 ∨ d % 3 = 2 := by omega
  rcases this with h | h | h
  · exact .inl (by rw [h, mul0])
  · exact .inr (.inl (by rw [h, mul1]))
  · exact .inr (.inr (by rw [h, mul2]))
/-- one row written -/
theorem loop15 (k : Nat) (v : MV) (wss : List (List Str)) (ws : List Str) (seed : Int) (j : Nat) (D : Nat) (x4 : Option MV) (m0 m : MH) (rs : List Str) (hv : MatS m0 v wss) (hj : wss[j]? = some ws) (hr : RowK ws) (hD : m0.length ≤ D) (g0 : Gro m0 m) (hd : m[D]? = some (.lst (rs.map .str))) (hl : rs.length ≤ 100) :
    ∃ (y4 : Option MV) (m' : MH) (rs' : List Str), dS gg (callD gg (k+1)) (fmOf gg (k+1)) LOOP15 [some v, some (.int seed), some (.ref D), some (.int j), x4] m = .nx [some v, some (.int seed), some (.ref D), some (.int j), y4] m' ∧ Gro m0 m' ∧ m'[D]? = some (.lst ((rs ++ rs').map .str)) ∧ rs'.length ≤ 2 ∧ rs' ≠ [] ∧ Rows rs' [ws] := by
  generalize hq : (seed + 31 * (j : Int) + 7) * 48271 % 2147483647 = q
  have e0 : ∀ m, bop .Mult (.int 31) (.int (j : Int)) m = .ok (.int (31 * (j : Int))) m := fun m => bo_mulL (by omega)
  have e1 := call9 k (seed + 31 * (j : Int) + 7) 48271 2147483647 m (by omega) (by omega)
  rw [hq] at e1
  have hsp : sp.length ≤ 16 := by decide +kernel
  have b1 := fun m => bo_mod (m := m) (i := q) (j := 7) (by decide)
  have b2 := fun m => bo_fdiv (m := m) (i := q) (j := 7) (by decide)
  have b3 := fun m => bo_mod (m := m) (i := q / 7) (j := 3) (by decide)
  have b4 := fun m => bo_fdiv (m := m) (i := q) (j := 21) (by decide)
  have b5 := fun m => bo_mod (m := m) (i := q / 21) (j := 2) (by decide)
  have b6 := fun m => bo_fdiv (m := m) (i := q) (j := 42) (by decide)
  have b7 := fun m => bo_mod (m := m) (i := q / 42) (j := 2) (by decide)
  have b8 := fun m => bo_fdiv (m := m) (i := q) (j := 84) (by decide)
  have b9 := fun m => bo_mod (m := m) (i := q / 84) (j := 2) (by decide)
  have c1 : ∀ m, bop .Mult (.str (Str.ofString " ")) (.int (q / 7 % 3)) m = .ok (.str (Txt.mul sp (q / 7 % 3))) m := fun m => bo_muls (p := sp) ⟨by omega, by omega, hsp⟩
  have c2 : ∀ m, bop .Mult (.str (Str.ofString " ")) (.int (q / 21 % 2)) m = .ok (.str (Txt.mul sp (q / 21 % 2))) m := fun m => bo_muls (p := sp) ⟨by omega, by omega, hsp⟩
  have c3 : ∀ m, bop .Mult (.str (Str.ofString " ")) (.int (1 + q / 42 % 2)) m = .ok (.str (Txt.mul sp (1 + q / 42 % 2))) m := fun m => bo_muls (p := sp) ⟨by omega, by omega, hsp⟩
  have c4 : ∀ m, bop .Mult (.str (Str.ofString " ")) (.int (q / 84 % 2)) m = .ok (.str (Txt.mul sp (q / 84 % 2))) m := fun m => bo_muls (p := sp) ⟨by omega, by omega, hsp⟩
  obtain ⟨a, ha⟩ := mul_two (q / 21)
  obtain ⟨b, hb⟩ := mul_sep (q / 42)
  obtain ⟨c, hc⟩ := mul_two (q / 84)
  rw [ha] at c2
  rw [hb] at c3
  rw [hc] at c4
  have hrow := Rows.one hr a b c
  have hrl := hrow.len _ (List.mem_singleton.mpr rfl)
  rw [Str.length_append] at hrl
  have hDm : D < m.length := (List.getElem?_eq_some_iff.mp hd).1
  -- the second part, from a heap
  have part : ∀ (m1 : MH) (rs1 : List Str), Gro m0 m1 → m1[D]? = some (.lst (rs1.map .str)) → rs1.length ≤ 101 →
      dS gg (callD gg (k+1)) (fmOf gg (k+1)) (.seq (.ex (.bm (.var 2) .append (.cons (.bin .Add (.bin .Add (.bin .Mult (.con (.str " ")) (.bin .Mod (.bin .FloorDiv (.var 4) (.con (.int 21))) (.con (.int 2)))) (.bm (.bin .Mult (.con (.str " ")) (.bin .Add (.con (.int 1)) (.bin .Mod (.bin .FloorDiv (.var 4) (.con (.int 42))) (.con (.int 2))))) .join (.cons (.ix (.var 0) (.var 3)) .nil))) (.bin .Mult (.con (.str " ")) (.bin .Mod (.bin .FloorDiv (.var 4) (.con (.int 84))) (.con (.int 2))))) .nil)))
    .nil) [some v, some (.int seed), some (.ref D), some (.int j), some (.int q)] m1 = .nx [some v, some (.int seed), some (.ref D), some (.int j), some (.int q)] (m1.set D (.lst ((rs1 ++ [(if a then sp else em) ++ Txt.join (if b then sp2 else sp) ws ++ (if c then sp else em)]).map .str))) := by
    intro m1 rs1 g1 h1 hl1
    obtain ⟨r, refs, rfl, h2, h3⟩ := hv
    obtain ⟨cv, hcv, sC⟩ := h3.get j ws hj
    have hgs : gs gg m1 (.ref r) = some refs := by simp only [gs, gl, g1.at h2]
    have e2 : ixM gg (.ref r) (.int (j : Int)) m1 = .ok cv m1 := by
      refine ix_l hgs (by intro z hz; cases hz) ?_
      have : j < refs.length := (List.getElem?_eq_some_iff.mp hcv).1
      unfold atI ixN
      rw [if_pos (by omega), if_pos (by omega), Option.bind_some, Int.toNat_natCast]
      exact hcv
    have sC1 := sC.ext g1
    have hsum := sum_le (B := 8) fun t ht => (hr.clean t ht).len
    have h2l : (if b then sp2 else sp).length ≤ 2 := by cases b <;> decide +kernel
    have e3 := bm_jo (g := gg) (p := if b then sp2 else sp) sC1.gs (strsOf_map ws) (by
      have h5 : ws.length * (if b then sp2 else sp).length ≤ ws.length * 2 := Nat.mul_le_mul_left _ h2l
      have := hr.len
      omega)
    have e4 := bo_adds (m := m1) (p := if a then sp else em) (q := Txt.join (if b then sp2 else sp) ws) (by
      rw [Str.length_append] at hrl
      rw [sizeLine_eq]; omega)
    have e5 := bo_adds (m := m1) (p := (if a then sp else em) ++ Txt.join (if b then sp2 else sp) ws) (q := if c then sp else em) (by
      rw [Str.length_append, sizeLine_eq]
      rw [Str.length_append] at hrl
      omega)
    have e6 := bm_ap (g := gg) (v := .str ((if a then sp else em) ++ Txt.join (if b then sp2 else sp) ws ++ (if c then sp else em))) h1 (by rw [List.length_map, sizeLine_eq]; omega)
    generalize (if a then sp else em) = pa at *
    generalize (if b then sp2 else sp) = pb at *
    generalize (if c then sp else em) = pc at *
    have e7 : bmTy .join m1 (.str pb) = true := rfl
    have e8 : bmTy .append m1 (.ref D) = true := by simp only [bmTy, h1]
    clear hrow hrl hd hDm g1 hl1 h2 h3 hcv sC hgs sC1 hsum h2l ha hb hc b1 b2 b3 c1 e1 hq hj hr hD g0 hl hsp e0 h1
    simp only [List.map_append, List.map_cons, List.map_nil]
    simp only [dS, dE, dA, lift, Rs.bind, List.getElem?_cons_zero, List.getElem?_cons_succ, bop_addi, b4, b5, b6, b7, b8, b9, c2, c3, c4, e2, e3, e4, e5, e6, e7, e8]
  unfold LOOP15
  generalize (IS.seq (.ex (.bm (.var 2) .append (.cons (.bin .Add (.bin .Add (.bin .Mult (.con (.str " ")) (.bin .Mod (.bin .FloorDiv (.var 4) (.con (.int 21))) (.con (.int 2)))) (.bm (.bin .Mult (.con (.str " ")) (.bin .Add (.con (.int 1)) (.bin .Mod (.bin .FloorDiv (.var 4) (.con (.int 42))) (.con (.int 2))))) .join (.cons (.ix (.var 0) (.var 3)) .nil))) (.bin .Mult (.con (.str " ")) (.bin .Mod (.bin .FloorDiv (.var 4) (.con (.int 84))) (.con (.int 2))))) .nil)))
    .nil) = P at part ⊢
  by_cases c0 : q % 7 = 0
  · have d0 := decide_eq_true c0
    have e6 := bm_ap (g := gg) (v := .str (Txt.mul sp (q / 7 % 3))) hd (by rw [List.length_map, sizeLine_eq]; omega)
    have e8 : bmTy .append m (.ref D) = true := by simp only [bmTy, hd]
    have hd1 : (m.set D (.lst (rs.map .str ++ [.str (Txt.mul sp (q / 7 % 3))])))[D]? = some (.lst ((rs ++ [Txt.mul sp (q / 7 % 3)]).map .str)) := by
      rw [List.getElem?_set_self hDm, List.map_append]; rfl
    have hP := part (m.set D (.lst (rs.map .str ++ [.str (Txt.mul sp (q / 7 % 3))]))) (rs ++ [Txt.mul sp (q / 7 % 3)]) (g0.set hD _) hd1 (by rw [List.length_append, List.length_singleton]; omega)
    refine ⟨some (.int q), (m.set D (MO.lst (rs.map .str ++ [.str (Txt.mul sp (q / 7 % 3))]))).set D (MO.lst ((rs ++ [Txt.mul sp (q / 7 % 3)] ++ [(if a then sp else em) ++ Txt.join (if b then sp2 else sp) ws ++ (if c then sp else em)]).map .str)), [Txt.mul sp (q / 7 % 3)] ++ [(if a then sp else em) ++ Txt.join (if b then sp2 else sp) ws ++ (if c then sp else em)], ?_, (g0.set hD _).set hD _, ?_, by simp, by simp, (mul_blank _).app hrow⟩
    · clear part hrow hrl g0 hD hd hd1 hq c0 hDm hv hj hr
      simp only [dS, dT, dE, dA, lift, Rs.bind, List.getElem?_cons_zero, List.getElem?_cons_succ, List.set_cons_zero, List.set_cons_succ, bop_addi, e0, e1, co_eqi, b1, d0, b2, b3, c1, e8, e6, hP]
    · rw [List.getElem?_set_self (by rw [List.length_set]; exact hDm), List.append_assoc]
  · have d0 := decide_eq_false c0
    have hP := part m rs g0 hd (by omega)
    refine ⟨some (.int q), m.set D (.lst ((rs ++ [(if a then sp else em) ++ Txt.join (if b then sp2 else sp) ws ++ (if c then sp else em)]).map .str)), [(if a then sp else em) ++ Txt.join (if b then sp2 else sp) ws ++ (if c then sp else em)], ?_, g0.set hD _, ?_, by simp, by simp, hrow⟩
    · clear part hrow hrl g0 hD hd hq c0 hDm hv hj hr
      simp only [dS, dT, dE, dA, lift, Rs.bind, List.getElem?_cons_zero, List.getElem?_cons_succ, List.set_cons_zero, List.set_cons_succ, bop_addi, e0, e1, co_eqi, b1, d0, hP]
    · rw [List.getElem?_set_self hDm]
end K
end Mi

set_option Elab.async false
set_option maxRecDepth 100000
set_option maxHeartbeats 4000000
set_option linter.all false
namespace Mi
open PySem PySem.Spec PyProof.Rows L2
local macro_rules | `(tactic| walk_at "mi") => `(tactic| simp only [dS, dT, dE, dA, dP, dW, lift, Rs.bind, Fl.back, startM, List.map_cons, List.map_nil, List.length_cons, List.length_nil, List.nil_append, List.cons_append, List.replicate_succ, List.replicate_zero, Nat.reduceAdd, Nat.reduceSub, Int.reduceNeg, List.getElem?_cons_zero, List.getElem?_cons_succ, List.set_cons_zero, List.set_cons_succ,
  co_eqi, co_eqs, co_nei, co_nes, cop_lt, cop_le, cop_gt, cop_ge, bop_addi, bop_subi, truth_i, truth_b, bmTy, decide_true, decide_false, Bool.not_true, Bool.not_false, if_true, if_false, decide_eq_true_eq, Bool.false_eq_true, new, setAll, *])
theorem rngF_len : ∀ (n : Nat) (i : Int), (rngFrom i n).length = n
  | 0, _ => rfl
  | n + 1, i => by show (rngFrom (i + 1) n).length + 1 = _; rw [rngF_len n]
namespace K
theorem call15 (k : Nat) (v : MV) (wss : List (List Str)) (seed : Int) (m : MH) (hv : MatS m v wss) (hr : ∀ ws ∈ wss, RowK ws) (h1 : 1 ≤ wss.length) (h41 : wss.length ≤ 41) :
    ∃ rs m', callD gg (k+2) 15 [v, .int seed] m = .ok (.str (Txt.join nl rs)) m' ∧ Gro m m' ∧ rs ≠ [] ∧ rs.length ≤ 90 ∧ Rows rs wss := by
  rw [callF fn_15, if_pos (by rfl), body15]
  have es : startM f15.N.length [v, .int seed] = [some v, some (.int seed), none, none, none] := rfl
  rw [es]
  clear es
  generalize hm1 : m ++ [MO.lst []] = m1
  have g1 : Gro m m1 := by rw [← hm1]; exact .app _ _
  have w1 : m1[m.length]? = some (.lst (([] : List Str).map .str)) := by rw [← hm1]; exact last_app _ _
  obtain ⟨r, refs, e, h2, h3⟩ := id hv
  have hlr := h3.len
  have e2 : bltM gg .len [v] m1 = .ok (.int wss.length) m1 := by
    rw [e]
    have := bl_lenL (g := gg) (m := m1) (x := .ref r) (xs := refs) (by simp only [gs, gl, g1.at h2]) (by intro z hz; cases hz)
    rw [this, hlr]
  have eW : dW gg (callD gg (k+1)) (fmOf gg (k+1)) (.wr1 (.blt .len (.cons (.var 0) .nil))) [some v, some (.int seed), some (.ref m.length), none, none] m1 = .ok (.rng 0 wss.length) m1 := by
    have := ew_r1 (g := gg) (fc := callD gg (k+1)) (fm := fmOf gg (k+1)) (ev_blt (s := [some v, some (.int seed), some (.ref m.length), none, none]) (ev_a1 (ev_var (i := 0) rfl) ev_a0) e2) (by omega)
    rw [Int.toNat_natCast] at this
    exact this
  obtain ⟨s', m3, i1, i2⟩ := forL_inv (still := fun m' => (Wk.rng 0 wss.length).still gg m') (tg := fun x s m => bindT gg [3] false x s m)
    (b := dS gg (callD gg (k+1)) (fmOf gg (k+1)) LOOP15)
    (fun l s m' => ∃ (x3 x4 : Option MV) (rs : List Str) (j : Nat), s = [some v, some (.int seed), some (.ref m.length), x3, x4] ∧ Gro m m' ∧ m'[m.length]? = some (.lst (rs.map .str)) ∧ j + l.length = wss.length ∧ l = rngFrom j l.length ∧ rs.length ≤ 2 * j ∧ (j ≠ 0 → rs ≠ []) ∧ Rows rs (wss.take j))
    (by
      rintro l s m' _
      rfl)
    (by
      rintro x l s m' ⟨x3, x4, rs, j, rfl, a1, a2, a3, a4, a5, a6, a7⟩
      rw [List.length_cons] at a3 a4
      have hx : x = [.int j] ∧ l = rngFrom ((j + 1 : Nat) : Int) l.length := by
        have : rngFrom (j : Int) (l.length + 1) = [.int j] :: rngFrom ((j : Int) + 1) l.length := rfl
        rw [this, List.cons.injEq] at a4
        exact ⟨a4.1, a4.2⟩
      obtain ⟨rfl, hl⟩ := hx
      have hj : j < wss.length := by omega
      obtain ⟨y4, m'', rs', b1, b2, b3, b4, b5, b6⟩ := loop15 k v wss wss[j] seed j m.length x4 m m' rs hv (List.getElem?_eq_getElem hj) (hr _ (List.getElem_mem hj)) (Nat.le_refl _) a1 a2 (by omega)
      refine ⟨_, _, m'', rfl, b1, _, y4, rs ++ rs', j + 1, rfl, b2, b3, by omega, hl, by rw [List.length_append]; omega, fun _ => by simp [b5], ?_⟩
      rw [List.take_succ_eq_append_getElem hj]
      exact a7.app b6)
      (rngFrom 0 wss.length) [some v, some (.int seed), some (.ref m.length), none, none] m1 ⟨none, none, [], 0, rfl, g1, w1, by rw [rngF_len]; omega, by rw [rngF_len]; rfl, by simp, by simp, by rw [List.take_zero]; exact Rows.nil⟩
  obtain ⟨x3, x4, rs, j, rfl, a1, a2, a3, _, a5, a6, a7⟩ := i2
  rw [List.length_nil] at a3
  have hj : j = wss.length := by omega
  subst hj
  rw [List.take_length] at a7
  refine ⟨rs, m3, ?_, a1, a6 (by omega), by omega, a7⟩
  have hgs : gs gg m3 (.ref m.length) = some (rs.map .str) := by simp only [gs, gl, a2]
  have e3 := bm_jo (g := gg) (p := nl) hgs (strsOf_map rs) (by
    have h5 : nl.length = 1 := by decide +kernel
    have := sum_le a7.len
    rw [h5]; omega)
  have eF := es_for (g := gg) (fc := callD gg (k+1)) (fm := fmOf gg (k+1)) (vs := [3]) (tup := false) (B := LOOP15) eW i1
  generalize (IS.for [3] false (.wr1 (.blt .len (.cons (.var 0) .nil))) LOOP15) = X at eF ⊢
  have e7 : bmTy .join m3 (.str nl) = true := rfl
  have z0 := five (k := 0) (by omega)
  have hnl : Str.ofString "\n" = nl := rfl
  rw [hnl]
  clear i1 eW a1 a2 a3 a5 a6 a7 g1 w1 hv h2 h3 hlr hr h1 h41 e2 hgs e
  simp only [dS, dE, dA, lift, Rs.bind, List.getElem?_cons_zero, List.getElem?_cons_succ, List.set_cons_zero, List.set_cons_succ, List.length_nil, if_pos z0, new, hm1, eF, e7, e3, Fl.back]
/-! ### reading -/
def LOOP7 : IS := .seq (.asg 4 (.lc (.var 5) [5] false (.wl (.bm (.var 3) .split1 (.cons (.con (.str " ")) .nil))) (.cmp .NotEq (.var 5) (.con (.str "")))))
    (.seq (.iff (.cmp .Gt (.blt .len (.cons (.var 4) .nil)) (.con (.int 0))) (.seq (.iff (.nt (.call 6 (.cons (.var 4) .nil))) (.seq .never
    .nil) .nil)
    (.seq (.ex (.bm (.var 1) .append (.cons (.blt .tuple (.cons (.var 4) .nil)) .nil)))
    .nil)) .nil)
    .nil)
theorem body7 : f7.body = .seq (.asg 1 (.lst .nil)) (.seq (.for [2, 3] true (.wen (.bm (.var 0) .split1 (.cons (.con (.str "\n")) .nil))) LOOP7) (.seq (.ret (.var 1)) .nil)) := rfl
theorem lc_words {still : MH → Bool} {tg : List MV → MS → MH → Option MS} {t : MS → MH → Rs Bool} {e : MS → MH → Rs MV} {D : Nat} {s : MS} (p : Str → Bool) (m0 : MH) (hD : m0.length ≤ D) (hstill : ∀ m, Gro m0 m → still m = true)
    (hs : ∀ (w : Str) (m : MH), ∃ s1, tg [.str w] s m = some s1 ∧ t s1 m = .ok (p w) m ∧ e s1 m = .ok (.str w) m) :
    ∀ (ws : List Str) (acc : List Str) (m : MH), Gro m0 m → m[D]? = some (.lst (acc.map .str)) → acc.length + ws.length ≤ sizeLine →
      ∃ m', lcL still tg t e D s (ws.map fun w => [.str w]) m = .ok (.ref D) m' ∧ Gro m0 m' ∧ m'[D]? = some (.lst ((acc ++ ws.filter p).map .str))
  | [], acc, m, hm, hd, _ => ⟨m, by rw [List.map_nil]; unfold lcL; rw [hstill m hm]; rfl, hm, by rw [List.filter_nil, List.append_nil]; exact hd⟩
  | w :: r, acc, m, hm, hd, hl => by
    rw [List.length_cons] at hl
    obtain ⟨s1, h1, h2, h3⟩ := hs w m
    have hDm : D < m.length := (List.getElem?_eq_some_iff.mp hd).1
    cases hp : p w with
    | true =>
      obtain ⟨m', k1, k2, k3⟩ := lc_words p m0 hD hstill hs r (acc ++ [w]) (m.set D (.lst ((acc ++ [w]).map .str))) (hm.set hD _) (by rw [List.getElem?_set_self hDm]) (by rw [List.length_append, List.length_singleton]; omega)
      refine ⟨m', ?_, k2, by rw [k3, List.filter_cons, hp, List.append_assoc]; rfl⟩
      rw [List.map_cons]
      unfold lcL
      rw [hstill m hm]
      rw [hp] at h2
      simp only [if_true, h1, h2, h3, hd, List.length_map]
      rw [if_pos (by omega)]
      rw [List.map_append] at k1
      exact k1
    | false =>
      obtain ⟨m', k1, k2, k3⟩ := lc_words p m0 hD hstill hs r acc m hm hd (by omega)
      refine ⟨m', ?_, k2, by rw [k3, List.filter_cons, hp]; rfl⟩
      rw [List.map_cons]
      unfold lcL
      rw [hstill m hm]
      rw [hp] at h2
      simp only [if_true, h1, h2]
      exact k1
def TupAt (D : Nat) (m : MH) (ws : List Str) (x : MV) : Prop := ∃ q, x = .ref q ∧ q ≠ D ∧ m[q]? = some (.tup (ws.map .str))
theorem TupAt.mono {D : Nat} {m m' : MH} {ws : List Str} {x : MV} (h : TupAt D m ws x) (g : GroX D m m') : TupAt D m' ws x := by
  obtain ⟨q, h1, h2, h3⟩ := h
  exact ⟨q, h1, h2, g q _ h2 h3⟩
theorem loop7 (k : Nat) (v : MV) (D : Nat) (x2 x4 : Option MV) (t : Str) (m0 m : MH) (refs : List MV) (hD : m0.length ≤ D) (g0 : Gro m0 m) (hd : m[D]? = some (.lst refs)) (hl : refs.length ≤ 200) (ht : t.length ≤ 200) (hg : words t ≠ [] → RowW (words t)) :
    ∃ (y4 : Option MV) (m' : MH) (refs' : List MV), dS gg (callD gg (k+6)) (fmOf gg (k+6)) LOOP7 [some v, some (.ref D), x2, some (.str t), x4, none] m = .nx [some v, some (.ref D), x2, some (.str t), y4, none] m' ∧ Gro m0 m' ∧ GroX D m m' ∧ m'[D]? = some (.lst (refs ++ refs')) ∧ refs'.length ≤ 1 ∧ All2 (TupAt D m') (if words t = [] then [] else [words t]) refs' := by
  have hsz : (sp.length == 0) = false ∧ t.length + 2 ≤ sizeLine := ⟨by decide +kernel, by rw [sizeLine_eq]; omega⟩
  have e1 := bm_sp (g := gg) (m := m) hsz
  have hsplit : (Txt.split t sp).length ≤ 1000 := by have := split_le t sp; omega
  generalize hm1 : m ++ [MO.lst ((Txt.split t sp).map .str)] = m1 at e1
  have g1 : Gro m m1 := by rw [← hm1]; exact .app _ _
  have w1 : m1[m.length]? = some (.lst ((Txt.split t sp).map .str)) := by rw [← hm1]; exact last_app _ _
  have hDm : D < m.length := (List.getElem?_eq_some_iff.mp hd).1
  have l1 : m1.length = m.length + 1 := by rw [← hm1]; simp
  have eW : dW gg (callD gg (k+6)) (fmOf gg (k+6)) (.wl (.bm (.var 3) .split1 (.cons (.con (.str " ")) .nil))) [some v, some (.ref D), x2, some (.str t), x4, none] m = .ok (.lst (.ref m.length) ((Txt.split t sp).map .str)) m1 :=
    dW_sl (ev_bm (ev_var rfl) rfl (ev_a1 ev_con ev_a0) e1) (by simp only [gl, w1])
  obtain ⟨m2, k1, k2, k3⟩ := lc_words (still := fun m' => (Wk.lst (.ref m.length) ((Txt.split t sp).map .str)).still gg m') (tg := fun x s m => bindT gg [5] false x s m) (t := dT gg (callD gg (k+6)) (fmOf gg (k+6)) (.cmp .NotEq (.var 5) (.con (.str "")))) (e := dE gg (callD gg (k+6)) (fmOf gg (k+6)) (.var 5)) (D := m1.length) (s := wipeM [some v, some (.ref D), x2, some (.str t), x4, none] [5]) (fun w => !decide (w = em)) m1 (Nat.le_refl _)
    (fun m' hm => by refine decide_eq_true ?_; simp only [gl, hm.at w1])
    (by
      intro w m'
      refine ⟨[some v, some (.ref D), x2, some (.str t), x4, some (.str w)], rfl, ?_, rfl⟩
      simp only [dT, dE, Rs.bind, List.getElem?_cons_zero, List.getElem?_cons_succ, co_nes]
      rfl)
    (Txt.split t sp) [] (m1 ++ [.lst []]) (.app _ _) (last_app _ _) (by rw [sizeLine_eq, List.length_nil]; omega)
  rw [List.nil_append] at k3
  have eC : dE gg (callD gg (k+6)) (fmOf gg (k+6)) (.lc (.var 5) [5] false (.wl (.bm (.var 3) .split1 (.cons (.con (.str " ")) .nil))) (.cmp .NotEq (.var 5) (.con (.str "")))) [some v, some (.ref D), x2, some (.str t), x4, none] m = .ok (.ref m1.length) m2 := by
    refine ev_lc eW ?_
    have : (Wk.lst (.ref m.length) ((Txt.split t sp).map .str)).items = (Txt.split t sp).map fun w => [.str w] := by simp only [Wk.items, List.map_map]; rfl
    rw [this]
    exact k1
  have hw : (Txt.split t sp).filter (fun w => !decide (w = em)) = words t := rfl
  rw [hw] at k3
  have sW : SL m2 (.ref m1.length) (words t) := ⟨_, rfl, k3⟩
  have e2 := sW.len (g := gg)
  have g12 : Gro m m2 := g1.trans k2
  unfold LOOP7
  generalize (IE.lc (.var 5) [5] false (.wl (.bm (.var 3) .split1 (.cons (.con (.str " ")) .nil))) (.cmp .NotEq (.var 5) (.con (.str "")))) = X at eC ⊢
  by_cases c0 : words t = []
  · refine ⟨some (.ref m1.length), m2, [], ?_, g0.trans g12, g12.x, by rw [List.append_nil]; exact g12.at hd, by simp, by rw [if_pos c0]; trivial⟩
    have d0 : decide ((0 : Int) < ((words t).length : Int)) = false := decide_eq_false (by rw [c0]; simp)
    clear g0 hd hl hsz hsplit hm1 g1 w1 eW k1 k2 k3 hw sW g12 c0 hg
    simp only [dS, dT, dE, dA, lift, Rs.bind, List.getElem?_cons_zero, List.getElem?_cons_succ, List.set_cons_zero, List.set_cons_succ, eC, e2, cop_gt, d0]
  · have d0 : decide ((0 : Int) < ((words t).length : Int)) = true := decide_eq_true (by have := List.length_pos_iff.mpr c0; omega)
    obtain ⟨m3, e3, g3⟩ := call6 k (.ref m1.length) (words t) m2 sW (hg c0)
    have sW3 := sW.ext g3
    have e4 := bl_tuple (g := gg) sW3.gl
    have hd3 : (m3 ++ [MO.tup ((words t).map .str)])[D]? = some (.lst refs) := (Gro.app _ _).at (g3.at (g12.at hd))
    have e5 := bm_ap (g := gg) (v := .ref m3.length) hd3 (by rw [sizeLine_eq]; omega)
    have hD4 : D < (m3 ++ [MO.tup ((words t).map .str)]).length := (List.getElem?_eq_some_iff.mp hd3).1
    have g4 : Gro m (m3 ++ [MO.tup ((words t).map .str)]) := (g12.trans g3).to_app
    have hDm3 : D < m3.length := (List.getElem?_eq_some_iff.mp (g3.at (g12.at hd))).1
    refine ⟨some (.ref m1.length), (m3 ++ [MO.tup ((words t).map .str)]).set D (.lst (refs ++ [.ref m3.length])), [.ref m3.length], ?_, (g0.trans g4).set hD _, g4.x.trans (GroX.set _ _ _), by rw [List.getElem?_set_self hD4], by simp, ?_⟩
    · have e6 : bmTy .append m3 (.ref D) = true := by simp only [bmTy, g3.at (g12.at hd)]
      clear g0 hd hl hsz hsplit hm1 g1 w1 eW k1 k2 k3 hw sW g12 c0 hg g3 sW3 hd3 hD4 g4
      simp only [dS, dT, dE, dA, lift, Rs.bind, List.getElem?_cons_zero, List.getElem?_cons_succ, List.set_cons_zero, List.set_cons_succ, eC, e2, cop_gt, d0, e3, truth_b, Bool.not_true, e4, e5, e6]
    · rw [if_neg c0]
      refine ⟨⟨_, rfl, by omega, ?_⟩, trivial⟩
      rw [List.getElem?_set_ne (by omega)]
      exact last_app _ _
end K
end Mi

set_option Elab.async false
set_option maxRecDepth 100000
set_option maxHeartbeats 4000000
set_option linter.all false
namespace Mi
open PySem PySem.Spec PyProof.Rows L2
theorem allSome_dat (g : G) (m : MH) (n : Nat) : ∀ ws : List Str, allSome (dat g m (n + 1)) (ws.map .str) = some (ws.map .str)
  | [] => rfl
  | x :: r => by
    have h := allSome_dat g m n r
    have e : dat g m (n + 1) (.str x) = some (.str x) := rfl
    simp only [List.map_cons, allSome, e, h]
theorem SL.dat {g : G} {m : MH} {v : MV} {ws : List Str} (h : SL m v ws) (n : Nat) : Mi.dat g m (n + 2) v = some (.list (ws.map .str)) := by
  obtain ⟨r, rfl, hr⟩ := h
  have : Mi.gl m (.ref r) = some (ws.map MV.str) := by simp only [Mi.gl, hr]
  have hd : Mi.dat g m (n + 2) (.ref r) = (match Mi.gl m (MV.ref r) with
      | some xs => (allSome (Mi.dat g m (n + 1)) xs).map PyData.list
      | none => match gt g m (MV.ref r) with
        | some xs => (allSome (Mi.dat g m (n + 1)) xs).map PyData.tuple
        | none => none) := rfl
  rw [hd, this]
  simp only [allSome_dat, Option.map_some]
theorem lay_strs : ∀ {ws : List Str}, (∀ w ∈ ws, w.cps.all (· < 0x110000) = true) → PyData.canLayAll0 (ws.map PyData.str) = true
  | [], _ => by simp [PyData.canLayAll0]
  | x :: r, h => by
    rw [List.map_cons, PyData.canLayAll0, Bool.and_eq_true]
    exact ⟨h x (by simp), lay_strs fun w hw => h w (List.mem_cons_of_mem _ hw)⟩
theorem depth_strs : ∀ ws : List Str, PyData.depthAll (ws.map PyData.str) = 0
  | [] => by simp [PyData.depthAll]
  | n :: r => by
    have := depth_strs r
    simp only [List.map_cons, PyData.depthAll, PyData.depth, this]
    rfl
theorem eqM_strs {g : G} {m : MH} {x y : MV} {ws : List Str} (hx : SL m x ws) (hy : SL m y ws) (h : ∀ w ∈ ws, w.cps.all (· < 0x110000) = true) : eqM g m x y = some true := by
  have hl : PyData.canLay0 (.list (ws.map PyData.str)) = true := by simp only [PyData.canLay0]; exact lay_strs h
  have hs : SeqAt.shaped (.list (ws.map PyData.str)) = true := by
    show (PyData.canLay0 (.list (ws.map PyData.str)) && decide (PyData.depth (.list (ws.map PyData.str)) ≤ 64)) = true
    rw [hl]
    simp only [PyData.depth, depth_strs]
    rfl
  have dx := hx.dat (g := g) 6
  have dy := hy.dat (g := g) 6
  have he : PyData.eqv (.list (ws.map PyData.str)) (.list (ws.map PyData.str)) = true := SeqAt.eqv_refl _ hl
  have hf : flatM x = false := by obtain ⟨r, rfl, _⟩ := hx; rfl
  unfold eqM
  rw [hf, Bool.false_and, Bool.false_and, dx, dy]
  simp only [hs, he, Bool.and_true, if_true]
  rfl
namespace K
theorem call7 (k : Nat) (T : Str) (wss : List (List Str)) (m : MH) (hT : TextOf T wss) (hg : ∀ ws ∈ wss, RowW ws) :
    ∃ r refs m', callD gg (k+7) 7 [.str T] m = .ok (.ref r) m' ∧ m.length ≤ r ∧ Gro m m' ∧ m'[r]? = some (.lst refs) ∧ All2 (TupAt r m') wss refs := by
  obtain ⟨rs, hsp, hrl, hR⟩ := hT.split
  have hlen := hT.len
  rw [callF fn_7, if_pos (by rfl), body7]
  have es : startM f7.N.length [.str T] = [some (.str T), none, none, none, none, none] := rfl
  rw [es]
  clear es
  generalize hm1 : m ++ [MO.lst []] = m1
  have g1 : Gro m m1 := by rw [← hm1]; exact .app _ _
  have w1 : m1[m.length]? = some (.lst []) := by rw [← hm1]; exact last_app _ _
  have l1 : m1.length = m.length + 1 := by rw [← hm1]; simp
  have hsz : (nl.length == 0) = false ∧ T.length + 2 ≤ sizeLine := ⟨by decide +kernel, by rw [sizeLine_eq]; omega⟩
  have e1 := bm_sp (g := gg) (m := m1) hsz
  rw [hsp] at e1
  generalize hm2 : m1 ++ [MO.lst (rs.map .str)] = m2 at e1
  have g2 : Gro m1 m2 := by rw [← hm2]; exact .app _ _
  have w2 : m2[m1.length]? = some (.lst (rs.map .str)) := by rw [← hm2]; exact last_app _ _
  have eW : dW gg (callD gg (k+6)) (fmOf gg (k+6)) (.wen (.bm (.var 0) .split1 (.cons (.con (.str "\n")) .nil))) [some (.str T), some (.ref m.length), none, none, none, none] m1 = .ok (.enm (.ref m1.length) (rs.map .str)) m2 :=
    ew_en (ev_bm (ev_var (i := 0) rfl) rfl (ev_a1 ev_con ev_a0) e1) (by simp only [gl, w2])
  obtain ⟨s', m3, i1, i2⟩ := forL_inv (still := fun m' => (Wk.enm (.ref m1.length) (rs.map .str)).still gg m') (tg := fun x s m => bindT gg [2, 3] true x s m)
    (b := dS gg (callD gg (k+6)) (fmOf gg (k+6)) LOOP7)
    (fun l s m' => ∃ (x2 x3 x4 : Option MV) (refs : List MV) (i : Int) (done rest : List Str), s = [some (.str T), some (.ref m.length), x2, x3, x4, none] ∧ Gro m m' ∧ m'[m1.length]? = some (.lst (rs.map .str)) ∧ m'[m.length]? = some (.lst refs) ∧ rs = done ++ rest ∧ l = enmFrom i (rest.map .str) ∧ refs.length ≤ done.length ∧ All2 (TupAt m.length m') ((done.map words).filter (fun w => !decide (w = []))) refs)
    (by
      rintro l s m' ⟨x2, x3, x4, refs, i, done, rest, rfl, a1, a2, _⟩
      refine decide_eq_true ?_
      simp only [gl, a2])
    (by
      rintro x l s m' ⟨x2, x3, x4, refs, i, done, rest, rfl, a1, a2, a3, a4, a5, a6, a7⟩
      cases rest with
      | nil => exact absurd a5 (by simp [enmFrom])
      | cons t rest =>
        rw [List.map_cons] at a5
        have : enmFrom i (MV.str t :: rest.map .str) = [.int i, .str t] :: enmFrom (i + 1) (rest.map .str) := rfl
        rw [this, List.cons.injEq] at a5
        obtain ⟨rfl, rfl⟩ := a5
        have ht : t ∈ rs := by rw [a4]; simp
        have hdl : done.length ≤ 100 := by rw [a4, List.length_append] at hrl; omega
        obtain ⟨y4, m'', refs', b1, b2, b3, b4, b5, b6⟩ := loop7 k (.str T) m.length (some (.int i)) x4 t m m' refs (Nat.le_refl _) a1 a3 (by omega) (hR.len t ht) (fun hne => hg _ (by
          rw [← hR.ws]
          exact List.mem_filter.mpr ⟨List.mem_map_of_mem ht, by simp [hne]⟩))
        refine ⟨_, _, m'', rfl, b1, some (.int i), some (.str t), y4, refs ++ refs', i + 1, done ++ [t], rest, rfl, b2, b3 _ _ (by omega) a2, b4, by rw [a4, List.append_assoc]; rfl, rfl, by simp only [List.length_append, List.length_singleton]; omega, ?_⟩
        rw [List.map_append, List.filter_append]
        refine (a7.imp fun _ _ h => h.mono b3).app ?_
        by_cases c : words t = []
        · rw [if_pos c] at b6
          have : ([t].map words).filter (fun w => !decide (w = [])) = [] := by simp [c]
          rw [this]; exact b6
        · rw [if_neg c] at b6
          have : ([t].map words).filter (fun w => !decide (w = [])) = [words t] := by simp [c]
          rw [this]; exact b6)
      (enmFrom 0 (rs.map .str)) [some (.str T), some (.ref m.length), none, none, none, none] m2 ⟨none, none, none, [], 0, [], rs, rfl, g1.trans g2, w2, g2.at w1, rfl, rfl, by simp, trivial⟩
  obtain ⟨x2, x3, x4, refs, i, done, rest, rfl, a1, a2, a3, a4, a5, a6, a7⟩ := i2
  have hrest : rest = [] := by
    cases rest with
    | nil => rfl
    | cons t r => exact absurd a5 (by simp [enmFrom])
  rw [hrest, List.append_nil] at a4
  rw [← a4, hR.ws] at a7
  refine ⟨m.length, refs, m3, ?_, Nat.le_refl _, a1, a3, a7⟩
  have eF := es_for (g := gg) (fc := callD gg (k+6)) (fm := fmOf gg (k+6)) (vs := [2, 3]) (tup := true) (B := LOOP7) eW i1
  generalize (IS.for [2, 3] true (.wen (.bm (.var 0) .split1 (.cons (.con (.str "\n")) .nil))) LOOP7) = X at eF ⊢
  have z0 := five (k := 0) (by omega)
  clear i1 eW a1 a2 a3 a4 a5 a6 a7 g1 g2 w1 w2 hg hR hrest hlen hrl hsp e1 hm2 hT
  simp only [dS, dE, dA, lift, Rs.bind, List.getElem?_cons_zero, List.getElem?_cons_succ, List.set_cons_zero, List.set_cons_succ, List.length_nil, if_pos z0, new, hm1, eF, Fl.back]
def LOOP16 : IS := .seq (.iff (.orr (.nt (.isi (.ix (.var 0) (.var 2)) .tuple)) (.one (.cmp .NotEq (.blt .list (.cons (.ix (.var 0) (.var 2)) .nil)) (.ix (.var 1) (.var 2))))) (.seq (.ret (.con (.bl false)))
    .nil) .nil)
    .nil
theorem body16 : f16.body = .seq (.iff (.orr (.nt (.isi (.var 0) .list)) (.one (.cmp .NotEq (.blt .len (.cons (.var 0) .nil)) (.blt .len (.cons (.var 1) .nil))))) (.seq (.ret (.con (.bl false)))
    .nil) .nil) (.seq (.for [2] false (.wr1 (.blt .len (.cons (.var 1) .nil))) LOOP16) (.seq (.ret (.con (.bl true))) .nil)) := rfl
theorem atI_nat {α : Type} {xs : List α} {j : Nat} {x : α} (h : xs[j]? = some x) : atI xs (j : Int) = some x := by
  have : j < xs.length := (List.getElem?_eq_some_iff.mp h).1
  unfold atI ixN
  rw [if_pos (by omega), if_pos (by omega), Option.bind_some, Int.toNat_natCast]
  exact h
theorem call16 (k : Nat) (r D : Nat) (refs : List MV) (v : MV) (wss : List (List Str)) (m : MH) (hr : m[r]? = some (.lst refs)) (hF : All2 (TupAt D m) wss refs) (hv : MatS m v wss) (hc : ∀ ws ∈ wss, RowK ws) (h41 : wss.length ≤ 41) :
    ∃ m', callD gg (k+1) 16 [.ref r, v] m = .ok (.bl true) m' ∧ Gro m m' := by
  rw [callF fn_16, if_pos (by rfl), body16]
  have es : startM f16.N.length [.ref r, v] = [some (.ref r), some v, none] := rfl
  rw [es]
  clear es
  obtain ⟨q, qs, rfl, h2, h3⟩ := id hv
  have hlq := h3.len
  have hlr := hF.len
  have e1 : isiM gg .list m (.ref r) = some true := by simp only [isiM, hr]
  have e2 := bl_lenL (g := gg) (m := m) (x := .ref r) (xs := refs) (by simp only [gs, gl, hr]) (by intro z hz; cases hz)
  have e3 := bl_lenL (g := gg) (m := m) (x := .ref q) (xs := qs) (by simp only [gs, gl, h2]) (by intro z hz; cases hz)
  rw [← hlr] at e2
  rw [← hlq] at e3
  have eW : dW gg (callD gg k) (fmOf gg k) (.wr1 (.blt .len (.cons (.var 1) .nil))) [some (.ref r), some (.ref q), none] m = .ok (.rng 0 wss.length) m := by
    have := ew_r1 (g := gg) (fc := callD gg k) (fm := fmOf gg k) (ev_blt (s := [some (.ref r), some (.ref q), none]) (ev_a1 (ev_var (i := 1) rfl) ev_a0) e3) (by omega)
    rw [Int.toNat_natCast] at this
    exact this
  obtain ⟨s', m3, i1, i2⟩ := forL_inv (still := fun m' => (Wk.rng 0 wss.length).still gg m') (tg := fun x s m => bindT gg [2] false x s m)
    (b := dS gg (callD gg k) (fmOf gg k) LOOP16)
    (fun l s m' => ∃ (x2 : Option MV) (j : Nat), s = [some (.ref r), some (.ref q), x2] ∧ Gro m m' ∧ j + l.length = wss.length ∧ l = rngFrom j l.length)
    (by
      rintro l s m' _
      rfl)
    (by
      rintro x l s m' ⟨x2, j, rfl, a1, a3, a4⟩
      rw [List.length_cons] at a3 a4
      have hx : x = [.int j] ∧ l = rngFrom ((j + 1 : Nat) : Int) l.length := by
        have : rngFrom (j : Int) (l.length + 1) = [.int j] :: rngFrom ((j : Int) + 1) l.length := rfl
        rw [this, List.cons.injEq] at a4
        exact ⟨a4.1, a4.2⟩
      obtain ⟨rfl, hl⟩ := hx
      have hj : j < wss.length := by omega
      have hw := List.getElem?_eq_getElem hj
      obtain ⟨_, hy1, y, rfl, _, hy⟩ := hF.get j _ hw
      obtain ⟨cv, hc1, sC⟩ := h3.get j _ hw
      have f1 : ixM gg (.ref r) (.int (j : Int)) m' = .ok (.ref y) m' := ix_l (by simp only [gs, gl, a1.at hr]) (by intro z hz; cases hz) (atI_nat hy1)
      have f2 : isiM gg .tuple m' (.ref y) = some true := by simp only [isiM, a1.at hy]
      have f3 : bltM gg .list [.ref y] m' = .ok (.ref m'.length) (m' ++ [.lst ((wss[j]).map .str)]) := bl_list (by simp only [gs, gl, gt, a1.at hy])
      have gA := Gro.app m' [.lst ((wss[j]).map .str)]
      have f4 : ixM gg (.ref q) (.int (j : Int)) (m' ++ [.lst ((wss[j]).map .str)]) = .ok cv (m' ++ [.lst ((wss[j]).map .str)]) := ix_l (by simp only [gs, gl, gA.at (a1.at h2)]) (by intro z hz; cases hz) (atI_nat hc1)
      have f5 := eqM_strs (g := gg) (SL.new m' wss[j]) (sC.ext (a1.trans gA)) (fun w hw => ((hc _ (List.getElem_mem hj)).clean w hw).cp)
      have f6 : cop gg .NotEq (.ref m'.length) cv (m' ++ [.lst ((wss[j]).map .str)]) = .ok (.bl false) (m' ++ [.lst ((wss[j]).map .str)]) := by
        simp only [cop, f5]; rfl
      refine ⟨[some (.ref r), some (.ref q), some (.int j)], [some (.ref r), some (.ref q), some (.int j)], m' ++ [.lst ((wss[j]).map .str)], rfl, ?_, _, j + 1, rfl, a1.to_app, by omega, hl⟩
      unfold LOOP16
      clear a1 a3 a4 hl hw hy1 hy hc1 sC f5 gA
      simp only [dS, dT, dE, dA, lift, Rs.bind, List.getElem?_cons_zero, List.getElem?_cons_succ, f1, f2, f3, f4, f6, Bool.not_true])
      (rngFrom 0 wss.length) [some (.ref r), some (.ref q), none] m ⟨none, 0, rfl, .refl _, by rw [rngF_len]; omega, by rw [rngF_len]; rfl⟩
  obtain ⟨x2, j, rfl, a1, _⟩ := i2
  refine ⟨m3, ?_, a1⟩
  have eF := es_for (g := gg) (fc := callD gg k) (fm := fmOf gg k) (vs := [2]) (tup := false) (B := LOOP16) eW i1
  generalize (IS.for [2] false (.wr1 (.blt .len (.cons (.var 1) .nil))) LOOP16) = X at eF ⊢
  have e4 : decide ((wss.length : Int) = wss.length) = true := decide_eq_true rfl
  clear i1 eW a1 hr hF hv hc h41 h2 h3 hlq hlr
  simp only [dS, dT, dE, dA, lift, Rs.bind, List.getElem?_cons_zero, List.getElem?_cons_succ, e1, e2, e3, co_nei, decide_true, eF, Bool.not_true, Fl.back]
theorem body17 : f17.body = .seq (.asg 1 (.call 14 (.cons (.var 0) .nil)))
    (.seq (.asg 2 (.call 15 (.cons (.var 1) (.cons (.call 8 (.cons (.var 0) (.cons (.con (.int 1)) .nil))) .nil))))
    (.seq (.asg 3 (.call 7 (.cons (.var 2) .nil)))
    (.seq (.iff (.nt (.call 16 (.cons (.var 3) (.cons (.var 1) .nil)))) (.seq (.ret (.con (.bl false)))
    .nil) .nil)
    (.seq (.ex (.bm (.var 3) .append (.cons (.tup (.cons (.con (.str "back")) .nil)) .nil)))
    (.seq (.seti (.var 3) (.con (.int 0)) (.tup (.cons (.con (.str "back")) .nil)))
    (.seq (.iff (.orr (.nt (.call 16 (.cons (.call 7 (.cons (.var 2) .nil)) (.cons (.var 1) .nil)))) (.one (.nt (.call 16 (.cons (.call 7 (.cons (.bin .Add (.bin .Add (.con (.str "\n\n")) (.var 2)) (.con (.str "\n  "))) .nil)) (.cons (.var 1) .nil)))))) (.seq (.ret (.con (.bl false)))
    .nil) .nil)
    (.seq (.ret (.an (.cmp .Eq (.call 7 (.cons (.con (.str "")) .nil)) (.lst .nil)) (.one (.cmp .Eq (.call 7 (.cons (.con (.str "  \n \n")) .nil)) (.lst .nil)))))
    .nil))))))) := rfl
theorem eq_nil (m : MH) (r : Nat) (h : m[r]? = some (.lst [])) : cop gg .Eq (.ref r) (.ref m.length) (m ++ [.lst []]) = .ok (.bl true) (m ++ [.lst []]) := by
  have h1 : SL (m ++ [.lst []]) (.ref r) [] := ⟨r, rfl, (Gro.app _ _).at h⟩
  have h2 : SL (m ++ [.lst []]) (.ref m.length) [] := SL.new m []
  have := eqM_strs (g := gg) h1 h2 (by simp)
  simp only [cop, this]; rfl
theorem law_ok : LawOk gg 10 17 := by
  intro ns hn _
  generalize hm0 : ([MO.fz (ns.map .int)] : MH) = m0
  have hv : gl m0 (.ref 0) = some (ns.map .int) := by rw [← hm0]; rfl
  obtain ⟨v, wss, m1, e1, p1, g1, hK, h1, h41⟩ := call14 4 (.ref 0) ns m0 hv (by intro z hz; cases hz) hn
  obtain ⟨z, e2, _⟩ := call8 8 (.ref 0) 1 m1 ns (g1.gl hv) (by intro z hz; cases hz) (by omega)
  obtain ⟨rs, m2, e3, g2, r1, r2, r3⟩ := call15 7 v wss z m1 p1 hK h1 h41
  have hW : ∀ ws ∈ wss, RowW ws := fun ws h => (hK ws h).row
  have hT : TextOf (Txt.join nl rs) wss := ⟨rs, rfl, r1, by omega, r3⟩
  obtain ⟨r, refs, m3, e4, q1, g3, q2, q3⟩ := call7 2 _ wss m2 hT hW
  have p2 := p1.ext g2
  have p3 := p2.ext g3
  obtain ⟨m4, e5, g4⟩ := call16 8 r r refs v wss m3 q2 q3 p3 hK h41
  -- the list read is changed by the law
  have z1 := five (k := 1) (by omega)
  have g5 : Gro m2 (m4 ++ [MO.tup [.str "back"]]) := (g3.trans g4).to_app
  have w5 : (m4 ++ [MO.tup [.str "back"]])[r]? = some (.lst refs) := (Gro.app _ _).at (g4.at q2)
  have l5 : r < (m4 ++ [MO.tup [.str "back"]]).length := (List.getElem?_eq_some_iff.mp w5).1
  have e6 := bm_ap (g := gg) (v := .ref m4.length) w5 (by rw [← q3.len, sizeLine_eq]; omega)
  have e6' : bmTy .append m4 (.ref r) = true := by simp only [bmTy, g4.at q2]
  generalize hm6 : (m4 ++ [MO.tup [.str "back"]]).set r (MO.lst (refs ++ [MV.ref m4.length])) = m6 at e6
  have g6 : Gro m2 m6 := by rw [← hm6]; exact g5.set q1 _
  have w6 : m6[r]? = some (MO.lst (refs ++ [MV.ref m4.length])) := by rw [← hm6, List.getElem?_set_self l5]
  have w7 : (m6 ++ [MO.tup [.str "back"]])[r]? = some (MO.lst (refs ++ [MV.ref m4.length])) := (Gro.app _ _).at w6
  have e7 : setM (.ref r) (.int 0) (.ref m6.length) (m6 ++ [MO.tup [.str "back"]]) = some ((m6 ++ [MO.tup [.str "back"]]).set r (MO.lst ((refs ++ [MV.ref m4.length]).set 0 (MV.ref m6.length)))) := by
    have : ixN (refs ++ [MV.ref m4.length]).length 0 = some 0 := by
      unfold ixN
      rw [if_pos (by decide), if_pos (by simp only [List.length_append, List.length_singleton]; omega)]; rfl
    simp only [setM, w7, this]
  generalize hm8 : (m6 ++ [MO.tup [.str "back"]]).set r (MO.lst ((refs ++ [MV.ref m4.length]).set 0 (MV.ref m6.length))) = m8 at e7
  have g8 : Gro m2 m8 := by rw [← hm8]; exact (g6.to_app).set q1 _
  obtain ⟨r9, refs9, m9, e9, q91, g9, q92, q93⟩ := call7 2 _ wss m8 hT hW
  have p9 := (p2.ext g8).ext g9
  obtain ⟨m10, e10, g10⟩ := call16 8 r9 r9 refs9 v wss m9 q92 q93 p9 hK h41
  have hT2 := TextOf.more r1 r2 r3
  have hl2 := hT2.len
  rw [Str.length_append] at hl2
  have a1 := bo_adds (m := m10) (p := Str.ofString "\n\n") (q := Txt.join nl rs) (by rw [Str.length_append] at hl2; rw [sizeLine_eq]; omega)
  have a2 := bo_adds (m := m10) (p := Str.ofString "\n\n" ++ Txt.join nl rs) (q := Str.ofString "\n  ") (by rw [sizeLine_eq]; omega)
  obtain ⟨r11, refs11, m11, e11, q111, g11, q112, q113⟩ := call7 2 _ wss m10 hT2 hW
  have p11 := (p9.ext g10).ext g11
  obtain ⟨m12, e12, g12⟩ := call16 8 r11 r11 refs11 v wss m11 q112 q113 p11 hK h41
  obtain ⟨r13, refs13, m13, e13, _, g13, q132, q133⟩ := call7 2 _ [] m12 text_em (by simp)
  have n13 : refs13 = [] := List.length_eq_zero_iff.mp q133.len.symm
  rw [n13] at q132
  have z0 := five (k := 0) (by omega)
  have e14 := eq_nil m13 r13 q132
  obtain ⟨r15, refs15, m15, e15, _, g15, q152, q153⟩ := call7 2 _ [] (m13 ++ [.lst []]) text_sp (by simp)
  have n15 : refs15 = [] := List.length_eq_zero_iff.mp q153.len.symm
  rw [n15] at q152
  have e16 := eq_nil m15 r15 q152
  refine ⟨m15 ++ [.lst []], ?_⟩
  rw [callF fn_17, if_pos (by rfl), body17]
  have es : startM f17.N.length [.ref 0] = [some (.ref 0), none, none, none] := rfl
  rw [es]
  have hem : Str.ofString "" = em := rfl
  rw [hem]
  clear es g1 g2 g3 g4 g5 g6 g8 g9 g10 g11 g12 g13 g15 p1 p2 p3 p9 p11 q1 q2 q3 q91 q92 q93 q111 q112 q113 q132 q133 q152 q153 hT hT2 hl2 hW hK h1 h41 w5 l5 w6 w7 r1 r2 r3 hv hn
  simp only [dS, dT, dE, dA, lift, Rs.bind, List.getElem?_cons_zero, List.getElem?_cons_succ, List.set_cons_zero, List.set_cons_succ, List.length_cons, List.length_nil, Nat.reduceAdd, if_pos z0, if_pos z1, new, truth_b, Bool.not_true, e1, e2, e3, e4, e5, e6', hm6, e6, hm8, e7, e9, e10, a1, a2, e11, e12, e13, e14, e15, e16, Fl.back]
end K
end Mi

set_option Elab.async false
set_option maxRecDepth 100000
set_option maxHeartbeats 4000000
namespace Mi
open PySem PySem.Spec PyProof.Rows L2
namespace K
def kvsOf (i : Nat) : List (Str × MV) := match gcst[i]? with | some (.dS kvs) => kvs | _ => []
theorem all_mk {l : PySem.W.OpenLaw} {w : World} {K : PySem.W.Frag} {h : Heap} {mg : Str → Option Value} {fa : Addr} {a0 a1 a2 a3 a4 a5 a6 a7 a8 a9 a10 a11 a12 a13 a14 a15 a16 a17 c0 : Addr} (X : K.In h) (G : h.Ns mainGlobals mg) (hfa : mg "law" = some (.ref fa))
    {od0 an0 od1 an1 od2 an2 od3 an3 od4 an4 od5 an5 od6 an6 od7 an7 od8 an8 od9 an9 od10 an10 od11 an11 od12 an12 od13 an13 od14 an14 od15 an15 od16 an16 od17 an17 : Option Addr} {sl0 sl1 sl2 sl3 sl4 sl5 sl6 sl7 sl8 sl9 sl10 sl11 sl12 sl13 sl14 sl15 sl16 sl17 : Array (Option Value)} {oc0 kV0 dc0 pm0 cd0 ct0 oc1 kV1 dc1 pm1 cd1 ct1 oc2 kV2 dc2 pm2 cd2 ct2 oc3 kV3 dc3 pm3 cd3 ct3 oc4 kV4 dc4 pm4 cd4 ct4 oc5 kV5 dc5 pm5 cd5 ct5 oc6 kV6 dc6 pm6 cd6 ct6 oc7 kV7 dc7 pm7 cd7 ct7 oc8 kV8 dc8 pm8 cd8 ct8 oc9 kV9 dc9 pm9 cd9 ct9 oc10 kV10 dc10 pm10 cd10 ct10 oc11 kV11 dc11 pm11 cd11 ct11 oc12 kV12 dc12 pm12 cd12 ct12 oc13 kV13 dc13 pm13 cd13 ct13 oc14 kV14 dc14 pm14 cd14 ct14 oc15 kV15 dc15 pm15 cd15 ct15 oc16 kV16 dc16 pm16 cd16 ct16 oc17 kV17 dc17 pm17 cd17 ct17 : Value}
    (n0 : PySem.W.nsIn K mainGlobals "number_of" = some (some (.ref a0))) (l0 : K.lookup a0 = some ⟨oc0, od0, .func (PySem.W.fnOf "number_of" "number_of" (defArgs s0) (defBody s0) (defScope s0) .none kV0 dc0 pm0 an0 cd0 ct0), sl0⟩) (q0 : PySem.W.codeIn K cd0 "number_of" = true) (k0 : PySem.W.keepIn K (.ref a0) = true)
    (n1 : PySem.W.nsIn K mainGlobals "number_below" = some (some (.ref a1))) (l1 : K.lookup a1 = some ⟨oc1, od1, .func (PySem.W.fnOf "number_below" "number_below" (defArgs s1) (defBody s1) (defScope s1) .none kV1 dc1 pm1 an1 cd1 ct1), sl1⟩) (q1 : PySem.W.codeIn K cd1 "number_below" = true) (k1 : PySem.W.keepIn K (.ref a1) = true)
    (n2 : PySem.W.nsIn K mainGlobals "address_good" = some (some (.ref a2))) (l2 : K.lookup a2 = some ⟨oc2, od2, .func (PySem.W.fnOf "address_good" "address_good" (defArgs s2) (defBody s2) (defScope s2) .none kV2 dc2 pm2 an2 cd2 ct2), sl2⟩) (q2 : PySem.W.codeIn K cd2 "address_good" = true) (k2 : PySem.W.keepIn K (.ref a2) = true)
    (n3 : PySem.W.nsIn K mainGlobals "argument_good" = some (some (.ref a3))) (l3 : K.lookup a3 = some ⟨oc3, od3, .func (PySem.W.fnOf "argument_good" "argument_good" (defArgs s3) (defBody s3) (defScope s3) .none kV3 dc3 pm3 an3 cd3 ct3), sl3⟩) (q3 : PySem.W.codeIn K cd3 "argument_good" = true) (k3 : PySem.W.keepIn K (.ref a3) = true)
    (n4 : PySem.W.nsIn K mainGlobals "call_parts" = some (some (.ref a4))) (l4 : K.lookup a4 = some ⟨oc4, od4, .func (PySem.W.fnOf "call_parts" "call_parts" (defArgs s4) (defBody s4) (defScope s4) .none kV4 dc4 pm4 an4 cd4 ct4), sl4⟩) (q4 : PySem.W.codeIn K cd4 "call_parts" = true) (k4 : PySem.W.keepIn K (.ref a4) = true)
    (n5 : PySem.W.nsIn K mainGlobals "call_good" = some (some (.ref a5))) (l5 : K.lookup a5 = some ⟨oc5, od5, .func (PySem.W.fnOf "call_good" "call_good" (defArgs s5) (defBody s5) (defScope s5) .none kV5 dc5 pm5 an5 cd5 ct5), sl5⟩) (q5 : PySem.W.codeIn K cd5 "call_good" = true) (k5 : PySem.W.keepIn K (.ref a5) = true)
    (n6 : PySem.W.nsIn K mainGlobals "step_good" = some (some (.ref a6))) (l6 : K.lookup a6 = some ⟨oc6, od6, .func (PySem.W.fnOf "step_good" "step_good" (defArgs s6) (defBody s6) (defScope s6) .none kV6 dc6 pm6 an6 cd6 ct6), sl6⟩) (q6 : PySem.W.codeIn K cd6 "step_good" = true) (k6 : PySem.W.keepIn K (.ref a6) = true)
    (n7 : PySem.W.nsIn K mainGlobals "read_program" = some (some (.ref a7))) (l7 : K.lookup a7 = some ⟨oc7, od7, .func (PySem.W.fnOf "read_program" "read_program" (defArgs s7) (defBody s7) (defScope s7) .none kV7 dc7 pm7 an7 cd7 ct7), sl7⟩) (q7 : PySem.W.codeIn K cd7 "read_program" = true) (k7 : PySem.W.keepIn K (.ref a7) = true)
    (n8 : PySem.W.nsIn K mainGlobals "_law_cell_at" = some (some (.ref a8))) (l8 : K.lookup a8 = some ⟨oc8, od8, .func (PySem.W.fnOf "_law_cell_at" "_law_cell_at" (defArgs s8) (defBody s8) (defScope s8) .none kV8 dc8 pm8 an8 cd8 ct8), sl8⟩) (q8 : PySem.W.codeIn K cd8 "_law_cell_at" = true) (k8 : PySem.W.keepIn K (.ref a8) = true)
    (n9 : PySem.W.nsIn K mainGlobals "_law_mix" = some (some (.ref a9))) (l9 : K.lookup a9 = some ⟨oc9, od9, .func (PySem.W.fnOf "_law_mix" "_law_mix" (defArgs s9) (defBody s9) (defScope s9) .none kV9 dc9 pm9 an9 cd9 ct9), sl9⟩) (q9 : PySem.W.codeIn K cd9 "_law_mix" = true) (k9 : PySem.W.keepIn K (.ref a9) = true)
    (n10 : PySem.W.nsIn K mainGlobals "_law_address" = some (some (.ref a10))) (l10 : K.lookup a10 = some ⟨oc10, od10, .func (PySem.W.fnOf "_law_address" "_law_address" (defArgs s10) (defBody s10) (defScope s10) .none kV10 dc10 pm10 an10 cd10 ct10), sl10⟩) (q10 : PySem.W.codeIn K cd10 "_law_address" = true) (k10 : PySem.W.keepIn K (.ref a10) = true)
    (n11 : PySem.W.nsIn K mainGlobals "_law_argument" = some (some (.ref a11))) (l11 : K.lookup a11 = some ⟨oc11, od11, .func (PySem.W.fnOf "_law_argument" "_law_argument" (defArgs s11) (defBody s11) (defScope s11) .none kV11 dc11 pm11 an11 cd11 ct11), sl11⟩) (q11 : PySem.W.codeIn K cd11 "_law_argument" = true) (k11 : PySem.W.keepIn K (.ref a11) = true)
    (n12 : PySem.W.nsIn K mainGlobals "_law_call_by" = some (some (.ref a12))) (l12 : K.lookup a12 = some ⟨oc12, od12, .func (PySem.W.fnOf "_law_call_by" "_law_call_by" (defArgs s12) (defBody s12) (defScope s12) .none kV12 dc12 pm12 an12 cd12 ct12), sl12⟩) (q12 : PySem.W.codeIn K cd12 "_law_call_by" = true) (k12 : PySem.W.keepIn K (.ref a12) = true)
    (n13 : PySem.W.nsIn K mainGlobals "_law_words_by" = some (some (.ref a13))) (l13 : K.lookup a13 = some ⟨oc13, od13, .func (PySem.W.fnOf "_law_words_by" "_law_words_by" (defArgs s13) (defBody s13) (defScope s13) .none kV13 dc13 pm13 an13 cd13 ct13), sl13⟩) (q13 : PySem.W.codeIn K cd13 "_law_words_by" = true) (k13 : PySem.W.keepIn K (.ref a13) = true)
    (n14 : PySem.W.nsIn K mainGlobals "_law_program_by" = some (some (.ref a14))) (l14 : K.lookup a14 = some ⟨oc14, od14, .func (PySem.W.fnOf "_law_program_by" "_law_program_by" (defArgs s14) (defBody s14) (defScope s14) .none kV14 dc14 pm14 an14 cd14 ct14), sl14⟩) (q14 : PySem.W.codeIn K cd14 "_law_program_by" = true) (k14 : PySem.W.keepIn K (.ref a14) = true)
    (n15 : PySem.W.nsIn K mainGlobals "_law_text_of" = some (some (.ref a15))) (l15 : K.lookup a15 = some ⟨oc15, od15, .func (PySem.W.fnOf "_law_text_of" "_law_text_of" (defArgs s15) (defBody s15) (defScope s15) .none kV15 dc15 pm15 an15 cd15 ct15), sl15⟩) (q15 : PySem.W.codeIn K cd15 "_law_text_of" = true) (k15 : PySem.W.keepIn K (.ref a15) = true)
    (n16 : PySem.W.nsIn K mainGlobals "_law_steps" = some (some (.ref a16))) (l16 : K.lookup a16 = some ⟨oc16, od16, .func (PySem.W.fnOf "_law_steps" "_law_steps" (defArgs s16) (defBody s16) (defScope s16) .none kV16 dc16 pm16 an16 cd16 ct16), sl16⟩) (q16 : PySem.W.codeIn K cd16 "_law_steps" = true) (k16 : PySem.W.keepIn K (.ref a16) = true)
    (n17 : PySem.W.nsIn K mainGlobals "law" = some (some (.ref a17))) (l17 : K.lookup a17 = some ⟨oc17, od17, .func (PySem.W.fnOf "law" "law" (defArgs s17) (defBody s17) (defScope s17) .none kV17 dc17 pm17 an17 cd17 ct17), sl17⟩) (q17 : PySem.W.codeIn K cd17 "law" = true) (k17 : PySem.W.keepIn K (.ref a17) = true)
    {tk0 : Tok} (gv0 : PySem.W.nsIn K mainGlobals "FIGURES" = some (some (.str "0123456789" tk0)))
    {tk1 : Tok} (gv1 : PySem.W.nsIn K mainGlobals "MOST_FIGURES" = some (some (.int 3 tk1)))
    {tk2 : Tok} (gv2 : PySem.W.nsIn K mainGlobals "ADDRESSES" = some (some (.int 512 tk2)))
    {tk3 : Tok} (gv3 : PySem.W.nsIn K mainGlobals "CELLS" = some (some (.int 256 tk3)))
    (gv4 : PySem.W.nsIn K mainGlobals "ARGUMENTS" = some (some (.ref c0)))
    {es0 : Array DictEntry} {en0 : Nat} (x0 : K.lookup c0 = some ⟨.type "dict", none, .dict es0 en0, #[]⟩) (y0 : PySem.W.KeysLit w.params es0.toList) (z0 : (c0 == sysModules) = false) (w0 : EsRel es0.toList (kvsOf 0))
    (b0 : PySem.W.nsIn K mainGlobals "len" = some none)
    (b1 : PySem.W.nsIn K mainGlobals "str" = some none)
    (b2 : PySem.W.nsIn K mainGlobals "int" = some none)
    (b3 : PySem.W.nsIn K mainGlobals "max" = some none)
    (b4 : PySem.W.nsIn K mainGlobals "min" = some none)
    (b5 : PySem.W.nsIn K mainGlobals "all" = some none)
    (b6 : PySem.W.nsIn K mainGlobals "any" = some none)
    (b7 : PySem.W.nsIn K mainGlobals "sum" = some none)
    (b8 : PySem.W.nsIn K mainGlobals "tuple" = some none)
    (b9 : PySem.W.nsIn K mainGlobals "list" = some none)
    (b10 : PySem.W.nsIn K mainGlobals "abs" = some none)
    (b11 : PySem.W.nsIn K mainGlobals "sorted" = some none)
    (b12 : PySem.W.nsIn K mainGlobals "dict" = some none)
    (b13 : PySem.W.nsIn K mainGlobals "isinstance" = some none)
    (b14 : PySem.W.nsIn K mainGlobals "range" = some none)
    (b15 : PySem.W.nsIn K mainGlobals "enumerate" = some none)
    (b16 : PySem.W.nsIn K mainGlobals "zip" = some none)
    (b17 : PySem.W.nsIn K mainGlobals "bool" = some none)
    : ∃ fd : FuncData, (∀ (s : Shared) (v : Value), BindsTo s fd ⟨[v], []⟩ [("_law_script", v)]) ∧ ∀ base : Heap, K.In base → base.Ns mainGlobals mg → FnOk l.prog w K mg base (L2.CX l.prog w) 10 fa fd ["_law_script"] (spLaw K) := by
  obtain rfl : a17 = fa := by
    have e := hfa.symm.trans (PySem.W.mg_of X G n17)
    cases e
    rfl
  have F0 := fun_mk (st := s0) l0 q0 k0
  have F1 := fun_mk (st := s1) l1 q1 k1
  have F2 := fun_mk (st := s2) l2 q2 k2
  have F3 := fun_mk (st := s3) l3 q3 k3
  have F4 := fun_mk (st := s4) l4 q4 k4
  have F5 := fun_mk (st := s5) l5 q5 k5
  have F6 := fun_mk (st := s6) l6 q6 k6
  have F7 := fun_mk (st := s7) l7 q7 k7
  have F8 := fun_mk (st := s8) l8 q8 k8
  have F9 := fun_mk (st := s9) l9 q9 k9
  have F10 := fun_mk (st := s10) l10 q10 k10
  have F11 := fun_mk (st := s11) l11 q11 k11
  have F12 := fun_mk (st := s12) l12 q12 k12
  have F13 := fun_mk (st := s13) l13 q13 k13
  have F14 := fun_mk (st := s14) l14 q14 k14
  have F15 := fun_mk (st := s15) l15 q15 k15
  have F16 := fun_mk (st := s16) l16 q16 k16
  have F17 := fun_mk (st := s17) l17 q17 k17
  have B0 := F0.binds (ps := ["word"]) fun _ _ _ _ _ _ us hl => match us, hl with | [_], _ => rfl
  have B1 := F1.binds (ps := ["word", "bound"]) fun _ _ _ _ _ _ us hl => match us, hl with | [_, _], _ => rfl
  have B2 := F2.binds (ps := ["word"]) fun _ _ _ _ _ _ us hl => match us, hl with | [_], _ => rfl
  have B3 := F3.binds (ps := ["word"]) fun _ _ _ _ _ _ us hl => match us, hl with | [_], _ => rfl
  have B4 := F4.binds (ps := ["words"]) fun _ _ _ _ _ _ us hl => match us, hl with | [_], _ => rfl
  have B5 := F5.binds (ps := ["words"]) fun _ _ _ _ _ _ us hl => match us, hl with | [_], _ => rfl
  have B6 := F6.binds (ps := ["words"]) fun _ _ _ _ _ _ us hl => match us, hl with | [_], _ => rfl
  have B7 := F7.binds (ps := ["text"]) fun _ _ _ _ _ _ us hl => match us, hl with | [_], _ => rfl
  have B8 := F8.binds (ps := ["_law_script", "_law_k"]) fun _ _ _ _ _ _ us hl => match us, hl with | [_, _], _ => rfl
  have B9 := F9.binds (ps := ["_law_cell", "_law_factor", "_law_prime"]) fun _ _ _ _ _ _ us hl => match us, hl with | [_, _, _], _ => rfl
  have B10 := F10.binds (ps := ["_law_number"]) fun _ _ _ _ _ _ us hl => match us, hl with | [_], _ => rfl
  have B11 := F11.binds (ps := ["_law_kind", "_law_number", "_law_many"]) fun _ _ _ _ _ _ us hl => match us, hl with | [_, _, _], _ => rfl
  have B12 := F12.binds (ps := ["_law_number", "_law_many"]) fun _ _ _ _ _ _ us hl => match us, hl with | [_, _], _ => rfl
  have B13 := F13.binds (ps := ["_law_number", "_law_many"]) fun _ _ _ _ _ _ us hl => match us, hl with | [_, _], _ => rfl
  have B14 := F14.binds (ps := ["_law_script"]) fun _ _ _ _ _ _ us hl => match us, hl with | [_], _ => rfl
  have B15 := F15.binds (ps := ["_law_program", "_law_seed"]) fun _ _ _ _ _ _ us hl => match us, hl with | [_, _], _ => rfl
  have B16 := F16.binds (ps := ["_law_found", "_law_program"]) fun _ _ _ _ _ _ us hl => match us, hl with | [_, _], _ => rfl
  have B17 := F17.binds (ps := ["_law_script"]) fun _ _ _ _ _ _ us hl => match us, hl with | [_], _ => rfl
  refine ⟨PySem.W.fnOf "law" "law" (defArgs s17) (defBody s17) (defScope s17) .none kV17 dc17 pm17 an17 cd17 ct17, fun s v => .of_eq rfl, fun base _ _ => ?_⟩
  let L : Link := { P := l.prog, w := w, K := K, mg := mg, base := base, fa := fun i => [a0, a1, a2, a3, a4, a5, a6, a7, a8, a9, a10, a11, a12, a13, a14, a15, a16, a17].getD i 0, fd := fun i => [PySem.W.fnOf "number_of" "number_of" (defArgs s0) (defBody s0) (defScope s0) .none kV0 dc0 pm0 an0 cd0 ct0, PySem.W.fnOf "number_below" "number_below" (defArgs s1) (defBody s1) (defScope s1) .none kV1 dc1 pm1 an1 cd1 ct1, PySem.W.fnOf "address_good" "address_good" (defArgs s2) (defBody s2) (defScope s2) .none kV2 dc2 pm2 an2 cd2 ct2, PySem.W.fnOf "argument_good" "argument_good" (defArgs s3) (defBody s3) (defScope s3) .none kV3 dc3 pm3 an3 cd3 ct3, PySem.W.fnOf "call_parts" "call_parts" (defArgs s4) (defBody s4) (defScope s4) .none kV4 dc4 pm4 an4 cd4 ct4, PySem.W.fnOf "call_good" "call_good" (defArgs s5) (defBody s5) (defScope s5) .none kV5 dc5 pm5 an5 cd5 ct5, PySem.W.fnOf "step_good" "step_good" (defArgs s6) (defBody s6) (defScope s6) .none kV6 dc6 pm6 an6 cd6 ct6, PySem.W.fnOf "read_program" "read_program" (defArgs s7) (defBody s7) (defScope s7) .none kV7 dc7 pm7 an7 cd7 ct7, PySem.W.fnOf "_law_cell_at" "_law_cell_at" (defArgs s8) (defBody s8) (defScope s8) .none kV8 dc8 pm8 an8 cd8 ct8, PySem.W.fnOf "_law_mix" "_law_mix" (defArgs s9) (defBody s9) (defScope s9) .none kV9 dc9 pm9 an9 cd9 ct9, PySem.W.fnOf "_law_address" "_law_address" (defArgs s10) (defBody s10) (defScope s10) .none kV10 dc10 pm10 an10 cd10 ct10, PySem.W.fnOf "_law_argument" "_law_argument" (defArgs s11) (defBody s11) (defScope s11) .none kV11 dc11 pm11 an11 cd11 ct11, PySem.W.fnOf "_law_call_by" "_law_call_by" (defArgs s12) (defBody s12) (defScope s12) .none kV12 dc12 pm12 an12 cd12 ct12, PySem.W.fnOf "_law_words_by" "_law_words_by" (defArgs s13) (defBody s13) (defScope s13) .none kV13 dc13 pm13 an13 cd13 ct13, PySem.W.fnOf "_law_program_by" "_law_program_by" (defArgs s14) (defBody s14) (defScope s14) .none kV14 dc14 pm14 an14 cd14 ct14, PySem.W.fnOf "_law_text_of" "_law_text_of" (defArgs s15) (defBody s15) (defScope s15) .none kV15 dc15 pm15 an15 cd15 ct15, PySem.W.fnOf "_law_steps" "_law_steps" (defArgs s16) (defBody s16) (defScope s16) .none kV16 dc16 pm16 an16 cd16 ct16, PySem.W.fnOf "law" "law" (defArgs s17) (defBody s17) (defScope s17) .none kV17 dc17 pm17 an17 cd17 ct17].getD i default, ca := fun _ => 0, ka := fun i => [c0].getD i 0, g := gg }
  have LO : LOk L ggl gfns := by
    refine lok_mk ?_ ?_ List.nodup_nil ?_ ?_ ?_
    · exact ⟨(fun xs z => nomatch z), trivial⟩
    · exact ⟨(fun kvs z => by cases z; exact ⟨_, _, ⟨x0, y0, z0⟩, ns_es (L := L) x0 w0⟩), trivial⟩
    · exact ⟨⟨_, .str "0123456789", PySem.W.mg_of X G gv0, ⟨_, rfl⟩, rfl⟩, ⟨_, .int 3, PySem.W.mg_of X G gv1, ⟨_, rfl⟩, rfl⟩, ⟨_, .int 512, PySem.W.mg_of X G gv2, ⟨_, rfl⟩, rfl⟩, ⟨_, .int 256, PySem.W.mg_of X G gv3, ⟨_, rfl⟩, rfl⟩, ⟨_, .ref c0, PySem.W.mg_of X G gv4, rfl, rfl⟩, trivial⟩
    · intro x hx
      simp only [List.mem_cons, List.not_mem_nil, or_false] at hx
      rcases hx with rfl | rfl | rfl | rfl | rfl | rfl | rfl | rfl | rfl | rfl | rfl | rfl | rfl | rfl | rfl | rfl | rfl | rfl
      · exact PySem.W.mg_none_of X G b0
      · exact PySem.W.mg_none_of X G b1
      · exact PySem.W.mg_none_of X G b2
      · exact PySem.W.mg_none_of X G b3
      · exact PySem.W.mg_none_of X G b4
      · exact PySem.W.mg_none_of X G b5
      · exact PySem.W.mg_none_of X G b6
      · exact PySem.W.mg_none_of X G b7
      · exact PySem.W.mg_none_of X G b8
      · exact PySem.W.mg_none_of X G b9
      · exact PySem.W.mg_none_of X G b10
      · exact PySem.W.mg_none_of X G b11
      · exact PySem.W.mg_none_of X G b12
      · exact PySem.W.mg_none_of X G b13
      · exact PySem.W.mg_none_of X G b14
      · exact PySem.W.mg_none_of X G b15
      · exact PySem.W.mg_none_of X G b16
      · exact PySem.W.mg_none_of X G b17
    · exact ⟨⟨PySem.W.mg_of X G n0, k0, f0, rfl, B0⟩, ⟨PySem.W.mg_of X G n1, k1, f1, rfl, B1⟩, ⟨PySem.W.mg_of X G n2, k2, f2, rfl, B2⟩, ⟨PySem.W.mg_of X G n3, k3, f3, rfl, B3⟩, ⟨PySem.W.mg_of X G n4, k4, f4, rfl, B4⟩, ⟨PySem.W.mg_of X G n5, k5, f5, rfl, B5⟩, ⟨PySem.W.mg_of X G n6, k6, f6, rfl, B6⟩, ⟨PySem.W.mg_of X G n7, k7, f7, rfl, B7⟩, ⟨PySem.W.mg_of X G n8, k8, f8, rfl, B8⟩, ⟨PySem.W.mg_of X G n9, k9, f9, rfl, B9⟩, ⟨PySem.W.mg_of X G n10, k10, f10, rfl, B10⟩, ⟨PySem.W.mg_of X G n11, k11, f11, rfl, B11⟩, ⟨PySem.W.mg_of X G n12, k12, f12, rfl, B12⟩, ⟨PySem.W.mg_of X G n13, k13, f13, rfl, B13⟩, ⟨PySem.W.mg_of X G n14, k14, f14, rfl, B14⟩, ⟨PySem.W.mg_of X G n15, k15, f15, rfl, B15⟩, ⟨PySem.W.mg_of X G n16, k16, f16, rfl, B16⟩, ⟨PySem.W.mg_of X G n17, k17, f17, rfl, B17⟩, trivial⟩
  have all : ∀ f F, L.g.fns[f]? = some F → FS L ggl gfns f F := all_fs ⟨⟨⟨_, s0, F0, sc0, chk0⟩⟩, ⟨⟨_, s1, F1, sc1, chk1⟩⟩, ⟨⟨_, s2, F2, sc2, chk2⟩⟩, ⟨⟨_, s3, F3, sc3, chk3⟩⟩, ⟨⟨_, s4, F4, sc4, chk4⟩⟩, ⟨⟨_, s5, F5, sc5, chk5⟩⟩, ⟨⟨_, s6, F6, sc6, chk6⟩⟩, ⟨⟨_, s7, F7, sc7, chk7⟩⟩, ⟨⟨_, s8, F8, sc8, chk8⟩⟩, ⟨⟨_, s9, F9, sc9, chk9⟩⟩, ⟨⟨_, s10, F10, sc10, chk10⟩⟩, ⟨⟨_, s11, F11, sc11, chk11⟩⟩, ⟨⟨_, s12, F12, sc12, chk12⟩⟩, ⟨⟨_, s13, F13, sc13, chk13⟩⟩, ⟨⟨_, s14, F14, sc14, chk14⟩⟩, ⟨⟨_, s15, F15, sc15, chk15⟩⟩, ⟨⟨_, s16, F16, sc16, chk16⟩⟩, ⟨⟨_, s17, F17, sc17, chk17⟩⟩, trivial⟩
  exact (fok LO all 10 10 17 f17 (Nat.le_refl _) rfl).imp (fun vs H Q E z => law_sp (L := L) (k := 10) (f := 17) law_ok vs H Q E z)
end K
end Mi
open PySem PySem.W PyProof.Rows
set_option maxRecDepth 100000 in
set_option maxHeartbeats 0 in
theorem PySem.Challenge.cw_ownroom_k75_programs_read_holds : PySem.Challenge.rw_ownroom_k75_programs_read.Holds := by
  w_on; o_law; k_head; (case hw => w_witness2)
  k_fill
  refine Mi.walkM (l := PySem.Challenge.rw_ownroom_k75_programs_read) (k := 10) (x := "_law_script") rfl rfl ⟨rfl, by decide, by decide⟩ (fun w h Y => PySem.W.kIn_of Y) ?F
  case F =>
    intro w mg fa h KX G hmg
    refine' Mi.K.all_mk KX G hmg ?n0 ?l0 ?q0 ?k0 ?n1 ?l1 ?q1 ?k1 ?n2 ?l2 ?q2 ?k2 ?n3 ?l3 ?q3 ?k3 ?n4 ?l4 ?q4 ?k4 ?n5 ?l5 ?q5 ?k5 ?n6 ?l6 ?q6 ?k6 ?n7 ?l7 ?q7 ?k7 ?n8 ?l8 ?q8 ?k8 ?n9 ?l9 ?q9 ?k9 ?n10 ?l10 ?q10 ?k10 ?n11 ?l11 ?q11 ?k11 ?n12 ?l12 ?q12 ?k12 ?n13 ?l13 ?q13 ?k13 ?n14 ?l14 ?q14 ?k14 ?n15 ?l15 ?q15 ?k15 ?n16 ?l16 ?q16 ?k16 ?n17 ?l17 ?q17 ?k17 ?gv0 ?gv1 ?gv2 ?gv3 ?gv4 ?x0 ?y0 ?z0 ?w0 ?b0 ?b1 ?b2 ?b3 ?b4 ?b5 ?b6 ?b7 ?b8 ?b9 ?b10 ?b11 ?b12 ?b13 ?b14 ?b15 ?b16 ?b17
    (case n0 => k_is)
    (case l0 => k_is)
    (case q0 => k_is)
    (case k0 => k_is)
    (case n1 => k_is)
    (case l1 => k_is)
    (case q1 => k_is)
    (case k1 => k_is)
    (case n2 => k_is)
    (case l2 => k_is)
    (case q2 => k_is)
    (case k2 => k_is)
    (case n3 => k_is)
    (case l3 => k_is)
    (case q3 => k_is)
    (case k3 => k_is)
    (case n4 => k_is)
    (case l4 => k_is)
    (case q4 => k_is)
    (case k4 => k_is)
    (case n5 => k_is)
    (case l5 => k_is)
    (case q5 => k_is)
    (case k5 => k_is)
    (case n6 => k_is)
    (case l6 => k_is)
    (case q6 => k_is)
    (case k6 => k_is)
    (case n7 => k_is)
    (case l7 => k_is)
    (case q7 => k_is)
    (case k7 => k_is)
    (case n8 => k_is)
    (case l8 => k_is)
    (case q8 => k_is)
    (case k8 => k_is)
    (case n9 => k_is)
    (case l9 => k_is)
    (case q9 => k_is)
    (case k9 => k_is)
    (case n10 => k_is)
    (case l10 => k_is)
    (case q10 => k_is)
    (case k10 => k_is)
    (case n11 => k_is)
    (case l11 => k_is)
    (case q11 => k_is)
    (case k11 => k_is)
    (case n12 => k_is)
    (case l12 => k_is)
    (case q12 => k_is)
    (case k12 => k_is)
    (case n13 => k_is)
    (case l13 => k_is)
    (case q13 => k_is)
    (case k13 => k_is)
    (case n14 => k_is)
    (case l14 => k_is)
    (case q14 => k_is)
    (case k14 => k_is)
    (case n15 => k_is)
    (case l15 => k_is)
    (case q15 => k_is)
    (case k15 => k_is)
    (case n16 => k_is)
    (case l16 => k_is)
    (case q16 => k_is)
    (case k16 => k_is)
    (case n17 => k_is)
    (case l17 => k_is)
    (case q17 => k_is)
    (case k17 => k_is)
    (case gv0 => k_is)
    (case gv1 => k_is)
    (case gv2 => k_is)
    (case gv3 => k_is)
    (case gv4 => k_is)
    (case x0 => k_is)
    (case y0 => exact ⟨⟨_, _, rfl, rfl⟩, ⟨_, _, rfl, rfl⟩, ⟨_, _, rfl, rfl⟩, ⟨_, _, rfl, rfl⟩, ⟨_, _, rfl, rfl⟩, ⟨_, _, rfl, rfl⟩, ⟨_, _, rfl, rfl⟩, ⟨_, _, rfl, rfl⟩, ⟨_, _, rfl, rfl⟩, ⟨_, _, rfl, rfl⟩, ⟨_, _, rfl, rfl⟩, ⟨_, _, rfl, rfl⟩, ⟨_, _, rfl, rfl⟩, ⟨_, _, rfl, rfl⟩, ⟨_, _, rfl, rfl⟩, ⟨_, _, rfl, rfl⟩, ⟨_, _, rfl, rfl⟩, ⟨_, _, rfl, rfl⟩, ⟨_, _, rfl, rfl⟩, ⟨_, _, rfl, rfl⟩, ⟨_, _, rfl, rfl⟩, ⟨_, _, rfl, rfl⟩, ⟨_, _, rfl, rfl⟩, ⟨_, _, rfl, rfl⟩, ⟨_, _, rfl, rfl⟩, ⟨_, _, rfl, rfl⟩, ⟨_, _, rfl, rfl⟩, ⟨_, _, rfl, rfl⟩, trivial⟩)
    (case z0 => first | k_is | decide)
    (case w0 => exact ⟨⟨⟨_, rfl⟩, ⟨_, rfl⟩⟩, ⟨⟨_, rfl⟩, ⟨_, rfl⟩⟩, ⟨⟨_, rfl⟩, ⟨_, rfl⟩⟩, ⟨⟨_, rfl⟩, ⟨_, rfl⟩⟩, ⟨⟨_, rfl⟩, ⟨_, rfl⟩⟩, ⟨⟨_, rfl⟩, ⟨_, rfl⟩⟩, ⟨⟨_, rfl⟩, ⟨_, rfl⟩⟩, ⟨⟨_, rfl⟩, ⟨_, rfl⟩⟩, ⟨⟨_, rfl⟩, ⟨_, rfl⟩⟩, ⟨⟨_, rfl⟩, ⟨_, rfl⟩⟩, ⟨⟨_, rfl⟩, ⟨_, rfl⟩⟩, ⟨⟨_, rfl⟩, ⟨_, rfl⟩⟩, ⟨⟨_, rfl⟩, ⟨_, rfl⟩⟩, ⟨⟨_, rfl⟩, ⟨_, rfl⟩⟩, ⟨⟨_, rfl⟩, ⟨_, rfl⟩⟩, ⟨⟨_, rfl⟩, ⟨_, rfl⟩⟩, ⟨⟨_, rfl⟩, ⟨_, rfl⟩⟩, ⟨⟨_, rfl⟩, ⟨_, rfl⟩⟩, ⟨⟨_, rfl⟩, ⟨_, rfl⟩⟩, ⟨⟨_, rfl⟩, ⟨_, rfl⟩⟩, ⟨⟨_, rfl⟩, ⟨_, rfl⟩⟩, ⟨⟨_, rfl⟩, ⟨_, rfl⟩⟩, ⟨⟨_, rfl⟩, ⟨_, rfl⟩⟩, ⟨⟨_, rfl⟩, ⟨_, rfl⟩⟩, ⟨⟨_, rfl⟩, ⟨_, rfl⟩⟩, ⟨⟨_, rfl⟩, ⟨_, rfl⟩⟩, ⟨⟨_, rfl⟩, ⟨_, rfl⟩⟩, ⟨⟨_, rfl⟩, ⟨_, rfl⟩⟩, trivial⟩)
    (case b0 => k_is)
    (case b1 => k_is)
    (case b2 => k_is)
    (case b3 => k_is)
    (case b4 => k_is)
    (case b5 => k_is)
    (case b6 => k_is)
    (case b7 => k_is)
    (case b8 => k_is)
    (case b9 => k_is)
    (case b10 => k_is)
    (case b11 => k_is)
    (case b12 => k_is)
    (case b13 => k_is)
    (case b14 => k_is)
    (case b15 => k_is)
    (case b16 => k_is)
    (case b17 => k_is)
#print axioms PySem.Challenge.cw_ownroom_k75_programs_read_holds

